import PyProof.Rows.All
import Wide.All
import OpenK.AllK
import Wide.FinOn
import HandS.ForMost
import HandS.Exc
import HandS.TryOnly
import HandS.ExcOwn
import HandS.WordsExc
import HandS.Conv
import HandS.Flow
import HandS.Wide
import HandS.TupAny
import HandS.SortInts
import HandS.Deep
import HandS.Zip
import HandS.Style
import PyProof.ReprRoads
import KE.SortData
import HandS.TupMul
import HandS.TupLen
import HandS.RaiseMore
import KE.KSortedM
import HandS.More
import HandS.SortOrd
import PyProof.Draws
import PyProof.EnumMake
import HandS.Zip0
import HandS.Star
import HandS.Small
import PySem.Challenge.RW_drawndeeds_k55_whole_ends
set_option Elab.async false
set_option linter.all false
set_option maxRecDepth 100000
set_option maxHeartbeats 4000000
/-! Pd: Python as plain data. Part 1: data, the small language, what it does. -/
namespace Pd
open PySem

/-- data that never changes again -/
inductive Dt where
  | non | bl (b : Bool) | int (i : Int) | str (x : Str)
  | tup (xs : List Dt) | lst (xs : List Dt) | dic (kvs : List (Dt × Dt))
  /-- the script -/
  | scr (is : List Int)
  deriving Inhabited
/-- an object that one name alone holds, one level -/
inductive Ow1 where
  | imm (d : Dt) | lst (xs : List Dt) | dic (kvs : List (Dt × Dt))
  deriving Inhabited
/-- what a slot holds -/
inductive Ow where
  | p (o : Ow1) | lk (d : Dt) | rc (fs : List (Str × Ow1))
  deriving Inhabited
abbrev im (d : Dt) : Ow := .p (.imm d)
abbrev En := List (Option Ow)
inductive Rs (α : Type) where
  | ok (a : α) (e : En) | exc (x : Dt) (e : En) | no

mutual
def Dt.py : Dt → Option PyData
  | .non => some .none
  | .bl b => some (.bool b)
  | .int i => some (.int i)
  | .str x => some (.str x)
  | .tup xs => match pyL xs with | some ys => some (.tuple ys) | none => none
  | .lst xs => match pyL xs with | some ys => some (.list ys) | none => none
  | .dic _ => none
  | .scr _ => none
def pyL : List Dt → Option (List PyData)
  | [] => some []
  | x :: xs => match Dt.py x with
    | some y => match pyL xs with | some ys => some (y :: ys) | none => none
    | none => none
end

/-- is it a list or a dict -/
def Dt.box : Dt → Bool
  | .lst _ => true
  | .dic _ => true
  | _ => false
def Ow1.dt : Ow1 → Dt
  | .imm d => d
  | .lst xs => .lst xs
  | .dic kvs => .dic kvs
def Ow1.isImm : Ow1 → Bool
  | .imm _ => true
  | _ => false
/-- what is seen of it now -/
def Ow.vw : Ow → Option Dt
  | .p o => some o.dt
  | .lk d => some d
  | .rc _ => none
/-- what it is when it is shared from now on -/
def Ow.frz : Ow → Option Dt
  | .p o => some o.dt
  | _ => none

/-- a parameter: its object is lent and handed back; it is shared from now on -/
inductive Md where
  | mu | sh
  deriving DecidableEq

/-! ### what is reckoned at once -/
inductive Pr where
  | add | sub | mul | fdiv | mod | pow | neg
  | eq | ne | lt | le | gt | ge | isN | notN | isB (b : Bool) | isIn | notIn
  | len | ix | cut (lo hi : Bool) | rev | abs | max2 | min2 | int | str | repr | tuple | list | lrng
  | sorted | sum | maxL | minL | any | all
  deriving DecidableEq

def toInts : List Dt → Option (List Int)
  | [] => some []
  | .int i :: xs => match toInts xs with | some is => some (i :: is) | none => none
  | _ :: _ => none
def toBls : List Dt → Option (List Bool)
  | [] => some []
  | .bl i :: xs => match toBls xs with | some is => some (i :: is) | none => none
  | _ :: _ => none
/-- a place in a sequence, also from its end -/
def atD (xs : List Dt) (i : Int) : Option Dt :=
  if 0 ≤ i then xs[i.toNat]? else if -(xs.length : Int) ≤ i then xs[(i + xs.length).toNat]? else none
def cutN (n d : Nat) (v : Int) : Nat := if v < 0 then (v + (n : Int)).toNat else min v.toNat n
def cutD (xs : List Dt) (lo hi : Option Int) : List Dt :=
  let a := match lo with | none => 0 | some v => cutN xs.length 0 v
  let b := match hi with | none => xs.length | some v => cutN xs.length 0 v
  (xs.drop a).take (b - a)
def insI (x : Int) : List Int → List Int
  | [] => [x]
  | y :: ys => if x ≤ y then x :: y :: ys else y :: insI x ys
def sortI : List Int → List Int
  | [] => []
  | x :: xs => insI x (sortI xs)
def lexLt : List Int → List Int → Bool
  | [], [] => false
  | [], _ :: _ => true
  | _ :: _, [] => false
  | x :: xs, y :: ys => if x = y then lexLt xs ys else decide (x < y)
def keyOk : Dt → Bool
  | .int _ => true
  | .str _ => true
  | _ => false
/-- two keys (toInts, texts, tuples of them) are the same -/
def Dt.key : Dt → Option (Sum (Sum Int Str) (List (Sum Int Str)))
  | .int i => some (.inl (.inl i))
  | .str x => some (.inl (.inr x))
  | .tup xs => (go xs).map .inr
  | _ => none
where go : List Dt → Option (List (Sum Int Str))
  | [] => some []
  | .int i :: r => match go r with | some ks => some (.inl i :: ks) | none => none
  | .str x :: r => match go r with | some ks => some (.inr x :: ks) | none => none
  | _ :: _ => none
def findK (k : Sum (Sum Int Str) (List (Sum Int Str))) : List (Dt × Dt) → Option Dt
  | [] => none
  | (a, b) :: r => if a.key = some k then some b else findK k r
/-- the dict has keys of this kind (or none) -/
def kOk (k : Sum (Sum Int Str) (List (Sum Int Str))) : List (Dt × Dt) → Bool
  | [] => true
  | (a, _) :: _ => match a.key, k with
    | some (.inl _), .inl _ => true
    | some (.inr _), .inr _ => true
    | _, _ => false
def putD (k : Sum (Sum Int Str) (List (Sum Int Str))) (kd v : Dt) (kvs : List (Dt × Dt)) : List (Dt × Dt) :=
  if kvs.any (fun p => decide (p.1.key = some k)) then kvs.map (fun p => if p.1.key = some k then (p.1, v) else p) else kvs ++ [(kd, v)]
/-- a display's pairs, key and value by turns -/
def mkD : List Dt → List (Dt × Dt) → Option (List (Dt × Dt))
  | [], acc => some acc
  | k :: v :: r, acc => match k.key with | some (.inl q) => mkD r (putD (.inl q) k v acc) | _ => none
  | [_], _ => none
/-- as data -/
def encD (d : Dt) : PyData := match d.py with | some e => e | none => .none
/-- rows that can be sorted: filled tuples alike -/
def sortB (es : List PyData) : Bool := (es.all fun x => es.all fun y => PySem.W.alike x y) && es.all (fun | .tuple (_ :: _) => true | _ => false) && decide (PyData.depthAll es ≤ 60)
def sortD (a : List Dt) : List Dt := a.mergeSort (PySem.W.dataLe false encD)
def eqvD (a b : Dt) : Option Bool :=
  match a.py, b.py with
  | some x, some y => if SeqAt.shaped x && SeqAt.shaped y then some (PyData.eqv x y) else none
  | _, _ => none
def inD (x : Dt) (ds : List Dt) : Option Bool :=
  match x.py, pyL ds with
  | some d, some es => if SeqAt.shaped d && SeqAt.shaped (.list es) then some (es.any fun z => PyData.eqv z d) else none
  | _, _ => none
def flatD : Dt → Bool
  | .int _ => true
  | .str _ => true
  | .non => true
  | _ => false
def eqF : Dt → Dt → Bool
  | .int i, .int j => i == j
  | .str x, .str y => x == y
  | .non, .non => true
  | _, _ => false
def mostL : Int → List Int → Int
  | m, [] => m
  | m, x :: xs => mostL (if m < x then x else m) xs
def leastL : Int → List Int → Int
  | m, [] => m
  | m, x :: xs => leastL (if x < m then x else m) xs

def Dt.isN : Dt → Bool
  | .non => true
  | _ => false
def okMul (a b : Int) : Bool := decide (a.natAbs < 2 ^ 64) || decide (b.natAbs < 2 ^ 64) || decide (a.natAbs.log2 + b.natAbs.log2 < 1000000)
def i1 (d : Dt) : Option Ow1 := some (.imm d)

/-- what a pure operation gives -/
def Pr.sem : Pr → List Dt → Option Ow1
  | .add, [.int a, .int b] => i1 (.int (a + b))
  | .add, [.str a, .str b] => if a.length + b.length ≤ sizeLine then i1 (.str (a ++ b)) else none
  | .add, [.tup a, .tup b] => if a.length + b.length ≤ sizeLine then i1 (.tup (a ++ b)) else none
  | .add, [.lst a, .lst b] => if a.length + b.length ≤ sizeLine then some (.lst (a ++ b)) else none
  | .sub, [.int a, .int b] => i1 (.int (a - b))
  | .mul, [.int a, .int b] => if okMul a b then i1 (.int (a * b)) else none
  | .mul, [.lst a, .int k] => if -(2 ^ 63) ≤ k ∧ k < 2 ^ 63 ∧ a.length * k.toNat ≤ sizeLine then some (.lst (List.replicate k.toNat a).flatten) else none
  | .mul, [.tup a, .int k] => if -(2 ^ 63) ≤ k ∧ k < 2 ^ 63 ∧ a.length * k.toNat ≤ sizeLine then i1 (.tup (List.replicate k.toNat a).flatten) else none
  | .fdiv, [.int a, .int b] => if 0 < b ∧ b.natAbs.log2 < 9000 then i1 (.int (a / b)) else none
  | .mod, [.int a, .int b] => if 0 < b then i1 (.int (a % b)) else none
  | .pow, [.int a, .int b] => if 0 ≤ b ∧ b ≤ 1000000 ∧ a.natAbs < 2 ^ 64 then i1 (.int (a ^ b.toNat)) else none
  | .neg, [.int a] => i1 (.int (-a))
  | .eq, [a, b] => match eqvD a b with | some r => i1 (.bl r) | none => none
  | .ne, [a, b] => match eqvD a b with | some r => i1 (.bl (!r)) | none => none
  | .lt, [.int a, .int b] => i1 (.bl (decide (a < b)))
  | .le, [.int a, .int b] => i1 (.bl (decide (a ≤ b)))
  | .gt, [.int a, .int b] => i1 (.bl (decide (b < a)))
  | .ge, [.int a, .int b] => i1 (.bl (decide (b ≤ a)))
  | .lt, [.tup a, .tup b] => match toInts a, toInts b with | some x, some y => i1 (.bl (lexLt x y)) | _, _ => none
  | .isN, [a] => i1 (.bl a.isN)
  | .notN, [a] => i1 (.bl (!a.isN))
  | .isB k, [.bl b] => i1 (.bl (b == k))
  | .isIn, [x, .lst ds] => match inD x ds with | some r => i1 (.bl r) | none => none
  | .notIn, [x, .lst ds] => match inD x ds with | some r => i1 (.bl (!r)) | none => none
  | .isIn, [x, .tup ds] => if flatD x && ds.all flatD then i1 (.bl (ds.any fun z => eqF z x)) else none
  | .notIn, [x, .tup ds] => if flatD x && ds.all flatD then i1 (.bl (!ds.any fun z => eqF z x)) else none
  | .isIn, [x, .dic kvs] => match x.key with | some k => if kOk k kvs then i1 (.bl (findK k kvs).isSome) else none | none => none
  | .notIn, [x, .dic kvs] => match x.key with | some k => if kOk k kvs then i1 (.bl (!(findK k kvs).isSome)) else none | none => none
  | .len, [.lst a] => i1 (.int a.length)
  | .len, [.tup a] => i1 (.int a.length)
  | .len, [.dic a] => i1 (.int a.length)
  | .len, [.scr a] => i1 (.int a.length)
  | .len, [.str a] => if a.length ≤ sizeLine then i1 (.int a.length) else none
  | .ix, [.lst a, .int i] => match atD a i with | some d => i1 d | none => none
  | .ix, [.tup a, .int i] => match atD a i with | some d => i1 d | none => none
  | .ix, [.dic a, k] => match k.key with
    | some k => if kOk k a then match findK k a with | some d => i1 d | none => none else none
    | none => none
  | .cut false false, [.lst a] => some (.lst a)
  | .cut true false, [.lst a, .int i] => some (.lst (cutD a (some i) none))
  | .cut false true, [.lst a, .int i] => some (.lst (cutD a none (some i)))
  | .cut true true, [.lst a, .int i, .int j] => some (.lst (cutD a (some i) (some j)))
  | .cut true false, [.tup a, .int i] => i1 (.tup (cutD a (some i) none))
  | .cut false true, [.tup a, .int i] => i1 (.tup (cutD a none (some i)))
  | .cut true true, [.tup a, .int i, .int j] => i1 (.tup (cutD a (some i) (some j)))
  | .rev, [.lst a] => some (.lst a.reverse)
  | .abs, [.int a] => i1 (.int (if a < 0 then -a else a))
  | .max2, [.int a, .int b] => i1 (.int (if b > a then b else a))
  | .min2, [.int a, .int b] => i1 (.int (if b < a then b else a))
  | .int, [.int a] => i1 (.int a)
  | .int, [.bl b] => i1 (.int (if b then 1 else 0))
  | .str, [.int a] => if a.natAbs.log2 < 1920 then i1 (.str (toString a)) else none
  | .str, [.str a] => i1 (.str a)
  | .repr, [a] => match a.py with
    | some d => if d.showable && !d.hasDict && decide (d.depth ≤ 60) && decide (d.shown.length ≤ sizeLine) then i1 (.str d.shown) else none
    | none => none
  | .tuple, [.lst a] => i1 (.tup a)
  | .tuple, [.tup a] => i1 (.tup a)
  | .list, [.lst a] => some (.lst a)
  | .list, [.tup a] => some (.lst a)
  | .lrng, [.int n] => if 0 ≤ n ∧ n ≤ 16777216 then some (.lst ((List.range n.toNat).map fun (i : Nat) => Dt.int (i : Int))) else none
  | .sorted, [.lst a] => match toInts a with
    | some is => some (.lst ((sortI is).map .int))
    | none => match pyL a with
      | some es => if sortB es then some (.lst (sortD a)) else none
      | none => none
  | .sorted, [.dic kvs] => match toInts (kvs.map (·.1)) with | some (i :: is) => if is.length < 63 then some (.lst ((sortI (i :: is)).map .int)) else none | _ => none
  | .sum, [.lst a] => match toInts a with | some is => i1 (.int is.sum) | none => none
  | .maxL, [.lst a] => match toInts a with | some (i :: is) => i1 (.int (mostL i is)) | _ => none
  | .minL, [.lst a] => match toInts a with | some (i :: is) => i1 (.int (leastL i is)) | _ => none
  | .any, [.lst a] => match toBls a with | some is => i1 (.bl (is.any id)) | none => none
  | .all, [.lst a] => match toBls a with | some is => i1 (.bl (is.all id)) | none => none
  | _, _ => none

/-- whether it counts as true -/
def Dt.tru : Dt → Option Bool
  | .non => some false
  | .bl b => some b
  | .int i => some (i != 0)
  | .str x => if x.length ≤ sizeLine then some (x.length != 0) else none
  | .tup xs => some (!xs.isEmpty)
  | .lst xs => some (!xs.isEmpty)
  | .dic _ => none
  | .scr _ => none

/-! ### the language -/
inductive Tg where
  | nm (i : Nat) | tp (is : List Nat)
mutual
inductive Ex where
  | cst (d : Dt)
  | var (i : Nat)
  | fld (i : Nat) (f : Str)
  | tup (es : Exs)
  | lst (es : Exs)
  | rcd (ks : List Str) (es : Exs)
  | pr (q : Pr) (os : Ops)
  | lenF (i : Nat) (f : Str)
  | popF (i : Nat) (f : Str)
  | pop (i : Nat)
  | popAt (i : Nat) (e : Ex)
  | idx (i : Nat) (e : Ex)
  | app (i : Nat) (e : Ex)
  | call (f : Nat) (os : Ops)
  | cond (t : Te) (a b : Ex)
  | land (a b : Ex)
  | lor (a b : Ex)
  | lnot (o : Op)
  | dnew
  | dmk (es : Exs)
  | lc (el : Ex) (tg : Tg) (it : Ir) (ifs : Tes) (own : List Nat)
inductive Exs where
  | nil | cons (e : Ex) (es : Exs) | star (o : Op) (es : Exs)
inductive Op where
  | v (i : Nat) | e (x : Ex)
inductive Ops where
  | nil | cons (o : Op) (os : Ops)
inductive Te where
  | tr (o : Op) | land (a b : Te) | lor (a b : Te) | lnot (a : Te)
inductive Tes where
  | nil | one (t : Te)
inductive Ir where
  | op (o : Op) | rng1 (e : Ex) | rng2 (a b : Ex) | enum (o : Op) | zip (a b : Op)
end
mutual
inductive Sm where
  | asg (i : Nat) (e : Ex)
  | asgT (is : List Nat) (es : Exs)
  | unp (is : List Nat) (o : Op)
  | setI (i : Nat) (k e : Ex)
  | asgS (i : Nat) (k : Ex) (j : Nat) (l e : Ex)
  | setF (i : Nat) (f : Str) (e : Ex)
  | aug (i : Nat) (q : Pr) (e : Ex)
  | expr (e : Ex)
  | ret (e : Ex)
  | retV (i : Nat)
  | retN
  | ite (t : Te) (a b : Sms)
  | fors (tg : Tg) (it : Ir) (b : Sms)
  | whl (t : Te) (b : Sms)
  | bad
inductive Sms where
  | nil | cons (s : Sm) (ss : Sms)
end

/-! ### what it does -/
/-- the answer of a call: the value, what the parameters' objects are behind it -/
inductive Cr where
  | ret (o : Ow) (outs : List (Option Ow)) | exc (x : Dt) (outs : List (Option Ow)) | no
/-- the answers of calls; how the parameters are passed -/
structure Cl where
  md : Nat → List Md
  fn : Nat → List Ow → Cr

abbrev Tm := Sum Nat Ow
def getE (env : En) (i : Nat) : Option Ow := match env[i]? with | some (some o) => some o | _ => none
def Tm.vw (env : En) : Tm → Option Dt
  | .inl i => match getE env i with | some o => o.vw | none => none
  | .inr o => o.vw
/-- the first place of x -/
def posD (x : Dt) : List Dt → Option Nat
  | [] => none
  | z :: r => if eqF z x then some 0 else match posD x r with | some j => some (j + 1) | none => none
/-- the list that a slot holds -/
def lstOf (env : En) (i : Nat) : Option (List Dt) := match getE env i with
  | some (.p o) => match o.dt with | .lst ds => some ds | _ => none
  | _ => none
def isLst : Option Ow → Bool
  | some (.p (.lst _)) => true
  | _ => false
def vws (env : En) : List Tm → Option (List Dt)
  | [] => some []
  | t :: ts => match Tm.vw env t with
    | some d => match vws env ts with | some ds => some (d :: ds) | none => none
    | none => none
/-- the arguments as the parameters want them: the slots' objects may be shared by it -/
def args : List Md → List Tm → En → Option (List Ow × En)
  | [], [], env => some ([], env)
  | .mu :: ms, .inl i :: ts, env => match getE env i with
    | some (.lk _) => none
    | some o => match args ms ts (env.set i none) with | some (as, e) => some (o :: as, e) | none => none
    | none => none
  | .sh :: ms, .inl i :: ts, env => match getE env i with
    | some (.p o) => match args ms ts (env.set i (some (im o.dt))) with | some (as, e) => some (im o.dt :: as, e) | none => none
    | _ => none
  | .mu :: ms, .inr (.lk _) :: ts, env => none
  | .mu :: ms, .inr o :: ts, env => match args ms ts env with | some (as, e) => some (o :: as, e) | none => none
  | .sh :: ms, .inr (.p o) :: ts, env => match args ms ts env with | some (as, e) => some (im o.dt :: as, e) | none => none
  | _, _, _ => none
/-- behind a call: the changed objects are in their slots again -/
def backs : List Md → List Tm → List (Option Ow) → En → En
  | .mu :: ms, .inl i :: ts, o :: os, env => backs ms ts os (env.set i o)
  | _ :: ms, _ :: ts, _ :: os, env => backs ms ts os env
  | _, _, _, env => env

def tgSet : Tg → Dt → En → Option En
  | .nm i, d, env => some (env.set i (some (im d)))
  | .tp is, .tup ds, env => if is.length = ds.length then some (go is ds env) else none
  | _, _, _ => none
where go : List Nat → List Dt → En → En
  | i :: is, d :: ds, env => go is ds (env.set i (some (im d)))
  | _, _, env => env
def wipeE (env : En) : List Nat → En
  | [] => env
  | v :: vs => (wipeE env vs).set v none
/-- the slots vs as they are in e0 -/
def backE (e0 env : En) : List Nat → En
  | [] => env
  | v :: vs => (backE e0 env vs).set v (e0.getD v none)
def lockE (env : En) : Op → Option En
  | .v i => match getE env i with
    | some (.p (.lst xs)) => some (env.set i (some (.lk (.lst xs))))
    | some (.p (.dic xs)) => some (env.set i (some (.lk (.dic xs))))
    | some _ => some env
    | none => none
  | .e _ => some env
def enumD : Nat → List Dt → List Dt
  | _, [] => []
  | k, d :: ds => .tup [.int (k : Int), d] :: enumD (k + 1) ds
def zipD : List Dt → List Dt → List Dt
  | a :: as, b :: bs => .tup [a, b] :: zipD as bs
  | _, _ => []
def seqD : Dt → Option (List Dt)
  | .lst xs => some xs
  | .tup xs => some xs
  | .scr is => some (is.map .int)
  | _ => none
def lstD : Dt → Option (List Dt)
  | .lst xs => some xs
  | _ => none
def rngD (lo : Int) (n : Nat) : List Dt := (List.range n).map fun (i : Nat) => Dt.int (lo + (i : Int))

def Ow.dt? : Ow → Option Dt
  | .p o => some o.dt
  | _ => none
def setRec (f : Str) (o : Ow1) : List (Str × Ow1) → List (Str × Ow1)
  | [] => [(f, o)]
  | (g, x) :: r => if g = f then (g, o) :: r else (g, x) :: setRec f o r

/-- the slots that the loop goes through are locked meanwhile -/
def lckI : Ir → En → Option En
  | .op o, env => lockE env o
  | .enum o, env => lockE env o
  | .zip a b, env => match lockE env a with | some e1 => lockE e1 b | none => none
  | _, env => some env
def slotI : Ir → List Nat
  | .op (.v i) => [i]
  | .enum (.v i) => [i]
  | .zip (.v i) (.v j) => [i, j]
  | .zip (.v i) _ => [i]
  | .zip _ (.v j) => [j]
  | _ => []

/-- xs[u] = d, xs a slot's own list -/
def putL (env : En) (i : Nat) (u : Int) (d : Dt) : Option En := match getE env i with
  | some (.p (.lst xs)) => if 0 ≤ u ∧ u < xs.length then some (env.set i (some (.p (.lst (xs.set u.toNat d))))) else none
  | _ => none
def setAll : List Nat → List Ow1 → En → En
  | i :: is, o :: os, env => setAll is os (env.set i (some (.p o)))
  | _, _, env => env
/-- going through the items of a comprehension -/
def lcGo (st : Dt → En → Rs (Option Dt)) : List Dt → List Dt → En → Rs (List Dt)
  | [], acc, env => .ok acc env
  | d :: ds, acc, env => match st d env with
    | .ok (some y) e1 => if acc.length < sizeLine then lcGo st ds (acc ++ [y]) e1 else .no
    | .ok none e1 => lcGo st ds acc e1
    | .exc x e1 => .exc x e1
    | .no => .no
/-- how a statement ends -/
inductive Fl where
  | nx | rt (o : Ow)
def forGo (st : Dt → En → Rs Fl) : List Dt → En → Rs Fl
  | [], env => .ok .nx env
  | d :: ds, env => match st d env with
    | .ok .nx e1 => forGo st ds e1
    | r => r
def whGo (t : En → Rs Bool) (st : En → Rs Fl) : Nat → En → Rs Fl
  | 0, _ => .no
  | n + 1, env => match t env with
    | .ok true e1 => match st e1 with
      | .ok .nx e2 => whGo t st n e2
      | r => r
    | .ok false e1 => .ok .nx e1
    | .exc x e1 => .exc x e1
    | .no => .no

section
variable (C : Cl)
mutual
def ev : Ex → En → Rs Ow
  | .cst d, env => .ok (im d) env
  | .var i, env => match getE env i with
    | some (.p (.imm d)) => .ok (im d) env
    | some (.p o) => .ok (im o.dt) (env.set i (some (im o.dt)))
    | _ => .no
  | .fld i f, env => match getE env i with
    | some (.rc fs) => match fs.lookup f with
      | some (.imm d) => .ok (im d) env
      | _ => .no
    | _ => .no
  | .tup es, env => match evs es env with
    | .ok ds e1 => if ds.length ≤ sizeLine then .ok (im (.tup ds)) e1 else .no
    | .exc x e1 => .exc x e1
    | .no => .no
  | .lst es, env => match evs es env with
    | .ok ds e1 => if ds.length ≤ sizeLine then .ok (.p (.lst ds)) e1 else .no
    | .exc x e1 => .exc x e1
    | .no => .no
  | .rcd ks es, env => match evw es env with
    | .ok os e1 => if os.length = ks.length ∧ ks.Nodup ∧ ks.length ≤ 15 then .ok (.rc (ks.zip os)) e1 else .no
    | .exc x e1 => .exc x e1
    | .no => .no
  | .pr q os, env => match evo os env with
    | .ok ts e1 => match vws e1 ts with
      | some ds => match q.sem ds with | some o => .ok (.p o) e1 | none => .no
      | none => .no
    | .exc x e1 => .exc x e1
    | .no => .no
  | .lenF i f, env => match getE env i with
    | some (.rc fs) => match fs.lookup f with
      | some (.lst xs) => .ok (im (.int xs.length)) env
      | _ => .no
    | _ => .no
  | .popF i f, env => match getE env i with
    | some (.rc fs) => match fs.lookup f with
      | some (.lst xs) => match xs.getLast? with
        | some d => .ok (im d) (env.set i (some (.rc (setRec f (.lst xs.dropLast) fs))))
        | none => .no
      | _ => .no
    | _ => .no
  | .pop i, env => match getE env i with
    | some (.p (.lst xs)) => match xs.getLast? with
      | some d => .ok (im d) (env.set i (some (.p (.lst xs.dropLast))))
      | none => .no
    | _ => .no
  | .popAt i e, env => if isLst (getE env i) then match ev e env with
    | .ok (.p (.imm (.int k))) e1 => match getE e1 i with
      | some (.p (.lst xs)) => if 0 ≤ k ∧ k < 2 ^ 63 then match xs[k.toNat]? with
        | some d => .ok (im d) (e1.set i (some (.p (.lst (xs.eraseIdx k.toNat)))))
        | none => .no else .no
      | _ => .no
    | .ok _ _ => .no
    | .exc x e1 => .exc x e1
    | .no => .no
    else .no
  | .idx i e, env => match lstOf env i with
    | some _ => match ev e env with
      | .ok o e1 => match o.dt?, lstOf e1 i with
        | some d, some ds => if (flatD d && ds.all flatD) = true then match posD d ds with | some j => .ok (im (.int (j : Int))) e1 | none => .no else .no
        | _, _ => .no
      | .exc x e1 => .exc x e1
      | .no => .no
    | none => .no
  | .app i e, env => if isLst (getE env i) then match ev e env with
    | .ok o e1 => match o.dt?, getE e1 i with
      | some d, some (.p (.lst xs)) => if xs.length < sizeLine then .ok (im .non) (e1.set i (some (.p (.lst (xs ++ [d]))))) else .no
      | _, _ => .no
    | .exc x e1 => .exc x e1
    | .no => .no
    else .no
  | .call f os, env => match evo os env with
    | .ok ts e1 => match args (C.md f) ts e1 with
      | some (as, e2) => match C.fn f as with
        | .ret o outs => .ok o (backs (C.md f) ts outs e2)
        | .exc x outs => .exc x (backs (C.md f) ts outs e2)
        | .no => .no
      | none => .no
    | .exc x e1 => .exc x e1
    | .no => .no
  | .cond t a b, env => match evt t env with
    | .ok true e1 => ev a e1
    | .ok false e1 => ev b e1
    | .exc x e1 => .exc x e1
    | .no => .no
  | .land a b, env => match ev a env with
    | .ok (.p (.imm (.bl true))) e1 => ev b e1
    | .ok (.p (.imm (.bl false))) e1 => .ok (im (.bl false)) e1
    | .ok _ _ => .no
    | .exc x e1 => .exc x e1
    | .no => .no
  | .lor a b, env => match ev a env with
    | .ok (.p (.imm (.bl false))) e1 => ev b e1
    | .ok (.p (.imm (.bl true))) e1 => .ok (im (.bl true)) e1
    | .ok _ _ => .no
    | .exc x e1 => .exc x e1
    | .no => .no
  | .lnot o, env => match evp o env with
    | .ok t e1 => match Tm.vw e1 t with
      | some d => match d.tru with | some b => .ok (im (.bl (!b))) e1 | none => .no
      | none => .no
    | .exc x e1 => .exc x e1
    | .no => .no
  | .dnew, env => .ok (.p (.dic [])) env
  | .dmk es, env => match evs es env with
    | .ok ds e1 => match mkD ds [] with
      | some kvs => if ds.length ≤ 30 then .ok (.p (.dic kvs)) e1 else .no
      | none => .no
    | .exc x e1 => .exc x e1
    | .no => .no
  | .lc el tg it ifs own, env => match evi it env with
    | .ok ds e1 => match lckI it e1 with
      | some e2 => match lcGo (fun d e => match tgSet tg d (wipeE e own) with
          | some e3 => match evf ifs e3 with
            | .ok true e4 => match ev el e4 with
              | .ok o e5 => match o.dt? with | some y => .ok (some y) e5 | none => .no
              | .exc x e5 => .exc x e5
              | .no => .no
            | .ok false e4 => .ok none e4
            | .exc x e4 => .exc x e4
            | .no => .no
          | none => .no) ds [] e2 with
        | .ok ys e6 => .ok (.p (.lst ys)) (backE e1 (backE e2 e6 own) (slotI it))
        | _ => .no
      | none => .no
    | .exc x e1 => .exc x e1
    | .no => .no
/-- the items of a display, shared from now on -/
def evs : Exs → En → Rs (List Dt)
  | .nil, env => .ok [] env
  | .cons e es, env => match ev e env with
    | .ok o e1 => match o.dt? with
      | some d => match evs es e1 with
        | .ok ds e2 => .ok (d :: ds) e2
        | .exc x e2 => .exc x e2
        | .no => .no
      | none => .no
    | .exc x e1 => .exc x e1
    | .no => .no
  | .star o es, env => match evp o env with
    | .ok t e1 => match Tm.vw e1 t with
      | some d => match seqD d with
        | some ds1 => match evs es e1 with
          | .ok ds e2 => .ok (ds1 ++ ds) e2
          | .exc x e2 => .exc x e2
          | .no => .no
        | none => .no
      | none => .no
    | .exc x e1 => .exc x e1
    | .no => .no
/-- values, each still one name's own -/
def evw : Exs → En → Rs (List Ow1)
  | .nil, env => .ok [] env
  | .cons e es, env => match ev e env with
    | .ok (.p o) e1 => match evw es e1 with
      | .ok ds e2 => .ok (o :: ds) e2
      | .exc x e2 => .exc x e2
      | .no => .no
    | .ok _ _ => .no
    | .exc x e1 => .exc x e1
    | .no => .no
  | .star _ _, _ => .no
def evp : Op → En → Rs Tm
  | .v i, env => match getE env i with | some _ => .ok (.inl i) env | none => .no
  | .e x, env => match ev x env with
    | .ok o e1 => .ok (.inr o) e1
    | .exc x e1 => .exc x e1
    | .no => .no
def evo : Ops → En → Rs (List Tm)
  | .nil, env => .ok [] env
  | .cons o os, env => match evp o env with
    | .ok t e1 => match evo os e1 with
      | .ok ts e2 => .ok (t :: ts) e2
      | .exc x e2 => .exc x e2
      | .no => .no
    | .exc x e1 => .exc x e1
    | .no => .no
def evt : Te → En → Rs Bool
  | .tr o, env => match evp o env with
    | .ok t e1 => match Tm.vw e1 t with
      | some d => match d.tru with | some b => .ok b e1 | none => .no
      | none => .no
    | .exc x e1 => .exc x e1
    | .no => .no
  | .land a b, env => match evt a env with
    | .ok true e1 => evt b e1
    | .ok false e1 => .ok false e1
    | .exc x e1 => .exc x e1
    | .no => .no
  | .lor a b, env => match evt a env with
    | .ok false e1 => evt b e1
    | .ok true e1 => .ok true e1
    | .exc x e1 => .exc x e1
    | .no => .no
  | .lnot a, env => match evt a env with
    | .ok b e1 => .ok (!b) e1
    | .exc x e1 => .exc x e1
    | .no => .no
def evf : Tes → En → Rs Bool
  | .nil, env => .ok true env
  | .one t, env => evt t env
/-- the items that a loop goes through -/
def evi : Ir → En → Rs (List Dt)
  | .op o, env => match evp o env with
    | .ok t e1 => match Tm.vw e1 t with
      | some d => match seqD d with | some ds => .ok ds e1 | none => .no
      | none => .no
    | .exc x e1 => .exc x e1
    | .no => .no
  | .rng1 e, env => match ev e env with
    | .ok (.p (.imm (.int n))) e1 => if -(2 ^ 62) ≤ n ∧ n < 2 ^ 62 then .ok (rngD 0 n.toNat) e1 else .no
    | .ok _ _ => .no
    | .exc x e1 => .exc x e1
    | .no => .no
  | .rng2 a b, env => match ev a env with
    | .ok (.p (.imm (.int m))) e1 => match ev b e1 with
      | .ok (.p (.imm (.int n))) e2 => if -(2 ^ 62) ≤ m ∧ m < 2 ^ 62 ∧ -(2 ^ 62) ≤ n ∧ n < 2 ^ 62 then .ok (rngD m (n - m).toNat) e2 else .no
      | .ok _ _ => .no
      | .exc x e2 => .exc x e2
      | .no => .no
    | .ok _ _ => .no
    | .exc x e1 => .exc x e1
    | .no => .no
  | .enum o, env => match evp o env with
    | .ok t e1 => match Tm.vw e1 t with
      | some d => match seqD d with | some ds => .ok (enumD 0 ds) e1 | none => .no
      | none => .no
    | .exc x e1 => .exc x e1
    | .no => .no
  | .zip a b, env => match evp a env with
    | .ok t e1 => match evp b e1 with
      | .ok u e2 => match Tm.vw e2 t, Tm.vw e2 u with
        | some d, some c => match seqD d, seqD c with
          | some ds, some cs => .ok (zipD ds cs) e2
          | _, _ => .no
        | _, _ => .no
      | .exc x e2 => .exc x e2
      | .no => .no
    | .exc x e1 => .exc x e1
    | .no => .no
end

variable (wf : Nat)
mutual
def ex : Sm → En → Rs Fl
  | .asg i e, env => match ev C e env with
    | .ok o e1 => .ok .nx (e1.set i (some o))
    | .exc x e1 => .exc x e1
    | .no => .no
  | .asgT is es, env => match evw C es env with
    | .ok os e1 => if is.length = os.length then .ok .nx (setAll is os e1) else .no
    | .exc x e1 => .exc x e1
    | .no => .no
  | .unp is o, env => match evp C o env with
    | .ok t e1 => match Tm.vw e1 t with
      | some d => match tgSet (.tp is) d e1 with | some e2 => .ok .nx e2 | none => .no
      | none => .no
    | .exc x e1 => .exc x e1
    | .no => .no
  | .setI i k e, env => match ev C e env with
    | .ok o e1 => if (getE e1 i).isNone then .no else match ev C k e1 with
      | .ok (.p (.imm kd)) e2 => match o.dt?, getE e2 i with
        | some d, some (.p (.lst xs)) => match kd with
          | .int j => if 0 ≤ j ∧ j < xs.length then .ok .nx (e2.set i (some (.p (.lst (xs.set j.toNat d))))) else .no
          | _ => .no
        | some d, some (.p (.dic kvs)) => match kd.key with
          | some q => if kvs.length < sizeLine ∧ kOk q kvs then .ok .nx (e2.set i (some (.p (.dic (putD q kd d kvs))))) else .no
          | none => .no
        | _, _ => .no
      | .ok _ _ => .no
      | .exc x e2 => .exc x e2
      | .no => .no
    | .exc x e1 => .exc x e1
    | .no => .no
  | .asgS i k j l e, env => match ev C e env with
    | .ok (.p (.imm (.tup [a, b]))) e1 => if (getE e1 i).isNone then .no else match ev C k e1 with
      | .ok (.p (.imm (.int u))) e2 => match putL e2 i u a with
        | some e3 => if (getE e3 j).isNone then .no else match ev C l e3 with
          | .ok (.p (.imm (.int v))) e4 => match putL e4 j v b with
            | some e5 => .ok .nx e5
            | none => .no
          | .ok _ _ => .no
          | .exc x e4 => .exc x e4
          | .no => .no
        | none => .no
      | .ok _ _ => .no
      | .exc x e2 => .exc x e2
      | .no => .no
    | .ok _ _ => .no
    | .exc x e1 => .exc x e1
    | .no => .no
  | .setF i f e, env => match ev C e env with
    | .ok (.p o) e1 => match getE e1 i with
      | some (.rc fs) => if fs.length < 15 ∧ (fs.lookup f).isSome then .ok .nx (e1.set i (some (.rc (setRec f (.imm o.dt) fs)))) else .no
      | _ => .no
    | .ok _ _ => .no
    | .exc x e1 => .exc x e1
    | .no => .no
  | .aug i q e, env => match getE env i with
    | some (.p (.imm (.int a))) => match ev C e env with
      | .ok (.p (.imm (.int b))) e1 => match q.sem [.int a, .int b] with
        | some (.imm (.int c)) => .ok .nx (e1.set i (some (im (.int c))))
        | _ => .no
      | .ok _ _ => .no
      | .exc x e1 => .exc x e1
      | .no => .no
    | _ => .no
  | .expr e, env => match ev C e env with
    | .ok _ e1 => .ok .nx e1
    | .exc x e1 => .exc x e1
    | .no => .no
  | .ret e, env => match ev C e env with
    | .ok o e1 => .ok (.rt o) e1
    | .exc x e1 => .exc x e1
    | .no => .no
  | .retV i, env => match getE env i with
    | some (.lk _) => .no
    | some o => .ok (.rt o) (env.set i none)
    | none => .no
  | .retN, env => .ok (.rt (im .non)) env
  | .ite t a b, env => match evt C t env with
    | .ok true e1 => exs a e1
    | .ok false e1 => exs b e1
    | .exc x e1 => .exc x e1
    | .no => .no
  | .fors tg it b, env => match evi C it env with
    | .ok ds e1 => match lckI it e1 with
      | some e2 => match forGo (fun d e => match tgSet tg d e with | some e3 => exs b e3 | none => .no) ds e2 with
        | .ok fl e3 => .ok fl (backE e1 e3 (slotI it))
        | .exc x e3 => .exc x (backE e1 e3 (slotI it))
        | .no => .no
      | none => .no
    | .exc x e1 => .exc x e1
    | .no => .no
  | .whl t b, env => whGo (fun e => evt C t e) (fun e => exs b e) wf env
  | .bad, _ => .no
def exs : Sms → En → Rs Fl
  | .nil, env => .ok .nx env
  | .cons s ss, env => match ex s env with
    | .ok .nx e1 => exs ss e1
    | r => r
end
end

/-- a def -/
structure Fn where
  np : Nat
  ns : Nat
  md : List Md
  body : Sms
def outsOf (env : En) : List Md → Nat → List (Option Ow)
  | [], _ => []
  | .mu :: ms, i => env.getD i none :: outsOf env ms (i + 1)
  | _ :: ms, i => none :: outsOf env ms (i + 1)
def runFn (C : Cl) (wf : Nat) (f : Fn) (as : List Ow) : Cr :=
  if as.length = f.np then
    match exs C wf f.body (as.map some ++ List.replicate (f.ns - f.np) none) with
    | .ok .nx env => .ret (im .non) (outsOf env f.md 0)
    | .ok (.rt o) env => .ret o (outsOf env f.md 0)
    | .exc x env => .exc x (outsOf env f.md 0)
    | .no => .no
  else .no
def mdOf (T : List Fn) (f : Nat) : List Md := match T[f]? with | some g => g.md | none => []
def run (T : List Fn) (wf : Nat) : Nat → Nat → List Ow → Cr
  | 0, _, _ => .no
  | n + 1, f, as => match T[f]? with
    | some g => runFn ⟨mdOf T, run T wf n⟩ wf g as
    | none => .no
end Pd
set_option Elab.async false
set_option linter.all false
set_option maxRecDepth 100000
set_option maxHeartbeats 4000000
/-! Part 2: what a value in the heap has to do with data. -/
namespace Pd
open PySem L2
abbrev As := Addr → Prop
def kD : Key → Dt
  | .inl i => .int i
  | .inr x => .str x
def tkD (ks : List Key) : Dt := .tup (ks.map kD)
def KLst (K : PySem.W.Frag) (a : Addr) (vs : List V) : Prop :=
  ∃ (o : Obj) (us : Array Value) (n : Nat), K.lookup a = some o ∧ o.cls = .type "list" ∧ o.dict = none ∧ o.data = .seq us n ∧ us.size ≤ sizeLine ∧ Vals vs us.toList
/-- a list, a tuple that stands still -/
def StS (K : PySem.W.Frag) (F : As) (H : Hp) (a : Addr) (vs : List V) : Prop := (F a ∧ Rd H a (.lst vs)) ∨ KLst K a vs
def StT (K : PySem.W.Frag) (F : As) (H : Hp) (a : Addr) (vs : List V) : Prop := F a ∧ H a = some (.tup vs)
theorem StS.sq {K : PySem.W.Frag} {F : As} {H : Hp} {a : Addr} {vs : List V} (h : StS K F H a vs) : SqL K H a vs := h.elim (fun x => .inl x.2) .inr
theorem StT.sq {K : PySem.W.Frag} {F : As} {H : Hp} {a : Addr} {vs : List V} (h : StT K F H a vs) : SqT K H a vs := .of h.2
theorem rd_same {H H' : Hp} {a : Addr} {u : HO} (h : Rd H a u) (e : H' a = H a) : Rd H' a u := by
  rcases h with h | ⟨o, h⟩
  · exact .inl (e.trans h)
  · exact .inr ⟨o, e.trans h⟩

/-- a dict to be read (one that a loop goes through has a pair) -/
def RdK (H : Hp) (a : Addr) (kvs : List (Key × V)) : Prop := H a = some (.dK kvs) ∨ (kvs ≠ [] ∧ ∃ o, H a = some (.frz o (.dK kvs)))
def RdT (H : Hp) (a : Addr) (kvs : List (List Key × V)) : Prop := H a = some (.dT kvs) ∨ (kvs ≠ [] ∧ ∃ o, H a = some (.frz o (.dT kvs)))
theorem rdk_same {H H' : Hp} {a : Addr} {u : List (Key × V)} (h : RdK H a u) (e : H' a = H a) : RdK H' a u := h.imp (fun h => e.trans h) fun ⟨n, o, h⟩ => ⟨n, o, e.trans h⟩
theorem rdt_same {H H' : Hp} {a : Addr} {u : List (List Key × V)} (h : RdT H a u) (e : H' a = H a) : RdT H' a u := h.imp (fun h => e.trans h) fun ⟨n, o, h⟩ => ⟨n, o, e.trans h⟩
theorem RdK.rd {H : Hp} {a : Addr} {u : List (Key × V)} (h : RdK H a u) : Rd H a (.dK u) := h.imp id fun ⟨_, o, h⟩ => ⟨o, h⟩
theorem RdT.rd {H : Hp} {a : Addr} {u : List (List Key × V)} (h : RdT H a u) : Rd H a (.dT u) := h.imp id fun ⟨_, o, h⟩ => ⟨o, h⟩

mutual
inductive DV (K : PySem.W.Frag) (F : As) (H : Hp) : V → Dt → Prop
  | non : DV K F H .non .non
  | bl (b : Bool) : DV K F H (.bl b) (.bl b)
  | int (i : Int) : DV K F H (.int i) (.int i)
  | str (x : Str) : DV K F H (.str x) (.str x)
  | tup {a : Addr} {vs : List V} {ds : List Dt} : StT K F H a vs → DVs K F H vs ds → DV K F H (.ref a) (.tup ds)
  | lst {a : Addr} {vs : List V} {ds : List Dt} : F a → H a = some (.lst vs) → DVs K F H vs ds → DV K F H (.ref a) (.lst ds)
  | scr {a : Addr} {is : List Int} : StS K F H a (is.map V.int) → DV K F H (.ref a) (.scr is)
  | dk {a : Addr} {kvs : List (Key × V)} {ds : List (Dt × Dt)} : F a → RdK H a kvs → DKs K F H kvs ds → DV K F H (.ref a) (.dic ds)
  | dt {a : Addr} {kvs : List (List Key × V)} {ds : List (Dt × Dt)} : F a → RdT H a kvs → DTs K F H kvs ds → DV K F H (.ref a) (.dic ds)
inductive DVs (K : PySem.W.Frag) (F : As) (H : Hp) : List V → List Dt → Prop
  | nil : DVs K F H [] []
  | cons {v : V} {vs : List V} {d : Dt} {ds : List Dt} : DV K F H v d → DVs K F H vs ds → DVs K F H (v :: vs) (d :: ds)
inductive DKs (K : PySem.W.Frag) (F : As) (H : Hp) : List (Key × V) → List (Dt × Dt) → Prop
  | nil : DKs K F H [] []
  | cons {k : Key} {v : V} {vs : List (Key × V)} {d : Dt} {ds : List (Dt × Dt)} : DV K F H v d → DKs K F H vs ds → DKs K F H ((k, v) :: vs) ((kD k, d) :: ds)
inductive DTs (K : PySem.W.Frag) (F : As) (H : Hp) : List (List Key × V) → List (Dt × Dt) → Prop
  | nil : DTs K F H [] []
  | cons {k : List Key} {v : V} {vs : List (List Key × V)} {d : Dt} {ds : List (Dt × Dt)} : DV K F H v d → DTs K F H vs ds → DTs K F H ((k, v) :: vs) ((tkD k, d) :: ds)
end

section
variable {K : PySem.W.Frag} {F F' : As} {H H' : Hp}
mutual
theorem DV.mono (hF : ∀ x, F x → F' x) (hH : ∀ x, F x → H' x = H x) : ∀ {d : Dt} {v : V}, DV K F H v d → DV K F' H' v d
  | _, _, .non => .non
  | _, _, .bl b => .bl b
  | _, _, .int i => .int i
  | _, _, .str x => .str x
  | _, _, .tup h hs => .tup ⟨hF _ h.1, (hH _ h.1).trans h.2⟩ (DVs.mono hF hH hs)
  | _, _, .lst f h hs => .lst (hF _ f) ((hH _ f).trans h) (DVs.mono hF hH hs)
  | _, _, .scr h => .scr (h.imp (fun q => ⟨hF _ q.1, rd_same q.2 (hH _ q.1)⟩) id)
  | _, _, .dk f h hs => .dk (hF _ f) (rdk_same h (hH _ f)) (DKs.mono hF hH hs)
  | _, _, .dt f h hs => .dt (hF _ f) (rdt_same h (hH _ f)) (DTs.mono hF hH hs)
theorem DVs.mono (hF : ∀ x, F x → F' x) (hH : ∀ x, F x → H' x = H x) : ∀ {ds : List Dt} {vs : List V}, DVs K F H vs ds → DVs K F' H' vs ds
  | _, _, .nil => .nil
  | _, _, .cons h hs => .cons (DV.mono hF hH h) (DVs.mono hF hH hs)
theorem DKs.mono (hF : ∀ x, F x → F' x) (hH : ∀ x, F x → H' x = H x) : ∀ {ds : List (Dt × Dt)} {vs : List (Key × V)}, DKs K F H vs ds → DKs K F' H' vs ds
  | _, _, .nil => .nil
  | _, _, .cons h hs => .cons (DV.mono hF hH h) (DKs.mono hF hH hs)
theorem DTs.mono (hF : ∀ x, F x → F' x) (hH : ∀ x, F x → H' x = H x) : ∀ {ds : List (Dt × Dt)} {vs : List (List Key × V)}, DTs K F H vs ds → DTs K F' H' vs ds
  | _, _, .nil => .nil
  | _, _, .cons h hs => .cons (DV.mono hF hH h) (DTs.mono hF hH hs)
end
theorem DVs.len : ∀ {vs : List V} {ds : List Dt}, DVs K F H vs ds → vs.length = ds.length
  | _, _, .nil => rfl
  | _, _, .cons _ h => by simp [h.len]
theorem DKs.len : ∀ {vs : List (Key × V)} {ds : List (Dt × Dt)}, DKs K F H vs ds → vs.length = ds.length
  | _, _, .nil => rfl
  | _, _, .cons _ h => by simp [h.len]
theorem DTs.len : ∀ {vs : List (List Key × V)} {ds : List (Dt × Dt)}, DTs K F H vs ds → vs.length = ds.length
  | _, _, .nil => rfl
  | _, _, .cons _ h => by simp [h.len]
theorem DVs.get : ∀ {vs : List V} {ds : List Dt} {i : Nat} {d : Dt}, DVs K F H vs ds → ds[i]? = some d → ∃ v, vs[i]? = some v ∧ DV K F H v d
  | _, _, _, _, .nil, e => by simp at e
  | _, _, 0, _, .cons r _, e => by simp at e; subst e; exact ⟨_, rfl, r⟩
  | _, _, i + 1, _, .cons _ t, e => by
    obtain ⟨v, h1, h2⟩ := DVs.get (i := i) t (by simpa using e)
    exact ⟨v, by simpa using h1, h2⟩
theorem DVs.get' : ∀ {vs : List V} {ds : List Dt} {i : Nat} {v : V}, DVs K F H vs ds → vs[i]? = some v → ∃ d, ds[i]? = some d ∧ DV K F H v d
  | _, _, _, _, .nil, e => by simp at e
  | _, _, 0, _, .cons r _, e => by simp at e; subst e; exact ⟨_, rfl, r⟩
  | _, _, i + 1, _, .cons _ t, e => by
    obtain ⟨v, h1, h2⟩ := DVs.get' (i := i) t (by simpa using e)
    exact ⟨v, by simpa using h1, h2⟩
theorem DVs.app : ∀ {vs ws : List V} {ds es : List Dt}, DVs K F H vs ds → DVs K F H ws es → DVs K F H (vs ++ ws) (ds ++ es)
  | _, _, _, _, .nil, s => s
  | _, _, _, _, .cons r t, s => .cons r (t.app s)
theorem DVs.one {v : V} {d : Dt} (h : DV K F H v d) : DVs K F H [v] [d] := .cons h .nil
theorem DVs.take : ∀ {vs : List V} {ds : List Dt} (n : Nat), DVs K F H vs ds → DVs K F H (vs.take n) (ds.take n)
  | _, _, 0, _ => .nil
  | _, _, _ + 1, .nil => .nil
  | _, _, n + 1, .cons r t => .cons r (t.take n)
theorem DVs.drop : ∀ {vs : List V} {ds : List Dt} (n : Nat), DVs K F H vs ds → DVs K F H (vs.drop n) (ds.drop n)
  | _, _, 0, h => h
  | _, _, _ + 1, .nil => .nil
  | _, _, n + 1, .cons _ t => t.drop n
theorem DVs.rev : ∀ {vs : List V} {ds : List Dt}, DVs K F H vs ds → DVs K F H vs.reverse ds.reverse
  | _, _, .nil => .nil
  | _, _, .cons r t => by
    rw [List.reverse_cons, List.reverse_cons]
    exact t.rev.app (.one r)
theorem DVs.set : ∀ {vs : List V} {ds : List Dt} {v : V} {d : Dt} (i : Nat), DVs K F H vs ds → DV K F H v d → DVs K F H (vs.set i v) (ds.set i d)
  | _, _, _, _, _, .nil, _ => .nil
  | _, _, _, _, 0, .cons _ t, r => .cons r t
  | _, _, _, _, i + 1, .cons q t, r => .cons q (t.set i r)
theorem DVs.era : ∀ {vs : List V} {ds : List Dt} (i : Nat), DVs K F H vs ds → DVs K F H (vs.eraseIdx i) (ds.eraseIdx i)
  | _, _, _, .nil => .nil
  | _, _, 0, .cons _ t => t
  | _, _, i + 1, .cons q t => .cons q (t.era i)
theorem DVs.init {vs : List V} {ds : List Dt} (h : DVs K F H vs ds) : DVs K F H vs.dropLast ds.dropLast := by
  rw [List.dropLast_eq_take, List.dropLast_eq_take, h.len]
  exact h.take _
theorem DVs.rep {vs : List V} {ds : List Dt} (h : DVs K F H vs ds) : ∀ n : Nat, DVs K F H (List.replicate n vs).flatten (List.replicate n ds).flatten
  | 0 => .nil
  | n + 1 => by
    rw [List.replicate_succ, List.replicate_succ, List.flatten_cons, List.flatten_cons]
    exact h.app (h.rep n)
theorem dvs_ints : ∀ (is : List Int), DVs K F H (is.map V.int) (is.map Dt.int)
  | [] => .nil
  | i :: is => .cons (.int i) (dvs_ints is)
theorem toInts_eq : ∀ {ds : List Dt} {is : List Int}, toInts ds = some is → ds = is.map Dt.int
  | [], _, h => by cases h; rfl
  | .int i :: ds, _, h => by
    simp only [toInts] at h
    split at h
    · rename_i js e
      cases h
      rw [toInts_eq e]; rfl
    · cases h
  | .non :: _, _, h => by simp [toInts] at h
  | .bl _ :: _, _, h => by simp [toInts] at h
  | .str _ :: _, _, h => by simp [toInts] at h
  | .tup _ :: _, _, h => by simp [toInts] at h
  | .lst _ :: _, _, h => by simp [toInts] at h
  | .dic _ :: _, _, h => by simp [toInts] at h
  | .scr _ :: _, _, h => by simp [toInts] at h
theorem toBls_eq : ∀ {ds : List Dt} {is : List Bool}, toBls ds = some is → ds = is.map Dt.bl
  | [], _, h => by cases h; rfl
  | .bl i :: ds, _, h => by
    simp only [toBls] at h
    split at h
    · rename_i js e
      cases h
      rw [toBls_eq e]; rfl
    · cases h
  | .non :: _, _, h => by simp [toBls] at h
  | .int _ :: _, _, h => by simp [toBls] at h
  | .str _ :: _, _, h => by simp [toBls] at h
  | .tup _ :: _, _, h => by simp [toBls] at h
  | .lst _ :: _, _, h => by simp [toBls] at h
  | .dic _ :: _, _, h => by simp [toBls] at h
  | .scr _ :: _, _, h => by simp [toBls] at h
theorem toInts_map (is : List Int) : toInts (is.map Dt.int) = some is := by
  induction is with
  | nil => rfl
  | cons i is ih => simp [toInts, ih]
theorem toBls_map (is : List Bool) : toBls (is.map Dt.bl) = some is := by
  induction is with
  | nil => rfl
  | cons i is ih => simp [toBls, ih]
theorem dvs_ints_inv : ∀ {is : List Int} {vs : List V}, DVs K F H vs (is.map Dt.int) → vs = is.map V.int
  | [], _, h => by cases h; rfl
  | i :: is, _, h => by
    cases h with
    | cons h1 h2 =>
      cases h1
      rw [dvs_ints_inv h2]; rfl
theorem dvs_bls_inv : ∀ {is : List Bool} {vs : List V}, DVs K F H vs (is.map Dt.bl) → vs = is.map V.bl
  | [], _, h => by cases h; rfl
  | i :: is, _, h => by
    cases h with
    | cons h1 h2 =>
      cases h1
      rw [dvs_bls_inv h2]; rfl

/-- what is seen of a value now -/
def BV (K : PySem.W.Frag) (F : As) (H : Hp) (v : V) : Dt → Prop
  | .lst ds => ∃ a vs, v = .ref a ∧ H a = some (.lst vs) ∧ DVs K F H vs ds
  | .dic ds => ∃ a, v = .ref a ∧ ((∃ kvs, RdK H a kvs ∧ DKs K F H kvs ds) ∨ ∃ kvs, RdT H a kvs ∧ DTs K F H kvs ds)
  | .non => DV K F H v .non
  | .bl b => DV K F H v (.bl b)
  | .int i => DV K F H v (.int i)
  | .str x => DV K F H v (.str x)
  | .tup ds => DV K F H v (.tup ds)
  | .scr ds => DV K F H v (.scr ds)
theorem DV.bv {v : V} {d : Dt} (h : DV K F H v d) : BV K F H v d := by
  cases h with
  | non => exact .non
  | bl b => exact .bl b
  | int i => exact .int i
  | str x => exact .str x
  | tup h hs => exact .tup h hs
  | lst _ h hs => exact ⟨_, _, rfl, h, hs⟩
  | scr h => exact .scr h
  | dk f h hs => exact ⟨_, rfl, .inl ⟨_, h, hs⟩⟩
  | dt f h hs => exact ⟨_, rfl, .inr ⟨_, h, hs⟩⟩
/-- a value that one name alone holds -/
def O1V (K : PySem.W.Frag) (F : As) (H : Hp) (S : As) (v : V) : Ow1 → Prop
  | .imm d => (∀ x, ¬ S x) ∧ DV K F H v d
  | .lst ds => ∃ a vs, v = .ref a ∧ (∀ x, S x ↔ x = a) ∧ H a = some (.lst vs) ∧ DVs K F H vs ds
  | .dic ds => ∃ a, v = .ref a ∧ (∀ x, S x ↔ x = a) ∧ ((∃ kvs, H a = some (.dK kvs) ∧ DKs K F H kvs ds) ∨ ∃ kvs, H a = some (.dT kvs) ∧ DTs K F H kvs ds)
/-- the fields of a record -/
structure FsV (K : PySem.W.Frag) (F : As) (H : Hp) (Sf : Nat → As) (kvs : List (Str × V)) (fs : List (Str × Ow1)) : Prop where
  len : kvs.length = fs.length
  nm : ∀ i p, fs[i]? = some p → ∃ w, kvs[i]? = some (p.1, w) ∧ O1V K F H (Sf i) w p.2
def OV (K : PySem.W.Frag) (F : As) (H : Hp) (L : As) (S : As) (v : V) : Ow → Prop
  | .p o => O1V K F H S v o
  | .lk d => (∀ x, ¬ S x) ∧ d.box = true ∧ (DV K F H v d ∨ ((∃ a, v = .ref a ∧ L a) ∧ BV K F H v d))
  | .rc fs => ∃ a kvs Sf, v = .ref a ∧ H a = some (.dK (kvs.map fun (p : Str × V) => ((.inr p.1 : Key), p.2))) ∧ FsV K F H Sf kvs fs ∧ (∀ i j x, Sf i x → Sf j x → i = j) ∧ (∀ i, ¬ Sf i a) ∧
      (∀ x, S x ↔ x = a ∨ ∃ i, i < fs.length ∧ Sf i x) ∧ (fs.map (·.1)).Nodup

variable {L L' S : As} {v : V}
theorem O1V.mono {o : Ow1} (hF : ∀ x, F x → F' x) (hH : ∀ x, F x → H' x = H x) (hS : ∀ x, S x → H' x = H x) (h : O1V K F H S v o) : O1V K F' H' S v o := by
  cases o with
  | imm d => exact ⟨h.1, h.2.mono hF hH⟩
  | lst ds =>
    obtain ⟨a, vs, e, s, q, r⟩ := h
    exact ⟨a, vs, e, s, (hS a ((s a).mpr rfl)).trans q, r.mono hF hH⟩
  | dic ds =>
    obtain ⟨a, e, s, q⟩ := h
    have ea := hS a ((s a).mpr rfl)
    exact ⟨a, e, s, q.imp (fun ⟨k, q, r⟩ => ⟨k, ea.trans q, r.mono hF hH⟩) fun ⟨k, q, r⟩ => ⟨k, ea.trans q, r.mono hF hH⟩⟩
theorem BV.mono {d : Dt} (hF : ∀ x, F x → F' x) (hH : ∀ x, F x → H' x = H x) (hv : ∀ a, v = .ref a → H' a = H a) (h : BV K F H v d) : BV K F' H' v d := by
  cases d with
  | lst ds =>
    obtain ⟨a, vs, e, q, r⟩ := h
    exact ⟨a, vs, e, (hv a e).trans q, r.mono hF hH⟩
  | dic ds =>
    obtain ⟨a, e, q⟩ := h
    exact ⟨a, e, q.imp (fun ⟨k, q, r⟩ => ⟨k, rdk_same q (hv a e), r.mono hF hH⟩) fun ⟨k, q, r⟩ => ⟨k, rdt_same q (hv a e), r.mono hF hH⟩⟩
  | non => exact DV.mono hF hH h
  | bl b => exact DV.mono hF hH h
  | int i => exact DV.mono hF hH h
  | str x => exact DV.mono hF hH h
  | tup ds => exact DV.mono hF hH h
  | scr ds => exact DV.mono hF hH h
theorem OV.mono {o : Ow} (hF : ∀ x, F x → F' x) (hH : ∀ x, F x → H' x = H x) (hS : ∀ x, S x → H' x = H x) (hL : ∀ x, L x → H' x = H x) (hl : ∀ x, L x → L' x) (h : OV K F H L S v o) : OV K F' H' L' S v o := by
  cases o with
  | p o => exact O1V.mono hF hH hS h
  | lk d =>
    obtain ⟨s, b, q⟩ := h
    refine ⟨s, b, q.imp (fun q => q.mono hF hH) fun ⟨⟨a, e, l⟩, q⟩ => ⟨⟨a, e, hl a l⟩, q.mono hF hH fun c ec => ?_⟩⟩
    obtain rfl : a = c := by rw [e] at ec; cases ec; rfl
    exact hL a l
  | rc fs =>
    obtain ⟨a, kvs, Sf, e, q, r, d1, d2, s, nd⟩ := h
    refine ⟨a, kvs, Sf, e, (hS a ((s a).mpr (.inl rfl))).trans q, ⟨r.len, fun i p hp => ?_⟩, d1, d2, s, nd⟩
    obtain ⟨w, h1, h2⟩ := r.nm i p hp
    have hi : i < fs.length := (List.getElem?_eq_some_iff.mp hp).1
    exact ⟨w, h1, h2.mono hF hH fun x hx => hS x ((s x).mpr (.inr ⟨i, hi, hx⟩))⟩
/-- what is seen of it -/
theorem O1V.bv {o : Ow1} (h : O1V K F H S v o) : BV K F H v o.dt := by
  cases o with
  | imm d => exact h.2.bv
  | lst ds =>
    obtain ⟨a, vs, e, s, q, r⟩ := h
    exact ⟨a, vs, e, q, r⟩
  | dic ds =>
    obtain ⟨a, e, s, q⟩ := h
    exact ⟨a, e, q.imp (fun ⟨k, q, r⟩ => ⟨k, .inl q, r⟩) fun ⟨k, q, r⟩ => ⟨k, .inl q, r⟩⟩
theorem OV.bv {o : Ow} {d : Dt} (h : OV K F H L S v o) (e : o.vw = some d) : BV K F H v d := by
  cases o with
  | p o =>
    obtain rfl : o.dt = d := by simpa [Ow.vw] using e
    exact O1V.bv h
  | lk c =>
    obtain rfl : c = d := by simpa [Ow.vw] using e
    exact h.2.2.elim (fun q => q.bv) fun q => q.2
  | rc fs => simp [Ow.vw] at e
/-- shared from now on -/
theorem O1V.frz {o : Ow1} (h : O1V K F H S v o) : DV K (fun x => F x ∨ S x) H v o.dt := by
  cases o with
  | imm d => exact h.2.mono (fun x hx => .inl hx) fun _ _ => rfl
  | lst ds =>
    obtain ⟨a, vs, e, s, q, r⟩ := h
    subst e
    exact .lst (.inr ((s a).mpr rfl)) q (r.mono (fun x hx => .inl hx) fun _ _ => rfl)
  | dic ds =>
    obtain ⟨a, e, s, q⟩ := h
    subst e
    rcases q with ⟨k, q, r⟩ | ⟨k, q, r⟩
    · exact .dk (.inr ((s a).mpr rfl)) (.inl q) (r.mono (fun x hx => .inl hx) fun _ _ => rfl)
    · exact .dt (.inr ((s a).mpr rfl)) (.inl q) (r.mono (fun x hx => .inl hx) fun _ _ => rfl)
end

/-! ### where a def stands -/
/-- what was so at the entry: the heap, what stands still, what may change; slots that keep their value -/
structure En0 where
  H : Hp
  F : As
  P : As
  fix : List (Nat × V)
structure Tp where
  v : V
  o : Ow
  T : As
abbrev noA : As := fun _ => False
/-- an address that one name alone holds -/
structure Okx (E : En0) (F : As) (H : Hp) (L : Nat → As) (x : Addr) : Prop where
  tr : H x ≠ none
  nf : ¬ F x
  nl : ∀ i, ¬ L i x
  or : E.P x ∨ E.H x = none
structure Sx (K : PySem.W.Frag) (E : En0) (F : As) (H : Hp) (S : Nat → As) (L : Nat → As) (σ : L2.St) (env : En) (Ts : List Tp) : Prop where
  len : env.length = σ.length
  sl : ∀ i o, getE env i = some o → ∃ v, σ[i]? = some (some v) ∧ OV K F H (L i) (S i) v o
  tm : ∀ t ∈ Ts, OV K F H noA t.T t.v t.o
  dS : ∀ i j x, S i x → S j x → i = j
  dT : Ts.Pairwise fun t u => ∀ x, t.T x → ¬ u.T x
  dST : ∀ t ∈ Ts, ∀ i x, t.T x → ¬ S i x
  oS : ∀ i x, S i x → Okx E F H L x
  oT : ∀ t ∈ Ts, ∀ x, t.T x → Okx E F H L x
  fr : ∀ x, F x → H x ≠ none ∧ (E.F x ∨ E.P x ∨ E.H x = none)
  ff : ∀ x, E.F x → F x
  lt : ∀ i x, L i x → H x ≠ none ∧ ¬ F x
  ag : ∀ x, E.H x ≠ none → ¬ E.P x → H x = E.H x
  tk : ∀ x, E.H x ≠ none → H x ≠ none
  fx : ∀ p ∈ E.fix, σ[p.1]? = some (some p.2)

theorem getE_some {env : En} {i : Nat} {o : Ow} (h : getE env i = some o) : env[i]? = some (some o) := by
  unfold getE at h
  split at h
  · rename_i q
    cases h
    exact q
  · cases h
theorem getE_of {env : En} {i : Nat} {o : Ow} (h : env[i]? = some (some o)) : getE env i = some o := by
  unfold getE
  rw [h]
theorem getE_lt {env : En} {i : Nat} {o : Ow} (h : getE env i = some o) : i < env.length := (List.getElem?_eq_some_iff.mp (getE_some h)).1
theorem getE_set {env : En} {i j : Nat} {x : Option Ow} (h : i < env.length) : getE (env.set i x) j = if j = i then x else getE env j := by
  unfold getE
  by_cases e : j = i
  · subst e
    rw [if_pos rfl, List.getElem?_set_self h]
    cases x <;> rfl
  · rw [if_neg e, List.getElem?_set_ne (Ne.symm e)]

section
variable {K : PySem.W.Frag} {E : En0} {F F' : As} {H H' : Hp} {S S' : Nat → As} {L L' : Nat → As} {σ : L2.St} {env : En} {Ts : List Tp} {t : Tp} {i : Nat} {v : V} {o : Ow} {T : As}
/-- the heap has grown, or changed at what the name i alone holds (or at no name's) -/
theorem Sx.change (h : Sx K E F H S L σ env Ts) (hF : ∀ x, F x → F' x) (hF' : ∀ x, F' x → F x ∨ (H x = none ∧ H' x ≠ none)) (hH : ∀ x, H x ≠ none → H' x = H x) : Sx K E F' H' S L σ env Ts := by
  have kF : ∀ x, F x → H' x = H x := fun x hx => hH x (h.fr x hx).1
  have kL : ∀ i x, L i x → H' x = H x := fun i x hx => hH x (h.lt i x hx).1
  have tr : ∀ x, H x ≠ none → H' x ≠ none := fun x hx => by rw [hH x hx]; exact hx
  have ok : ∀ x, Okx E F H L x → Okx E F' H' L x := fun x q => ⟨tr x q.tr, fun z => (hF' x z).elim q.nf fun z => q.tr z.1, q.nl, q.or⟩
  refine ⟨h.len, fun i o e => ?_, fun t ht => ?_, h.dS, h.dT, h.dST, fun i x q => ok x (h.oS i x q), fun t ht x q => ok x (h.oT t ht x q), fun x hx => ?_, fun x hx => hF x (h.ff x hx), fun i x hx => ⟨tr x (h.lt i x hx).1, fun z => (hF' x z).elim (h.lt i x hx).2 fun z => (h.lt i x hx).1 z.1⟩, fun x e n => ?_, fun x e => tr x (h.tk x e), h.fx⟩
  · obtain ⟨v, e1, e2⟩ := h.sl i o e
    exact ⟨v, e1, e2.mono hF kF (fun x hx => hH x (h.oS i x hx).tr) (kL i) fun _ z => z⟩
  · exact (h.tm t ht).mono hF kF (fun x hx => hH x (h.oT t ht x hx).tr) (fun _ z => z.elim) fun _ z => z
  · rcases hF' x hx with z | z
    · exact ⟨tr x (h.fr x z).1, (h.fr x z).2⟩
    · refine ⟨z.2, ?_⟩
      cases q : E.H x with
      | none => exact .inr (.inr rfl)
      | some u => exact absurd z.1 (h.tk x (by rw [q]; simp))
  · rw [hH x (h.tk x e)]
    exact h.ag x e n
/-- one more value at hand -/
theorem Sx.push (h : Sx K E F H S L σ env Ts) (hv : OV K F H noA T v o) (ok : ∀ x, T x → Okx E F H L x) (d1 : ∀ t ∈ Ts, ∀ x, T x → ¬ t.T x) (d2 : ∀ i x, T x → ¬ S i x) : Sx K E F H S L σ env (⟨v, o, T⟩ :: Ts) :=
  ⟨h.len, h.sl, fun t ht => (List.mem_cons.mp ht).elim (fun e => by subst e; exact hv) (h.tm t), h.dS, List.pairwise_cons.mpr ⟨d1, h.dT⟩, fun t ht => (List.mem_cons.mp ht).elim (fun e => by subst e; exact d2) (h.dST t), h.oS,
    fun t ht => (List.mem_cons.mp ht).elim (fun e => by subst e; exact ok) (h.oT t), h.fr, h.ff, h.lt, h.ag, h.tk, h.fx⟩
/-- a value that holds nothing alone -/
theorem Sx.pushI (h : Sx K E F H S L σ env Ts) {d : Dt} (hv : DV K F H v d) : Sx K E F H S L σ env (⟨v, im d, fun _ => False⟩ :: Ts) :=
  h.push (show O1V K F H _ v (.imm d) from ⟨fun _ z => z, hv⟩) (fun _ z => z.elim) (fun _ _ _ z => z.elim) fun _ _ z => z.elim
/-- a new object -/
theorem Sx.fresh (h : Sx K E F H S L σ env Ts) (hF : ∀ x, F x → F' x) (hF' : ∀ x, F' x → F x ∨ (H x = none ∧ H' x ≠ none)) (hH : ∀ x, H x ≠ none → H' x = H x) (hT : ∀ x, T x → H x = none ∧ H' x ≠ none ∧ ¬ F' x) (hv : OV K F' H' noA T v o) :
    Sx K E F' H' S L σ env (⟨v, o, T⟩ :: Ts) := by
  refine (h.change hF hF' hH).push hv (fun x hx => ?_) (fun t ht x hx z => (h.oT t ht x z).tr (hT x hx).1) fun i x hx z => (h.oS i x z).tr (hT x hx).1
  refine ⟨(hT x hx).2.1, (hT x hx).2.2, fun i z => (h.lt i x z).1 (hT x hx).1, ?_⟩
  cases q : E.H x with
  | none => exact .inr rfl
  | some u => exact absurd (hT x hx).1 (h.tk x (by rw [q]; simp))
theorem Sx.pop (h : Sx K E F H S L σ env (t :: Ts)) : Sx K E F H S L σ env Ts :=
  ⟨h.len, h.sl, fun u hu => h.tm u (List.mem_cons_of_mem _ hu), h.dS, (List.pairwise_cons.mp h.dT).2, fun u hu => h.dST u (List.mem_cons_of_mem _ hu), h.oS, fun u hu => h.oT u (List.mem_cons_of_mem _ hu), h.fr, h.ff, h.lt, h.ag, h.tk, h.fx⟩
/-- only some values at hand -/
theorem Sx.sub {Us : List Tp} (h : Sx K E F H S L σ env Ts) (hs : Us.Sublist Ts) : Sx K E F H S L σ env Us :=
  ⟨h.len, h.sl, fun u hu => h.tm u (hs.subset hu), h.dS, h.dT.sublist hs, fun u hu => h.dST u (hs.subset hu), h.oS, fun u hu => h.oT u (hs.subset hu), h.fr, h.ff, h.lt, h.ag, h.tk, h.fx⟩
/-- a value is stored -/
theorem Sx.store (h : Sx K E F H S L σ env (⟨v, o, T⟩ :: Ts)) (hi : i < env.length) (hx : ∀ p ∈ E.fix, p.1 ≠ i) : Sx K E F H (fun j => if j = i then T else S j) L (σ.set i (some v)) (env.set i (some o)) Ts := by
  have hiσ : i < σ.length := by rw [← h.len]; exact hi
  have dd : ∀ j x, T x → ¬ S j x := fun j x hx => h.dST _ List.mem_cons_self j x hx
  refine ⟨by simpa using h.len, fun j u e => ?_, fun u hu => h.tm u (List.mem_cons_of_mem _ hu), fun j k x a b => ?_, (List.pairwise_cons.mp h.dT).2, fun u hu j x a b => ?_, fun j x a => ?_, fun u hu => h.oT u (List.mem_cons_of_mem _ hu), h.fr, h.ff, h.lt, h.ag, h.tk, fun p hp => ?_⟩
  · rw [getE_set hi] at e
    by_cases ej : j = i
    · subst ej
      rw [if_pos rfl] at e
      cases e
      refine ⟨v, by rw [List.getElem?_set_self hiσ], ?_⟩
      rw [if_pos rfl]
      exact (h.tm _ List.mem_cons_self).mono (fun _ z => z) (fun _ _ => rfl) (fun _ _ => rfl) (fun _ _ => rfl) fun _ z => z.elim
    · rw [if_neg ej] at e
      obtain ⟨w, e1, e2⟩ := h.sl j u e
      refine ⟨w, by rw [List.getElem?_set_ne (Ne.symm ej)]; exact e1, ?_⟩
      rw [if_neg ej]
      exact e2
  · by_cases ej : j = i
    · by_cases ek : k = i
      · rw [ej, ek]
      · rw [if_pos ej] at a; rw [if_neg ek] at b
        exact absurd b (dd k x a)
    · by_cases ek : k = i
      · rw [if_neg ej] at a; rw [if_pos ek] at b
        exact absurd a (dd j x b)
      · rw [if_neg ej] at a; rw [if_neg ek] at b
        exact h.dS j k x a b
  · by_cases ej : j = i
    · rw [if_pos ej] at b
      exact (List.pairwise_cons.mp h.dT).1 u hu x b a
    · rw [if_neg ej] at b
      exact h.dST u (List.mem_cons_of_mem _ hu) j x a b
  · by_cases ej : j = i
    · rw [if_pos ej] at a
      exact h.oT _ List.mem_cons_self x a
    · rw [if_neg ej] at a
      exact h.oS j x a
  · rw [List.getElem?_set_ne (Ne.symm (hx p hp))]
    exact h.fx p hp
/-- what the name i alone holds has changed -/
theorem Sx.write {o' : Ow} {S1 : As} (h : Sx K E F H S L σ env Ts) (hg : getE env i = some o) (hs : ∀ x, S1 x → S i x) (hH : ∀ x, ¬ S i x → H' x = H x) (hS : ∀ x, S i x → H' x ≠ none) (hv : ∀ v, σ[i]? = some (some v) → OV K F H' (L i) S1 v o') :
    Sx K E F H' (fun j => if j = i then S1 else S j) L σ (env.set i (some o')) Ts := by
  have hi := getE_lt hg
  have nF : ∀ x, F x → ¬ S i x := fun x hx z => (h.oS i x z).nf hx
  have nL : ∀ j x, L j x → ¬ S i x := fun j x hx z => (h.oS i x z).nl j hx
  have kF : ∀ x, F x → H' x = H x := fun x hx => hH x (nF x hx)
  have kL : ∀ j x, L j x → H' x = H x := fun j x hx => hH x (nL j x hx)
  have tr : ∀ x, H x ≠ none → H' x ≠ none := fun x hx => by
    by_cases q : S i x
    · exact hS x q
    · rw [hH x q]; exact hx
  have ok : ∀ x, Okx E F H L x → Okx E F H' L x := fun x q => ⟨tr x q.tr, q.nf, q.nl, q.or⟩
  have sub : ∀ j x, (if j = i then S1 else S j) x → S j x := fun j x z => by
    by_cases e : j = i
    · rw [if_pos e] at z
      rw [e]; exact hs x z
    · rw [if_neg e] at z; exact z
  refine ⟨by simpa using h.len, fun j u e => ?_, fun u hu => (h.tm u hu).mono (fun _ z => z) kF (fun x hx => hH x (h.dST u hu i x hx)) (fun _ z => z.elim) fun _ z => z, fun j k x a b => h.dS j k x (sub j x a) (sub k x b), h.dT, fun u hu j x a b => h.dST u hu j x a (sub j x b), fun j x q => ok x (h.oS j x (sub j x q)), fun u hu x q => ok x (h.oT u hu x q), fun x hx => ⟨tr x (h.fr x hx).1, (h.fr x hx).2⟩, h.ff, fun j x hx => ⟨tr x (h.lt j x hx).1, (h.lt j x hx).2⟩, fun x e n => ?_, fun x e => tr x (h.tk x e), h.fx⟩
  · rw [getE_set hi] at e
    by_cases ej : j = i
    · subst ej
      rw [if_pos rfl] at e
      cases e
      obtain ⟨w, e1, _⟩ := h.sl j o hg
      rw [if_pos rfl]
      exact ⟨w, e1, hv w e1⟩
    · rw [if_neg ej] at e
      obtain ⟨w, e1, e2⟩ := h.sl j u e
      rw [if_neg ej]
      exact ⟨w, e1, e2.mono (fun _ z => z) kF (fun x hx => hH x fun z => ej (h.dS j i x hx z)) (kL j) fun _ z => z⟩
  · have nS : ¬ S i x := fun z => (h.oS i x z).or.elim n e
    rw [hH x nS]
    exact h.ag x e n
/-- what the name i holds is shared from now on -/
theorem Sx.frz {o1 : Ow1} (h : Sx K E F H S L σ env Ts) (hg : getE env i = some (.p o1)) : Sx K E (fun x => F x ∨ S i x) H (fun j => if j = i then fun _ => False else S j) L σ (env.set i (some (im o1.dt))) Ts ∧ ∃ v, σ[i]? = some (some v) ∧ DV K (fun x => F x ∨ S i x) H v o1.dt := by
  have hi := getE_lt hg
  obtain ⟨w, ew, ow⟩ := h.sl i _ hg
  have hd : DV K (fun x => F x ∨ S i x) H w o1.dt := O1V.frz ow
  refine ⟨⟨by simpa using h.len, fun j u e => ?_, fun u hu => (h.tm u hu).mono (fun _ z => .inl z) (fun _ _ => rfl) (fun _ _ => rfl) (fun _ _ => rfl) fun _ z => z, fun j k x a b => ?_, h.dT, fun u hu j x a b => ?_, fun j x a => ?_, fun u hu x a => ?_, fun x hx => ?_, fun x hx => .inl (h.ff x hx), fun j x hx => ⟨(h.lt j x hx).1, fun z => z.elim (h.lt j x hx).2 fun z => (h.oS i x z).nl j hx⟩, h.ag, h.tk, h.fx⟩, w, ew, hd⟩
  · rw [getE_set hi] at e
    by_cases ej : j = i
    · subst ej
      rw [if_pos rfl] at e
      cases e
      refine ⟨w, ew, ?_⟩
      rw [if_pos rfl]
      exact ⟨fun _ z => z, hd⟩
    · rw [if_neg ej] at e
      obtain ⟨y, e1, e2⟩ := h.sl j u e
      refine ⟨y, e1, ?_⟩
      rw [if_neg ej]
      exact e2.mono (fun _ z => .inl z) (fun _ _ => rfl) (fun _ _ => rfl) (fun _ _ => rfl) fun _ z => z
  · by_cases ej : j = i
    · rw [if_pos ej] at a; exact a.elim
    · by_cases ek : k = i
      · rw [if_pos ek] at b; exact b.elim
      · rw [if_neg ej] at a; rw [if_neg ek] at b
        exact h.dS j k x a b
  · by_cases ej : j = i
    · rw [if_pos ej] at b; exact b.elim
    · rw [if_neg ej] at b
      exact h.dST u hu j x a b
  · by_cases ej : j = i
    · rw [if_pos ej] at a; exact a.elim
    · rw [if_neg ej] at a
      have q := h.oS j x a
      exact ⟨q.tr, fun z => z.elim q.nf fun z => ej (h.dS j i x a z), q.nl, q.or⟩
  · have q := h.oT u hu x a
    exact ⟨q.tr, fun z => z.elim q.nf fun z => h.dST u hu i x a z, q.nl, q.or⟩
  · rcases hx with z | z
    · exact h.fr x z
    · have q := h.oS i x z
      exact ⟨q.tr, .inr q.or⟩
/-- the value at hand is shared from now on -/
theorem Sx.frzT {o1 : Ow1} (h : Sx K E F H S L σ env (⟨v, .p o1, T⟩ :: Ts)) : Sx K E (fun x => F x ∨ T x) H S L σ env Ts ∧ DV K (fun x => F x ∨ T x) H v o1.dt := by
  have hd : DV K (fun x => F x ∨ T x) H v o1.dt := O1V.frz (h.tm _ List.mem_cons_self)
  have hp := List.pairwise_cons.mp h.dT
  refine ⟨⟨h.len, fun j u e => ?_, fun u hu => (h.tm u (List.mem_cons_of_mem _ hu)).mono (fun _ z => .inl z) (fun _ _ => rfl) (fun _ _ => rfl) (fun _ _ => rfl) fun _ z => z, h.dS, hp.2, fun u hu => h.dST u (List.mem_cons_of_mem _ hu), fun j x a => ?_, fun u hu x a => ?_, fun x hx => ?_, fun x hx => .inl (h.ff x hx), fun j x hx => ⟨(h.lt j x hx).1, fun z => z.elim (h.lt j x hx).2 fun z => (h.oT _ List.mem_cons_self x z).nl j hx⟩, h.ag, h.tk, h.fx⟩, hd⟩
  · obtain ⟨y, e1, e2⟩ := h.sl j u e
    exact ⟨y, e1, e2.mono (fun _ z => .inl z) (fun _ _ => rfl) (fun _ _ => rfl) (fun _ _ => rfl) fun _ z => z⟩
  · have q := h.oS j x a
    exact ⟨q.tr, fun z => z.elim q.nf fun z => h.dST _ List.mem_cons_self j x z a, q.nl, q.or⟩
  · have q := h.oT u (List.mem_cons_of_mem _ hu) x a
    exact ⟨q.tr, fun z => z.elim q.nf fun z => hp.1 u hu x z a, q.nl, q.or⟩
  · rcases hx with z | z
    · exact h.fr x z
    · have q := h.oT _ List.mem_cons_self x z
      exact ⟨q.tr, .inr q.or⟩
/-- the name i gives its object away -/
theorem Sx.take (h : Sx K E F H S L σ env Ts) (hg : getE env i = some o) (hl : ∀ d, o ≠ .lk d) : ∃ v, σ[i]? = some (some v) ∧ Sx K E F H (fun j => if j = i then noA else S j) L σ (env.set i none) (⟨v, o, S i⟩ :: Ts) := by
  have hi := getE_lt hg
  obtain ⟨w, ew, ow⟩ := h.sl i _ hg
  have ow' : OV K F H noA (S i) w o := by
    cases o with
    | p o => exact ow
    | lk d => exact absurd rfl (hl d)
    | rc fs => exact ow
  refine ⟨w, ew, Sx.push ⟨by simpa using h.len, fun j u e => ?_, h.tm, fun j k x a b => ?_, h.dT, fun u hu j x a b => ?_, fun j x a => ?_, h.oT, h.fr, h.ff, h.lt, h.ag, h.tk, h.fx⟩ ow' (h.oS i) (fun u hu x a b => h.dST u hu i x b a) fun j x a b => ?_⟩
  · rw [getE_set hi] at e
    by_cases ej : j = i
    · rw [if_pos ej] at e; cases e
    · rw [if_neg ej] at e
      rw [if_neg ej]
      exact h.sl j u e
  · by_cases ej : j = i
    · rw [if_pos ej] at a; exact a.elim
    · by_cases ek : k = i
      · rw [if_pos ek] at b; exact b.elim
      · rw [if_neg ej] at a; rw [if_neg ek] at b
        exact h.dS j k x a b
  · by_cases ej : j = i
    · rw [if_pos ej] at b; exact b.elim
    · rw [if_neg ej] at b
      exact h.dST u hu j x a b
  · by_cases ej : j = i
    · rw [if_pos ej] at a; exact a.elim
    · rw [if_neg ej] at a
      exact h.oS j x a
  · by_cases ej : j = i
    · rw [if_pos ej] at b; exact b.elim
    · rw [if_neg ej] at b
      exact ej (h.dS j i x b a)
/-- the values Us at hand become one value -/
theorem Sx.fuse {Us : List Tp} (h : Sx K E F H S L σ env (Us ++ Ts)) (hH : ∀ x, (¬ ∃ u ∈ Us, u.T x) → H' x = H x) (tr : ∀ x, (∃ u ∈ Us, u.T x) → H' x ≠ none) (hT : ∀ x, T x → ∃ u ∈ Us, u.T x) (hv : OV K F H' noA T v o) : Sx K E F H' S L σ env (⟨v, o, T⟩ :: Ts) := by
  have mU : ∀ u, u ∈ Us → u ∈ Us ++ Ts := fun u hu => List.mem_append_left _ hu
  have mT : ∀ u, u ∈ Ts → u ∈ Us ++ Ts := fun u hu => List.mem_append_right _ hu
  have pw := List.pairwise_append.mp h.dT
  have nF : ∀ x, F x → ¬ ∃ u ∈ Us, u.T x := fun x hx ⟨u, hu, z⟩ => (h.oT u (mU u hu) x z).nf hx
  have nS : ∀ i x, S i x → ¬ ∃ u ∈ Us, u.T x := fun i x hx ⟨u, hu, z⟩ => h.dST u (mU u hu) i x z hx
  have nL : ∀ i x, L i x → ¬ ∃ u ∈ Us, u.T x := fun i x hx ⟨u, hu, z⟩ => (h.oT u (mU u hu) x z).nl i hx
  have nT : ∀ t ∈ Ts, ∀ x, t.T x → ¬ ∃ u ∈ Us, u.T x := fun t ht x hx ⟨u, hu, z⟩ => pw.2.2 u hu t ht x z hx
  have tr' : ∀ x, H x ≠ none → H' x ≠ none := fun x hx => by
    by_cases q : ∃ u ∈ Us, u.T x
    · exact tr x q
    · rw [hH x q]; exact hx
  have ok : ∀ x, Okx E F H L x → Okx E F H' L x := fun x q => ⟨tr' x q.tr, q.nf, q.nl, q.or⟩
  refine Sx.push ⟨h.len, fun i u e => ?_, fun t ht => (h.tm t (mT t ht)).mono (fun _ z => z) (fun x hx => hH x (nF x hx)) (fun x hx => hH x (nT t ht x hx)) (fun _ z => z.elim) fun _ z => z, h.dS, pw.2.1, fun t ht => h.dST t (mT t ht), fun i x q => ok x (h.oS i x q), fun t ht x q => ok x (h.oT t (mT t ht) x q), fun x hx => ⟨tr' x (h.fr x hx).1, (h.fr x hx).2⟩, h.ff, fun i x hx => ⟨tr' x (h.lt i x hx).1, (h.lt i x hx).2⟩, fun x e n => ?_, fun x e => tr' x (h.tk x e), h.fx⟩ hv (fun x hx => ?_) (fun t ht x hx z => nT t ht x z (hT x hx)) fun i x hx z => nS i x z (hT x hx)
  · obtain ⟨w, e1, e2⟩ := h.sl i u e
    exact ⟨w, e1, e2.mono (fun _ z => z) (fun x hx => hH x (nF x hx)) (fun x hx => hH x (nS i x hx)) (fun x hx => hH x (nL i x hx)) fun _ z => z⟩
  · have nn : ¬ ∃ u ∈ Us, u.T x := fun ⟨u, hu, z⟩ => (h.oT u (mU u hu) x z).or.elim n e
    rw [hH x nn]
    exact h.ag x e n
  · obtain ⟨u, hu, z⟩ := hT x hx
    exact ok x (h.oT u (mU u hu) x z)
/-- what a loop goes through is locked -/
theorem Sx.lock {o1 : Ow1} (h : Sx K E F H S L σ env Ts) (hg : getE env i = some (.p o1)) (hb : o1.dt.box = true) (hn : o1.isImm = false) : Sx K E F H (fun j => if j = i then noA else S j) (fun j => if j = i then (fun x => S i x ∨ L i x) else L j) σ (env.set i (some (.lk o1.dt))) Ts := by
  have hi := getE_lt hg
  obtain ⟨w, ew, ow⟩ := h.sl i _ hg
  have sub : ∀ j x, (if j = i then noA else S j) x → S j x ∧ j ≠ i := fun j x z => by
    by_cases e : j = i
    · rw [if_pos e] at z; exact z.elim
    · rw [if_neg e] at z; exact ⟨z, e⟩
  have lk : ∀ j x, (if j = i then (fun x => S i x ∨ L i x) else L j) x → S i x ∨ L j x := fun j x z => by
    by_cases e : j = i
    · rw [if_pos e] at z; rw [e]; exact z
    · rw [if_neg e] at z; exact .inr z
  refine ⟨by simpa using h.len, fun j u e => ?_, h.tm, fun j k x a b => h.dS j k x (sub j x a).1 (sub k x b).1, h.dT, fun u hu j x a b => h.dST u hu j x a (sub j x b).1, fun j x q => ?_, fun u hu x q => ?_, h.fr, h.ff, fun j x hx => ?_, h.ag, h.tk, h.fx⟩
  · rw [getE_set hi] at e
    by_cases ej : j = i
    · subst ej
      rw [if_pos rfl] at e
      cases e
      rw [if_pos rfl, if_pos rfl]
      refine ⟨w, ew, fun _ z => z, hb, .inr ⟨?_, O1V.bv ow⟩⟩
      cases o1 with
      | imm d => cases hn
      | lst ds =>
        obtain ⟨a, vs, e, s, _⟩ := ow
        exact ⟨a, e, .inl ((s a).mpr rfl)⟩
      | dic ds =>
        obtain ⟨a, e, s, _⟩ := ow
        exact ⟨a, e, .inl ((s a).mpr rfl)⟩
    · rw [if_neg ej] at e
      rw [if_neg ej, if_neg ej]
      exact h.sl j u e
  · obtain ⟨a, ne⟩ := sub j x q
    have z := h.oS j x a
    exact ⟨z.tr, z.nf, fun k hk => (lk k x hk).elim (fun y => ne (h.dS j i x a y)) fun y => z.nl k y, z.or⟩
  · have z := h.oT u hu x q
    exact ⟨z.tr, z.nf, fun k hk => (lk k x hk).elim (fun y => h.dST u hu i x q y) fun y => z.nl k y, z.or⟩
  · rcases lk j x hx with y | y
    · exact ⟨(h.oS i x y).tr, (h.oS i x y).nf⟩
    · exact h.lt j x y
/-- it is unlocked again: what stands there is what stood there -/
theorem Sx.unlock {o1 : Ow1} {S0 L0 : As} (h : Sx K E F H S L σ env Ts) (hi : i < env.length) (hv : σ[i]? = some (some v)) (ho : O1V K F H S0 v o1) (hS : ∀ x, S0 x → L i x ∧ (E.P x ∨ E.H x = none) ∧ (∀ j, j ≠ i → ¬ L j x) ∧ ¬ L0 x)
    (hL0 : ∀ x, L0 x → L i x) :
    Sx K E F H (fun j => if j = i then S0 else S j) (fun j => if j = i then L0 else L j) σ (env.set i (some (.p o1))) Ts := by
  have nS : ∀ j x, S j x → ¬ S0 x := fun j x a b => (h.oS j x a).nl i (hS x b).1
  have hT : ∀ t ∈ Ts, ∀ x, t.T x → ¬ S0 x := fun t ht x a b => (h.oT t ht x a).nl i (hS x b).1
  have hL : ∀ x, L0 x → H x ≠ none ∧ ¬ F x := fun x a => h.lt i x (hL0 x a)
  have hLS : ∀ j x, S j x → ¬ L0 x := fun j x a b => (h.oS j x a).nl i (hL0 x b)
  have hLT : ∀ t ∈ Ts, ∀ x, t.T x → ¬ L0 x := fun t ht x a b => (h.oT t ht x a).nl i (hL0 x b)
  have lk : ∀ j x, (if j = i then L0 else L j) x → (j = i ∧ L0 x) ∨ (j ≠ i ∧ L j x) := fun j x z => by
    by_cases e : j = i
    · rw [if_pos e] at z; exact .inl ⟨e, z⟩
    · rw [if_neg e] at z; exact .inr ⟨e, z⟩
  have sb : ∀ j x, (if j = i then S0 else S j) x → (j = i ∧ S0 x) ∨ (j ≠ i ∧ S j x) := fun j x z => by
    by_cases e : j = i
    · rw [if_pos e] at z; exact .inl ⟨e, z⟩
    · rw [if_neg e] at z; exact .inr ⟨e, z⟩
  refine ⟨by simpa using h.len, fun j u e => ?_, h.tm, fun j k x a b => ?_, h.dT, fun u hu j x a b => (sb j x b).elim (fun y => hT u hu x a y.2) fun y => h.dST u hu j x a y.2, fun j x q => ?_, fun u hu x q => ?_, h.fr, h.ff, fun j x hx => (lk j x hx).elim (fun y => hL x y.2) fun y => h.lt j x y.2, h.ag, h.tk, h.fx⟩
  · rw [getE_set hi] at e
    by_cases ej : j = i
    · subst ej
      rw [if_pos rfl] at e
      cases e
      rw [if_pos rfl, if_pos rfl]
      exact ⟨v, hv, ho⟩
    · rw [if_neg ej] at e
      rw [if_neg ej, if_neg ej]
      exact h.sl j u e
  · rcases sb j x a with y | y
    · rcases sb k x b with z | z
      · rw [y.1, z.1]
      · exact absurd y.2 (nS k x z.2)
    · rcases sb k x b with z | z
      · exact absurd z.2 (nS j x y.2)
      · exact h.dS j k x y.2 z.2
  · rcases sb j x q with y | y
    · obtain ⟨a, b, c, d⟩ := hS x y.2
      exact ⟨(h.lt i x a).1, (h.lt i x a).2, fun k hk => (lk k x hk).elim (fun z => d z.2) fun z => c k z.1 z.2, b⟩
    · have z := h.oS j x y.2
      exact ⟨z.tr, z.nf, fun k hk => (lk k x hk).elim (fun w => hLS j x y.2 w.2) fun w => z.nl k w.2, z.or⟩
  · have z := h.oT u hu x q
    exact ⟨z.tr, z.nf, fun k hk => (lk k x hk).elim (fun w => hLT u hu x q w.2) fun w => z.nl k w.2, z.or⟩
/-- a slot's value is named anew -/
theorem Sx.reset (h : Sx K E F H S L σ env Ts) (hi : i < env.length) (hv : σ[i]? = some (some v)) (ho : OV K F H (L i) noA v o) : Sx K E F H (fun j => if j = i then noA else S j) L σ (env.set i (some o)) Ts := by
  have sub : ∀ j x, (if j = i then noA else S j) x → S j x := fun j x z => by
    by_cases e : j = i
    · rw [if_pos e] at z; exact z.elim
    · rw [if_neg e] at z; exact z
  refine ⟨by simpa using h.len, fun j u e => ?_, h.tm, fun j k x a b => h.dS j k x (sub j x a) (sub k x b), h.dT, fun u hu j x a b => h.dST u hu j x a (sub j x b), fun j x q => h.oS j x (sub j x q), h.oT, h.fr, h.ff, h.lt, h.ag, h.tk, h.fx⟩
  rw [getE_set hi] at e
  by_cases ej : j = i
  · subst ej
    rw [if_pos rfl] at e
    cases e
    rw [if_pos rfl]
    exact ⟨v, hv, ho⟩
  · rw [if_neg ej] at e
    rw [if_neg ej]
    exact h.sl j u e
/-- what locking a slot has done, and how it is undone -/
structure Lkd (K : PySem.W.Frag) (E : En0) (F : As) (H : Hp) (S L : Nat → As) (σ : L2.St) (env : En) (Ts : List Tp) (i : Nat) (S1 L1 : Nat → As) (env1 : En) : Prop where
  s1 : Sx K E F H S1 L1 σ env1 Ts
  sub : ∀ j x, S1 j x → S j x
  len : env1.length = env.length
  oth : ∀ j, j ≠ i → getE env1 j = getE env j
  back : ∀ {F2 : As} {H2 : Hp} {S2 : Nat → As} {σ2 : L2.St} {env2 : En} {Us : List Tp}, Sx K E F2 H2 S2 L1 σ2 env2 Us → σ2[i]? = σ[i]? → (∀ x, H x ≠ none → (∀ j, ¬ S1 j x) → H2 x = H x) → (∀ x, F x → F2 x) → i < env2.length →
    ∃ S3, Sx K E F2 H2 S3 L σ2 (env2.set i (env.getD i none)) Us
theorem getD_of {env : En} {i : Nat} {o : Ow} (h : getE env i = some o) : env.getD i none = some o := by
  have := getE_some h
  rw [List.getD_eq_getElem?_getD, this]; rfl
theorem lock_slot {env1 : En} {d : Dt} (h : Sx K E F H S L σ env Ts) (hg : getE env i = some o) (hd : o.vw = some d) (hl : lockE env (.v i) = some env1) : ∃ S1 L1, Lkd K E F H S L σ env Ts i S1 L1 env1 := by
  simp only [lockE, hg] at hl
  have kF : ∀ {H2 : Hp} {S1 : Nat → As}, (∀ j x, S1 j x → S j x) → (∀ x, H x ≠ none → (∀ j, ¬ S1 j x) → H2 x = H x) → ∀ x, F x → H2 x = H x := fun hs hp x hx => hp x (h.fr x hx).1 fun j z => (h.oS j x (hs j x z)).nf hx
  have kL : ∀ {H2 : Hp} {S1 : Nat → As}, (∀ j x, S1 j x → S j x) → (∀ x, H x ≠ none → (∀ j, ¬ S1 j x) → H2 x = H x) → ∀ x, L i x → H2 x = H x := fun hs hp x hx => hp x (h.lt i x hx).1 fun j z => (h.oS j x (hs j x z)).nl i hx
  -- a slot whose object is not locked anew
  have soft : (∀ o1, o = .p o1 → ∃ c, o1 = .imm c) → env1 = env → ∃ S1 L1, Lkd K E F H S L σ env Ts i S1 L1 env1 := fun hs he => by
    subst he
    refine ⟨S, L, h, fun _ _ z => z, rfl, fun _ _ => rfl, fun {F2 H2 S2 σ2 env2 Us} s2 hσ hp hF hi => ?_⟩
    obtain ⟨v, ev, ov⟩ := h.sl i o hg
    rw [getD_of hg]
    have kF' := kF (S1 := S) (fun _ _ z => z) hp
    have kL' := kL (S1 := S) (fun _ _ z => z) hp
    refine ⟨_, s2.reset (v := v) (o := o) hi (by rw [hσ]; exact ev) ?_⟩
    have on : OV K F H (L i) noA v o := by
      cases o with
      | p o1 =>
        obtain ⟨c, rfl⟩ := hs o1 rfl
        exact ⟨fun _ z => z, ov.2⟩
      | lk c => exact ⟨fun _ z => z, ov.2⟩
      | rc fs => cases hd
    exact on.mono hF kF' (fun _ z => z.elim) kL' fun _ z => z
  cases o with
  | lk c => cases hl; exact soft (fun _ q => (nomatch q)) rfl
  | rc fs => cases hd
  | p o1 =>
    cases o1 with
    | imm c => cases hl; exact soft (fun o1 q => by cases q; exact ⟨c, rfl⟩) rfl
    | lst ds =>
      cases hl
      have s1 := h.lock hg rfl rfl
      refine ⟨_, _, s1, fun j x z => ?_, by simp, fun j hj => by rw [getE_set (getE_lt hg), if_neg hj], fun {F2 H2 S2 σ2 env2 Us} s2 hσ hp hF hi => ?_⟩
      · by_cases e : j = i
        · rw [if_pos e] at z; exact z.elim
        · rw [if_neg e] at z; exact z
      · obtain ⟨v, ev, ov⟩ := h.sl i _ hg
        rw [getD_of hg]
        have sb : ∀ j x, (if j = i then noA else S j) x → S j x := fun j x z => by
          by_cases e : j = i
          · rw [if_pos e] at z; exact z.elim
          · rw [if_neg e] at z; exact z
        have kS : ∀ x, S i x → H2 x = H x := fun x hx => hp x (h.oS i x hx).tr fun j z => by
          by_cases e : j = i
          · rw [if_pos e] at z; exact z
          · rw [if_neg e] at z; exact e (h.dS j i x z hx)
        have q := s2.unlock (i := i) (v := v) (o1 := .lst ds) (S0 := S i) (L0 := L i) hi (by rw [hσ]; exact ev) (O1V.mono (o := .lst ds) hF (kF sb hp) kS ov) (fun x hx => ⟨by rw [if_pos rfl]; exact .inl hx, (h.oS i x hx).or, fun j hj => by rw [if_neg hj]; exact (h.oS i x hx).nl j, (h.oS i x hx).nl i⟩) fun x hx => by rw [if_pos rfl]; exact .inr hx
        have eL : (fun j => if j = i then L i else (if j = i then (fun x => S i x ∨ L i x) else L j)) = L := by
          funext j
          by_cases e : j = i
          · rw [if_pos e, e]
          · rw [if_neg e, if_neg e]
        rw [eL] at q
        exact ⟨_, q⟩
    | dic ds =>
      cases hl
      have s1 := h.lock hg rfl rfl
      refine ⟨_, _, s1, fun j x z => ?_, by simp, fun j hj => by rw [getE_set (getE_lt hg), if_neg hj], fun {F2 H2 S2 σ2 env2 Us} s2 hσ hp hF hi => ?_⟩
      · by_cases e : j = i
        · rw [if_pos e] at z; exact z.elim
        · rw [if_neg e] at z; exact z
      · obtain ⟨v, ev, ov⟩ := h.sl i _ hg
        rw [getD_of hg]
        have sb : ∀ j x, (if j = i then noA else S j) x → S j x := fun j x z => by
          by_cases e : j = i
          · rw [if_pos e] at z; exact z.elim
          · rw [if_neg e] at z; exact z
        have kS : ∀ x, S i x → H2 x = H x := fun x hx => hp x (h.oS i x hx).tr fun j z => by
          by_cases e : j = i
          · rw [if_pos e] at z; exact z
          · rw [if_neg e] at z; exact e (h.dS j i x z hx)
        have q := s2.unlock (i := i) (v := v) (o1 := .dic ds) (S0 := S i) (L0 := L i) hi (by rw [hσ]; exact ev) (O1V.mono (o := .dic ds) hF (kF sb hp) kS ov) (fun x hx => ⟨by rw [if_pos rfl]; exact .inl hx, (h.oS i x hx).or, fun j hj => by rw [if_neg hj]; exact (h.oS i x hx).nl j, (h.oS i x hx).nl i⟩) fun x hx => by rw [if_pos rfl]; exact .inr hx
        have eL : (fun j => if j = i then L i else (if j = i then (fun x => S i x ∨ L i x) else L j)) = L := by
          funext j
          by_cases e : j = i
          · rw [if_pos e, e]
          · rw [if_neg e, if_neg e]
        rw [eL] at q
        exact ⟨_, q⟩
/-- the state as a new beginning: nothing at hand -/
def snapE (H : Hp) (F : As) (S : Nat → As) (fix : List (Nat × V)) : En0 := ⟨H, F, fun x => ∃ i, S i x, fix⟩
theorem Sx.snap {fix : List (Nat × V)} (h : Sx K E F H S L σ env Ts) (hf : ∀ p ∈ fix, σ[p.1]? = some (some p.2)) : Sx K (snapE H F S fix) F H S L σ env [] :=
  ⟨h.len, h.sl, fun _ ht => (nomatch ht), h.dS, .nil, fun _ ht => (nomatch ht), fun i x q => ⟨(h.oS i x q).tr, (h.oS i x q).nf, (h.oS i x q).nl, .inl ⟨i, q⟩⟩, fun _ ht => (nomatch ht), fun x hx => ⟨(h.fr x hx).1, .inl hx⟩, fun _ hx => hx, h.lt, fun _ _ _ => rfl, fun _ hx => hx, hf⟩
/-- back: what was at hand still is -/
theorem Sx.back {fix : List (Nat × V)} {F1 : As} {H1 : Hp} {S1 : Nat → As} {σ1 : L2.St} {env1 : En} {Us : List Tp} (h : Sx K E F H S L σ env Ts) (h1 : Sx K (snapE H F S fix) F1 H1 S1 L σ1 env1 Us) (hf : ∀ p ∈ E.fix, p ∈ fix) : Sx K E F1 H1 S1 L σ1 env1 (Us ++ Ts) := by
  have nP : ∀ t ∈ Ts, ∀ x, t.T x → ¬ (snapE H F S fix).P x := fun t ht x a ⟨i, b⟩ => h.dST t ht i x a b
  have kT : ∀ t ∈ Ts, ∀ x, t.T x → H1 x = H x := fun t ht x a => h1.ag x (h.oT t ht x a).tr (nP t ht x a)
  have kF : ∀ x, F x → H1 x = H x := fun x a => h1.ag x (h.fr x a).1 fun ⟨i, b⟩ => (h.oS i x b).nf a
  have orr : ∀ x, ((snapE H F S fix).P x ∨ H x = none) → (E.P x ∨ E.H x = none) := fun x z => by
    rcases z with ⟨i, q⟩ | q
    · exact (h.oS i x q).or
    · cases r : E.H x with
      | none => exact .inr rfl
      | some u => exact absurd q (h.tk x (by rw [r]; simp))
  have ok : ∀ x, Okx (snapE H F S fix) F1 H1 L x → Okx E F1 H1 L x := fun x q => ⟨q.tr, q.nf, q.nl, orr x q.or⟩
  have okT : ∀ t ∈ Ts, ∀ x, t.T x → Okx E F1 H1 L x := fun t ht x a => by
    have q := h.oT t ht x a
    refine ⟨by rw [kT t ht x a]; exact q.tr, fun z => ?_, q.nl, q.or⟩
    rcases (h1.fr x z).2 with y | y | y
    · exact q.nf y
    · exact nP t ht x a y
    · exact q.tr y
  have dUT : ∀ u ∈ Us, ∀ t ∈ Ts, ∀ x, u.T x → ¬ t.T x := fun u hu t ht x a b => (h1.oT u hu x a).or.elim (nP t ht x b) (h.oT t ht x b).tr
  have dST' : ∀ t ∈ Ts, ∀ i x, t.T x → ¬ S1 i x := fun t ht i x a b => (h1.oS i x b).or.elim (nP t ht x a) (h.oT t ht x a).tr
  refine ⟨h1.len, h1.sl, fun t ht => ?_, h1.dS, List.pairwise_append.mpr ⟨h1.dT, h.dT, fun u hu t ht x a b => dUT u hu t ht x a b⟩, fun t ht => ?_, fun i x q => ok x (h1.oS i x q), fun t ht => ?_, fun x hx => ⟨(h1.fr x hx).1, ?_⟩, fun x hx => h1.ff x (h.ff x hx), h1.lt, fun x e n => ?_, fun x e => h1.tk x (h.tk x e), fun p hp => h1.fx p (hf p hp)⟩
  · rcases List.mem_append.mp ht with q | q
    · exact h1.tm t q
    · exact (h.tm t q).mono h1.ff kF (kT t q) (fun _ z => z.elim) fun _ z => z
  · rcases List.mem_append.mp ht with q | q
    · exact h1.dST t q
    · exact dST' t q
  · rcases List.mem_append.mp ht with q | q
    · exact fun x a => ok x (h1.oT t q x a)
    · exact okT t q
  · rcases (h1.fr x hx).2 with y | y | y
    · exact (h.fr x y).2
    · exact .inr (orr x (.inl y))
    · exact .inr (orr x (.inr y))
  · have nP' : ¬ (snapE H F S fix).P x := fun ⟨i, q⟩ => (h.oS i x q).or.elim n e
    rw [h1.ag x (h.tk x e) nP']
    exact h.ag x e n
/-- a comprehension's own names are forgotten meanwhile -/
def wipeS (S : Nat → As) (vs : List Nat) : Nat → As := fun j x => j ∉ vs ∧ S j x
theorem wipeE_len (env : En) : ∀ vs : List Nat, (wipeE env vs).length = env.length
  | [] => rfl
  | v :: vs => by unfold wipeE; rw [List.length_set, wipeE_len env vs]
theorem wipeE_get {env : En} {o : Ow} {j : Nat} : ∀ {vs : List Nat}, getE (wipeE env vs) j = some o → j ∉ vs ∧ getE env j = some o
  | [], h => ⟨by simp, h⟩
  | v :: vs, h => by
    unfold wipeE at h
    by_cases hv : v < (wipeE env vs).length
    · rw [getE_set hv] at h
      by_cases e : j = v
      · rw [if_pos e] at h; cases h
      · rw [if_neg e] at h
        obtain ⟨h1, h2⟩ := wipeE_get h
        exact ⟨by simp [e, h1], h2⟩
    · rw [List.set_eq_of_length_le (by omega)] at h
      obtain ⟨h1, h2⟩ := wipeE_get h
      refine ⟨?_, h2⟩
      have := getE_lt h
      rw [List.mem_cons, not_or]
      exact ⟨by omega, h1⟩
theorem backE_len (e0 env : En) : ∀ vs : List Nat, (backE e0 env vs).length = env.length
  | [] => rfl
  | v :: vs => by unfold backE; rw [List.length_set, backE_len e0 env vs]
theorem backE_get {e0 env : En} {j : Nat} (hl : env.length = e0.length) : ∀ {vs : List Nat}, getE (backE e0 env vs) j = if j ∈ vs then getE e0 j else getE env j
  | [] => by simp [backE]
  | v :: vs => by
    unfold backE
    by_cases hv : v < (backE e0 env vs).length
    · rw [getE_set hv]
      by_cases e : j = v
      · subst e
        rw [if_pos rfl, if_pos List.mem_cons_self]
        unfold getE
        rw [List.getD_eq_getElem?_getD]
        cases q : e0[j]? with
        | none => rfl
        | some o => cases o <;> rfl
      · rw [if_neg e, backE_get hl]
        simp [e]
    · rw [List.set_eq_of_length_le (by omega), backE_get hl]
      rw [backE_len] at hv
      by_cases e : j = v
      · subst e
        have n1 : getE env j = none := by
          cases q : getE env j with
          | none => rfl
          | some o => exact absurd (getE_lt q) hv
        have n2 : getE e0 j = none := by
          cases q : getE e0 j with
          | none => rfl
          | some o => exact absurd (getE_lt q) (by omega)
        simp [n1, n2]
      · simp [e]
theorem wipe_get {σ : L2.St} {i : Nat} {vs : List Nat} (h : i ∉ vs) : (wipe σ vs)[i]? = σ[i]? := wipe_out h
theorem Sx.wiped {vs : List Nat} (h : Sx K E F H S L σ env Ts) : Sx K (snapE H F (wipeS S vs) []) F H (wipeS S vs) L (wipe σ vs) (wipeE env vs) [] := by
  refine ⟨by rw [wipeE_len, wipe_length]; exact h.len, fun j u e => ?_, fun _ ht => (nomatch ht), fun i j x a b => h.dS i j x a.2 b.2, .nil, fun _ ht => (nomatch ht), fun i x q => ⟨(h.oS i x q.2).tr, (h.oS i x q.2).nf, (h.oS i x q.2).nl, .inl ⟨i, q⟩⟩, fun _ ht => (nomatch ht), fun x hx => ⟨(h.fr x hx).1, .inl hx⟩, fun _ hx => hx, h.lt, fun _ _ _ => rfl, fun _ hx => hx, fun _ hp => (nomatch hp)⟩
  obtain ⟨h1, h2⟩ := wipeE_get e
  obtain ⟨v, e1, e2⟩ := h.sl j u h2
  refine ⟨v, by rw [wipe_get h1]; exact e1, ?_⟩
  have es : wipeS S vs j = S j := by
    funext x
    exact propext ⟨fun z => z.2, fun z => ⟨h1, z⟩⟩
  rw [es]
  exact e2
theorem Sx.unwiped {vs : List Nat} {F1 : As} {H1 : Hp} {S1 : Nat → As} {env1 : En} {Us : List Tp} (h : Sx K E F H S L σ env Ts) (h1 : Sx K (snapE H F (wipeS S vs) []) F1 H1 S1 L (wipe σ vs) env1 Us) :
    Sx K E F1 H1 (fun j x => if j ∈ vs then S j x else S1 j x) L σ (backE env env1 vs) (Us ++ Ts) := by
  have hl : env1.length = env.length := by rw [h1.len, wipe_length]; exact h.len.symm
  have nPo : ∀ j, j ∈ vs → ∀ x, S j x → ¬ (snapE H F (wipeS S vs) []).P x := fun j hj x a ⟨i, b⟩ => b.1 (by rw [h.dS i j x b.2 a]; exact hj)
  have nP : ∀ t ∈ Ts, ∀ x, t.T x → ¬ (snapE H F (wipeS S vs) []).P x := fun t ht x a ⟨i, b⟩ => h.dST t ht i x a b.2
  have kT : ∀ t ∈ Ts, ∀ x, t.T x → H1 x = H x := fun t ht x a => h1.ag x (h.oT t ht x a).tr (nP t ht x a)
  have kO : ∀ j, j ∈ vs → ∀ x, S j x → H1 x = H x := fun j hj x a => h1.ag x (h.oS j x a).tr (nPo j hj x a)
  have kF : ∀ x, F x → H1 x = H x := fun x a => h1.ag x (h.fr x a).1 fun ⟨i, b⟩ => (h.oS i x b.2).nf a
  have kL : ∀ i x, L i x → H1 x = H x := fun i x a => h1.ag x (h.lt i x a).1 fun ⟨j, b⟩ => (h.oS j x b.2).nl i a
  have orr : ∀ x, ((snapE H F (wipeS S vs) []).P x ∨ H x = none) → (E.P x ∨ E.H x = none) := fun x z => by
    rcases z with ⟨i, q⟩ | q
    · exact (h.oS i x q.2).or
    · cases r : E.H x with
      | none => exact .inr rfl
      | some u => exact absurd q (h.tk x (by rw [r]; simp))
  have ok : ∀ x, Okx (snapE H F (wipeS S vs) []) F1 H1 L x → Okx E F1 H1 L x := fun x q => ⟨q.tr, q.nf, q.nl, orr x q.or⟩
  have nf1 : ∀ x, ¬ F x → H x ≠ none → ¬ (snapE H F (wipeS S vs) []).P x → ¬ F1 x := fun x a b c z => by
    rcases (h1.fr x z).2 with y | y | y
    · exact a y
    · exact c y
    · exact b y
  have okT : ∀ t ∈ Ts, ∀ x, t.T x → Okx E F1 H1 L x := fun t ht x a => by
    have q := h.oT t ht x a
    exact ⟨by rw [kT t ht x a]; exact q.tr, nf1 x q.nf q.tr (nP t ht x a), q.nl, q.or⟩
  have okO : ∀ j, j ∈ vs → ∀ x, S j x → Okx E F1 H1 L x := fun j hj x a => by
    have q := h.oS j x a
    exact ⟨by rw [kO j hj x a]; exact q.tr, nf1 x q.nf q.tr (nPo j hj x a), q.nl, q.or⟩
  have s1o : ∀ k x, S1 k x → ∀ j, j ∈ vs → ¬ S j x := fun k x a j hj b => (h1.oS k x a).or.elim (nPo j hj x b) (h.oS j x b).tr
  have s1t : ∀ k x, S1 k x → ∀ t ∈ Ts, ¬ t.T x := fun k x a t ht b => (h1.oS k x a).or.elim (nP t ht x b) (h.oT t ht x b).tr
  have uo : ∀ u ∈ Us, ∀ x, u.T x → ∀ j, j ∈ vs → ¬ S j x := fun u hu x a j hj b => (h1.oT u hu x a).or.elim (nPo j hj x b) (h.oS j x b).tr
  have ut : ∀ u ∈ Us, ∀ x, u.T x → ∀ t ∈ Ts, ¬ t.T x := fun u hu x a t ht b => (h1.oT u hu x a).or.elim (nP t ht x b) (h.oT t ht x b).tr
  refine ⟨by rw [backE_len, hl]; exact h.len, fun j o e => ?_, fun t ht => ?_, fun i j x a b => ?_, List.pairwise_append.mpr ⟨h1.dT, h.dT, fun u hu t ht x a => ut u hu x a t ht⟩, fun t ht i x a b => ?_, fun i x a => ?_, fun t ht => ?_, fun x hx => ⟨(h1.fr x hx).1, ?_⟩, fun x hx => h1.ff x (h.ff x hx), h1.lt, fun x e n => ?_, fun x e => h1.tk x (h.tk x e), h.fx⟩
  · rw [backE_get hl] at e
    by_cases hj : j ∈ vs
    · rw [if_pos hj] at e
      obtain ⟨v, e1, e2⟩ := h.sl j o e
      refine ⟨v, e1, ?_⟩
      simp only [if_pos hj]
      exact e2.mono h1.ff kF (kO j hj) (kL j) fun _ z => z
    · rw [if_neg hj] at e
      obtain ⟨v, e1, e2⟩ := h1.sl j o e
      refine ⟨v, by rw [wipe_get hj] at e1; exact e1, ?_⟩
      simp only [if_neg hj]
      exact e2
  · rcases List.mem_append.mp ht with q | q
    · exact h1.tm t q
    · exact (h.tm t q).mono h1.ff kF (kT t q) (fun _ z => z.elim) fun _ z => z
  · by_cases hi : i ∈ vs
    · simp only [if_pos hi] at a
      by_cases hj : j ∈ vs
      · simp only [if_pos hj] at b
        exact h.dS i j x a b
      · simp only [if_neg hj] at b
        exact absurd a (s1o j x b i hi)
    · simp only [if_neg hi] at a
      by_cases hj : j ∈ vs
      · simp only [if_pos hj] at b
        exact absurd b (s1o i x a j hj)
      · simp only [if_neg hj] at b
        exact h1.dS i j x a b
  · by_cases hi : i ∈ vs
    · simp only [if_pos hi] at b
      rcases List.mem_append.mp ht with q | q
      · exact uo t q x a i hi b
      · exact h.dST t q i x a b
    · simp only [if_neg hi] at b
      rcases List.mem_append.mp ht with q | q
      · exact h1.dST t q i x a b
      · exact s1t i x b t q a
  · by_cases hi : i ∈ vs
    · simp only [if_pos hi] at a
      exact okO i hi x a
    · simp only [if_neg hi] at a
      exact ok x (h1.oS i x a)
  · rcases List.mem_append.mp ht with q | q
    · exact fun x a => ok x (h1.oT t q x a)
    · exact okT t q
  · rcases (h1.fr x hx).2 with y | y | y
    · exact (h.fr x y).2
    · exact .inr (orr x (.inl y))
    · exact .inr (orr x (.inr y))
  · have nP' : ¬ (snapE H F (wipeS S vs) []).P x := fun ⟨i, q⟩ => (h.oS i x q.2).or.elim n e
    rw [h1.ag x (h.tk x e) nP']
    exact h.ag x e n
/-- what is seen of a slot, of a value at hand -/
theorem Sx.view {d : Dt} (h : Sx K E F H S L σ env Ts) (hg : getE env i = some o) (e : o.vw = some d) : ∃ v, σ[i]? = some (some v) ∧ BV K F H v d := by
  obtain ⟨w, ew, ow⟩ := h.sl i _ hg
  exact ⟨w, ew, ow.bv e⟩
end
end Pd
set_option Elab.async false
set_option linter.all false
set_option maxRecDepth 100000
set_option maxHeartbeats 4000000
/-! Part 3: the pure operations, each by values. -/
namespace Pd
open PySem PySem.Spec PyProof.Rows L2

/-- Q holds of each new value that stands for o -/
def RN (K : PySem.W.Frag) (F : As) (H : Hp) (o : Ow1) (Q : VK) : Prop :=
  ∀ (v : V) (F' : As) (H' : Hp) (T : As), (∀ x, F x → F' x) → (∀ x, F' x → F x ∨ (H x = none ∧ H' x ≠ none)) → (∀ x, H x ≠ none → H' x = H x) → (∀ x, T x → H x = none ∧ H' x ≠ none ∧ ¬ F' x) → O1V K F' H' T v o → Q v H'
abbrev Bvs (K : PySem.W.Frag) (F : As) (H : Hp) : List V → List Dt → Prop := Paired (BV K F H)
/-- the reading of a pure operation upon values -/
def rQ (K : PySem.W.Frag) (q : Pr) : List V → Hp → VK → Prop := fun vs H Q => ∃ F ds o, (∀ x, F x → H x ≠ none) ∧ Bvs K F H vs ds ∧ q.sem ds = some o ∧ RN K F H o Q

section
variable {K : PySem.W.Frag} {F : As} {H : Hp} {Q : VK} {v : V} {d : Dt} {o : Ow1}
theorem RN.at (h : RN K F H (.imm d) Q) (hd : DV K F H v d) : Q v H :=
  h v F H (fun _ => False) (fun _ z => z) (fun _ z => .inl z) (fun _ _ => rfl) (fun _ z => z.elim) ⟨fun _ z => z, hd⟩
theorem RN.newL {ds : List Dt} {vs : List V} {p : Addr} (h : RN K F H (.lst ds) Q) (ft : ∀ x, F x → H x ≠ none) (hp : H p = none) (hv : DVs K F H vs ds) : Q (.ref p) (upd H p (.lst vs)) := by
  have ne : ∀ x, H x ≠ none → x ≠ p := fun x hx e => by subst e; exact hx hp
  refine h (.ref p) F _ (fun x => x = p) (fun _ z => z) (fun _ z => .inl z) (fun x hx => upd_ne (ne x hx)) (fun x hx => ?_) ⟨p, vs, rfl, fun _ => Iff.rfl, upd_same, hv.mono (fun _ z => z) fun x hx => upd_ne (ne x (ft x hx))⟩
  subst hx
  exact ⟨hp, by rw [upd_same]; simp, fun z => ft _ z hp⟩
theorem RN.newT {ds : List Dt} {vs : List V} {p : Addr} (h : RN K F H (.imm (.tup ds)) Q) (ft : ∀ x, F x → H x ≠ none) (hp : H p = none) (hv : DVs K F H vs ds) : Q (.ref p) (upd H p (.tup vs)) := by
  have ne : ∀ x, H x ≠ none → x ≠ p := fun x hx e => by subst e; exact hx hp
  refine h (.ref p) (fun x => F x ∨ x = p) _ (fun _ => False) (fun _ z => .inl z) (fun x z => z.imp id fun e => ?_) (fun x hx => upd_ne (ne x hx)) (fun x hx => hx.elim) ⟨fun _ z => z, .tup ⟨.inr rfl, upd_same⟩ (hv.mono (fun _ z => .inl z) fun x hx => upd_ne (ne x (ft x hx)))⟩
  subst e
  exact ⟨hp, by rw [upd_same]; simp⟩
theorem bvs1 {vs : List V} {a : Dt} (h : Bvs K F H vs [a]) : ∃ x, vs = [x] ∧ BV K F H x a := by
  cases h with
  | cons r t =>
    cases t
    exact ⟨_, rfl, r⟩
theorem bvs_of1 {ds : List Dt} (h : Bvs K F H [v] ds) : ∃ a, ds = [a] ∧ BV K F H v a := by
  cases h with
  | cons r t =>
    cases t
    exact ⟨_, rfl, r⟩
theorem bvs_of2 {w : V} {ds : List Dt} (h : Bvs K F H [v, w] ds) : ∃ a b, ds = [a, b] ∧ BV K F H v a ∧ BV K F H w b := by
  cases h with
  | cons r t =>
    cases t with
    | cons r2 t =>
      cases t
      exact ⟨_, _, rfl, r, r2⟩
theorem bv_int {i : Int} (h : BV K F H v (.int i)) : v = .int i := by cases h; rfl
theorem bv_bl {i : Bool} (h : BV K F H v (.bl i)) : v = .bl i := by cases h; rfl
theorem bv_str {i : Str} (h : BV K F H v (.str i)) : v = .str i := by cases h; rfl
theorem bv_non (h : BV K F H v .non) : v = .non := by cases h; rfl
theorem bv_tup {ds : List Dt} (h : BV K F H v (.tup ds)) : ∃ a vs, v = .ref a ∧ StT K F H a vs ∧ DVs K F H vs ds := by
  have h' : DV K F H v (.tup ds) := h
  cases h' with
  | tup q hs => exact ⟨_, _, rfl, q, hs⟩
theorem bv_scr {ds : List Int} (h : BV K F H v (.scr ds)) : ∃ a, v = .ref a ∧ StS K F H a (ds.map V.int) := by
  have h' : DV K F H v (.scr ds) := h
  cases h' with
  | scr q => exact ⟨_, rfl, q⟩

/-! ### data as the library has it -/
mutual
theorem dv_dp : ∀ {d : Dt} {v : V} {e : PyData}, DV K F H v d → d.py = some e → Dp K H v e
  | _, _, _, .non, h => by cases h; exact .non
  | _, _, _, .bl b, h => by cases h; exact .bl b
  | _, _, _, .int b, h => by cases h; exact .int b
  | _, _, _, .str b, h => by cases h; exact .str b
  | .tup ds, _, _, .tup q hs, h => by
    simp only [Dt.py] at h
    split at h
    · rename_i ys e
      cases h
      exact .tup q.sq (dvs_dp hs e)
    · cases h
  | .lst ds, _, _, .lst f q hs, h => by
    simp only [Dt.py] at h
    split at h
    · rename_i ys e
      cases h
      exact .lst (.of q) (dvs_dp hs e)
    · cases h
  | _, _, _, .scr q, h => by simp [Dt.py] at h
  | _, _, _, .dk _ _ _, h => by simp [Dt.py] at h
  | _, _, _, .dt _ _ _, h => by simp [Dt.py] at h
theorem dvs_dp : ∀ {ds : List Dt} {vs : List V} {es : List PyData}, DVs K F H vs ds → pyL ds = some es → DpAll K H vs es
  | _, _, _, .nil, h => by cases h; exact .nil
  | d :: ds, _, _, .cons q qs, h => by
    simp only [pyL] at h
    split at h
    · rename_i y e
      split at h
      · rename_i ys e2
        cases h
        exact .cons (dv_dp q e) (dvs_dp qs e2)
      · cases h
    · cases h
end
theorem bv_dp {d : Dt} {e : PyData} (h : BV K F H v d) (he : d.py = some e) : Dp K H v e := by
  cases d with
  | lst ds =>
    obtain ⟨a, vs, rfl, q, hs⟩ := h
    simp only [Dt.py] at he
    split at he
    · rename_i ys e
      cases he
      exact .lst (.of q) (dvs_dp hs e)
    · cases he
  | dic ds => simp [Dt.py] at he
  | non => exact dv_dp h he
  | bl b => exact dv_dp h he
  | int b => exact dv_dp h he
  | str b => exact dv_dp h he
  | tup b => exact dv_dp h he
  | scr b => exact dv_dp h he
end

section
variable {X : Cx}

/-! ### + -/
theorem oq_add : OpR X (binaryOp .Add) (fun x y => rQ X.K .add [x, y]) := by
  intro ps sh σ H x y v u Q I rx ry ⟨F, ds, o, ft, hv, hs, rn⟩
  obtain ⟨a, b, rfl, ha, hb⟩ := bvs_of2 hv
  cases a <;> cases b <;> first
    | (exfalso; simp [Pr.sem] at hs; done)
    | skip
  · obtain rfl := bv_int ha
    obtain rfl := bv_int hb
    cases hs
    exact op_add ps sh σ H _ _ v u Q I rx ry ⟨_, _, rfl, rfl, rn.at (.int _)⟩
  · obtain rfl := bv_str ha
    obtain rfl := bv_str hb
    simp only [Pr.sem, i1] at hs
    split at hs
    · rename_i hl
      cases hs
      exact op_add_str ps sh σ H _ _ v u Q I rx ry ⟨_, _, rfl, rfl, hl, rn.at (.str _)⟩
    · cases hs
  · obtain ⟨p, vs, rfl, hp, hvs⟩ := bv_tup ha
    obtain ⟨q, ws, rfl, hq, hws⟩ := bv_tup hb
    simp only [Pr.sem, i1] at hs
    split at hs
    · rename_i hl
      cases hs
      refine op_catA ps sh σ H _ _ v u Q I rx ry ⟨_, _, _, _, rfl, rfl, hp.sq, hq.sq, by rw [hvs.len, hws.len]; exact hl, fun e => ?_, fun _ e => ?_, fun _ _ p hp => ?_⟩
      · subst e
        cases hvs
        exact rn.at (.tup hq hws)
      · subst e
        cases hws
        rw [List.append_nil] at rn
        exact rn.at (.tup hp hvs)
      · exact rn.newT ft hp (hvs.app hws)
    · cases hs
  · obtain ⟨p, vs, rfl, hp, hvs⟩ := ha
    obtain ⟨q, ws, rfl, hq, hws⟩ := hb
    simp only [Pr.sem] at hs
    split at hs
    · rename_i hl
      cases hs
      exact op_cat ps sh σ H _ _ v u Q I rx ry ⟨_, _, _, _, rfl, rfl, hp, hq, by rw [hvs.len, hws.len]; exact hl, fun p hp => rn.newL ft hp (hvs.app hws)⟩
    · cases hs
theorem oq_sub : OpR X (binaryOp .Sub) (fun x y => rQ X.K .sub [x, y]) := by
  intro ps sh σ H x y v u Q I rx ry ⟨F, ds, o, ft, hv, hs, rn⟩
  obtain ⟨a, b, rfl, ha, hb⟩ := bvs_of2 hv
  cases a <;> cases b <;> first
    | (exfalso; simp [Pr.sem] at hs; done)
    | skip
  obtain rfl := bv_int ha
  obtain rfl := bv_int hb
  cases hs
  exact op_sub ps sh σ H _ _ v u Q I rx ry ⟨_, _, rfl, rfl, rn.at (.int _)⟩

/-! ### tuple * int, in each way -/
theorem tmul_same (l : Addr) (items : Array Value) (n : Nat) (dd : Option Addr) (sl : Array (Option Value)) (x : Int) (u : Tok) (c0 : (decide (x < -(2 ^ 63)) || decide (x ≥ 2 ^ 63)) = false) (c1 : (items.isEmpty || x == 1) = true) :
    Meets (Builtin.«tuple.__mul__» ⟨[.ref l, .int x u], []⟩) (fun _ R s => s.heap.get? l = some { cls := .type "tuple", dict := dd, data := .seq items n, slots := sl } ∧
      R (.ok (.ret (Value.ref l))) { s with heap := s.heap, toks := s.toks }) :=
  .of_wp fun prog w A R s h => by
    obtain ⟨hp, g, d, tk, os⟩ := s
    obtain ⟨hl, h⟩ := h
    have f1 := AutoSeq1.idx_int
    wp_walk using wpAny_loadPart' hl
    repeat (first
      | (refine wpAny_ite_false (decide_eq_false (by rw [c0]; exact Bool.false_ne_true)) ?_; wp_walk using wpAny_loadPart' hl)
      | (refine wpAny_ite_true (decide_eq_true (by rw [c1])) ?_; wp_walk using wpAny_loadPart' hl))
    exact ⟨_, rfl, h⟩
theorem tmul_none (l : Addr) (items : Array Value) (n : Nat) (dd : Option Addr) (sl : Array (Option Value)) (x : Int) (u : Tok) (c0 : (decide (x < -(2 ^ 63)) || decide (x ≥ 2 ^ 63)) = false) (c1 : (items.isEmpty || x == 1) = false) (c2 : (decide (x ≤ 0) || items.isEmpty) = true) :
    Meets (Builtin.«tuple.__mul__» ⟨[.ref l, .int x u], []⟩) (fun _ R s => s.heap.get? l = some { cls := .type "tuple", dict := dd, data := .seq items n, slots := sl } ∧
      R (.ok (.ret (Value.ref s.heap.objs.size))) { s with heap := s.heap.push { cls := Value.type "tuple", data := Data.seq #[] }, toks := s.toks }) :=
  .of_wp fun prog w A R s h => by
    obtain ⟨hp, g, d, tk, os⟩ := s
    obtain ⟨hl, h⟩ := h
    have f1 := AutoSeq1.idx_int
    wp_walk using wpAny_loadPart' hl
    repeat (first
      | (refine wpAny_ite_false (decide_eq_false (by rw [c0]; exact Bool.false_ne_true)) ?_; wp_walk using wpAny_loadPart' hl)
      | (refine wpAny_ite_false (decide_eq_false (by rw [c1]; exact Bool.false_ne_true)) ?_; wp_walk using wpAny_loadPart' hl)
      | (refine wpAny_ite_true (decide_eq_true (by rw [c2])) ?_; wp_walk using wpAny_loadPart' hl))
    exact ⟨_, rfl, h⟩
/-- t * k: the tuple itself, nothing, or a new one -/
def rRepA (K : PySem.W.Frag) : R2 := fun x y H Q => ∃ l k xs, x = .ref l ∧ y = .int k ∧ SqT K H l xs ∧ -(2 ^ 63) ≤ k ∧ k < 2 ^ 63 ∧ xs.length * k.toNat ≤ sizeLine ∧
  ((xs = [] ∨ k = 1) → Q (.ref l) H) ∧ ∀ p, H p = none → Q (.ref p) (upd H p (.tup (List.replicate k.toNat xs).flatten))
theorem op_repA : OpR X (binaryOp .Mult) (rRepA X.K) := by
  intro ps sh σ H x y v u Q I rx ry ⟨l, k, xs, ex, ey, hT, h1, h2, hz, q1, q2⟩
  subst ex ey
  cases rx
  obtain ⟨t, rfl⟩ := ry
  obtain ⟨its, r, ⟨⟨cls, dd, data, sl⟩, ho, hc, n, hd⟩, hs⟩ := I.tuple hT
  simp only at hc hd
  subst hc hd
  have hle : its.length = xs.length := r.length.symm
  have hsz0 : its.toArray.size = xs.length := by rw [List.size_toArray, hle]
  have hie : its.toArray.isEmpty = xs.isEmpty := by
    cases r <;> rfl
  have c0 : (decide (k < -(2 ^ 63)) || decide (k ≥ 2 ^ 63)) = false := by
    rw [decide_eq_false (by omega), decide_eq_false (by omega)] <;> rfl
  have main : ∀ {B : Result → Shared → Prop}, Meets (Builtin.«tuple.__mul__» ⟨[.ref l, .int k t], []⟩) (fun _ R s => s.heap.get? l = some { cls := .type "tuple", dict := dd, data := .seq its.toArray n, slots := sl } ∧ B = B) → True := fun _ => trivial
  refine wpAny_binaryOp_repeat_ref (T := "tuple") (U := "int") (by decide) ⟨_, ho, rfl⟩ (fun s' => typeIs_int s' k t) noFill_tuple_mul F.fills_int_mul F.slot_int_rmul repeat_tuple F.slot_int_index.lookup
    (call_meets F.slot_int_rmul (typeIs_int sh k t) F.entry_int_rmul (F.args_int_rmul_2 _ _) (int_rmul_tuple k t l its.toArray n dd sl)
      ⟨ho, rfl, ⟨_, ho, rfl⟩, ?_⟩)
  by_cases hc : xs = [] ∨ k = 1
  · have c1 : (its.toArray.isEmpty || k == 1) = true := by
      rw [hie]
      rcases hc with e | e
      · subst e; rfl
      · subst e; simp
    exact call_meets F.slot_tuple_mul ⟨_, ho, rfl⟩ F.entry_tuple_mul (F.args_tuple_mul_2 _ _) (tmul_same l its.toArray n dd sl k t c0 c1) ⟨ho, .ref l, H, I, rfl, q1 hc⟩
  · have hx : xs.isEmpty = false := by
      cases xs with
      | nil => exact absurd (.inl rfl) hc
      | cons a b => rfl
    have hk1 : k ≠ 1 := fun e => hc (.inr e)
    have c1 : (its.toArray.isEmpty || k == 1) = false := by
      rw [hie, hx, Bool.false_or]
      exact beq_eq_false_iff_ne.mpr hk1
    by_cases hk : k ≤ 0
    · have c2 : (decide (k ≤ 0) || its.toArray.isEmpty) = true := by rw [decide_eq_true hk]; rfl
      have e0 : k.toNat = 0 := by omega
      refine call_meets F.slot_tuple_mul ⟨_, ho, rfl⟩ F.entry_tuple_mul (F.args_tuple_mul_2 _ _) (tmul_none l its.toArray n dd sl k t c0 c1 c2) ⟨ho, ?_⟩
      have qq := q2 sh.heap.objs.size (I.hok.fresh (Nat.le_refl _))
      rw [e0] at qq
      refine ⟨.ref sh.heap.objs.size, _, I.laid (t' := sh.toks) (o := .tup []) (fun b ob q => Heap.get?_push_of_some _ q) (Nat.le_refl _) ?_, rfl, qq⟩
      exact ⟨Nat.zero_le _, [], .nil, IsTup.new _ _⟩
    · have c2 : (decide (k ≤ 0) || its.toArray.isEmpty) = false := by
        rw [hie, hx, Bool.or_false]
        exact decide_eq_false hk
      have hm : ((its.toArray.size : Nat) : Int) * k ≤ (sizeLine : Nat) := by
        rw [hsz0]
        have a1 : ((xs.length : Nat) : Int) * k = ((xs.length * k.toNat : Nat) : Int) := by
          rw [Int.natCast_mul, Int.toNat_of_nonneg (by omega)]
        rw [a1]
        exact Int.ofNat_le.mpr hz
      have flen : (List.replicate k.toNat its).flatten.length ≤ sizeLine := by
        rw [PyProof.Rows.lm_len_rep_flat, hle, Nat.mul_comm]; exact hz
      have c4 : Builtin.Tuple.tupleTooMany (((its.toArray.size : Nat) : Int) * k) = false := by
        unfold Builtin.Tuple.tupleTooMany
        exact decide_eq_false (by omega)
      have c3 : ¬ ((its.toArray.size : Nat) : Int) * k > (2 ^ 63 - 1) / 8 := by
        rw [sizeLine_eq] at hm
        omega
      refine call_meets F.slot_tuple_mul ⟨_, ho, rfl⟩ F.entry_tuple_mul (F.args_tuple_mul_2 _ _) (tuple_mulW l its.toArray n dd sl k t c0 c1 c2 c3 c4 (by rw [size_rep, List.size_toArray]; exact flen)) ⟨ho, ?_⟩
      rw [size_rep]
      refine ⟨.ref sh.heap.objs.size, _, I.laid (t' := sh.toks) (o := .tup (List.replicate k.toNat xs).flatten) (fun b ob q => Heap.get?_push_of_some _ q) (Nat.le_refl _) ?_, rfl, q2 _ (I.hok.fresh (Nat.le_refl _))⟩
      exact ⟨by rw [PyProof.Rows.lm_len_rep_flat, Nat.mul_comm]; exact hz, _, r.rep k.toNat, IsTup.new _ _⟩
theorem okMul_ok {a b : Int} (h : okMul a b = true) : CMul a b ∨ CMulW a b := by
  unfold okMul at h
  simp only [Bool.or_eq_true, decide_eq_true_eq] at h
  rcases h with (h | h) | h
  · exact .inl (.inl ⟨by omega, by omega⟩)
  · exact .inl (.inr ⟨by omega, by omega⟩)
  · exact .inr h
theorem rep_one {α : Type} (xs : List α) : (List.replicate (1 : Int).toNat xs).flatten = xs := by simp
theorem oq_mul : OpR X (binaryOp .Mult) (fun x y => rQ X.K .mul [x, y]) := by
  intro ps sh σ H x y v u Q I rx ry ⟨F, ds, o, ft, hv, hs, rn⟩
  obtain ⟨a, b, rfl, ha, hb⟩ := bvs_of2 hv
  cases a <;> cases b <;> first
    | (exfalso; simp [Pr.sem] at hs; done)
    | skip
  · obtain rfl := bv_int ha
    obtain rfl := bv_int hb
    simp only [Pr.sem, i1] at hs
    split at hs
    · rename_i hl
      cases hs
      rcases okMul_ok hl with hl | hl
      · exact op_mul ps sh σ H _ _ v u Q I rx ry ⟨_, _, rfl, rfl, hl, rn.at (.int _)⟩
      · exact op_mulW ps sh σ H _ _ v u Q I rx ry ⟨_, _, rfl, rfl, hl, rn.at (.int _)⟩
    · cases hs
  · obtain ⟨p, vs, rfl, hp, hvs⟩ := bv_tup ha
    obtain rfl := bv_int hb
    simp only [Pr.sem, i1] at hs
    split at hs
    · rename_i hl
      cases hs
      refine op_repA ps sh σ H _ _ v u Q I rx ry ⟨_, _, _, rfl, rfl, hp.sq, hl.1, hl.2.1, by rw [hvs.len]; exact hl.2.2, fun e => ?_, fun p hp => rn.newT ft hp (hvs.rep _)⟩
      rcases e with e | e
      · subst e
        cases hvs
        have e0 : ∀ n : Nat, (List.replicate n ([] : List Dt)).flatten = [] := fun n => by simp
        rw [e0] at rn
        exact rn.at (.tup hp .nil)
      · subst e
        rw [rep_one] at rn
        exact rn.at (.tup hp hvs)
    · cases hs
  · obtain ⟨p, vs, rfl, hp, hvs⟩ := ha
    obtain rfl := bv_int hb
    simp only [Pr.sem] at hs
    split at hs
    · rename_i hl
      cases hs
      exact op_rep ps sh σ H _ _ v u Q I rx ry ⟨_, _, _, rfl, rfl, hp, hl.1, hl.2.1, by rw [hvs.len]; exact hl.2.2, fun p hp => rn.newL ft hp (hvs.rep _)⟩
    · cases hs
theorem oq_fdiv : OpR X (binaryOp .FloorDiv) (fun x y => rQ X.K .fdiv [x, y]) := by
  intro ps sh σ H x y v u Q I rx ry ⟨F, ds, o, ft, hv, hs, rn⟩
  obtain ⟨a, b, rfl, ha, hb⟩ := bvs_of2 hv
  cases a <;> cases b <;> first
    | (exfalso; simp [Pr.sem] at hs; done)
    | skip
  obtain rfl := bv_int ha
  obtain rfl := bv_int hb
  simp only [Pr.sem, i1] at hs
  split at hs
  · rename_i hl
    cases hs
    exact op_fdivW ps sh σ H _ _ v u Q I rx ry ⟨_, _, rfl, rfl, hl, rn.at (.int _)⟩
  · cases hs
theorem oq_mod : OpR X (binaryOp .Mod) (fun x y => rQ X.K .mod [x, y]) := by
  intro ps sh σ H x y v u Q I rx ry ⟨F, ds, o, ft, hv, hs, rn⟩
  obtain ⟨a, b, rfl, ha, hb⟩ := bvs_of2 hv
  cases a <;> cases b <;> first
    | (exfalso; simp [Pr.sem] at hs; done)
    | skip
  obtain rfl := bv_int ha
  obtain rfl := bv_int hb
  simp only [Pr.sem, i1] at hs
  split at hs
  · rename_i hl
    cases hs
    exact op_mod ps sh σ H _ _ v u Q I rx ry ⟨_, _, rfl, rfl, hl, rn.at (.int _)⟩
  · cases hs
theorem oq_pow : OpR X (binaryOp .Pow) (fun x y => rQ X.K .pow [x, y]) := by
  intro ps sh σ H x y v u Q I rx ry ⟨F, ds, o, ft, hv, hs, rn⟩
  obtain ⟨a, b, rfl, ha, hb⟩ := bvs_of2 hv
  cases a <;> cases b <;> first
    | (exfalso; simp [Pr.sem] at hs; done)
    | skip
  obtain rfl := bv_int ha
  obtain rfl := bv_int hb
  simp only [Pr.sem, i1] at hs
  split at hs
  · rename_i hl
    cases hs
    exact op_pow ps sh σ H _ _ v u Q I rx ry ⟨_, _, rfl, rfl, hl, rn.at (.int _)⟩
  · cases hs
theorem uq_neg : UnR X (unaryOp .USub) (fun x => rQ X.K .neg [x]) := by
  intro ps sh σ H x v Q I rx ⟨F, ds, o, ft, hv, hs, rn⟩
  obtain ⟨a, rfl, ha⟩ := bvs_of1 hv
  cases a <;> first
    | (exfalso; simp [Pr.sem] at hs; done)
    | skip
  obtain rfl := bv_int ha
  cases hs
  exact un_neg ps sh σ H _ v Q I rx ⟨_, rfl, rn.at (.int _)⟩

/-! ### comparisons -/
theorem eqvD_some {a b : Dt} {r : Bool} (h : eqvD a b = some r) : ∃ x y, a.py = some x ∧ b.py = some y ∧ SeqAt.shaped x = true ∧ SeqAt.shaped y = true ∧ r = PyData.eqv x y := by
  unfold eqvD at h
  split at h
  · rename_i x y e1 e2
    split at h
    · rename_i hc
      cases h
      rw [Bool.and_eq_true] at hc
      exact ⟨x, y, e1, e2, hc.1, hc.2, rfl⟩
    · cases h
  · cases h
theorem oq_eq (hu : X.A.units + 64 < cLine) : OpR X (compareOp .Eq) (fun x y => rQ X.K .eq [x, y]) := by
  intro ps sh σ H x y v u Q I rx ry ⟨F, ds, o, ft, hv, hs, rn⟩
  obtain ⟨a, b, rfl, ha, hb⟩ := bvs_of2 hv
  simp only [Pr.sem, i1] at hs
  split at hs
  · rename_i r hr
    cases hs
    obtain ⟨c, d, e1, e2, s1, s2, rfl⟩ := eqvD_some hr
    exact op_eqD hu ps sh σ H _ _ v u Q I rx ry ⟨c, d, bv_dp ha e1, bv_dp hb e2, s1, s2, rn.at (.bl _)⟩
  · cases hs
theorem oq_ne (hu : X.A.units + 64 < cLine) : OpR X (compareOp .NotEq) (fun x y => rQ X.K .ne [x, y]) := by
  intro ps sh σ H x y v u Q I rx ry ⟨F, ds, o, ft, hv, hs, rn⟩
  obtain ⟨a, b, rfl, ha, hb⟩ := bvs_of2 hv
  simp only [Pr.sem, i1] at hs
  split at hs
  · rename_i r hr
    cases hs
    obtain ⟨c, d, e1, e2, s1, s2, rfl⟩ := eqvD_some hr
    exact op_neD hu ps sh σ H _ _ v u Q I rx ry ⟨c, d, bv_dp ha e1, bv_dp hb e2, s1, s2, rn.at (.bl _)⟩
  · cases hs
theorem lexLt_eq : ∀ a b : List Int, lexLt a b = HT.lexLt a b
  | [], [] => rfl
  | [], _ :: _ => rfl
  | _ :: _, [] => rfl
  | x :: xs, y :: ys => by
    rw [HT.lexLt_cons, ← lexLt_eq xs ys]
    rfl
theorem oq_lt (hu : X.A.units < cLine) : OpR X (compareOp .Lt) (fun x y => rQ X.K .lt [x, y]) := by
  intro ps sh σ H x y v u Q I rx ry ⟨F, ds, o, ft, hv, hs, rn⟩
  obtain ⟨a, b, rfl, ha, hb⟩ := bvs_of2 hv
  cases a <;> cases b <;> first
    | (exfalso; simp [Pr.sem] at hs; done)
    | skip
  · obtain rfl := bv_int ha
    obtain rfl := bv_int hb
    cases hs
    exact op_lt ps sh σ H _ _ v u Q I rx ry ⟨_, _, rfl, rfl, rn.at (.bl _)⟩
  · obtain ⟨p, vs, rfl, hp, hvs⟩ := bv_tup ha
    obtain ⟨q, ws, rfl, hq, hws⟩ := bv_tup hb
    simp only [Pr.sem, i1] at hs
    split at hs
    · rename_i m n e1 e2
      cases hs
      rw [toInts_eq e1] at hvs
      rw [toInts_eq e2] at hws
      have e1 := dvs_ints_inv hvs
      have e2 := dvs_ints_inv hws
      subst e1 e2
      refine op_ltT hu ps sh σ H _ _ v u Q I rx ry ⟨_, _, _, _, rfl, rfl, hp.sq, hq.sq, ?_⟩
      rw [← lexLt_eq]
      exact rn.at (.bl _)
    · cases hs
theorem oq_le : OpR X (compareOp .LtE) (fun x y => rQ X.K .le [x, y]) := by
  intro ps sh σ H x y v u Q I rx ry ⟨F, ds, o, ft, hv, hs, rn⟩
  obtain ⟨a, b, rfl, ha, hb⟩ := bvs_of2 hv
  cases a <;> cases b <;> first
    | (exfalso; simp [Pr.sem] at hs; done)
    | skip
  obtain rfl := bv_int ha
  obtain rfl := bv_int hb
  cases hs
  exact op_le ps sh σ H _ _ v u Q I rx ry ⟨_, _, rfl, rfl, rn.at (.bl _)⟩
theorem oq_gt : OpR X (compareOp .Gt) (fun x y => rQ X.K .gt [x, y]) := by
  intro ps sh σ H x y v u Q I rx ry ⟨F, ds, o, ft, hv, hs, rn⟩
  obtain ⟨a, b, rfl, ha, hb⟩ := bvs_of2 hv
  cases a <;> cases b <;> first
    | (exfalso; simp [Pr.sem] at hs; done)
    | skip
  obtain rfl := bv_int ha
  obtain rfl := bv_int hb
  cases hs
  exact op_gt ps sh σ H _ _ v u Q I rx ry ⟨_, _, rfl, rfl, rn.at (.bl _)⟩
theorem oq_ge : OpR X (compareOp .GtE) (fun x y => rQ X.K .ge [x, y]) := by
  intro ps sh σ H x y v u Q I rx ry ⟨F, ds, o, ft, hv, hs, rn⟩
  obtain ⟨a, b, rfl, ha, hb⟩ := bvs_of2 hv
  cases a <;> cases b <;> first
    | (exfalso; simp [Pr.sem] at hs; done)
    | skip
  obtain rfl := bv_int ha
  obtain rfl := bv_int hb
  cases hs
  exact op_ge ps sh σ H _ _ v u Q I rx ry ⟨_, _, rfl, rfl, rn.at (.bl _)⟩
theorem bv_isN {K : PySem.W.Frag} {F : As} {H : Hp} {x : V} {a : Dt} (h : BV K F H x a) : decide (x = V.non) = a.isN := by
  cases a with
  | non => cases h; rfl
  | bl b => cases h; rfl
  | int b => cases h; rfl
  | str b => cases h; rfl
  | tup b => obtain ⟨_, _, rfl, _⟩ := bv_tup h; rfl
  | lst b => obtain ⟨_, _, rfl, _⟩ := h; rfl
  | dic b => obtain ⟨_, rfl, _⟩ := h; rfl
  | scr b => obtain ⟨_, rfl, _⟩ := bv_scr h; rfl
theorem oq_isN : OpR X (compareOp .Is) (fun x y H Q => y = .non ∧ rQ X.K .isN [x] H Q) := by
  intro ps sh σ H x y v u Q I rx ry ⟨ey, F, ds, o, ft, hv, hs, rn⟩
  obtain ⟨a, rfl, ha⟩ := bvs_of1 hv
  simp only [Pr.sem, i1] at hs
  cases hs
  refine op_isN ps sh σ H x y v u Q I rx ry ⟨ey, ?_⟩
  rw [bv_isN ha]
  exact rn.at (.bl _)
theorem oq_notN : OpR X (compareOp .IsNot) (fun x y H Q => y = .non ∧ rQ X.K .notN [x] H Q) := by
  intro ps sh σ H x y v u Q I rx ry ⟨ey, F, ds, o, ft, hv, hs, rn⟩
  obtain ⟨a, rfl, ha⟩ := bvs_of1 hv
  simp only [Pr.sem, i1] at hs
  cases hs
  refine op_notN ps sh σ H x y v u Q I rx ry ⟨ey, ?_⟩
  rw [bv_isN ha]
  exact rn.at (.bl _)
theorem oq_isB {k : Bool} : OpR X (compareOp .Is) (fun x y H Q => y = .bl k ∧ rQ X.K (.isB k) [x] H Q) := by
  intro ps sh σ H x y v u Q I rx ry ⟨ey, F, ds, o, ft, hv, hs, rn⟩
  obtain ⟨a, rfl, ha⟩ := bvs_of1 hv
  cases a <;> first
    | (exfalso; simp [Pr.sem] at hs; done)
    | skip
  obtain rfl := bv_bl ha
  cases hs
  refine op_isBl ps sh σ H _ y v u Q I rx ry ⟨_, _, rfl, ey, ?_⟩
  rw [← Bool.beq_eq_decide_eq]
  exact rn.at (.bl _)

/-! ### in -/
theorem inD_some {x : Dt} {ds : List Dt} {r : Bool} (h : inD x ds = some r) : ∃ d es, x.py = some d ∧ pyL ds = some es ∧ SeqAt.shaped d = true ∧ SeqAt.shaped (.list es) = true ∧ r = es.any fun z => PyData.eqv z d := by
  unfold inD at h
  split at h
  · rename_i d es e1 e2
    split at h
    · rename_i hc
      cases h
      rw [Bool.and_eq_true] at hc
      exact ⟨d, es, e1, e2, hc.1, hc.2, rfl⟩
    · cases h
  · cases h
theorem bv_flat {K : PySem.W.Frag} {F : As} {H : Hp} {x : V} {a : Dt} (h : BV K F H x a) (f : flatD a = true) : flatV x = true := by
  cases a with
  | non => cases h; rfl
  | int b => cases h; rfl
  | str b => cases h; rfl
  | bl b => simp [flatD] at f
  | tup b => simp [flatD] at f
  | lst b => simp [flatD] at f
  | dic b => simp [flatD] at f
  | scr b => simp [flatD] at f
theorem bv_eqF {K : PySem.W.Frag} {F : As} {H : Hp} {x y : V} {a b : Dt} (h : BV K F H x a) (f : flatD a = true) (g : BV K F H y b) (f' : flatD b = true) : eqV x y = eqF a b := by
  cases a <;> first
    | (simp [flatD] at f; done)
    | skip
  all_goals cases b <;> first
    | (simp [flatD] at f'; done)
    | skip
  all_goals (cases h; cases g; rfl)
theorem dvs_flat {K : PySem.W.Frag} {F : As} {H : Hp} {x : V} {a : Dt} (h : BV K F H x a) (f : flatD a = true) : ∀ {ds : List Dt} {vs : List V}, DVs K F H vs ds → ds.all flatD = true → vs.all flatV = true ∧ inV x vs = ds.any fun z => eqF z a
  | _, _, .nil, _ => ⟨rfl, rfl⟩
  | d :: ds, _, .cons q qs, g => by
    rw [List.all_cons, Bool.and_eq_true] at g
    obtain ⟨e1, e2⟩ := dvs_flat h f qs g.2
    refine ⟨by rw [List.all_cons, bv_flat q.bv g.1, e1]; rfl, ?_⟩
    unfold inV at e2 ⊢
    rw [List.any_cons, List.any_cons, e2, bv_eqF q.bv g.1 h f]
theorem key_go : ∀ {ds : List Dt} {ks : List Key}, Dt.key.go ds = some ks → ds = ks.map kD
  | [], _, h => by cases h; rfl
  | .int i :: ds, _, h => by
    simp only [Dt.key.go] at h
    split at h
    · rename_i ks e
      cases h
      rw [key_go e]; rfl
    · cases h
  | .str i :: ds, _, h => by
    simp only [Dt.key.go] at h
    split at h
    · rename_i ks e
      cases h
      rw [key_go e]; rfl
    · cases h
  | .non :: _, _, h => by simp [Dt.key.go] at h
  | .bl _ :: _, _, h => by simp [Dt.key.go] at h
  | .tup _ :: _, _, h => by simp [Dt.key.go] at h
  | .lst _ :: _, _, h => by simp [Dt.key.go] at h
  | .dic _ :: _, _, h => by simp [Dt.key.go] at h
  | .scr _ :: _, _, h => by simp [Dt.key.go] at h
theorem go_key (ks : List Key) : Dt.key.go (ks.map kD) = some ks := by
  induction ks with
  | nil => rfl
  | cons k ks ih =>
    rw [List.map_cons]
    cases k <;> simp only [kD, Dt.key.go, ih]
theorem key_kD (k : Key) : (kD k).key = some (.inl k) := by cases k <;> rfl
theorem key_tkD (ks : List Key) : (tkD ks).key = some (.inr ks) := by
  show (Dt.key.go (ks.map kD)).map Sum.inr = _
  rw [go_key]; rfl
theorem key_inl {d : Dt} {k : Key} (h : d.key = some (.inl k)) : d = kD k := by
  cases d with
  | int i => cases h; rfl
  | str i => cases h; rfl
  | tup xs =>
    simp only [Dt.key] at h
    cases e : Dt.key.go xs with
    | none => rw [e] at h; cases h
    | some ks => rw [e] at h; cases h
  | non => cases h
  | bl b => cases h
  | lst b => cases h
  | dic b => cases h
  | scr b => cases h
theorem key_inr {d : Dt} {ks : List Key} (h : d.key = some (.inr ks)) : d = tkD ks := by
  cases d with
  | tup xs =>
    simp only [Dt.key] at h
    cases e : Dt.key.go xs with
    | none => rw [e] at h; cases h
    | some ks' =>
      rw [e] at h
      cases h
      unfold tkD
      rw [key_go e]
  | int i => cases h
  | str i => cases h
  | non => cases h
  | bl b => cases h
  | lst b => cases h
  | dic b => cases h
  | scr b => cases h
theorem bv_kD {K : PySem.W.Frag} {F : As} {H : Hp} {x : V} {k : Key} (h : BV K F H x (kD k)) : x = kV k := by
  cases k with
  | inl i => exact bv_int h
  | inr i => exact bv_str h
theorem dvs_kD {K : PySem.W.Frag} {F : As} {H : Hp} : ∀ {ks : List Key} {vs : List V}, DVs K F H vs (ks.map kD) → vs = ks.map kV
  | [], _, .nil => rfl
  | k :: ks, _, .cons q qs => by
    rw [List.map_cons, ← dvs_kD qs, bv_kD (k := k) q.bv]
theorem bv_tkD {K : PySem.W.Frag} {F : As} {H : Hp} {x : V} {ks : List Key} (h : BV K F H x (tkD ks)) : ∃ b, x = .ref b ∧ H b = some (.tup (ks.map kV)) := by
  obtain ⟨a, vs, rfl, hp, hvs⟩ := bv_tup h
  rw [← dvs_kD hvs]
  exact ⟨a, rfl, hp.2⟩
theorem DKs.find {K : PySem.W.Frag} {F : As} {H : Hp} {k : Key} : ∀ {ds : List (Dt × Dt)} {kvs : List (Key × V)}, DKs K F H kvs ds → (findK (.inl k) ds = none ∧ valV kvs k = none) ∨ ∃ d v, findK (.inl k) ds = some d ∧ valV kvs k = some v ∧ DV K F H v d
  | _, _, .nil => .inl ⟨rfl, rfl⟩
  | _, _, .cons (k := k') (v := v) (d := d) q qs => by
    by_cases e : k' = k
    · subst e
      exact .inr ⟨d, v, by simp [findK, key_kD], valV_pos rfl, q⟩
    · have ne : ¬ (kD k').key = some (.inl k) := by rw [key_kD]; intro z; cases z; exact e rfl
      rcases qs.find (k := k) with ⟨a, b⟩ | ⟨d', v', a, b, c⟩
      · exact .inl ⟨by simp [findK, ne, a], by rw [valV_neg e, b]⟩
      · exact .inr ⟨d', v', by simp [findK, ne, a], by rw [valV_neg e, b], c⟩
theorem DTs.find {K : PySem.W.Frag} {F : As} {H : Hp} {k : List Key} : ∀ {ds : List (Dt × Dt)} {kvs : List (List Key × V)}, DTs K F H kvs ds → (findK (.inr k) ds = none ∧ valV kvs k = none) ∨ ∃ d v, findK (.inr k) ds = some d ∧ valV kvs k = some v ∧ DV K F H v d
  | _, _, .nil => .inl ⟨rfl, rfl⟩
  | _, _, .cons (k := k') (v := v) (d := d) q qs => by
    by_cases e : k' = k
    · subst e
      exact .inr ⟨d, v, by simp [findK, key_tkD], valV_pos rfl, q⟩
    · have ne : ¬ (tkD k').key = some (.inr k) := by rw [key_tkD]; intro z; cases z; exact e rfl
      rcases qs.find (k := k) with ⟨a, b⟩ | ⟨d', v', a, b, c⟩
      · exact .inl ⟨by simp [findK, ne, a], by rw [valV_neg e, b]⟩
      · exact .inr ⟨d', v', by simp [findK, ne, a], by rw [valV_neg e, b], c⟩
end
end Pd
set_option Elab.async false
set_option linter.all false
set_option maxRecDepth 100000
set_option maxHeartbeats 4000000
namespace Pd
open PySem PySem.Spec PyProof.Rows L2
section
variable {X : Cx} {pn : List (Addr × Obj)} {σ : L2.St} {H : Hp} {sh : Shared} {p : Addr}
/-! ### an empty dict is one of each kind -/
theorem emp_dT (I : L2.Inv X pn σ H sh) (e : H p = some (.dK [])) : L2.Inv X pn σ (upd H p (.dT [])) sh := by
  have ok := I.hok p _ e
  obtain ⟨z, hy, vs, kv, o, es, ep, h1, h2, h3, h4, h5, h6⟩ := (show ObjOk X.prog X.w H sh.heap p (.dK []) from ok)
  cases kv
  have he : es.toList = [] := by
    generalize es.toList = l at h5
    cases h5; rfl
  exact I.write (h' := sh.heap) (t' := sh.toks) (x := p) (e := p) (by rw [e]; exact trivial) (.inl rfl) (fun _ _ _ q => q) ⟨o, h1⟩ ⟨z, hy, [], .nil, o, es, ep, h1, h2, h3, he, List.nodup_nil⟩
theorem emp_dK (I : L2.Inv X pn σ H sh) (e : H p = some (.dT [])) : L2.Inv X pn σ (upd H p (.dK [])) sh := by
  have ok := I.hok p _ e
  obtain ⟨z, hy, xs, r, o, es, ep, h1, h2, h3, h4, h5⟩ := (show ObjOk X.prog X.w H sh.heap p (.dT []) from ok)
  cases r
  have he : es.toList = [] := h4
  have he2 : es = #[] := by
    have := congrArg List.toArray he
    simpa using this
  refine I.write (h' := sh.heap) (t' := sh.toks) (x := p) (e := p) (by rw [e]; exact trivial) (.inl rfl) (fun _ _ _ q => q) ⟨o, h1⟩ ⟨z, hy, [], .nil, o, es, ep, h1, h2, h3, ?_, ?_, List.nodup_nil⟩
  · intro x hx
    subst he2
    simp at hx
  · rw [he]; exact .nil
theorem upd_back {o o' : HO} (e : H p = some o) : upd (upd H p o') p o = H := by
  rw [upd_upd]
  funext b
  unfold upd
  split
  · rename_i h; rw [h, e]
  · rfl
/-- what a dict holds at a key: seen in a heap that is as good -/
theorem dg_any {F : As} {x y : V} {r : Dt} {k : Sum Key (List Key)} {kvs : List (Dt × Dt)} (I : L2.Inv X pn σ H sh) (hd : BV X.K F H y (.dic kvs)) (hx : BV X.K F H x r) (hk : r.key = some k) (ok : kOk k kvs = true) :
    ∃ p H2 o, y = .ref p ∧ L2.Inv X pn σ H2 sh ∧ (∀ s', L2.Inv X pn σ H2 s' → L2.Inv X pn σ H s') ∧ DGet H2 p x o ∧ o.isSome = (findK k kvs).isSome ∧ ∀ d, findK k kvs = some d → ∃ v, o = some v ∧ DV X.K F H v d := by
  obtain ⟨p, rfl, hd⟩ := hd
  rcases hd with ⟨ks, hp, hks⟩ | ⟨ks, hp, hks⟩
  · cases k with
    | inl k =>
      have er := key_inl hk
      subst er
      have ex := bv_kD hx
      subst ex
      refine ⟨p, H, valV ks k, rfl, I, fun _ z => z, .inl ⟨ks, k, hp.rd, rfl, rfl⟩, ?_, fun d e => ?_⟩
      · rcases hks.find (k := k) with ⟨a, b⟩ | ⟨d', v', a, b, c⟩
        · rw [a, b] <;> rfl
        · rw [a, b] <;> rfl
      · rcases hks.find (k := k) with ⟨a, b⟩ | ⟨d', v', a, b, c⟩
        · rw [a] at e; cases e
        · rw [a] at e; cases e
          exact ⟨v', b, c⟩
    | inr k =>
      have er := key_inr hk
      subst er
      obtain ⟨b, rfl, hb⟩ := bv_tkD hx
      cases hks with
      | nil =>
        rcases hp with e0 | ⟨n, _⟩
        · have hne : b ≠ p := fun z => by rw [z, e0] at hb; cases hb
          refine ⟨p, upd H p (.dT []), none, rfl, emp_dT I e0, fun s' I' => ?_, .inr ⟨[], k, b, .inl upd_same, rfl, by rw [upd_ne hne]; exact hb, rfl⟩, rfl, fun d e => by cases e⟩
          have q := emp_dK I' upd_same
          rw [upd_back e0] at q
          exact q
        · exact absurd rfl n
      | cons q qs =>
        exfalso
        simp only [kOk, key_kD] at ok
        cases ok
  · cases k with
    | inr k =>
      have er := key_inr hk
      subst er
      obtain ⟨b, rfl, hb⟩ := bv_tkD hx
      refine ⟨p, H, valV ks k, rfl, I, fun _ z => z, .inr ⟨ks, k, b, hp.rd, rfl, hb, rfl⟩, ?_, fun d e => ?_⟩
      · rcases hks.find (k := k) with ⟨a, b⟩ | ⟨d', v', a, b, c⟩
        · rw [a, b] <;> rfl
        · rw [a, b] <;> rfl
      · rcases hks.find (k := k) with ⟨a, b⟩ | ⟨d', v', a, b, c⟩
        · rw [a] at e; cases e
        · rw [a] at e; cases e
          exact ⟨v', b, c⟩
    | inl k =>
      have er := key_inl hk
      subst er
      have ex := bv_kD hx
      subst ex
      cases hks with
      | nil =>
        rcases hp with e0 | ⟨n, _⟩
        · refine ⟨p, upd H p (.dK []), none, rfl, emp_dK I e0, fun s' I' => ?_, .inl ⟨[], k, .inl upd_same, rfl, rfl⟩, rfl, fun d e => by cases e⟩
          have q := emp_dT I' upd_same
          rw [upd_back e0] at q
          exact q
        · exact absurd rfl n
      | cons q qs =>
        exfalso
        simp only [kOk, key_tkD] at ok
        cases ok

theorem oq_in (hu : X.A.units + 65 < cLine) : OpR X (compareOp .In) (fun x y => rQ X.K .isIn [x, y]) := by
  intro ps sh σ H x y v u Q I rx ry ⟨F, ds, o, ft, hv, hs, rn⟩
  obtain ⟨a, b, rfl, ha, hb⟩ := bvs_of2 hv
  cases b <;> first
    | (exfalso; simp [Pr.sem] at hs; done)
    | skip
  · rename_i es
    simp only [Pr.sem, i1] at hs
    split at hs
    · rename_i hf
      cases hs
      rw [Bool.and_eq_true] at hf
      obtain ⟨p, vs, rfl, hp, hvs⟩ := bv_tup hb
      obtain ⟨e1, e2⟩ := dvs_flat ha hf.1 hvs hf.2
      refine op_in_seq ps sh σ H x _ v u Q I rx ry ⟨p, vs, rfl, .inr hp.sq, bv_flat ha hf.1, e1, ?_⟩
      rw [if_neg Bool.false_ne_true, e2]
      exact rn.at (.bl _)
    · cases hs
  · rename_i zs
    simp only [Pr.sem, i1] at hs
    split at hs
    · rename_i r hr
      cases hs
      obtain ⟨d, es, e1, e2, s1, s2, rfl⟩ := inD_some hr
      have hl : (Dt.lst zs).py = some (.list es) := by simp only [Dt.py, e2]
      exact op_inD hu ps sh σ H x y v u Q I rx ry ⟨d, es, bv_dp ha e1, bv_dp hb hl, s1, s2, rn.at (.bl _)⟩
    · cases hs
  · simp only [Pr.sem, i1] at hs
    split at hs
    · rename_i k hk
      split at hs
      · rename_i ok
        cases hs
        obtain ⟨p, H2, o, rfl, I2, bk, g, e, _⟩ := dg_any I hb ha hk ok
        obtain rfl : u = Value.ref p := ry
        exact d_in (by omega) I2 g rx fun s' I' => ⟨.bl o.isSome, H, bk s' I', rfl, by rw [e]; exact rn.at (.bl _)⟩
      · cases hs
    · cases hs
theorem oq_notIn (hu : X.A.units + 65 < cLine) : OpR X (compareOp .NotIn) (fun x y => rQ X.K .notIn [x, y]) := by
  intro ps sh σ H x y v u Q I rx ry ⟨F, ds, o, ft, hv, hs, rn⟩
  obtain ⟨a, b, rfl, ha, hb⟩ := bvs_of2 hv
  cases b <;> first
    | (exfalso; simp [Pr.sem] at hs; done)
    | skip
  · rename_i es
    simp only [Pr.sem, i1] at hs
    split at hs
    · rename_i hf
      cases hs
      rw [Bool.and_eq_true] at hf
      obtain ⟨p, vs, rfl, hp, hvs⟩ := bv_tup hb
      obtain ⟨e1, e2⟩ := dvs_flat ha hf.1 hvs hf.2
      refine op_notIn_seq ps sh σ H x _ v u Q I rx ry ⟨p, vs, rfl, .inr hp.sq, bv_flat ha hf.1, e1, ?_⟩
      rw [if_pos rfl, e2]
      exact rn.at (.bl _)
    · cases hs
  · rename_i zs
    simp only [Pr.sem, i1] at hs
    split at hs
    · rename_i r hr
      cases hs
      obtain ⟨d, es, e1, e2, s1, s2, rfl⟩ := inD_some hr
      have hl : (Dt.lst zs).py = some (.list es) := by simp only [Dt.py, e2]
      exact op_notInD hu ps sh σ H x y v u Q I rx ry ⟨d, es, bv_dp ha e1, bv_dp hb hl, s1, s2, rn.at (.bl _)⟩
    · cases hs
  · simp only [Pr.sem, i1] at hs
    split at hs
    · rename_i k hk
      split at hs
      · rename_i ok
        cases hs
        obtain ⟨p, H2, o, rfl, I2, bk, g, e, _⟩ := dg_any I hb ha hk ok
        obtain rfl : u = Value.ref p := ry
        exact d_notIn (by omega) I2 g rx fun s' I' => ⟨.bl (!o.isSome), H, bk s' I', rfl, by rw [e]; exact rn.at (.bl _)⟩
      · cases hs
    · cases hs

/-! ### xs[i] -/
theorem atD_atI {K : PySem.W.Frag} {F : As} {H : Hp} {ds : List Dt} {vs : List V} {i : Int} {d : Dt} (h : DVs K F H vs ds) (e : atD ds i = some d) : ∃ v, atI vs i = some v ∧ DV K F H v d := by
  unfold atD at e
  unfold atI ixN
  split at e
  · rename_i h0
    obtain ⟨v, e1, e2⟩ := h.get e
    have hl := (List.getElem?_eq_some_iff.mp e1).1
    refine ⟨v, ?_, e2⟩
    rw [if_pos h0, if_pos (by omega)]
    exact e1
  · rename_i h0
    split at e
    · rename_i h1
      rw [← h.len] at e h1
      obtain ⟨v, e1, e2⟩ := h.get e
      refine ⟨v, ?_, e2⟩
      rw [if_neg h0, if_pos h1]
      exact e1
    · cases e
theorem iq_ix (hu : X.A.units + 1 < cLine) : IxR X (fun x y => rQ X.K .ix [x, y]) := by
  intro value slice ps sh σ H x y v u Q I rx ry ⟨F, ds, o, ft, hv, hs, rn⟩ hsub
  obtain ⟨a, b, rfl, ha, hb⟩ := bvs_of2 hv
  cases a <;> first
    | (exfalso; simp [Pr.sem] at hs; done)
    | skip
  · cases b <;> first
      | (exfalso; simp [Pr.sem] at hs; done)
      | skip
    obtain ⟨p, vs, rfl, hp, hvs⟩ := bv_tup ha
    obtain rfl := bv_int hb
    simp only [Pr.sem, i1] at hs
    split at hs
    · rename_i d hd
      cases hs
      obtain ⟨w, e1, e2⟩ := atD_atI hvs hd
      exact ix_tup value slice ps sh σ H _ _ v u Q I rx ry ⟨p, vs, _, w, rfl, rfl, hp.sq, e1, rn.at e2⟩ hsub
    · cases hs
  · cases b <;> first
      | (exfalso; simp [Pr.sem] at hs; done)
      | skip
    obtain ⟨p, vs, rfl, hp, hvs⟩ := ha
    obtain rfl := bv_int hb
    simp only [Pr.sem, i1] at hs
    split at hs
    · rename_i d hd
      cases hs
      obtain ⟨w, e1, e2⟩ := atD_atI hvs hd
      exact ix_list value slice ps sh σ H _ _ v u Q I rx ry ⟨p, vs, _, w, rfl, rfl, .of hp, e1, rn.at e2⟩ hsub
    · cases hs
  · simp only [Pr.sem, i1] at hs
    split at hs
    · rename_i k hk
      split at hs
      · rename_i ok
        split at hs
        · rename_i d hd
          cases hs
          obtain ⟨p, H2, o, rfl, I2, bk, g, e, q⟩ := dg_any I ha hb hk ok
          obtain ⟨w, rfl, hw⟩ := q d hd
          obtain rfl : v = Value.ref p := rx
          unfold subscriptTail
          refine wpAny_bind ?_
          have hT := dict_typeIs I2 g
          rw [getitemInPython_of_ne hT.not_modules]
          refine wpAny_bind (wpAny_specialOf hT PySem.F.slot_dict_getitem.lookup ?_)
          have fin : wpAny (model X.prog X.w) X.A (subscripted slice false (.ref p) u) (fun r s₃ => wpAny (model X.prog X.w) X.A (letTemporaryGo value (.ref p) r >>= fun _ => pure r) (EP X ps σ Q) X.xe s₃) X.xe sh := by
            rw [hsub]
            exact wpAny_operating (d_getItem hu I2 g ry fun w' s' I' rw' => wpAny_bind (wpAny_letTemporaryGo (wpAny_pure ⟨w, H, bk s' I', rw', rn.at hw⟩)))
          first
            | exact wpAny_pure (wpAny_bind fin)
            | exact wpAny_bind (wpAny_pure (wpAny_bind fin))
            | exact wpAny_bind fin
        · cases hs
      · cases hs
    · cases hs

/-! ### slices -/
def cutS : Dt → Option Int → Option Int → Option Ow1
  | .lst a, lo, hi => some (.lst (cutD a lo hi))
  | .tup a, lo, hi => some (.imm (.tup (cutD a lo hi)))
  | _, _, _ => none
theorem cutD_eq {α : Type} (xs : List α) (lo hi : Option Int) (n : Nat) (hn : xs.length = n) :
    (xs.drop (match lo with | none => 0 | some v => cutN n 0 v)).take ((match hi with | none => n | some v => cutN n 0 v) - (match lo with | none => 0 | some v => cutN n 0 v)) = (xs.drop (HT.sIx n 0 lo)).take (HT.sIx n n hi - HT.sIx n 0 lo) := by
  cases lo <;> cases hi <;> rfl
theorem dvs_cut {K : PySem.W.Frag} {F : As} {H : Hp} {ds : List Dt} {vs : List V} (h : DVs K F H vs ds) (lo hi : Option Int) : DVs K F H (cutV vs lo hi) (cutD ds lo hi) := by
  have e : cutD ds lo hi = (ds.drop (HT.sIx ds.length 0 lo)).take (HT.sIx ds.length ds.length hi - HT.sIx ds.length 0 lo) := cutD_eq ds lo hi ds.length rfl
  unfold cutV
  rw [e, ← h.len]
  exact (h.drop _).take _
theorem sq_cut : SlR X (fun x lo hi H Q => ∃ F d o, (∀ x, F x → H x ≠ none) ∧ BV X.K F H x d ∧ cutS d lo hi = some o ∧ RN X.K F H o Q) := by
  intro ps sh σ H x v vl vu lo hi sl Q I rx hsl pl pu ⟨F, d, o, ft, hv, hs, rn⟩
  cases d <;> first
    | (exfalso; simp [cutS] at hs; done)
    | skip
  · cases hs
    obtain ⟨p, vs, rfl, hp, hvs⟩ := bv_tup hv
    have hc := dvs_cut hvs lo hi
    refine sl_tupA ps sh σ H _ v vl vu lo hi sl Q I rx hsl pl pu ⟨p, vs, rfl, hp.sq, fun e => ?_, fun _ q hq => rn.newT ft hq hc⟩
    have e1 : cutV vs lo hi = vs := by
      unfold cutV
      rw [e.1, e.2]
      simp
    rw [e1] at hc
    exact rn.at (.tup hp hc)
  · cases hs
    obtain ⟨p, vs, rfl, hp, hvs⟩ := hv
    exact sl_list ps sh σ H _ v vl vu lo hi sl Q I rx hsl pl pu ⟨p, vs, rfl, .of hp, fun q hq => rn.newL ft hq (dvs_cut hvs lo hi)⟩

/-! ### calls -/
theorem vals_of1 {x : V} {us : List Value} (h : Vals [x] us) : ∃ u, us = [u] ∧ RelV x u := vals1 h
theorem cq_len : CallR X (.builtin "len") (rQ X.K .len) := by
  intro ps sh σ H xs us Q I r ⟨F, ds, o, ft, hv, hs, rn⟩
  match ds, hv, hs with
  | [a], hv, hs =>
    obtain ⟨x, rfl, ha⟩ := bvs1 hv
    cases a <;> first
      | (exfalso; simp [Pr.sem] at hs; done)
      | skip
    · obtain rfl := bv_str ha
      simp only [Pr.sem, i1] at hs
      split at hs
      · rename_i hl
        cases hs
        exact call_len_str ps sh σ H _ us Q I r ⟨_, rfl, hl, rn.at (.int _)⟩
      · cases hs
    · obtain ⟨p, vs, rfl, hp, hvs⟩ := bv_tup ha
      cases hs
      refine call_len_seq ps sh σ H _ us Q I r ⟨p, vs, rfl, .inr hp.sq, ?_⟩
      rw [hvs.len]
      exact rn.at (.int _)
    · obtain ⟨p, vs, rfl, hp, hvs⟩ := ha
      cases hs
      refine call_len_seq ps sh σ H _ us Q I r ⟨p, vs, rfl, .inl (.of hp), ?_⟩
      rw [hvs.len]
      exact rn.at (.int _)
    · obtain ⟨p, rfl, hd⟩ := ha
      cases hs
      rcases hd with ⟨ks, hp, hks⟩ | ⟨ks, hp, hks⟩
      · obtain ⟨u, rfl, ru⟩ := vals1 r
        cases ru
        exact d_len I hp.rd fun t s' I' => ⟨.int ks.length, H, I', ⟨t, rfl⟩, by rw [hks.len]; exact rn.at (.int _)⟩
      · obtain ⟨u, rfl, ru⟩ := vals1 r
        cases ru
        obtain ⟨z, hy, ys, rel, dd⟩ := dt_rd I.hok hp.rd
        have hl : ks.length = ys.length := Paired.length rel
        refine call_len_dictH hy dd (by rw [← hl]; rw [sizeLine_eq] at z; omega) ?_
        rw [← hl]
        exact ⟨.int ks.length, H, I.tok _, ⟨_, rfl⟩, by rw [hks.len]; exact rn.at (.int _)⟩
    · obtain ⟨p, rfl, hp⟩ := bv_scr ha
      cases hs
      refine call_len_seq ps sh σ H _ us Q I r ⟨p, _, rfl, .inl hp.sq, ?_⟩
      rw [List.length_map]
      exact rn.at (.int _)
  | [], _, hs => simp [Pr.sem] at hs
  | _ :: _ :: _, _, hs => simp [Pr.sem] at hs
theorem cq_abs : CallR X (.builtin "abs") (rQ X.K .abs) := by
  intro ps sh σ H xs us Q I r ⟨F, ds, o, ft, hv, hs, rn⟩
  match ds, hv, hs with
  | [.int a], hv, hs =>
    obtain ⟨x, rfl, ha⟩ := bvs1 hv
    obtain rfl := bv_int ha
    cases hs
    exact call_abs ps sh σ H _ us Q I r ⟨_, rfl, rn.at (.int _)⟩
theorem cq_max2 (hc : X.calm = true) : CallR X (.builtin "max") (rQ X.K .max2) := by
  intro ps sh σ H xs us Q I r ⟨F, ds, o, ft, hv, hs, rn⟩
  match ds, hv, hs with
  | [.int a, .int b], .cons ha (.cons hb .nil), hs =>
    obtain rfl := bv_int ha
    obtain rfl := bv_int hb
    cases hs
    exact call_max2 hc ps sh σ H _ us Q I r ⟨_, _, rfl, rn.at (.int _)⟩
theorem cq_min2 (hc : X.calm = true) : CallR X (.builtin "min") (rQ X.K .min2) := by
  intro ps sh σ H xs us Q I r ⟨F, ds, o, ft, hv, hs, rn⟩
  match ds, hv, hs with
  | [.int a, .int b], .cons ha (.cons hb .nil), hs =>
    obtain rfl := bv_int ha
    obtain rfl := bv_int hb
    cases hs
    exact call_min2 hc ps sh σ H _ us Q I r ⟨_, _, rfl, rn.at (.int _)⟩
theorem cq_int : CallR X (.type "int") (rQ X.K .int) := by
  intro ps sh σ H xs us Q I r ⟨F, ds, o, ft, hv, hs, rn⟩
  match ds, hv, hs with
  | [.int a], hv, hs =>
    obtain ⟨x, rfl, ha⟩ := bvs1 hv
    obtain rfl := bv_int ha
    cases hs
    exact call_int1 ps sh σ H _ us Q I r (.inl ⟨_, rfl, rn.at (.int _)⟩)
  | [.bl a], hv, hs =>
    obtain ⟨x, rfl, ha⟩ := bvs1 hv
    obtain rfl := bv_bl ha
    cases hs
    exact call_int1 ps sh σ H _ us Q I r (.inr ⟨_, rfl, rn.at (.int _)⟩)
theorem cq_tuple : CallR X (.type "tuple") (rQ X.K .tuple) := by
  intro ps sh σ H xs us Q I r ⟨F, ds, o, ft, hv, hs, rn⟩
  match ds, hv, hs with
  | [.lst a], hv, hs =>
    obtain ⟨x, rfl, ha⟩ := bvs1 hv
    obtain ⟨p, vs, rfl, hp, hvs⟩ := ha
    cases hs
    exact call_tuple_of ps sh σ H _ us Q I r ⟨p, vs, rfl, .inl ⟨.of hp, fun q hq => rn.newT ft hq hvs⟩⟩
  | [.tup a], hv, hs =>
    obtain ⟨x, rfl, ha⟩ := bvs1 hv
    obtain ⟨p, vs, rfl, hp, hvs⟩ := bv_tup ha
    cases hs
    exact call_tuple_of ps sh σ H _ us Q I r ⟨p, vs, rfl, .inr ⟨hp.sq, rn.at (.tup hp hvs)⟩⟩
theorem cq_list : CallR X (.type "list") (rQ X.K .list) := by
  intro ps sh σ H xs us Q I r ⟨F, ds, o, ft, hv, hs, rn⟩
  match ds, hv, hs with
  | [.lst a], hv, hs =>
    obtain ⟨x, rfl, ha⟩ := bvs1 hv
    obtain ⟨p, vs, rfl, hp, hvs⟩ := ha
    cases hs
    exact call_list_of ps sh σ H _ us Q I r ⟨p, vs, rfl, .inl (.of hp), fun q hq => rn.newL ft hq hvs⟩
  | [.tup a], hv, hs =>
    obtain ⟨x, rfl, ha⟩ := bvs1 hv
    obtain ⟨p, vs, rfl, hp, hvs⟩ := bv_tup ha
    cases hs
    exact call_list_of ps sh σ H _ us Q I r ⟨p, vs, rfl, .inr hp.sq, fun q hq => rn.newL ft hq hvs⟩
theorem insI_perm (x : Int) : ∀ l : List Int, (insI x l).Perm (x :: l)
  | [] => .refl _
  | y :: ys => by
    unfold insI
    split
    · exact .refl _
    · exact ((insI_perm x ys).cons y).trans (.swap x y ys)
theorem sortI_perm : ∀ l : List Int, (sortI l).Perm l
  | [] => .refl _
  | x :: xs => (insI_perm x _).trans ((sortI_perm xs).cons x)
theorem insI_sort (x : Int) : ∀ {l : List Int}, l.Pairwise (· ≤ ·) → (insI x l).Pairwise (· ≤ ·)
  | [], _ => List.pairwise_singleton _ _
  | y :: ys, h => by
    have hp := List.pairwise_cons.mp h
    unfold insI
    split
    · rename_i hxy
      refine List.pairwise_cons.mpr ⟨fun z hz => ?_, h⟩
      rcases List.mem_cons.mp hz with e | e
      · rw [e]; exact hxy
      · exact Int.le_trans hxy (hp.1 z e)
    · rename_i hxy
      refine List.pairwise_cons.mpr ⟨fun z hz => ?_, insI_sort x hp.2⟩
      rcases List.mem_cons.mp ((insI_perm x ys).mem_iff.mp hz) with e | e
      · rw [e]; omega
      · exact hp.1 z e
theorem sortI_sort : ∀ l : List Int, (sortI l).Pairwise (· ≤ ·)
  | [] => .nil
  | x :: xs => insI_sort x (sortI_sort xs)
theorem dks_keys {K : PySem.W.Frag} {F : As} {H : Hp} : ∀ {kvs : List (Key × V)} {ds : List (Dt × Dt)} {is : List Int}, DKs K F H kvs ds → toInts (ds.map (·.1)) = some is → kvs.map (·.1) = is.map Sum.inl
  | _, _, is, .nil, h => by simp [toInts] at h; subst h; rfl
  | _, _, is, .cons (k := k) q qs, h => by
    cases k with
    | inl i =>
      simp only [List.map_cons, kD, toInts] at h
      split at h
      · rename_i js e
        cases h
        simp only [List.map_cons, dks_keys qs e]
      · cases h
    | inr x => simp [kD, toInts] at h
theorem pyL_enc : ∀ {a : List Dt} {es : List PyData}, pyL a = some es → a.map encD = es ∧ ∀ d ∈ a, d.py = some (encD d)
  | [], _, h => by cases h; exact ⟨rfl, fun _ h => nomatch h⟩
  | x :: a, es, h => by
    simp only [pyL] at h
    split at h
    · rename_i y hy
      split at h
      · rename_i ys hys
        cases h
        obtain ⟨q1, q2⟩ := pyL_enc hys
        have e : encD x = y := by unfold encD; rw [hy]
        refine ⟨by rw [List.map_cons, q1, e], fun d hd => ?_⟩
        rcases List.mem_cons.mp hd with z | z
        · rw [z, e]; exact hy
        · exact q2 d z
      · cases h
    · cases h
theorem each_dv {K : PySem.W.Frag} {F : As} {H : Hp} : ∀ {vs : List V} {us : List Value} {a : List Dt}, Vals vs us → DVs K F H vs a → PySem.W.EachIs (fun u d => ∃ v, RelV v u ∧ DV K F H v d) us a
  | _, _, _, .nil, .nil => .nil
  | _, _, _, .cons r rs, .cons q qs => .cons ⟨_, r, q⟩ (each_dv rs qs)
theorem dv_each {K : PySem.W.Frag} {F : As} {H : Hp} : ∀ {us : List Value} {a : List Dt}, PySem.W.EachIs (fun u d => ∃ v, RelV v u ∧ DV K F H v d) us a → ∃ vs, Vals vs us ∧ DVs K F H vs a
  | _, _, .nil => ⟨[], .nil, .nil⟩
  | _, _, .cons ⟨v, r, q⟩ t => by
    obtain ⟨vs, rs, qs⟩ := dv_each t
    exact ⟨v :: vs, .cons r rs, .cons q qs⟩
theorem depth_all : ∀ {es : List PyData} {k : Nat}, PyData.depthAll es ≤ k → ∀ e ∈ es, e.depth ≤ k
  | [], _, _, _, h => nomatch h
  | x :: es, k, h, e, he => by
    have h' : max x.depth (PyData.depthAll es) ≤ k := h
    rcases List.mem_cons.mp he with z | z
    · rw [z]; omega
    · exact depth_all (by omega) e z
theorem each_reads {K : PySem.W.Frag} {F : As} {H : Hp} {h : Heap} (hr : ∀ (d : PyData) (v : V) (u : Value), Dp K H v d → RelV v u → ∃ as, Reads h u d as) : ∀ {us : List Value} {a : List Dt}, PySem.W.EachIs (fun u d => ∃ v, RelV v u ∧ DV K F H v d) us a → (∀ d ∈ a, d.py = some (encD d)) → PySem.W.EachIs (fun u d => ∃ as, Reads h u (encD d) as) us a
  | _, _, .nil, _ => .nil
  | _, _, .cons ⟨v, r, q⟩ t, hp => .cons (hr _ v _ (dv_dp q (hp _ List.mem_cons_self)) r) (each_reads hr t fun d hd => hp d (List.mem_cons_of_mem _ hd))
theorem cq_sorted (hc : X.calm = true) (hu : X.A.units + 100 < cLine) : CallR X (.builtin "sorted") (rQ X.K .sorted) := by
  intro ps sh σ H xs us Q I r ⟨F, ds, o, ft, hv, hs, rn⟩
  match ds, hv, hs with
  | [.lst a], hv, hs =>
    obtain ⟨x, rfl, ha⟩ := bvs1 hv
    obtain ⟨p, vs, rfl, hp, hvs⟩ := ha
    simp only [Pr.sem] at hs
    split at hs
    · rename_i is e
      cases hs
      rw [toInts_eq e] at hvs
      have e2 := dvs_ints_inv hvs
      subst e2
      refine cr_sortedI ps sh σ H _ us Q I r ⟨p, is, rfl, .of hp, fun ns' q h1 h2 hq => ?_⟩
      have e3 : ns' = sortI is := PySem.W.ksm_same (h1.trans (sortI_perm is).symm) h2 (sortI_sort is)
      subst e3
      exact rn.newL ft hq (dvs_ints _)
    · split at hs
      · rename_i es he
        split at hs
        · rename_i hb
          cases hs
          unfold sortB at hb
          rw [Bool.and_eq_true, Bool.and_eq_true, List.all_eq_true, List.all_eq_true, decide_eq_true_eq] at hb
          obtain ⟨⟨b1, b2⟩, b3⟩ := hb
          obtain ⟨m1, m2⟩ := pyL_enc he
          obtain ⟨its, rv, hl, hz⟩ := I.list (SqL.of hp)
          obtain ⟨u, rfl, ru⟩ := vals1 r
          obtain rfl : u = Value.ref p := ru
          have ea := each_dv rv hvs
          refine PySem.W.sorted_data (enc := encD) (bs := a) hl.isList ea (each_reads (fun d v u => Dp.reads I d v u) ea m2) ?_ ?_ (by rw [← hvs.len]; exact hz) (fun b hb => ?_) fun out h1 h2 => ?_
          · rw [m1]
            intro d hd d' hd'
            exact List.all_eq_true.mp (b1 d hd) d' hd'
          · rw [m1]
            refine .inl fun d hd => ?_
            have := b2 d hd
            cases d with
            | tuple xs =>
              cases xs with
              | nil => cases this
              | cons x r => exact ⟨x, r, rfl⟩
            | _ => cases this
          · have := depth_all b3 (encD b) (by rw [← m1]; exact List.mem_map.mpr ⟨b, hb, rfl⟩)
            omega
          · obtain ⟨vs', w1, w2⟩ := dv_each h2
            refine ⟨.ref _, upd H _ (.lst vs'), I.laid (t' := sh.toks) (fun b o e => PyProof.Rows.sortedAll_old e) (Nat.le_succ _) ⟨?_, out, _, w1, (PyProof.Rows.sortedAll_at sh.heap its out.toArray).choose_spec⟩, rfl, rn.newL ft (I.hok.fresh (Nat.le_succ _)) w2⟩
            rw [w2.len, List.length_mergeSort, ← hvs.len]
            exact hz
        · cases hs
      · cases hs
  | [.dic a], hv, hs =>
    obtain ⟨x, rfl, ha⟩ := bvs1 hv
    obtain ⟨p, rfl, hd⟩ := ha
    simp only [Pr.sem] at hs
    split at hs
    · rename_i i0 is e
      split at hs
      · rename_i hz
        cases hs
        rcases hd with ⟨kvs, hp, hk⟩ | ⟨kvs, hp, hk⟩
        · refine call_sortedDI hc ps sh σ H _ us Q I r ⟨p, kvs, i0 :: is, rfl, hp.rd, dks_keys hk e, by simp only [List.length_cons]; omega, fun ns' q h1 h2 hq => ?_⟩
          have e3 : ns' = sortI (i0 :: is) := PySem.W.ksm_same (h1.trans (sortI_perm _).symm) h2 (sortI_sort _)
          subst e3
          exact rn.newL ft hq (dvs_ints _)
        · cases hk with
          | nil => simp [toInts] at e
          | cons q qs => simp [tkD, toInts] at e
      · cases hs
    · cases hs
theorem cq_sum (hc : X.calm = true) : CallR X (.builtin "sum") (rQ X.K .sum) := by
  intro ps sh σ H xs us Q I r ⟨F, ds, o, ft, hv, hs, rn⟩
  match ds, hv, hs with
  | [.lst a], hv, hs =>
    obtain ⟨x, rfl, ha⟩ := bvs1 hv
    obtain ⟨p, vs, rfl, hp, hvs⟩ := ha
    simp only [Pr.sem, i1] at hs
    split at hs
    · rename_i is e
      cases hs
      rw [toInts_eq e] at hvs
      have e2 := dvs_ints_inv hvs
      subst e2
      exact cr_sum hc ps sh σ H _ us Q I r ⟨p, is, rfl, .of hp, rn.at (.int _)⟩
    · cases hs
theorem mostL_is : ∀ (l : List Int) (m : Int), mostL m l ∈ m :: l ∧ ∀ x ∈ m :: l, x ≤ mostL m l
  | [], m => ⟨by simp [mostL], fun x hx => by simp at hx; simp [mostL, hx]⟩
  | y :: ys, m => by
    unfold mostL
    split
    · rename_i h
      obtain ⟨h1, h2⟩ := mostL_is ys y
      refine ⟨List.mem_cons_of_mem _ h1, fun x hx => ?_⟩
      rcases List.mem_cons.mp hx with e | e
      · rw [e]
        exact Int.le_trans (Int.le_of_lt h) (h2 y List.mem_cons_self)
      · exact h2 x e
    · rename_i h
      obtain ⟨h1, h2⟩ := mostL_is ys m
      refine ⟨?_, fun x hx => ?_⟩
      · rcases List.mem_cons.mp h1 with e | e
        · rw [e]; exact List.mem_cons_self
        · exact List.mem_cons_of_mem _ (List.mem_cons_of_mem _ e)
      · rcases List.mem_cons.mp hx with e | e
        · rw [e]; exact h2 m List.mem_cons_self
        · rcases List.mem_cons.mp e with e | e
          · rw [e]
            have := h2 m List.mem_cons_self
            omega
          · exact h2 x (List.mem_cons_of_mem _ e)
theorem leastL_is : ∀ (l : List Int) (m : Int), leastL m l ∈ m :: l ∧ ∀ x ∈ m :: l, leastL m l ≤ x
  | [], m => ⟨by simp [leastL], fun x hx => by simp at hx; simp [leastL, hx]⟩
  | y :: ys, m => by
    unfold leastL
    split
    · rename_i h
      obtain ⟨h1, h2⟩ := leastL_is ys y
      refine ⟨List.mem_cons_of_mem _ h1, fun x hx => ?_⟩
      rcases List.mem_cons.mp hx with e | e
      · rw [e]
        exact Int.le_trans (h2 y List.mem_cons_self) (Int.le_of_lt h)
      · exact h2 x e
    · rename_i h
      obtain ⟨h1, h2⟩ := leastL_is ys m
      refine ⟨?_, fun x hx => ?_⟩
      · rcases List.mem_cons.mp h1 with e | e
        · rw [e]; exact List.mem_cons_self
        · exact List.mem_cons_of_mem _ (List.mem_cons_of_mem _ e)
      · rcases List.mem_cons.mp hx with e | e
        · rw [e]; exact h2 m List.mem_cons_self
        · rcases List.mem_cons.mp e with e | e
          · rw [e]
            have := h2 m List.mem_cons_self
            omega
          · exact h2 x (List.mem_cons_of_mem _ e)
theorem cq_maxL (hc : X.calm = true) : CallR X (.builtin "max") (rQ X.K .maxL) := by
  intro ps sh σ H xs us Q I r ⟨F, ds, o, ft, hv, hs, rn⟩
  match ds, hv, hs with
  | [.lst a], hv, hs =>
    obtain ⟨x, rfl, ha⟩ := bvs1 hv
    obtain ⟨p, vs, rfl, hp, hvs⟩ := ha
    simp only [Pr.sem, i1] at hs
    split at hs
    · rename_i i is e
      cases hs
      rw [toInts_eq e] at hvs
      have e2 := dvs_ints_inv hvs
      subst e2
      refine cr_max hc ps sh σ H _ us Q I r ⟨p, i :: is, rfl, .of hp, by simp, fun m h1 h2 => ?_⟩
      obtain ⟨g1, g2⟩ := mostL_is is i
      have e3 : m = mostL i is := Int.le_antisymm (g2 m h1) (h2 _ g1)
      subst e3
      exact rn.at (.int _)
    · cases hs
theorem cq_minL (hc : X.calm = true) : CallR X (.builtin "min") (rQ X.K .minL) := by
  intro ps sh σ H xs us Q I r ⟨F, ds, o, ft, hv, hs, rn⟩
  match ds, hv, hs with
  | [.lst a], hv, hs =>
    obtain ⟨x, rfl, ha⟩ := bvs1 hv
    obtain ⟨p, vs, rfl, hp, hvs⟩ := ha
    simp only [Pr.sem, i1] at hs
    split at hs
    · rename_i i is e
      cases hs
      rw [toInts_eq e] at hvs
      have e2 := dvs_ints_inv hvs
      subst e2
      refine cr_min hc ps sh σ H _ us Q I r ⟨p, i :: is, rfl, .of hp, by simp, fun m h1 h2 => ?_⟩
      obtain ⟨g1, g2⟩ := leastL_is is i
      have e3 : m = leastL i is := Int.le_antisymm (h2 _ g1) (g2 m h1)
      subst e3
      exact rn.at (.int _)
    · cases hs
theorem cq_any (hc : X.calm = true) : CallR X (.builtin "any") (rQ X.K .any) := by
  intro ps sh σ H xs us Q I r ⟨F, ds, o, ft, hv, hs, rn⟩
  match ds, hv, hs with
  | [.lst a], hv, hs =>
    obtain ⟨x, rfl, ha⟩ := bvs1 hv
    obtain ⟨p, vs, rfl, hp, hvs⟩ := ha
    simp only [Pr.sem, i1] at hs
    split at hs
    · rename_i is e
      cases hs
      rw [toBls_eq e] at hvs
      have e2 := dvs_bls_inv hvs
      subst e2
      exact cr_any hc ps sh σ H _ us Q I r ⟨p, is, rfl, .of hp, rn.at (.bl _)⟩
    · cases hs
theorem cq_all (hc : X.calm = true) : CallR X (.builtin "all") (rQ X.K .all) := by
  intro ps sh σ H xs us Q I r ⟨F, ds, o, ft, hv, hs, rn⟩
  match ds, hv, hs with
  | [.lst a], hv, hs =>
    obtain ⟨x, rfl, ha⟩ := bvs1 hv
    obtain ⟨p, vs, rfl, hp, hvs⟩ := ha
    simp only [Pr.sem, i1] at hs
    split at hs
    · rename_i is e
      cases hs
      rw [toBls_eq e] at hvs
      have e2 := dvs_bls_inv hvs
      subst e2
      exact cr_all hc ps sh σ H _ us Q I r ⟨p, is, rfl, .of hp, rn.at (.bl _)⟩
    · cases hs
theorem cq_repr (hg : X.A.guards = some []) (hu : X.A.units + 100 < cLine) : CallR X (.builtin "repr") (rQ X.K .repr) := by
  intro ps sh σ H xs us Q I r ⟨F, ds, o, ft, hv, hs, rn⟩
  match ds, hv, hs with
  | [a], hv, hs =>
    obtain ⟨x, rfl, ha⟩ := bvs1 hv
    obtain ⟨u, rfl, ru⟩ := vals1 r
    simp only [Pr.sem, i1] at hs
    split at hs
    · rename_i d hd
      split at hs
      · rename_i hc
        cases hs
        simp only [Bool.and_eq_true, Bool.not_eq_true', decide_eq_true_eq] at hc
        obtain ⟨⟨⟨c1, c2⟩, c3⟩, c4⟩ := hc
        have fin : ∀ (s' : Shared) (t : Tok), L2.Inv X ps σ H s' → EP X ps σ Q (.str d.shown t) s' := fun s' t I' => ⟨.str d.shown, H, I', ⟨t, rfl⟩, rn.at (.str _)⟩
        have hdp := bv_dp ha hd
        cases hdp with
        | non =>
          cases ru
          exact PySem.P.repr_of_none (fin _ _ (I.tok _))
        | bl b =>
          cases ru
          have q := fin { sh with toks := sh.toks + 1 } sh.toks (I.tok _)
          exact PySem.P.repr_of_bool q
        | int i =>
          obtain ⟨t, rfl⟩ := ru
          have c1' : decide (i.natAbs.log2 < 1920) = true := c1
          exact PySem.P.repr_of_int (of_decide_eq_true c1') (fin { sh with toks := sh.toks + 1 } sh.toks (I.tok _))
        | str y =>
          obtain ⟨t, rfl⟩ := ru
          exact PySem.P.repr_of_str (fin { sh with toks := sh.toks + 1 } sh.toks (I.tok _)) c4
        | lst h1 h2 =>
          obtain ⟨as, rd⟩ := Dp.reads I _ _ u (.lst h1 h2) ru
          cases ru
          exact repr_of_reads' rd c1 (PyData.noDict_hsm c2) hg (by omega) (fun _ _ e => e) (fun h' t tk hk => fin _ _ (I.kept hk)) c4
        | tup h1 h2 =>
          obtain ⟨as, rd⟩ := Dp.reads I _ _ u (.tup h1 h2) ru
          cases ru
          exact repr_of_reads' rd c1 (PyData.noDict_hsm c2) hg (by omega) (fun _ _ e => e) (fun h' t tk hk => fin _ _ (I.kept hk)) c4
      · cases hs
    · cases hs
  | [], _, hs => simp [Pr.sem] at hs
  | _ :: _ :: _, _, hs => simp [Pr.sem] at hs
theorem cq_str : CallR X (.type "str") (rQ X.K .str) := by
  intro ps sh σ H xs us Q I r ⟨F, ds, o, ft, hv, hs, rn⟩
  match ds, hv, hs with
  | [.int a], hv, hs =>
    obtain ⟨x, rfl, ha⟩ := bvs1 hv
    obtain rfl := bv_int ha
    simp only [Pr.sem, i1] at hs
    split at hs
    · rename_i hl
      cases hs
      exact call_str_int ps sh σ H _ us Q I r ⟨_, rfl, hl, rn.at (.str _)⟩
    · cases hs
  | [.str a], hv, hs =>
    obtain ⟨x, rfl, ha⟩ := bvs1 hv
    obtain rfl := bv_str ha
    cases hs
    exact SkE.call_str_str ps sh σ H _ us Q I r ⟨_, rfl, rn.at (.str _)⟩
end
end Pd
set_option Elab.async false
set_option linter.all false
set_option maxRecDepth 100000
set_option maxHeartbeats 4000000
/-! Part 5: expressions. -/
namespace Pd
open PySem PySem.Spec PyProof.Rows L2

def Wp {α : Type} (r : Rs α) (q : α → En → Prop) (x : Dt → En → Prop) : Prop :=
  match r with
  | .ok a e => q a e
  | .exc d e => x d e
  | .no => False
theorem Wp.imp {α : Type} {r : Rs α} {q q' : α → En → Prop} {x x' : Dt → En → Prop} (h : Wp r q x) (hq : ∀ a e, r = .ok a e → q a e → q' a e) (hx : ∀ d e, x d e → x' d e) : Wp r q' x' := by
  cases r with
  | ok a e => exact hq a e rfl h
  | exc d e => exact hx d e h
  | no => exact h

/-- how an exception stands for data -/
abbrev Xv := PySem.W.Frag → As → Hp → Value → Option Addr → Dt → Prop
/-- what is wanted of an exception that leaves -/
def Xw (K : PySem.W.Frag) (xv : Xv) (W : WX) (E : En0) (L : Nat → As) (σ : L2.St) (Ts : List Tp) (d : Dt) (env : En) : Prop :=
  ∀ F H S c od, Sx K E F H S L σ env Ts → xv K F H c od d → W c od σ H
theorem Xw.pop {K : PySem.W.Frag} {xv : Xv} {W : WX} {E : En0} {L : Nat → As} {σ : L2.St} {t : Tp} {Ts : List Tp} {d : Dt} {env : En} (h : Xw K xv W E L σ Ts d env) : Xw K xv W E L σ (t :: Ts) d env :=
  fun F H S c od s x => h F H S c od s.pop x

section
variable (K : PySem.W.Frag) (xv : Xv) (W : WX)
def RdE (f : En → Rs Ow) : TE := fun σ H Q => ∃ E F S L env Ts, Sx K E F H S L σ env Ts ∧ Wp (f env) (fun o e => ∀ v F' H' S' T, Sx K E F' H' S' L σ e (⟨v, o, T⟩ :: Ts) → Q v H') (Xw K xv W E L σ Ts)
/-- a value seen through a slot, or at hand -/
def OpOk (σ : L2.St) (v : V) (Ts : List Tp) : Tm → List Tp → Prop
  | .inl i, Us => σ[i]? = some (some v) ∧ Us = Ts
  | .inr o, Us => ∃ T, Us = ⟨v, o, T⟩ :: Ts
def RdP (f : En → Rs Tm) : TE := fun σ H Q => ∃ E F S L env Ts, Sx K E F H S L σ env Ts ∧ Wp (f env) (fun t e => ∀ v F' H' S' Us, OpOk σ v Ts t Us → Sx K E F' H' S' L σ e Us → Q v H') (Xw K xv W E L σ Ts)
inductive OpV (σ : L2.St) : List V → List Tm → List Tp → Prop
  | nil : OpV σ [] [] []
  | slot {i : Nat} {v : V} {vs : List V} {ts : List Tm} {Us : List Tp} : σ[i]? = some (some v) → OpV σ vs ts Us → OpV σ (v :: vs) (.inl i :: ts) Us
  | temp {v : V} {o : Ow} {T : As} {vs : List V} {ts : List Tm} {Us : List Tp} : OpV σ vs ts Us → OpV σ (v :: vs) (.inr o :: ts) (⟨v, o, T⟩ :: Us)
def RdA (f : En → Rs (List Tm)) : TA := fun σ H Q => ∃ E F S L env Ts, Sx K E F H S L σ env Ts ∧ Wp (f env) (fun ts e => ∀ vs Us F' H' S', Sx K E F' H' S' L σ e (Us.reverse ++ Ts) → OpV σ vs ts Us → Q vs H') (Xw K xv W E L σ Ts)
inductive ImV : List V → List Dt → List Tp → Prop
  | nil : ImV [] [] []
  | cons {v : V} {d : Dt} {vs : List V} {ds : List Dt} {Us : List Tp} : ImV vs ds Us → ImV (v :: vs) (d :: ds) (⟨v, im d, fun _ => False⟩ :: Us)
def RdS (f : En → Rs (List Dt)) : TA := fun σ H Q => ∃ E F S L env Ts, Sx K E F H S L σ env Ts ∧ Wp (f env) (fun ds e => ∀ vs Us F' H' S', Sx K E F' H' S' L σ e (Us.reverse ++ Ts) → ImV vs ds Us → Q vs H') (Xw K xv W E L σ Ts)
inductive OwV : List V → List Ow1 → List Tp → Prop
  | nil : OwV [] [] []
  | cons {v : V} {o : Ow1} {T : As} {vs : List V} {os : List Ow1} {Us : List Tp} : OwV vs os Us → OwV (v :: vs) (o :: os) (⟨v, .p o, T⟩ :: Us)
def RdW (f : En → Rs (List Ow1)) : TA := fun σ H Q => ∃ E F S L env Ts, Sx K E F H S L σ env Ts ∧ Wp (f env) (fun os e => ∀ vs Us F' H' S', Sx K E F' H' S' L σ e (Us.reverse ++ Ts) → OwV vs os Us → Q vs H') (Xw K xv W E L σ Ts)
def RdB (f : En → Rs Bool) : TT := fun σ H Q => ∃ E F S L env Ts, Sx K E F H S L σ env Ts ∧ Wp (f env) (fun b e => ∀ F' H' S', Sx K E F' H' S' L σ e Ts → Q b H') (Xw K xv W E L σ Ts)
end

theorem _root_.L2.PE.imp {X : Cx} {e : PySem.Expr} {t t' : TE} (h : PE X e t) (q : ∀ σ H Q, t' σ H Q → t σ H Q) : PE X e t' := ⟨fun ps s σ H Q I hw => h.run ps s σ H Q I (q σ H Q hw)⟩
theorem _root_.L2.PA.imp {X : Cx} {es : List PySem.Expr} {t t' : TA} (h : PA X es t) (q : ∀ σ H Q, t' σ H Q → t σ H Q) : PA X es t' := ⟨fun pos ps s σ H Q I hw => h.run pos ps s σ H Q I (q σ H Q hw)⟩
theorem _root_.L2.PT.imp {X : Cx} {e : PySem.Expr} {t t' : TT} (h : PT X e t) (q : ∀ σ H Q, t' σ H Q → t σ H Q) : PT X e t' := ⟨fun ps s σ H Q I hw => h.run ps s σ H Q I (q σ H Q hw)⟩
theorem _root_.L2.PW.imp {X : Cx} {e : PySem.Expr} {t t' : TT} (h : PW X e t) (q : ∀ σ H Q, t' σ H Q → t σ H Q) : PW X e t' := ⟨fun wh ps s σ H Q I hw => h.run wh ps s σ H Q I (q σ H Q hw)⟩

section
variable {K : PySem.W.Frag} {xv : Xv} {W : WX} {C : Cl} {σ : L2.St} {H : Hp}

/-! ### operands -/
theorem rdp_slot {i : Nat} {Q : VK} (h : RdP K xv W (evp C (.v i)) σ H Q) : tVar i σ H Q := by
  obtain ⟨E, F, S, L, env, Ts, s, w⟩ := h
  simp only [evp] at w
  split at w
  · rename_i o hg
    obtain ⟨v, e1, e2⟩ := s.sl i o hg
    exact ⟨v, e1, w v F H S Ts ⟨e1, rfl⟩ s⟩
  · exact w.elim
theorem rdp_ex {x : Ex} {Q : VK} (h : RdP K xv W (evp C (.e x)) σ H Q) : RdE K xv W (ev C x) σ H Q := by
  obtain ⟨E, F, S, L, env, Ts, s, w⟩ := h
  refine ⟨E, F, S, L, env, Ts, s, ?_⟩
  simp only [evp] at w
  split at w
  · rename_i o e1 hx
    rw [hx]
    exact fun v F' H' S' T s' => w v F' H' S' _ ⟨T, rfl⟩ s'
  · rename_i d e1 hx
    rw [hx]
    exact w
  · exact w.elim
theorem rda_nil {Q : List V → Hp → Prop} (h : RdA K xv W (evo C .nil) σ H Q) : Q [] H := by
  obtain ⟨E, F, S, L, env, Ts, s, w⟩ := h
  simp only [evo] at w
  exact w [] [] F H S s .nil
theorem rda_cons {o : Op} {os : Ops} {Q : List V → Hp → Prop} (h : RdA K xv W (evo C (.cons o os)) σ H Q) : RdP K xv W (evp C o) σ H fun v H1 => RdA K xv W (evo C os) σ H1 fun vs H2 => Q (v :: vs) H2 := by
  obtain ⟨E, F, S, L, env, Ts, s, w⟩ := h
  refine ⟨E, F, S, L, env, Ts, s, ?_⟩
  simp only [evo] at w
  split at w
  · rename_i t e1 hx
    rw [hx]
    intro v F' H' S' Us ok s'
    refine ⟨E, F', S', L, e1, Us, s', ?_⟩
    split at w
    · rename_i ts e2 hy
      rw [hy]
      intro vs Us' F'' H'' S'' s'' ov
      cases t with
      | inl i =>
        obtain ⟨hv, rfl⟩ := ok
        exact w (v :: vs) Us' F'' H'' S'' s'' (.slot hv ov)
      | inr ow =>
        obtain ⟨T, rfl⟩ := ok
        refine w (v :: vs) (⟨v, ow, T⟩ :: Us') F'' H'' S'' ?_ (.temp ov)
        simpa using s''
    · rename_i d e2 hy
      rw [hy]
      cases t with
      | inl i =>
        obtain ⟨hv, rfl⟩ := ok
        exact w
      | inr ow =>
        obtain ⟨T, rfl⟩ := ok
        exact Xw.pop w
    · exact w.elim
  · rename_i d e1 hx
    rw [hx]
    exact w
  · exact w.elim
theorem opv_views {E : En0} {F : As} {S : Nat → As} {L : Nat → As} {env : En} {Rs : List Tp} (s : Sx K E F H S L σ env Rs) {ts : List Tm} {vs : List V} {Us : List Tp} (ov : OpV σ vs ts Us) :
    ∀ {ds : List Dt}, (∀ u ∈ Us, u ∈ Rs) → vws env ts = some ds → Bvs K F H vs ds := by
  induction ov with
  | nil =>
    intro ds hu e
    simp only [vws] at e
    cases e
    exact .nil
  | @slot i v vs ts Us hv r ih =>
    intro ds hu e
    simp only [vws, Tm.vw] at e
    split at e
    · rename_i d hd
      split at e
      · rename_i ds' he
        cases e
        split at hd
        · rename_i o hg
          obtain ⟨w, ew, bw⟩ := s.view hg hd
          rw [hv] at ew
          cases ew
          exact .cons bw (ih hu he)
        · cases hd
      · cases e
    · cases e
  | @temp v o T vs ts Us r ih =>
    intro ds hu e
    simp only [vws, Tm.vw] at e
    split at e
    · rename_i d hd
      split at e
      · rename_i ds' he
        cases e
        exact .cons ((s.tm _ (hu _ List.mem_cons_self)).bv hd) (ih (fun u hm => hu u (List.mem_cons_of_mem _ hm)) he)
      · cases e
    · cases e
/-- a pure operation upon its operands -/
theorem rd_prim {q : Pr} {os : Ops} {Q : VK} (h : RdE K xv W (ev C (.pr q os)) σ H Q) : RdA K xv W (evo C os) σ H fun vs H1 => rQ K q vs H1 Q := by
  obtain ⟨E, F, S, L, env, Ts, s, w⟩ := h
  refine ⟨E, F, S, L, env, Ts, s, ?_⟩
  simp only [ev] at w
  split at w
  · rename_i ts e1 hx
    rw [hx]
    split at w
    · rename_i ds hd
      split at w
      · rename_i o ho
        intro vs Us F' H' S' s' ov
        refine ⟨F', ds, o, fun x hx => (s'.fr x hx).1, opv_views s' ov (fun u hu => List.mem_append_left _ (List.mem_reverse.mpr hu)) hd, ho, fun v F2 H2 T c1 c2 c3 c4 hv => ?_⟩
        have s2 : Sx K E F2 H2 S' L σ e1 (⟨v, .p o, T⟩ :: (Us.reverse ++ Ts)) := s'.fresh c1 c2 c3 c4 hv
        exact w v F2 H2 S' T (s2.sub ((List.sublist_append_right _ _).cons_cons _))
      · exact w.elim
    · exact w.elim
  · rename_i d e1 hx
    rw [hx]
    exact w
  · exact w.elim

/-! ### constants, names -/
theorem rd_cst {d : Dt} {v : V} {Q : VK} (hv : ∀ F H, DV K F H v d) (h : RdE K xv W (ev C (.cst d)) σ H Q) : tC v σ H Q := by
  obtain ⟨E, F, S, L, env, Ts, s, w⟩ := h
  simp only [ev] at w
  exact w v F H S _ (s.pushI (hv F H))
theorem rd_var {i : Nat} {Q : VK} (h : RdE K xv W (ev C (.var i)) σ H Q) : tVar i σ H Q := by
  obtain ⟨E, F, S, L, env, Ts, s, w⟩ := h
  simp only [ev] at w
  split at w
  · rename_i d hg
    obtain ⟨v, e1, e2⟩ := s.sl i _ hg
    exact ⟨v, e1, w v F H S _ (s.pushI e2.2)⟩
  · rename_i o hne hg
    obtain ⟨s1, v, e1, e2⟩ := s.frz hg
    exact ⟨v, e1, w v _ H _ _ (s1.pushI e2)⟩
  · exact w.elim

/-! ### displays -/
theorem dt?_p {o : Ow} {d : Dt} (h : o.dt? = some d) : ∃ o1, o = .p o1 ∧ o1.dt = d := by
  cases o with
  | p o => exact ⟨o, rfl, by simpa [Ow.dt?] using h⟩
  | lk _ => cases h
  | rc _ => cases h
theorem rds_nil {Q : List V → Hp → Prop} (h : RdS K xv W (evs C .nil) σ H Q) : Q [] H := by
  obtain ⟨E, F, S, L, env, Ts, s, w⟩ := h
  simp only [evs] at w
  exact w [] [] F H S s .nil
theorem rds_cons {x : Ex} {xs : Exs} {Q : List V → Hp → Prop} (h : RdS K xv W (evs C (.cons x xs)) σ H Q) : RdE K xv W (ev C x) σ H fun v H1 => RdS K xv W (evs C xs) σ H1 fun vs H2 => Q (v :: vs) H2 := by
  obtain ⟨E, F, S, L, env, Ts, s, w⟩ := h
  refine ⟨E, F, S, L, env, Ts, s, ?_⟩
  simp only [evs] at w
  split at w
  · rename_i o e1 hx
    rw [hx]
    split at w
    · rename_i d hd
      obtain ⟨o1, rfl, rfl⟩ := dt?_p hd
      intro v F' H' S' T s'
      obtain ⟨s1, dv⟩ := s'.frzT
      refine ⟨E, _, S', L, e1, _, s1.pushI dv, ?_⟩
      split at w
      · rename_i ds e2 hy
        rw [hy]
        intro vs Us F'' H'' S'' s'' iv
        refine w (v :: vs) _ F'' H'' S'' ?_ (.cons iv)
        simpa using s''
      · rename_i d e2 hy
        rw [hy]
        exact Xw.pop w
      · exact w.elim
    · exact w.elim
  · rename_i d e1 hx
    rw [hx]
    exact w
  · exact w.elim
theorem imv_dvs {E : En0} {F : As} {S : Nat → As} {L : Nat → As} {env : En} {Rs : List Tp} (s : Sx K E F H S L σ env Rs) : ∀ {vs : List V} {ds : List Dt} {Us : List Tp}, (∀ u ∈ Us, u ∈ Rs) → ImV vs ds Us → DVs K F H vs ds
  | _, _, _, _, .nil => .nil
  | _, _, _, hu, .cons r => .cons ((s.tm _ (hu _ List.mem_cons_self)).2) (imv_dvs s (fun u hm => hu u (List.mem_cons_of_mem _ hm)) r)
theorem rd_tup {es : Exs} {Q : VK} (h : RdE K xv W (ev C (.tup es)) σ H Q) : tTup (RdS K xv W (evs C es)) σ H Q := by
  obtain ⟨E, F, S, L, env, Ts, s, w⟩ := h
  refine ⟨E, F, S, L, env, Ts, s, ?_⟩
  simp only [ev] at w
  split at w
  · rename_i ds e1 hx
    rw [hx]
    split at w
    · rename_i hl
      intro vs Us F' H' S' s' iv
      have dv := imv_dvs s' (fun u hu => List.mem_append_left _ (List.mem_reverse.mpr hu)) iv
      refine ⟨by rw [dv.len]; exact hl, fun p hp => ?_⟩
      have rn : RN K F' H' (.imm (.tup ds)) Q := fun v F2 H2 T c1 c2 c3 c4 hv => by
        have s2 : Sx K E F2 H2 S' L σ e1 (⟨v, im (.tup ds), T⟩ :: (Us.reverse ++ Ts)) := s'.fresh c1 c2 c3 c4 hv
        exact w v F2 H2 S' T (s2.sub ((List.sublist_append_right _ _).cons_cons _))
      exact rn.newT (fun x hx => (s'.fr x hx).1) hp dv
    · exact w.elim
  · rename_i d e1 hx
    rw [hx]
    exact w
  · exact w.elim
theorem rd_lst {es : Exs} {Q : VK} (h : RdE K xv W (ev C (.lst es)) σ H Q) : tLst (RdS K xv W (evs C es)) σ H Q := by
  obtain ⟨E, F, S, L, env, Ts, s, w⟩ := h
  refine ⟨E, F, S, L, env, Ts, s, ?_⟩
  simp only [ev] at w
  split at w
  · rename_i ds e1 hx
    rw [hx]
    split at w
    · rename_i hl
      intro vs Us F' H' S' s' iv
      have dv := imv_dvs s' (fun u hu => List.mem_append_left _ (List.mem_reverse.mpr hu)) iv
      refine ⟨by rw [dv.len]; exact hl, fun p hp => ?_⟩
      have rn : RN K F' H' (.lst ds) Q := fun v F2 H2 T c1 c2 c3 c4 hv => by
        have s2 : Sx K E F2 H2 S' L σ e1 (⟨v, .p (.lst ds), T⟩ :: (Us.reverse ++ Ts)) := s'.fresh c1 c2 c3 c4 hv
        exact w v F2 H2 S' T (s2.sub ((List.sublist_append_right _ _).cons_cons _))
      exact rn.newL (fun x hx => (s'.fr x hx).1) hp dv
    · exact w.elim
  · rename_i d e1 hx
    rw [hx]
    exact w
  · exact w.elim
theorem rdw_nil {Q : List V → Hp → Prop} (h : RdW K xv W (evw C .nil) σ H Q) : Q [] H := by
  obtain ⟨E, F, S, L, env, Ts, s, w⟩ := h
  simp only [evw] at w
  exact w [] [] F H S s .nil
theorem rdw_cons {x : Ex} {xs : Exs} {Q : List V → Hp → Prop} (h : RdW K xv W (evw C (.cons x xs)) σ H Q) : RdE K xv W (ev C x) σ H fun v H1 => RdW K xv W (evw C xs) σ H1 fun vs H2 => Q (v :: vs) H2 := by
  obtain ⟨E, F, S, L, env, Ts, s, w⟩ := h
  refine ⟨E, F, S, L, env, Ts, s, ?_⟩
  simp only [evw] at w
  split at w
  · rename_i o e1 hx
    rw [hx]
    intro v F' H' S' T s'
    refine ⟨E, F', S', L, e1, _, s', ?_⟩
    split at w
    · rename_i os e2 hy
      rw [hy]
      intro vs Us F'' H'' S'' s'' iv
      refine w (v :: vs) (⟨v, .p o, T⟩ :: Us) F'' H'' S'' ?_ (.cons iv)
      simpa using s''
    · rename_i d e2 hy
      rw [hy]
      exact Xw.pop w
    · exact w.elim
  · exact w.elim
  · rename_i d e1 hx
    rw [hx]
    exact w
  · exact w.elim
theorem rd_dnew {Q : VK} (h : RdE K xv W (ev C .dnew) σ H Q) : tDNewK σ H Q := by
  obtain ⟨E, F, S, L, env, Ts, s, w⟩ := h
  simp only [ev] at w
  intro p hp
  have ne : ∀ x, H x ≠ none → x ≠ p := fun x hx e => by subst e; exact hx hp
  refine w (.ref p) F _ S (fun x => x = p) (s.fresh (fun _ z => z) (fun _ z => .inl z) (fun x hx => upd_ne (ne x hx)) (fun x hx => ?_) ?_)
  · subst hx
    exact ⟨hp, by rw [upd_same]; simp, fun z => (s.fr _ z).1 hp⟩
  · exact ⟨p, rfl, fun _ => Iff.rfl, .inl ⟨[], upd_same, .nil⟩⟩

/-! ### tests -/
theorem bv_tru {F : As} {v : V} {d : Dt} {b : Bool} (h : BV K F H v d) (e : d.tru = some b) : TruV K v H b := by
  cases d with
  | non => cases h; cases e; rfl
  | bl c => cases h; cases e; rfl
  | int c => cases h; cases e; rfl
  | str c =>
    cases h
    simp only [Dt.tru] at e
    split at e
    · rename_i hl
      cases e
      refine ⟨hl, ?_⟩
      cases c.length <;> rfl
    · cases e
  | tup ds =>
    obtain ⟨a, vs, rfl, hp, hvs⟩ := bv_tup h
    cases e
    exact .inr (.inl ⟨vs, hp.sq, by cases hvs <;> rfl⟩)
  | lst ds =>
    obtain ⟨a, vs, rfl, hp, hvs⟩ := h
    cases e
    exact .inl ⟨vs, .of hp, by cases hvs <;> rfl⟩
  | dic ds => cases e
  | scr ds => cases e
theorem rd_tr {o : Op} {Q : Bool → Hp → Prop} (h : RdB K xv W (evt C (.tr o)) σ H Q) : RdP K xv W (evp C o) σ H fun v H1 => ∃ b, TruV K v H1 b ∧ Q b H1 := by
  obtain ⟨E, F, S, L, env, Ts, s, w⟩ := h
  refine ⟨E, F, S, L, env, Ts, s, ?_⟩
  simp only [evt] at w
  split at w
  · rename_i t e1 hx
    rw [hx]
    split at w
    · rename_i d hd
      split at w
      · rename_i b hb
        intro v F' H' S' Us ok s'
        cases t with
        | inl i =>
          obtain ⟨hv, rfl⟩ := ok
          simp only [Tm.vw] at hd
          split at hd
          · rename_i o hg
            obtain ⟨y, ey, bv⟩ := s'.view hg hd
            rw [hv] at ey
            cases ey
            exact ⟨b, bv_tru bv hb, w F' H' S' s'⟩
          · cases hd
        | inr ow =>
          obtain ⟨T, rfl⟩ := ok
          exact ⟨b, bv_tru ((s'.tm _ List.mem_cons_self).bv hd) hb, w F' H' S' s'.pop⟩
      · exact w.elim
    · exact w.elim
  · rename_i d e1 hx
    rw [hx]
    exact w
  · exact w.elim
theorem rd_tand {a b : Te} {Q : Bool → Hp → Prop} (h : RdB K xv W (evt C (.land a b)) σ H Q) : tAnd (RdB K xv W (evt C a)) (RdB K xv W (evt C b)) σ H Q := by
  obtain ⟨E, F, S, L, env, Ts, s, w⟩ := h
  refine ⟨E, F, S, L, env, Ts, s, ?_⟩
  simp only [evt] at w
  split at w
  · rename_i e1 hx
    rw [hx]
    intro F' H' S' s'
    rw [if_pos rfl]
    exact ⟨E, F', S', L, e1, Ts, s', w⟩
  · rename_i e1 hx
    rw [hx]
    intro F' H' S' s'
    rw [if_neg Bool.false_ne_true]
    exact w F' H' S' s'
  · rename_i d e1 hx
    rw [hx]
    exact w
  · exact w.elim
theorem rd_tor {a b : Te} {Q : Bool → Hp → Prop} (h : RdB K xv W (evt C (.lor a b)) σ H Q) : tOr (RdB K xv W (evt C a)) (RdB K xv W (evt C b)) σ H Q := by
  obtain ⟨E, F, S, L, env, Ts, s, w⟩ := h
  refine ⟨E, F, S, L, env, Ts, s, ?_⟩
  simp only [evt] at w
  split at w
  · rename_i e1 hx
    rw [hx]
    intro F' H' S' s'
    rw [if_neg Bool.false_ne_true]
    exact ⟨E, F', S', L, e1, Ts, s', w⟩
  · rename_i e1 hx
    rw [hx]
    intro F' H' S' s'
    rw [if_pos rfl]
    exact w F' H' S' s'
  · rename_i d e1 hx
    rw [hx]
    exact w
  · exact w.elim
theorem rd_tnot {a : Te} {Q : Bool → Hp → Prop} (h : RdB K xv W (evt C (.lnot a)) σ H Q) : tNot (RdB K xv W (evt C a)) σ H Q := by
  obtain ⟨E, F, S, L, env, Ts, s, w⟩ := h
  refine ⟨E, F, S, L, env, Ts, s, ?_⟩
  simp only [evt] at w
  split at w
  · rename_i b e1 hx
    rw [hx]
    exact w
  · rename_i d e1 hx
    rw [hx]
    exact w
  · exact w.elim
theorem rd_cond {t : Te} {a b : Ex} {Q : VK} (h : RdE K xv W (ev C (.cond t a b)) σ H Q) : tIf (RdB K xv W (evt C t)) (RdE K xv W (ev C a)) (RdE K xv W (ev C b)) σ H Q := by
  obtain ⟨E, F, S, L, env, Ts, s, w⟩ := h
  refine ⟨E, F, S, L, env, Ts, s, ?_⟩
  simp only [ev] at w
  split at w
  · rename_i e1 hx
    rw [hx]
    intro F' H' S' s'
    rw [if_pos rfl]
    exact ⟨E, F', S', L, e1, Ts, s', w⟩
  · rename_i e1 hx
    rw [hx]
    intro F' H' S' s'
    rw [if_neg Bool.false_ne_true]
    exact ⟨E, F', S', L, e1, Ts, s', w⟩
  · rename_i d e1 hx
    rw [hx]
    exact w
  · exact w.elim
theorem rd_land {a b : Ex} {Q : VK} (h : RdE K xv W (ev C (.land a b)) σ H Q) : tAndV (RdE K xv W (ev C a)) (RdE K xv W (ev C b)) σ H Q := by
  obtain ⟨E, F, S, L, env, Ts, s, w⟩ := h
  refine ⟨E, F, S, L, env, Ts, s, ?_⟩
  simp only [ev] at w
  split at w
  · rename_i e1 hx
    rw [hx]
    intro v F' H' S' T s'
    have q := (s'.tm _ List.mem_cons_self).2
    cases q
    refine ⟨true, rfl, ?_⟩
    exact ⟨E, F', S', L, e1, Ts, s'.pop, w⟩
  · rename_i e1 hx
    rw [hx]
    intro v F' H' S' T s'
    have q := (s'.tm _ List.mem_cons_self).2
    cases q
    exact ⟨false, rfl, w _ F' H' S' T s'⟩
  · exact w.elim
  · rename_i d e1 hx
    rw [hx]
    exact w
  · exact w.elim
theorem rd_lor {a b : Ex} {Q : VK} (h : RdE K xv W (ev C (.lor a b)) σ H Q) : tOrV (RdE K xv W (ev C a)) (RdE K xv W (ev C b)) σ H Q := by
  obtain ⟨E, F, S, L, env, Ts, s, w⟩ := h
  refine ⟨E, F, S, L, env, Ts, s, ?_⟩
  simp only [ev] at w
  split at w
  · rename_i e1 hx
    rw [hx]
    intro v F' H' S' T s'
    have q := (s'.tm _ List.mem_cons_self).2
    cases q
    refine ⟨false, rfl, ?_⟩
    exact ⟨E, F', S', L, e1, Ts, s'.pop, w⟩
  · rename_i e1 hx
    rw [hx]
    intro v F' H' S' T s'
    have q := (s'.tm _ List.mem_cons_self).2
    cases q
    exact ⟨true, rfl, w _ F' H' S' T s'⟩
  · exact w.elim
  · rename_i d e1 hx
    rw [hx]
    exact w
  · exact w.elim
theorem rd_lnot {o : Op} {Q : VK} (h : RdE K xv W (ev C (.lnot o)) σ H Q) : tNotT K (RdP K xv W (evp C o)) σ H Q := by
  obtain ⟨E, F, S, L, env, Ts, s, w⟩ := h
  refine ⟨E, F, S, L, env, Ts, s, ?_⟩
  simp only [ev] at w
  split at w
  · rename_i t e1 hx
    rw [hx]
    split at w
    · rename_i d hd
      split at w
      · rename_i b hb
        intro v F' H' S' Us ok s'
        cases t with
        | inl i =>
          obtain ⟨hv, rfl⟩ := ok
          simp only [Tm.vw] at hd
          split at hd
          · rename_i o hg
            obtain ⟨y, ey, bv⟩ := s'.view hg hd
            rw [hv] at ey
            cases ey
            exact ⟨b, bv_tru bv hb, w _ F' H' S' _ (s'.pushI (.bl _))⟩
          · cases hd
        | inr ow =>
          obtain ⟨T, rfl⟩ := ok
          exact ⟨b, bv_tru ((s'.tm _ List.mem_cons_self).bv hd) hb, w _ F' H' S' _ (s'.pop.pushI (.bl _))⟩
      · exact w.elim
    · exact w.elim
  · rename_i d e1 hx
    rw [hx]
    exact w
  · exact w.elim
end
end Pd
set_option Elab.async false
set_option linter.all false
set_option maxRecDepth 100000
set_option maxHeartbeats 4000000
/-! Part 6: records, what changes its object. -/
namespace Pd
open PySem PySem.Spec PyProof.Rows L2

section
variable {K : PySem.W.Frag} {xv : Xv} {W : WX} {C : Cl} {σ : L2.St} {H : Hp} {F : As}
abbrev sk (kvs : List (Str × V)) : List (Key × V) := kvs.map fun (p : Str × V) => ((.inr p.1 : Key), p.2)
theorem lookup_ix {α : Type} {f : Str} {o : α} : ∀ {fs : List (Str × α)}, fs.lookup f = some o → ∃ j : Nat, fs[j]? = some (f, o)
  | [], h => by simp at h
  | (g, x) :: r, h => by
    rw [List.lookup_cons] at h
    cases e : f == g with
    | true =>
      rw [e] at h
      cases h
      exact ⟨0, by rw [beq_iff_eq.mp e]; rfl⟩
    | false =>
      rw [e] at h
      obtain ⟨j, hj⟩ := lookup_ix h
      exact ⟨j + 1, by simpa using hj⟩
theorem nm_inj {α : Type} {f : Str} : ∀ {fs : List (Str × α)} {i j : Nat} {x y : α}, (fs.map (·.1)).Nodup → fs[i]? = some (f, x) → fs[j]? = some (f, y) → i = j := fun {fs i j x y} nd h1 h2 => by
  have e1 : (fs.map (·.1))[i]? = some f := by rw [List.getElem?_map, h1]; rfl
  have e2 : (fs.map (·.1))[j]? = some f := by rw [List.getElem?_map, h2]; rfl
  obtain ⟨l1, q1⟩ := List.getElem?_eq_some_iff.mp e1
  obtain ⟨l2, q2⟩ := List.getElem?_eq_some_iff.mp e2
  exact (List.getElem_inj nd).mp (q1.trans q2.symm)
theorem valV_sk {f : Str} {w : V} : ∀ {kvs : List (Str × V)} {j : Nat}, (kvs.map (·.1)).Nodup → kvs[j]? = some (f, w) → valV (sk kvs) (.inr f) = some w
  | [], _, _, h => by simp at h
  | (g, x) :: r, 0, nd, h => by
    simp at h
    obtain ⟨rfl, rfl⟩ := h
    exact valV_pos rfl
  | (g, x) :: r, j + 1, nd, h => by
    have h' : r[j]? = some (f, w) := by simpa using h
    have np := List.nodup_cons.mp nd
    have ne : ¬ (Sum.inr g : Key) = Sum.inr f := fun e => np.1 (List.mem_map.mpr ⟨(f, w), List.mem_of_getElem? h', by cases e; rfl⟩)
    show valV ((Sum.inr g, x) :: sk r) (.inr f) = some w
    rw [valV_neg ne]
    exact valV_sk np.2 h'
theorem put_sk {f : Str} {w y : V} : ∀ {kvs : List (Str × V)} {j : Nat}, (kvs.map (·.1)).Nodup → kvs[j]? = some (f, w) → putK (sk kvs) (.inr f) y = sk (kvs.set j (f, y)) := fun {kvs j} nd h => by
  have hv := valV_sk nd h
  have ha : ((sk kvs).any fun kv => decide (kv.1 = (.inr f : Key))) = true := by rw [valV_any, hv]; rfl
  unfold putK
  rw [if_pos ha]
  clear ha hv
  induction kvs generalizing j with
  | nil => simp at h
  | cons p r ih =>
    obtain ⟨g, x⟩ := p
    have np := List.nodup_cons.mp nd
    cases j with
    | zero =>
      simp at h
      obtain ⟨rfl, rfl⟩ := h
      have rest : ∀ l : List (Str × V), g ∉ l.map (·.1) → (sk l).map (fun kv => if kv.1 = (.inr g : Key) then (kv.1, y) else kv) = sk l := by
        intro l
        induction l with
        | nil => intro _; rfl
        | cons q l ih2 =>
          intro hn
          obtain ⟨n1, n2⟩ := not_or.mp (fun z => hn (List.mem_cons.mpr z))
          show (if (.inr q.1 : Key) = .inr g then _ else _) :: (sk l).map _ = _
          rw [if_neg (fun e => n1 (by cases e; rfl)), ih2 n2]
          rfl
      show (if (.inr g : Key) = .inr g then _ else _) :: (sk r).map _ = _
      rw [if_pos rfl, rest r np.1]
      rfl
    | succ j =>
      have h' : r[j]? = some (f, w) := by simpa using h
      have ne : ¬ (Sum.inr g : Key) = Sum.inr f := fun e => np.1 (List.mem_map.mpr ⟨(f, w), List.mem_of_getElem? h', by cases e; rfl⟩)
      show (if (.inr g : Key) = .inr f then _ else _) :: (sk r).map _ = _
      rw [if_neg ne, ih np.2 h']
      rfl
theorem setRec_eq {f : Str} {x o : Ow1} : ∀ {fs : List (Str × Ow1)} {j : Nat}, (fs.map (·.1)).Nodup → fs[j]? = some (f, x) → setRec f o fs = fs.set j (f, o)
  | [], _, _, h => by simp at h
  | (g, y) :: r, 0, nd, h => by
    simp at h
    obtain ⟨rfl, rfl⟩ := h
    simp [setRec]
  | (g, y) :: r, j + 1, nd, h => by
    have h' : r[j]? = some (f, x) := by simpa using h
    have np := List.nodup_cons.mp nd
    have ne : ¬ g = f := fun e => np.1 (List.mem_map.mpr ⟨(f, x), List.mem_of_getElem? h', by rw [e]⟩)
    simp [setRec, ne, setRec_eq np.2 h']
theorem fsv_names {Sf : Nat → As} {kvs : List (Str × V)} {fs : List (Str × Ow1)} (h : FsV K F H Sf kvs fs) : kvs.map (·.1) = fs.map (·.1) := by
  apply List.ext_getElem?
  intro i
  rw [List.getElem?_map, List.getElem?_map]
  cases e : fs[i]? with
  | none =>
    have : kvs[i]? = none := by
      rw [List.getElem?_eq_none_iff] at e ⊢
      rw [h.len]; exact e
    rw [this]; rfl
  | some p =>
    obtain ⟨w, h1, _⟩ := h.nm i p e
    rw [h1]; rfl
theorem names_set {α : Type} {f : Str} {o x : α} {fs : List (Str × α)} {j : Nat} (h : fs[j]? = some (f, x)) : (fs.set j (f, o)).map (·.1) = fs.map (·.1) := by
  apply List.ext_getElem?
  intro i
  rw [List.getElem?_map, List.getElem?_map]
  by_cases e : j = i
  · subst e
    have hl := (List.getElem?_eq_some_iff.mp h).1
    rw [List.getElem?_set_self hl, h]; rfl
  · rw [List.getElem?_set_ne e]
/-- a field of a record -/
structure FldAt (K : PySem.W.Frag) (F : As) (H : Hp) (S : As) (v : V) (fs : List (Str × Ow1)) (f : Str) (o : Ow1) (a : Addr) (kvs : List (Str × V)) (Sf : Nat → As) (j : Nat) (w : V) : Prop where
  ev : v = .ref a
  at_ : H a = some (.dK (sk kvs))
  fs' : FsV K F H Sf kvs fs
  dj : ∀ i j x, Sf i x → Sf j x → i = j
  na : ∀ i, ¬ Sf i a
  sx : ∀ x, S x ↔ x = a ∨ ∃ i, i < fs.length ∧ Sf i x
  nd : (fs.map (·.1)).Nodup
  nk : (kvs.map (·.1)).Nodup
  ix : fs[j]? = some (f, o)
  iw : kvs[j]? = some (f, w)
  ow : O1V K F H (Sf j) w o
theorem rc_fld {L S : As} {v : V} {fs : List (Str × Ow1)} {f : Str} {o : Ow1} (h : OV K F H L S v (.rc fs)) (hf : fs.lookup f = some o) : ∃ a kvs Sf j w, FldAt K F H S v fs f o a kvs Sf j w := by
  obtain ⟨a, kvs, Sf, e, q, r, d1, d2, s, nd⟩ := h
  obtain ⟨j, hj⟩ := lookup_ix hf
  obtain ⟨w, h1, h2⟩ := r.nm j _ hj
  exact ⟨a, kvs, Sf, j, w, e, q, r, d1, d2, s, nd, by rw [fsv_names r]; exact nd, hj, h1, h2⟩
theorem FldAt.get {S : As} {v : V} {fs : List (Str × Ow1)} {f : Str} {o : Ow1} {a : Addr} {kvs : List (Str × V)} {Sf : Nat → As} {j : Nat} {w : V} (A : FldAt K F H S v fs f o a kvs Sf j w) : DGet H a (.str f) (some w) := by
  have q := DGet.k (k := (.inr f : Key)) A.at_
  rw [valV_sk A.nk A.iw] at q
  exact q
theorem rd_fld {i : Nat} {f : Str} {Q : VK} (h : RdE K xv W (ev C (.fld i f)) σ H Q) : tDGet (tVar i) (tC (.str f)) σ H Q := by
  obtain ⟨E, F, S, L, env, Ts, s, w⟩ := h
  simp only [ev] at w
  split at w
  · rename_i fs hg
    split at w
    · rename_i d hf
      obtain ⟨v, e1, e2⟩ := s.sl i _ hg
      obtain ⟨a, kvs, Sf, j, y, A⟩ := rc_fld e2 hf
      exact ⟨v, e1, a, y, A.ev, A.get, w y F H S _ (s.pushI A.ow.2)⟩
    · exact w.elim
  · exact w.elim
theorem rd_lenF {i : Nat} {f : Str} {Q : VK} (h : RdE K xv W (ev C (.lenF i f)) σ H Q) : tCB (fun xs H Q => ∃ p ys, xs = [.ref p] ∧ (SqL K H p ys ∨ SqT K H p ys) ∧ Q (.int ys.length) H) (tCons (tDGet (tVar i) (tC (.str f))) tNil) σ H Q := by
  obtain ⟨E, F, S, L, env, Ts, s, w⟩ := h
  simp only [ev] at w
  split at w
  · rename_i fs hg
    split at w
    · rename_i d hf
      obtain ⟨v, e1, e2⟩ := s.sl i _ hg
      obtain ⟨a, kvs, Sf, j, y, A⟩ := rc_fld e2 hf
      obtain ⟨b, vs, rfl, _, hb, hvs⟩ := A.ow
      refine ⟨v, e1, a, _, A.ev, A.get, b, vs, rfl, .inl (.of hb), ?_⟩
      rw [hvs.len]
      exact w _ F H S _ (s.pushI (.int _))
    · exact w.elim
  · exact w.elim
/-- a list that a field holds alone has changed -/
theorem FldAt.put {S : As} {v : V} {fs : List (Str × Ow1)} {f : Str} {ds ds' : List Dt} {a b : Addr} {kvs : List (Str × V)} {Sf : Nat → As} {j : Nat} {vs' : List V} (A : FldAt K F H S v fs f (.lst ds) a kvs Sf j (.ref b)) (hF : ∀ x, F x → ¬ S x) (hv : DVs K F H vs' ds') :
    OV K F (upd H b (.lst vs')) noA S v (.rc (setRec f (.lst ds') fs)) ∧ S b := by
  obtain ⟨b', vs, eb, sb, hb, hvs⟩ := A.ow
  cases eb
  have sj : Sf j b := (sb b).mpr rfl
  have hl := (List.getElem?_eq_some_iff.mp A.ix).1
  have Sb : S b := (A.sx b).mpr (.inr ⟨j, hl, sj⟩)
  have nab : a ≠ b := fun e => A.na j (by rw [e]; exact sj)
  have kF : ∀ x, F x → upd H b (.lst vs') x = H x := fun x hx => upd_ne fun e => hF x hx (by rw [e]; exact Sb)
  refine ⟨?_, Sb⟩
  rw [setRec_eq A.nd A.ix]
  refine ⟨a, kvs, Sf, A.ev, by rw [upd_ne nab]; exact A.at_, ⟨by rw [List.length_set]; exact A.fs'.len, fun k p hp => ?_⟩, A.dj, A.na, fun x => by rw [List.length_set]; exact A.sx x, by rw [names_set A.ix]; exact A.nd⟩
  by_cases e : j = k
  · subst e
    rw [List.getElem?_set_self hl] at hp
    cases hp
    exact ⟨.ref b, A.iw, b, vs', rfl, sb, upd_same, hv.mono (fun _ z => z) kF⟩
  · rw [List.getElem?_set_ne e] at hp
    obtain ⟨y, h1, h2⟩ := A.fs'.nm k p hp
    exact ⟨y, h1, h2.mono (fun _ z => z) kF fun x hx => upd_ne fun ex => e (A.dj j k x (by rw [ex]; exact sj) hx)⟩
/-- a field has another value, that is shared -/
theorem FldAt.set {S : As} {v : V} {fs : List (Str × Ow1)} {f : Str} {o : Ow1} {a : Addr} {kvs : List (Str × V)} {Sf : Nat → As} {j : Nat} {w y : V} {d : Dt} (A : FldAt K F H S v fs f o a kvs Sf j w) (hF : ∀ x, F x → ¬ S x) (hv : DV K F H y d) :
    ∃ S1, (∀ x, S1 x → S x) ∧ OV K F (upd H a (.dK (putK (sk kvs) (.inr f) y))) noA S1 v (.rc (setRec f (.imm d) fs)) ∧ S a := by
  have hl := (List.getElem?_eq_some_iff.mp A.ix).1
  have hk := (List.getElem?_eq_some_iff.mp A.iw).1
  have Sa : S a := (A.sx a).mpr (.inl rfl)
  have kF : ∀ x, F x → upd H a (.dK (putK (sk kvs) (.inr f) y)) x = H x := fun x hx => upd_ne fun e => hF x hx (by rw [e]; exact Sa)
  have sub : ∀ i x, (if i = j then noA else Sf i) x → Sf i x := fun i x q => by
    by_cases e : i = j
    · rw [if_pos e] at q; exact q.elim
    · rw [if_neg e] at q; exact q
  refine ⟨fun x => x = a ∨ ∃ i, i < fs.length ∧ (if i = j then noA else Sf i) x, fun x hx => (A.sx x).mpr (hx.imp id fun ⟨i, hi, q⟩ => ⟨i, hi, sub i x q⟩), ?_, Sa⟩
  rw [setRec_eq A.nd A.ix, put_sk A.nk A.iw]
  refine ⟨a, kvs.set j (f, y), fun i => if i = j then noA else Sf i, A.ev, upd_same, ⟨by rw [List.length_set, List.length_set]; exact A.fs'.len, fun k p hp => ?_⟩, fun i k x p q => A.dj i k x (sub i x p) (sub k x q), fun i q => A.na i (sub i a q), fun x => by rw [List.length_set], by rw [names_set A.ix]; exact A.nd⟩
  by_cases e : j = k
  · subst e
    rw [List.getElem?_set_self hl] at hp
    cases hp
    refine ⟨y, List.getElem?_set_self hk, ?_⟩
    rw [if_pos rfl]
    exact ⟨fun _ z => z, hv.mono (fun _ z => z) fun x hx => by rw [← put_sk A.nk A.iw]; exact kF x hx⟩
  · rw [List.getElem?_set_ne e] at hp
    obtain ⟨u, h1, h2⟩ := A.fs'.nm k p hp
    refine ⟨u, by rw [List.getElem?_set_ne e]; exact h1, ?_⟩
    rw [if_neg (Ne.symm e)]
    exact h2.mono (fun _ z => z) (fun x hx => by rw [← put_sk A.nk A.iw]; exact kF x hx) fun x hx => upd_ne fun ex => A.na k (by rw [← ex]; exact hx)
theorem last_get {vs : List V} {ds : List Dt} {d : Dt} (h : DVs K F H vs ds) (e : ds.getLast? = some d) : ∃ y, vs[vs.length - 1]? = some y ∧ DV K F H y d := by
  rw [List.getLast?_eq_getElem?, ← h.len] at e
  exact h.get e
theorem ov_noA {L S : As} {v : V} {o : Ow} (h : OV K F H noA S v o) : OV K F H L S v o := h.mono (fun _ z => z) (fun _ _ => rfl) (fun _ _ => rfl) (fun _ _ => rfl) fun _ z => z.elim
theorem rd_popF {i : Nat} {f : Str} {Q : VK} (h : RdE K xv W (ev C (.popF i f)) σ H Q) : tBM0 K "list" rPop (tDGet (tVar i) (tC (.str f))) σ H Q := by
  obtain ⟨E, F, S, L, env, Ts, s, w⟩ := h
  simp only [ev] at w
  split at w
  · rename_i fs hg
    split at w
    · rename_i ds hf
      split at w
      · rename_i d hd
        obtain ⟨v, e1, e2⟩ := s.sl i _ hg
        obtain ⟨a, kvs, Sf, j, y, A⟩ := rc_fld e2 hf
        obtain ⟨b, vs, rfl, sb, hb, hvs⟩ := id A.ow
        obtain ⟨y, hy, dy⟩ := last_get hvs hd
        refine ⟨v, e1, a, _, A.ev, A.get, .inl ⟨rfl, vs, .of hb⟩, b, vs, y, rfl, rfl, hb, hy, ?_⟩
        have hF : ∀ x, F x → ¬ S i x := fun x hx z => (s.oS i x z).nf hx
        obtain ⟨o', Sb⟩ := A.put hF hvs.init
        have s1 := s.write (o' := .rc (setRec f (.lst ds.dropLast) fs)) (S1 := S i) (H' := upd H b (.lst vs.dropLast)) hg (fun _ z => z) (fun x hx => upd_ne fun e => hx (by rw [e]; exact Sb)) (fun x hx => by
          by_cases e : x = b
          · rw [e, upd_same]; simp
          · rw [upd_ne e]; exact (s.oS i x hx).tr) fun v' hv' => by rw [e1] at hv'; cases hv'; exact ov_noA o'
        exact w y F _ _ _ (s1.pushI (dy.mono (fun _ z => z) fun x hx => upd_ne fun e => hF x hx (by rw [e]; exact Sb)))
      · exact w.elim
    · exact w.elim
  · exact w.elim

/-! ### lists that a slot holds alone -/
theorem lst_write {E : En0} {S : Nat → As} {L : Nat → As} {env : En} {Ts : List Tp} {i : Nat} {ds ds' : List Dt} {a : Addr} {vs' : List V} (s : Sx K E F H S L σ env Ts) (hg : getE env i = some (.p (.lst ds))) (hv : σ[i]? = some (some (.ref a))) (hS : ∀ x, S i x ↔ x = a) (hn : DVs K F H vs' ds') :
    Sx K E F (upd H a (.lst vs')) (fun j => if j = i then S i else S j) L σ (env.set i (some (.p (.lst ds')))) Ts ∧ ∀ x, F x → upd H a (.lst vs') x = H x := by
  have kF : ∀ x, F x → upd H a (.lst vs') x = H x := fun x hx => upd_ne fun e => (s.oS i x ((hS x).mpr e)).nf hx
  refine ⟨s.write hg (fun _ z => z) (fun x hx => upd_ne fun e => hx ((hS x).mpr e)) (fun x hx => ?_) fun v hv' => ?_, kF⟩
  · rw [(hS x).mp hx, upd_same]; simp
  · rw [hv] at hv'
    cases hv'
    exact ⟨a, vs', rfl, hS, upd_same, hn.mono (fun _ z => z) kF⟩
theorem isLst_some {o : Option Ow} (h : isLst o = true) : ∃ ds, o = some (.p (.lst ds)) := by
  match o, h with
  | some (.p (.lst ds)), _ => exact ⟨ds, rfl⟩
theorem rd_pop {i : Nat} {Q : VK} (h : RdE K xv W (ev C (.pop i)) σ H Q) : tBM0 K "list" rPop (tVar i) σ H Q := by
  obtain ⟨E, F, S, L, env, Ts, s, w⟩ := h
  simp only [ev] at w
  split at w
  · rename_i ds hg
    split at w
    · rename_i d hd
      obtain ⟨v, e1, a, vs, rfl, sa, ha, hvs⟩ := s.sl i _ hg
      obtain ⟨y, hy, dy⟩ := last_get hvs hd
      obtain ⟨s1, kF⟩ := lst_write s hg e1 sa hvs.init
      exact ⟨_, e1, .inl ⟨rfl, vs, .of ha⟩, a, vs, y, rfl, rfl, ha, hy, w y F _ _ _ (s1.pushI (dy.mono (fun _ z => z) kF))⟩
    · exact w.elim
  · exact w.elim
theorem rd_popAt {i : Nat} {x : Ex} {Q : VK} (h : RdE K xv W (ev C (.popAt i x)) σ H Q) : tBM K "list" rPopAt (tVar i) (tCons (RdE K xv W (ev C x)) tNil) σ H Q := by
  obtain ⟨E, F, S, L, env, Ts, s, w⟩ := h
  simp only [ev] at w
  split at w
  · rename_i hl
    obtain ⟨ds0, hg0⟩ := isLst_some hl
    obtain ⟨v, e1, a, vs0, rfl, sa0, ha0, hvs0⟩ := s.sl i _ hg0
    refine ⟨_, e1, .inl ⟨rfl, vs0, .of ha0⟩, E, F, S, L, env, Ts, s, ?_⟩
    split at w
    · rename_i k e' hx
      rw [hx]
      intro y F' H' S' T s'
      have dy : DV K F' H' y (.int k) := (s'.tm _ List.mem_cons_self).2
      cases dy
      split at w
      · rename_i ds hg
        split at w
        · rename_i hk
          split at w
          · rename_i d hd
            obtain ⟨v', e1', b, vs, rfl, sa, ha, hvs⟩ := s'.sl i _ hg
            rw [e1] at e1'
            cases e1'
            obtain ⟨y, hy, dy⟩ := hvs.get hd
            have hlt := (List.getElem?_eq_some_iff.mp hy).1
            obtain ⟨s1, kF⟩ := lst_write s'.pop hg e1 sa (hvs.era k.toNat)
            have hsq : seqIndex? k vs.length = some k.toNat := (ixN_seq (n := vs.length) (i := k) (j := k.toNat) (by unfold ixN; rw [if_pos hk.1, if_pos (by omega)])).1
            exact ⟨a, vs, k, k.toNat, y, rfl, rfl, ha, by omega, hk.2, hsq, hy, w y F' _ _ _ (s1.pushI (dy.mono (fun _ z => z) kF))⟩
          · exact w.elim
        · exact w.elim
      · exact w.elim
    · exact w.elim
    · rename_i d e' hx
      rw [hx]
      exact w
    · exact w.elim
  · exact w.elim
theorem posD_spec {K : PySem.W.Frag} {F : As} {H : Hp} {y : V} {d : Dt} (hy : BV K F H y d) (fd : flatD d = true) : ∀ {ds : List Dt} {vs : List V} {j : Nat}, DVs K F H vs ds → ds.all flatD = true → posD d ds = some j →
    ∃ z, vs[j]? = some z ∧ eqV z y = true ∧ ∀ (m : Nat) (z' : V), m < j → vs[m]? = some z' → eqV z' y = false
  | _, _, j, .nil, _, h => by simp [posD] at h
  | _, _, j, .cons (v := v) (d := d0) q qs, f, h => by
    rw [List.all_cons, Bool.and_eq_true] at f
    have eq := bv_eqF q.bv f.1 hy fd
    simp only [posD] at h
    split at h
    · rename_i he
      cases h
      exact ⟨v, rfl, by rw [eq]; exact he, fun m z' hm => absurd hm (Nat.not_lt_zero _)⟩
    · rename_i he
      split at h
      · rename_i j' hj
        cases h
        obtain ⟨z, a, b, c⟩ := posD_spec hy fd qs f.2 hj
        refine ⟨z, by simpa using a, b, fun m z' hm hz => ?_⟩
        cases m with
        | zero =>
          simp at hz
          subst hz
          rw [eq]
          simpa using he
        | succ m => exact c m z' (by omega) (by simpa using hz)
      · cases h
theorem lstOf_get {env : En} {i : Nat} {ds : List Dt} (h : lstOf env i = some ds) : ∃ o, getE env i = some (.p o) ∧ (o = .lst ds ∨ o = .imm (.lst ds)) := by
  unfold lstOf at h
  split at h
  · rename_i o ho
    split at h
    · rename_i xs hx
      cases h
      cases o with
      | imm d => cases hx; exact ⟨_, ho, .inr rfl⟩
      | lst xs => cases hx; exact ⟨_, ho, .inl rfl⟩
      | dic kvs => cases hx
    · cases h
  · cases h
theorem rd_idx {i : Nat} {x : Ex} {Q : VK} (h : RdE K xv W (ev C (.idx i x)) σ H Q) : tBM K "list" (rIndex K) (tVar i) (tCons (RdE K xv W (ev C x)) tNil) σ H Q := by
  obtain ⟨E, F, S, L, env, Ts, s, w⟩ := h
  have get : ∀ {E : En0} {F : As} {H : Hp} {S L : Nat → As} {env : En} {Ts : List Tp} {ds : List Dt}, Sx K E F H S L σ env Ts → lstOf env i = some ds → ∃ v a vs, σ[i]? = some (some v) ∧ v = V.ref a ∧ H a = some (.lst vs) ∧ DVs K F H vs ds := by
    intro E F H S L env Ts ds s h
    obtain ⟨o, ho, h1⟩ := lstOf_get h
    obtain ⟨v, e1, ov⟩ := s.sl i _ ho
    rcases h1 with rfl | rfl
    · obtain ⟨a, vs, e, _, ha, hvs⟩ := ov
      exact ⟨v, a, vs, e1, e, ha, hvs⟩
    · obtain ⟨a, vs, e, ha, hvs⟩ := ov.2.bv
      exact ⟨v, a, vs, e1, e, ha, hvs⟩
  simp only [ev] at w
  split at w
  · rename_i ds0 hl
    obtain ⟨v, a, vs0, e1, rfl, ha0, hvs0⟩ := get s hl
    refine ⟨_, e1, .inl ⟨rfl, vs0, .of ha0⟩, E, F, S, L, env, Ts, s, ?_⟩
    split at w
    · rename_i o e' hx
      rw [hx]
      intro y F' H' S' T s'
      split at w
      · rename_i d ds hd hg
        split at w
        · rename_i hf
          rw [Bool.and_eq_true] at hf
          split at w
          · rename_i j hj
            obtain ⟨o1, rfl, rfl⟩ := dt?_p hd
            obtain ⟨s1, dv⟩ := s'.frzT
            obtain ⟨v', b, vs, e1', rfl, ha, hvs⟩ := get s1 hg
            rw [e1] at e1'
            cases e1'
            obtain ⟨z, z1, z2, z3⟩ := posD_spec dv.bv hf.1 hvs hf.2 hj
            exact ⟨a, vs, y, j, z, rfl, rfl, .of ha, bv_flat dv.bv hf.1, (dvs_flat dv.bv hf.1 hvs hf.2).1, z1, z2, z3, w _ _ _ _ _ (s1.pushI (.int _))⟩
          · exact w.elim
        · exact w.elim
      · exact w.elim
    · rename_i d e' hx
      rw [hx]
      exact w
    · exact w.elim
  · exact w.elim
theorem rd_app {i : Nat} {x : Ex} {Q : VK} (h : RdE K xv W (ev C (.app i x)) σ H Q) : tBM K "list" rAppend (tVar i) (tCons (RdE K xv W (ev C x)) tNil) σ H Q := by
  obtain ⟨E, F, S, L, env, Ts, s, w⟩ := h
  simp only [ev] at w
  split at w
  · rename_i hl
    obtain ⟨ds0, hg0⟩ := isLst_some hl
    obtain ⟨v, e1, a, vs0, rfl, sa0, ha0, hvs0⟩ := s.sl i _ hg0
    refine ⟨_, e1, .inl ⟨rfl, vs0, .of ha0⟩, E, F, S, L, env, Ts, s, ?_⟩
    split at w
    · rename_i o e' hx
      rw [hx]
      intro y F' H' S' T s'
      split at w
      · rename_i d ds hd hg
        split at w
        · rename_i hz
          obtain ⟨o1, rfl, rfl⟩ := dt?_p hd
          obtain ⟨s1, dv⟩ := s'.frzT
          obtain ⟨v', e1', b, vs, rfl, sa, ha, hvs⟩ := s1.sl i _ hg
          rw [e1] at e1'
          cases e1'
          obtain ⟨s2, kF⟩ := lst_write s1 hg e1 sa (hvs.app (.one dv))
          exact ⟨a, vs, y, rfl, rfl, ha, by rw [hvs.len]; exact hz, w _ _ _ _ _ (s2.pushI .non)⟩
        · exact w.elim
      · exact w.elim
    · rename_i d e' hx
      rw [hx]
      exact w
    · exact w.elim
  · exact w.elim
end
end Pd
set_option Elab.async false
set_option linter.all false
set_option maxRecDepth 100000
set_option maxHeartbeats 4000000
/-! Part 7: enumerate of a tuple. -/
namespace Pd
open PySem PySem.Spec PyProof.Rows L2
theorem draws_tuple {prog : Program} {w : World} {A : Around} (hh : A.handled = none) (it l : Addr) (hne : l ≠ it) (items : Array Value) :
    Draws prog w A it [it, l] items.size (fun i v => items[i]? = some v) (fun i h => h.IsTupleIter it l i ∧ h.IsTuple l items) where
  live := fun _ _ st => let ⟨o, ho, _⟩ := st.1; ⟨o, ho⟩
  frame := fun _ _ _ st hk => ⟨let ⟨o, ho, r⟩ := st.1; ⟨o, hk it (by simp) o ho, r⟩, let ⟨o, ho, r⟩ := st.2; ⟨o, hk l (by simp) o ho, r⟩⟩
  item := fun i s Q E hi st hQ => by
    refine RZ.nextOf_tuple_item st.1 st.2 (x := items[i]) (by simp [hi]) fun h' hit' hs' => ?_
    refine hQ _ h' s.toks (by simp [hi]) ⟨hit', ?_⟩ hs'
    obtain ⟨o, ho, r⟩ := st.2
    exact ⟨o, (hs'.2 l hne).trans ho, r⟩
  done := fun s Q E st hE => RZ.nextOf_tuple_end hh st.1 st.2 (by simp) hE
open AutoSeq1 (wpAny_loadPart') in
theorem meets_enumerate_newT (l : Addr) (items : Array Value) (n : Nat) (dct : Option Addr) (sl : Array (Option Value)) :
    Meets (Builtin.«enumerate.__new__» ⟨[.type "enumerate", .ref l], []⟩) (fun _ R s => s.heap.get? l = some { cls := .type "tuple", dict := dct, data := .seq items n, slots := sl } ∧
      R (.ok (.ret (.ref (s.heap.push { cls := .type "tuple_iterator", data := .fields #[.ref l, .int 0 0] }).objs.size)))
        { s with heap := (s.heap.push { cls := .type "tuple_iterator", data := .fields #[.ref l, .int 0 0] }).push { cls := .type "enumerate", data := .fields #[.none, .bool false, .ref s.heap.objs.size, rawInt 0, .none, .none] } }) :=
  .of_wp fun prog w A R s h => by
    obtain ⟨hp, g, d, tk, os⟩ := s; obtain ⟨hl, h⟩ := h
    have hsub := sub_enumerate
    have hT : Heap.IsTuple (Shared.heap ⟨hp, g, d, tk, os⟩) l items := ⟨_, hl, rfl, n, rfl⟩
    wp_walk using wpAny_loadPart' hl
    refine wpAny_stack_any fun st => wpAny_pure ?_
    split
    · rename_i c _ _ _ _ _
      cases (c == Value.type "enumerate")
      all_goals
        wp_walk using wpAny_loadPart' hl, wpAny_pyIter_tuple hT
        exact ⟨_, rfl, h⟩
    · wp_walk using wpAny_loadPart' hl, wpAny_pyIter_tuple hT
      exact ⟨_, rfl, h⟩
section
variable {prog : Program} {w : World} {A : Around} {E : Value → Shared → Prop} {s : Shared}
theorem call_enumerate_tuple {l : Addr} {items : Array Value} {Q : Value → Shared → Prop} (hL : s.heap.IsTuple l items)
    (h : ∀ h', IsEnum h' (s.heap.objs.size + 1) s.heap.objs.size 0 .none → h'.IsTupleIter s.heap.objs.size l 0 → h'.objs.size = s.heap.objs.size + 2 →
      (∀ b o, s.heap.get? b = some o → h'.get? b = some o) → Q (.ref (s.heap.objs.size + 1)) { s with heap := h' }) :
    wpAny (model prog w) A (call (.type "enumerate") [.ref l]) Q E s := by
  obtain ⟨⟨c, dct, dt, sl⟩, hl, hc, n, hd⟩ := hL
  obtain rfl : c = .type "tuple" := hc
  obtain rfl : dt = .seq items n := hd
  refine callType_new F.called_enumerate (by decide) (F.typeCall_enumerate_1 _) (F.newCall_enumerate_1 _) (fun obj => F.args_object_init_2 obj _) F.entry_enumerate_new
    (meets_enumerate_newT l items n dct sl) ⟨hl, ?_⟩
  have hz : (s.heap.push { cls := .type "tuple_iterator", data := .fields #[.ref l, .int 0 0] }).objs.size = s.heap.objs.size + 1 := Heap.size_push ..
  show _ ∧ _
  rw [hz]
  have he : IsEnum ((s.heap.push { cls := .type "tuple_iterator", data := .fields #[.ref l, .int 0 0] }).push
      { cls := .type "enumerate", data := .fields #[.none, .bool false, .ref s.heap.objs.size, rawInt 0, .none, .none] }) (s.heap.objs.size + 1) s.heap.objs.size 0 .none := by
    have q := Heap.get?_push_size (s.heap.push { cls := .type "tuple_iterator", data := .fields #[.ref l, .int 0 0] })
      (o := { cls := .type "enumerate", data := .fields #[.none, .bool false, .ref s.heap.objs.size, rawInt 0, .none, .none] }) rfl
    rw [hz] at q; exact q
  refine ⟨⟨_, he, rfl⟩, h _ he ⟨_, Heap.get?_push_of_some _ (Heap.get?_push_size _ rfl), rfl, rfl⟩ (by rw [Heap.size_push, hz]) fun b o x => Heap.get?_push_of_some _ (Heap.get?_push_of_some _ x)⟩
end
/-- the tuple at a, each item in a new pair with its number -/
def ItT (K : PySem.W.Frag) (a : Addr) : It :=
  ⟨fun i H => ∃ (xs : List V) (x : V), SqT K H a xs ∧ xs[i]? = some x, fun i H v H' => ∃ T x, v = .ref T ∧ H T = none ∧ H' = upd H T (.tup [.int (i : Nat), x]) ∧ ∀ xs, SqT K H a xs → xs[i]? = some x, fun i H => ∃ xs : List V, SqT K H a xs ∧ xs.length = i⟩
theorem turn_enumT {P : Program} {w : World} {K : PySem.W.Frag} {elts : List PySem.Expr} {kk : Nat} {tpos : Pos} (a e it : Addr) (hai : a ≠ it) (hae : a ≠ e) :
    Turn P w K (.Tuple elts kk tpos) (ItT K a) [e, it] e (fun i h => (∃ old, IsEnum h e it ((i : Nat) : Int) old) ∧ h.IsTupleIter it a i ∧ e ≠ it) where
  mem := by simp
  obj := fun i h st b hb => by
    obtain ⟨⟨old, he⟩, ⟨o, ho, hc, hd⟩, _⟩ := st
    have e' : b = e ∨ b = it := by simpa using hb
    rcases e' with z | z
    · rw [z]; exact ⟨_, he, fun v q => nomatch q⟩
    · rw [z]; exact ⟨o, ho, fun v q => by rw [hd] at q; cases q⟩
  keep := fun i h h' st k => let ⟨⟨old, he⟩, ⟨o, ho, r⟩, hne⟩ := st; ⟨⟨old, k e (by simp) _ he⟩, ⟨o, k it (by simp) o ho, r⟩, hne⟩
  item := by
    intro X hP hw hK hc i ps s σ H E I hf st hg
    subst hP hw hK
    obtain ⟨⟨old, he⟩, hit, hne⟩ := st
    obtain ⟨xs, x, hq, hx⟩ := hg
    obtain ⟨its, rv, p, hz⟩ := I.tuple hq
    obtain ⟨u, hu, ru⟩ := rv.get hx
    have hel : e < s.heap.objs.size := Heap.lt_size he
    have hil : it < s.heap.objs.size := by obtain ⟨_, q, _⟩ := hit; exact Heap.lt_size q
    have hlt : i < its.toArray.size := by
      have := (List.getElem?_eq_some_iff.mp hu).1
      simpa using this
    refine wpAny_pyNext_enum_itemD (draws_tuple (A := X.A.in1) (I.ok.hd hc) it a hai its.toArray) he ⟨hit, p⟩ hlt hne (by simp [hne, Ne.symm hae]) fun x' h' tk hx' ho hst' hT hsz hk => ?_
    have ex : x' = u := by
      have z : its[i]? = some x' := by simpa using hx'
      rw [hu] at z
      cases z; rfl
    subst ex
    refine ⟨_, rfl, wpAny_letOwnedTupleGo_enum (s := { s with heap := h', toks := tk + 1 }) ho fun h'' he' sb => ?_⟩
    have hT2 : h''.get? s.heap.objs.size = some { cls := .type "tuple", data := .seq #[.int i tk, x'] } := (sb.2 _ (Nat.ne_of_gt hel)).trans hT
    have new : ObjOk X.prog X.w (upd H s.heap.objs.size (.tup [.int (i : Nat), x])) h'' s.heap.objs.size (.tup [.int (i : Nat), x]) :=
      ⟨by show 2 ≤ sizeLine; decide, [.int i tk, x'], .cons ⟨_, rfl⟩ (.cons ru .nil), ⟨_, hT2, rfl, _, rfl⟩⟩
    have I1 : L2.Inv X ps σ (upd H s.heap.objs.size (.tup [.int (i : Nat), x])) { s with heap := h'', toks := tk + 1 } :=
      I.turnedNew (ch := [e, it]) (fun b ob hb q => (sb.2 b (fun z => hb (by simp [z]))).trans (hk b ob (fun z => hb (by simp [z])) (fun z => hb (by simp [z])) q)) hf (Nat.le_refl _) new
    refine ⟨.ref s.heap.objs.size, _, I1, rfl, ⟨_, x, rfl, I.hok.fresh (Nat.le_refl _), rfl, fun ys hy => by rw [I.tuple_inj hy hq]; exact hx⟩, ⟨⟨x', ?_⟩, ?_, hne⟩, fun b hb => ?_⟩
    · have e1 : ((i + 1 : Nat) : Int) = (i : Int) + 1 := by omega
      rw [e1]; exact he'
    · obtain ⟨o, ho, r⟩ := hst'.1
      exact ⟨o, (sb.2 it (Ne.symm hne)).trans ho, r⟩
    · have hb' : b < s.heap.objs.size := by
        have e' : b = e ∨ b = it := by simpa using hb
        rcases e' with z | z
        · rw [z]; exact hel
        · rw [z]; exact hil
      rw [upd_ne (Nat.ne_of_lt hb')]
      exact (hf b hb).1
  done := by
    intro X hP hw hK hc i ps s σ H E I hf st hg
    subst hP hw hK
    obtain ⟨⟨old, he⟩, hit, hne⟩ := st
    obtain ⟨xs, hq, hx⟩ := hg
    obtain ⟨its, rv, p, hz⟩ := I.tuple hq
    obtain ⟨f0, f1, f2, f3, f4, f5⟩ := hf it (by simp)
    have hl := rv.length
    have hn : its.toArray.size = i := by rw [List.size_toArray]; omega
    exact wpAny_pyNext_enum_endD (draws_tuple (A := X.A.in1) (I.ok.hd hc) it a hai its.toArray) he (by rw [hn]; exact ⟨hit, p⟩) fun h' eb => ⟨rfl, I.turned (t' := s.toks) (fun b o hb q => eb b o hb q) f0 f1 f3 f4 f5⟩
  self := fun A i s Q E st h => let ⟨⟨_, he⟩, _⟩ := st; wpAny_pyIter_enum he h
def iEnT (K : PySem.W.Frag) (ta : TA) : TI := fun σ H R => ta σ H fun vs H1 => ∃ a xs, vs = [.ref a] ∧ SqT K H1 a xs ∧ R (ItT K a) H1
theorem pi_enumT {X : Cx} {e : PySem.Expr} {ta : TA} {p pos tpos : Pos} {elts : List PySem.Expr} {kk : Nat} (hg : Gl X "enumerate") (hm : X.mg "enumerate" = none) (ha : PA X [e] ta) (hs : starEach [e] X.env = [(false, eval e X.env)]) :
    PI X (.Tuple elts kk tpos) (.Call (.Name "enumerate" p) [e] [] pos) (iEnT X.K ta) := by
  refine ⟨fun ps s σ H R I h => ?_⟩
  refine Call_ (ld_blt I hg hm boot_enumerate (PyProof.Rows.callWith_type1 (thn (ha.run pos ps s σ H _ I h) fun us s1 ⟨vs, H1, I1, r1, q1⟩ => ?_) hs rfl))
  obtain ⟨a, xs, ex, hq, q⟩ := q1
  subst ex
  cases r1 with
  | cons r rr =>
    cases rr
    cases r
    obtain ⟨its, rv, p', hz⟩ := I1.tuple hq
    have hal : a < s1.heap.objs.size := by obtain ⟨_, q, _⟩ := p'; exact Heap.lt_size q
    refine call_enumerate_tuple p' fun h' he hit hsz hk => wpAny_pyIter_enum he ?_
    have I2 : L2.Inv X ps σ H1 { s1 with heap := h' } := I1.kept (t' := s1.toks) hk
    refine ⟨s1.heap.objs.size + 1, [s1.heap.objs.size + 1, s1.heap.objs.size], _, _, H1, rfl, I2, turn_enumT a (s1.heap.objs.size + 1) s1.heap.objs.size (Nat.ne_of_lt hal) (Nat.ne_of_lt (Nat.lt_succ_of_lt hal)), ⟨⟨.none, he⟩, hit, Nat.succ_ne_self _⟩, fun b hb => ?_, q⟩
    have e' : b = s1.heap.objs.size + 1 ∨ b = s1.heap.objs.size := by simpa using hb
    have hle : s1.heap.objs.size ≤ b := by
      rcases e' with z | z
      · rw [z]; exact Nat.le_add_right _ _
      · rw [z]; exact Nat.le_refl _
    exact I1.fpOk hle (I1.hok.fresh hle)
end Pd
set_option Elab.async false
set_option linter.all false
set_option maxRecDepth 100000
set_option maxHeartbeats 4000000
/-! Part 8: calls. -/
namespace Pd
open PySem PySem.Spec PyProof.Rows L2
section
variable {K : PySem.W.Frag} {E : En0} {F F' : As} {H H' : Hp} {S S' : Nat → As} {L L' : Nat → As} {σ : L2.St} {env : En} {Ts : List Tp} {t : Tp} {i : Nat} {v : V} {o : Ow} {T : As}
theorem Sx.perm {Us : List Tp} (h : Sx K E F H S L σ env Ts) (p : Us.Perm Ts) : Sx K E F H S L σ env Us :=
  ⟨h.len, h.sl, fun t ht => h.tm t (p.mem_iff.mp ht), h.dS, (List.Perm.pairwise_iff (fun {a b} hab x hb ha => hab x ha hb) p).mpr h.dT, fun t ht => h.dST t (p.mem_iff.mp ht), h.oS, fun t ht => h.oT t (p.mem_iff.mp ht), h.fr, h.ff, h.lt, h.ag, h.tk, h.fx⟩
/-- a value at hand goes (back) into a slot that bears it -/
theorem Sx.put (h : Sx K E F H S L σ env (⟨v, o, T⟩ :: Ts)) (hv : σ[i]? = some (some v)) : Sx K E F H (fun j => if j = i then T else S j) L σ (env.set i (some o)) Ts := by
  have hi : i < env.length := by rw [h.len]; exact (List.getElem?_eq_some_iff.mp hv).1
  have dd : ∀ j x, T x → ¬ S j x := fun j x hx => h.dST _ List.mem_cons_self j x hx
  refine ⟨by simpa using h.len, fun j u e => ?_, fun u hu => h.tm u (List.mem_cons_of_mem _ hu), fun j k x a b => ?_, (List.pairwise_cons.mp h.dT).2, fun u hu j x a b => ?_, fun j x a => ?_, fun u hu => h.oT u (List.mem_cons_of_mem _ hu), h.fr, h.ff, h.lt, h.ag, h.tk, h.fx⟩
  · rw [getE_set hi] at e
    by_cases ej : j = i
    · subst ej
      rw [if_pos rfl] at e
      cases e
      refine ⟨v, hv, ?_⟩
      rw [if_pos rfl]
      exact (h.tm _ List.mem_cons_self).mono (fun _ z => z) (fun _ _ => rfl) (fun _ _ => rfl) (fun _ _ => rfl) fun _ z => z.elim
    · rw [if_neg ej] at e
      obtain ⟨w, e1, e2⟩ := h.sl j u e
      refine ⟨w, e1, ?_⟩
      rw [if_neg ej]
      exact e2
  · by_cases ej : j = i
    · by_cases ek : k = i
      · rw [ej, ek]
      · rw [if_pos ej] at a; rw [if_neg ek] at b
        exact absurd b (dd k x a)
    · by_cases ek : k = i
      · rw [if_neg ej] at a; rw [if_pos ek] at b
        exact absurd a (dd j x b)
      · rw [if_neg ej] at a; rw [if_neg ek] at b
        exact h.dS j k x a b
  · by_cases ej : j = i
    · rw [if_pos ej] at b
      exact (List.pairwise_cons.mp h.dT).1 u hu x b a
    · rw [if_neg ej] at b
      exact h.dST u (List.mem_cons_of_mem _ hu) j x a b
  · by_cases ej : j = i
    · rw [if_pos ej] at a
      exact h.oT _ List.mem_cons_self x a
    · rw [if_neg ej] at a
      exact h.oS j x a
/-- a slot is forgotten -/
theorem Sx.drop (h : Sx K E F H S L σ env Ts) : Sx K E F H (fun j => if j = i then noA else S j) L σ (env.set i none) Ts := by
  have sub : ∀ j x, (if j = i then noA else S j) x → S j x := fun j x z => by
    by_cases e : j = i
    · rw [if_pos e] at z; exact z.elim
    · rw [if_neg e] at z; exact z
  refine ⟨by simpa using h.len, fun j u e => ?_, h.tm, fun j k x a b => h.dS j k x (sub j x a) (sub k x b), h.dT, fun u hu j x a b => h.dST u hu j x a (sub j x b), fun j x q => h.oS j x (sub j x q), h.oT, h.fr, h.ff, h.lt, h.ag, h.tk, h.fx⟩
  by_cases hi : i < env.length
  · rw [getE_set hi] at e
    by_cases ej : j = i
    · rw [if_pos ej] at e; cases e
    · rw [if_neg ej] at e
      rw [if_neg ej]
      exact h.sl j u e
  · rw [List.set_eq_of_length_le (by omega)] at e
    have := getE_lt e
    rw [if_neg (by omega)]
    exact h.sl j u e
/-- back from somewhere that may change P alone: Vs are what comes from there -/
theorem Sx.back' {P : As} {fix : List (Nat × V)} {F1 : As} {H1 : Hp} {S1 L1 : Nat → As} {σ1 : L2.St} {env1 : En} {Us Vs : List Tp} (h : Sx K E F H S L σ env Ts) (h1 : Sx K ⟨H, F, P, fix⟩ F1 H1 S1 L1 σ1 env1 Us)
    (pS : ∀ i x, S i x → ¬ P x) (pT : ∀ t ∈ Ts, ∀ x, t.T x → ¬ P x) (pF : ∀ x, F x → ¬ P x) (pL : ∀ i x, L i x → ¬ P x) (pO : ∀ x, P x → E.P x ∨ E.H x = none)
    (vT : ∀ u ∈ Vs, OV K F1 H1 noA u.T u.v u.o) (vO : ∀ u ∈ Vs, ∀ x, u.T x → H1 x ≠ none ∧ ¬ F1 x ∧ (P x ∨ H x = none)) (vD : Vs.Pairwise fun t u => ∀ x, t.T x → ¬ u.T x) : Sx K E F1 H1 S L σ env (Vs ++ Ts) := by
  have kT : ∀ t ∈ Ts, ∀ x, t.T x → H1 x = H x := fun t ht x a => h1.ag x (h.oT t ht x a).tr (pT t ht x a)
  have kS : ∀ i x, S i x → H1 x = H x := fun i x a => h1.ag x (h.oS i x a).tr (pS i x a)
  have kF : ∀ x, F x → H1 x = H x := fun x a => h1.ag x (h.fr x a).1 (pF x a)
  have kL : ∀ i x, L i x → H1 x = H x := fun i x a => h1.ag x (h.lt i x a).1 (pL i x a)
  have orr : ∀ x, (P x ∨ H x = none) → (E.P x ∨ E.H x = none) := fun x z => by
    rcases z with q | q
    · exact pO x q
    · cases r : E.H x with
      | none => exact .inr rfl
      | some u => exact absurd q (h.tk x (by rw [r]; simp))
  have nf1 : ∀ x, ¬ F x → H x ≠ none → ¬ P x → ¬ F1 x := fun x a b c z => by
    rcases (h1.fr x z).2 with y | y | y
    · exact a y
    · exact c y
    · exact b y
  have okS : ∀ i x, S i x → Okx E F1 H1 L x := fun i x a => by
    have q := h.oS i x a
    exact ⟨by rw [kS i x a]; exact q.tr, nf1 x q.nf q.tr (pS i x a), q.nl, q.or⟩
  have okT : ∀ t ∈ Ts, ∀ x, t.T x → Okx E F1 H1 L x := fun t ht x a => by
    have q := h.oT t ht x a
    exact ⟨by rw [kT t ht x a]; exact q.tr, nf1 x q.nf q.tr (pT t ht x a), q.nl, q.or⟩
  refine ⟨h.len, fun i o e => ?_, fun t ht => ?_, h.dS, List.pairwise_append.mpr ⟨vD, h.dT, fun u hu t ht x a b => ?_⟩, fun t ht i x a b => ?_, okS, fun t ht x a => ?_, fun x hx => ⟨(h1.fr x hx).1, ?_⟩, fun x hx => h1.ff x (h.ff x hx), fun i x a => ?_, fun x e n => ?_, fun x e => h1.tk x (h.tk x e), h.fx⟩
  · obtain ⟨v, e1, e2⟩ := h.sl i o e
    exact ⟨v, e1, e2.mono h1.ff kF (kS i) (kL i) fun _ z => z⟩
  · rcases List.mem_append.mp ht with q | q
    · exact vT t q
    · exact (h.tm t q).mono h1.ff kF (kT t q) (fun _ z => z.elim) fun _ z => z
  · exact (vO u hu x a).2.2.elim (pT t ht x b) (h.oT t ht x b).tr
  · rcases List.mem_append.mp ht with q | q
    · exact (vO t q x a).2.2.elim (pS i x b) (h.oS i x b).tr
    · exact h.dST t q i x a b
  · rcases List.mem_append.mp ht with q | q
    · obtain ⟨a1, a2, a3⟩ := vO t q x a
      exact ⟨a1, a2, fun i z => a3.elim (pL i x z) (h.lt i x z).1, orr x a3⟩
    · exact okT t q x a
  · rcases (h1.fr x hx).2 with y | y | y
    · exact (h.fr x y).2
    · exact .inr (orr x (.inl y))
    · exact .inr (orr x (.inr y))
  · rw [kL i x a]
    exact ⟨(h.lt i x a).1, nf1 x (h.lt i x a).2 (h.lt i x a).1 (pL i x a)⟩
  · have nP : ¬ P x := fun z => (pO x z).elim n e
    rw [h1.ag x (h.tk x e) nP]
    exact h.ag x e n

/-! ### arguments -/
inductive ArgV : List V → List Ow → List Tp → Prop
  | nil : ArgV [] [] []
  | cons {v : V} {o : Ow} {T : As} {vs : List V} {os : List Ow} {Us : List Tp} : ArgV vs os Us → ArgV (v :: vs) (o :: os) (⟨v, o, T⟩ :: Us)
theorem ArgV.at {vs : List V} {os : List Ow} {Us : List Tp} (h : ArgV vs os Us) : vs.length = os.length ∧ Us.length = os.length ∧ ∀ (k : Nat) (o : Ow), os[k]? = some o → ∃ v T, vs[k]? = some v ∧ Us[k]? = some ⟨v, o, T⟩ := by
  induction h with
  | nil => exact ⟨rfl, rfl, fun k o e => by simp at e⟩
  | @cons v o T vs os Us r ih =>
    refine ⟨by simp [ih.1], by simp [ih.2.1], fun k o' e => ?_⟩
    cases k with
    | zero => simp at e; subst e; exact ⟨v, T, rfl, rfl⟩
    | succ k => exact ih.2.2 k o' (by simpa using e)
theorem mid_perm {α : Type} (a : α) (xs ys zs : List α) : (xs ++ ((ys ++ [a]) ++ zs)).Perm (a :: (xs ++ (ys ++ zs))) := by
  have e : xs ++ ((ys ++ [a]) ++ zs) = (xs ++ ys) ++ a :: zs := by simp
  rw [e, ← List.append_assoc]
  exact List.perm_middle
theorem args_ok : ∀ {ms : List Md} {ts : List Tm} {vs : List V} {Us Ws : List Tp} {env : En} {as : List Ow} {e2 : En} {F : As} {S : Nat → As}, Sx K E F H S L σ env (Us ++ (Ws ++ Ts)) → OpV σ vs ts Us → args ms ts env = some (as, e2) →
    ∃ F1 S1 Xs, Sx K E F1 H S1 L σ e2 (Ws ++ (Xs ++ Ts)) ∧ ArgV vs as Xs
  | [], [], _, _, Ws, env, as, e2, F, S, s, ov, e => by
    cases ov
    simp only [args] at e
    cases e
    exact ⟨F, S, [], s, .nil⟩
  | .mu :: ms, .inl i :: ts, _, _, Ws, env, as, e2, F, S, s, ov, e => by
    cases ov with
    | @slot _ v vs _ Us hv r =>
    simp only [args] at e
    split at e
    · cases e
    · rename_i o hne hg
      split at e
      · rename_i as' e' he
        cases e
        obtain ⟨v', e1, s1⟩ := s.take hg (fun d z => hne d z)
        rw [hv] at e1
        cases e1
        obtain ⟨F1, S1, Xs, s2, a2⟩ := args_ok (Ws := Ws ++ [⟨v, o, S i⟩]) (s1.perm (mid_perm _ _ _ _)) r he
        exact ⟨F1, S1, ⟨v, o, S i⟩ :: Xs, by simpa using s2, .cons a2⟩
      · cases e
    · cases e
  | .sh :: ms, .inl i :: ts, _, _, Ws, env, as, e2, F, S, s, ov, e => by
    cases ov with
    | @slot _ v vs _ Us hv r =>
    simp only [args] at e
    split at e
    · rename_i o hg
      split at e
      · rename_i as' e' he
        cases e
        obtain ⟨s0, v', e1, dv⟩ := s.frz hg
        rw [hv] at e1
        cases e1
        have s1 := s0.pushI dv
        obtain ⟨F1, S1, Xs, s2, a2⟩ := args_ok (Ws := Ws ++ [⟨v, im o.dt, fun _ => False⟩]) (s1.perm (mid_perm _ _ _ _)) r he
        exact ⟨F1, S1, ⟨v, im o.dt, fun _ => False⟩ :: Xs, by simpa using s2, .cons a2⟩
      · cases e
    · cases e
  | .mu :: ms, .inr o :: ts, _, _, Ws, env, as, e2, F, S, s, ov, e => by
    cases ov with
    | @temp v _ T vs _ Us r =>
    have q : ∃ as', args ms ts env = some (as', e2) ∧ as = o :: as' := by
      cases o with
      | lk d => simp [args] at e
      | p o =>
        simp only [args] at e
        split at e
        · rename_i as' e' he
          cases e
          exact ⟨as', he, rfl⟩
        · cases e
      | rc fs =>
        simp only [args] at e
        split at e
        · rename_i as' e' he
          cases e
          exact ⟨as', he, rfl⟩
        · cases e
    obtain ⟨as', he, rfl⟩ := q
    obtain ⟨F1, S1, Xs, s2, a2⟩ := args_ok (Ws := Ws ++ [⟨v, o, T⟩]) (s.perm (mid_perm _ _ _ _)) r he
    exact ⟨F1, S1, ⟨v, o, T⟩ :: Xs, by simpa using s2, .cons a2⟩
  | .sh :: ms, .inr (.p o) :: ts, _, _, Ws, env, as, e2, F, S, s, ov, e => by
    cases ov with
    | @temp v _ T vs _ Us r =>
    simp only [args] at e
    split at e
    · rename_i as' e' he
      cases e
      obtain ⟨s0, dv⟩ := Sx.frzT s
      have s1 := s0.pushI dv
      obtain ⟨F1, S1, Xs, s2, a2⟩ := args_ok (Ws := Ws ++ [⟨v, im o.dt, fun _ => False⟩]) (s1.perm (mid_perm _ _ _ _)) r he
      exact ⟨F1, S1, ⟨v, im o.dt, fun _ => False⟩ :: Xs, by simpa using s2, .cons a2⟩
    · cases e
  | .sh :: ms, .inr (.lk _) :: ts, _, _, Ws, env, as, e2, F, S, s, ov, e => by simp [args] at e
  | .sh :: ms, .inr (.rc _) :: ts, _, _, Ws, env, as, e2, F, S, s, ov, e => by simp [args] at e
  | [], _ :: _, _, _, Ws, env, as, e2, F, S, s, ov, e => by simp [args] at e
  | .mu :: _, [], _, _, Ws, env, as, e2, F, S, s, ov, e => by simp [args] at e
  | .sh :: _, [], _, _, Ws, env, as, e2, F, S, s, ov, e => by simp [args] at e
theorem args_len : ∀ {ms : List Md} {ts : List Tm} {env : En} {as : List Ow} {e2 : En}, args ms ts env = some (as, e2) → as.length = ms.length
  | [], [], _, _, _, e => by simp only [args] at e; cases e; rfl
  | .mu :: ms, .inl i :: ts, env, as, e2, e => by
    simp only [args] at e
    split at e
    · cases e
    · split at e
      · rename_i he; cases e; simp [args_len he]
      · cases e
    · cases e
  | .sh :: ms, .inl i :: ts, env, as, e2, e => by
    simp only [args] at e
    split at e
    · split at e
      · rename_i he; cases e; simp [args_len he]
      · cases e
    · cases e
  | .mu :: ms, .inr (.lk d) :: ts, env, as, e2, e => by simp [args] at e
  | .mu :: ms, .inr (.p d) :: ts, env, as, e2, e => by
    simp only [args] at e
    split at e
    · rename_i he; cases e; simp [args_len he]
    · cases e
  | .mu :: ms, .inr (.rc d) :: ts, env, as, e2, e => by
    simp only [args] at e
    split at e
    · rename_i he; cases e; simp [args_len he]
    · cases e
  | .sh :: ms, .inr (.p d) :: ts, env, as, e2, e => by
    simp only [args] at e
    split at e
    · rename_i he; cases e; simp [args_len he]
    · cases e
  | .sh :: ms, .inr (.lk d) :: ts, env, as, e2, e => by simp [args] at e
  | .sh :: ms, .inr (.rc d) :: ts, env, as, e2, e => by simp [args] at e
  | [], _ :: _, env, as, e2, e => by simp [args] at e
  | .mu :: _, [], env, as, e2, e => by simp [args] at e
  | .sh :: _, [], env, as, e2, e => by simp [args] at e
def scOf (Ws : List Tp) : Nat → As := fun k x => ∃ t, Ws[k]? = some t ∧ t.T x
/-- the callee's state at its entry -/
theorem Sx.enter {vs : List V} {as : List Ow} {Ws : List Tp} (h : Sx K E F H S L σ env (Ws ++ Ts)) (a : ArgV vs as Ws) : Sx K (snapE H F (scOf Ws) []) F H (scOf Ws) (fun _ => noA) (vs.map some) (as.map some) [] := by
  obtain ⟨l1, l2, at_⟩ := a.at
  have mW : ∀ {k : Nat} {t : Tp}, Ws[k]? = some t → t ∈ Ws ++ Ts := fun e => List.mem_append_left _ (List.mem_of_getElem? e)
  refine ⟨by simp [l1], fun k o e => ?_, fun _ ht => (nomatch ht), fun j k x ⟨t, e1, t1⟩ ⟨u, e2, u1⟩ => ?_, .nil, fun _ ht => (nomatch ht), fun k x hx => ?_, fun _ ht => (nomatch ht), fun x hx => ⟨(h.fr x hx).1, .inl hx⟩, fun _ hx => hx, fun _ _ z => z.elim, fun _ _ _ => rfl, fun _ hx => hx, fun _ hp => (nomatch hp)⟩
  · have e0 := getE_some e
    rw [List.getElem?_map] at e0
    cases q : as[k]? with
    | none => rw [q] at e0; cases e0
    | some o' =>
      rw [q] at e0
      cases e0
      obtain ⟨v, T, ev, eT⟩ := at_ k o q
      refine ⟨v, by rw [List.getElem?_map, ev]; rfl, ?_⟩
      have es : scOf Ws k = T := by
        funext x
        refine propext ⟨fun ⟨t, e1, t1⟩ => ?_, fun z => ⟨_, eT, z⟩⟩
        rw [eT] at e1
        cases e1
        exact t1
      rw [es]
      exact h.tm _ (mW eT)
  · have pw := (List.pairwise_append.mp h.dT).1
    obtain ⟨hj, ej⟩ := List.getElem?_eq_some_iff.mp e1
    obtain ⟨hk, ek⟩ := List.getElem?_eq_some_iff.mp e2
    rcases Nat.lt_trichotomy j k with c | c | c
    · exact absurd u1 (by have := (List.pairwise_iff_getElem.mp pw) j k hj hk c x; rw [ej, ek] at this; exact this t1)
    · exact c
    · exact absurd t1 (by have := (List.pairwise_iff_getElem.mp pw) k j hk hj c x; rw [ej, ek] at this; exact this u1)
  · have ⟨t, e1, t1⟩ := hx
    have q := h.oT t (mW e1) x t1
    exact ⟨q.tr, q.nf, fun _ z => z.elim, .inl ⟨k, hx⟩⟩
/-- what comes back of the arguments -/
def outT (S1 : Nat → As) : Nat → List V → En → List Tp
  | k, v :: vs, some o :: os => ⟨v, o, S1 k⟩ :: outT S1 (k + 1) vs os
  | k, _ :: vs, none :: os => outT S1 (k + 1) vs os
  | _, _, _ => []
theorem outT_mem {S1 : Nat → As} : ∀ {k : Nat} {vs : List V} {os : En} {t : Tp}, t ∈ outT S1 k vs os → ∃ j v o, vs[j]? = some v ∧ os[j]? = some (some o) ∧ t = ⟨v, o, S1 (k + j)⟩
  | k, v :: vs, some o :: os, t, h => by
    rcases List.mem_cons.mp (show t ∈ ⟨v, o, S1 k⟩ :: outT S1 (k + 1) vs os from h) with e | h
    · exact ⟨0, v, o, rfl, rfl, e⟩
    · obtain ⟨j, v', o', e1, e2, e3⟩ := outT_mem h
      exact ⟨j + 1, v', o', by simpa using e1, by simpa using e2, by rw [e3]; congr 2; omega⟩
  | k, v :: vs, none :: os, t, h => by
    obtain ⟨j, v', o', e1, e2, e3⟩ := outT_mem (show t ∈ outT S1 (k + 1) vs os from h)
    exact ⟨j + 1, v', o', by simpa using e1, by simpa using e2, by rw [e3]; congr 2; omega⟩
  | k, [], os, t, h => by cases os <;> (simp [outT] at h)
  | k, v :: vs, [], t, h => by simp [outT] at h
theorem outT_pair {S1 : Nat → As} (d : ∀ i j x, S1 i x → S1 j x → i = j) : ∀ (k : Nat) (vs : List V) (os : En), (outT S1 k vs os).Pairwise fun t u => ∀ x, t.T x → ¬ u.T x
  | k, v :: vs, some o :: os => by
    refine List.pairwise_cons.mpr ⟨fun u hu x a b => ?_, outT_pair d (k + 1) vs os⟩
    obtain ⟨j, v', o', _, _, e3⟩ := outT_mem hu
    subst e3
    have := d _ _ x a b
    omega
  | k, v :: vs, none :: os => outT_pair d (k + 1) vs os
  | k, [], os => by cases os <;> exact .nil
  | k, v :: vs, [] => .nil
theorem Sx.leave {vs : List V} {as : List Ow} {Ws Us : List Tp} {F1 : As} {H1 : Hp} {S1 : Nat → As} {outs : En} (h : Sx K E F H S L σ env (Ws ++ Ts)) (h1 : Sx K (snapE H F (scOf Ws) []) F1 H1 S1 (fun _ => noA) (vs.map some) outs Us) :
    Sx K E F1 H1 S L σ env ((outT S1 0 vs outs ++ Us) ++ Ts) := by
  have pw := List.pairwise_append.mp h.dT
  have mW : ∀ {k : Nat} {t : Tp}, Ws[k]? = some t → t ∈ Ws := fun e => List.mem_of_getElem? e
  refine (h.sub (List.sublist_append_right _ _)).back' (P := fun x => ∃ i, scOf Ws i x) (fix := []) h1 (fun i x a ⟨k, t, e, b⟩ => h.dST t (List.mem_append_left _ (mW e)) i x b a) (fun t ht x a ⟨k, u, e, b⟩ => pw.2.2 u (mW e) t ht x b a)
    (fun x a ⟨k, u, e, b⟩ => (h.oT u (List.mem_append_left _ (mW e)) x b).nf a) (fun i x a ⟨k, u, e, b⟩ => (h.oT u (List.mem_append_left _ (mW e)) x b).nl i a) (fun x ⟨k, u, e, b⟩ => (h.oT u (List.mem_append_left _ (mW e)) x b).or) (fun u hu => ?_) (fun u hu x a => ?_) ?_
  · rcases List.mem_append.mp hu with q | q
    · obtain ⟨j, v, o, e1, e2, rfl⟩ := outT_mem q
      obtain ⟨w, e3, e4⟩ := h1.sl j o (getE_of e2)
      rw [List.getElem?_map, e1] at e3
      cases e3
      rw [Nat.zero_add]
      exact e4
    · exact h1.tm u q
  · rcases List.mem_append.mp hu with q | q
    · obtain ⟨j, v, o, e1, e2, rfl⟩ := outT_mem q
      have z := h1.oS _ x a
      exact ⟨z.tr, z.nf, z.or⟩
    · have z := h1.oT u q x a
      exact ⟨z.tr, z.nf, z.or⟩
  · refine List.pairwise_append.mpr ⟨outT_pair h1.dS 0 vs outs, h1.dT, fun t ht u hu x a b => ?_⟩
    obtain ⟨j, v, o, e1, e2, rfl⟩ := outT_mem ht
    exact h1.dST u hu _ x b a
theorem backs_ok {S1 : Nat → As} {vs : List V} {ts : List Tm} {Us : List Tp} (ov : OpV σ vs ts Us) : ∀ {k : Nat} {ms : List Md} {os : En} {env : En} {S : Nat → As}, Sx K E F H S L σ env (outT S1 k vs os ++ Ts) → ∃ S', Sx K E F H S' L σ (backs ms ts os env) Ts := by
  induction ov with
  | nil =>
    intro k ms os env S s
    have e : outT S1 k [] os = [] := by cases os <;> rfl
    rw [e] at s
    refine ⟨S, ?_⟩
    have e2 : backs ms [] os env = env := by cases ms <;> simp [backs]
    rw [e2]; exact s
  | @slot i v vs ts Us hv r ih =>
    intro k ms os env S s
    cases os with
    | nil =>
      have e2 : backs ms (.inl i :: ts) [] env = env := by cases ms <;> simp [backs]
      rw [e2]
      exact ⟨S, s⟩
    | cons o os =>
      cases ms with
      | nil => exact ⟨S, by simp only [backs]; exact s.sub (List.sublist_append_right _ _)⟩
      | cons m ms =>
        cases m with
        | mu =>
          simp only [backs]
          cases o with
          | none => exact ih (k := k + 1) (Sx.drop s)
          | some o => exact ih (k := k + 1) (Sx.put (T := S1 k) s hv)
        | sh =>
          simp only [backs]
          cases o with
          | none => exact ih (k := k + 1) s
          | some o => exact ih (k := k + 1) (Sx.pop s)
  | @temp v o' T vs ts Us r ih =>
    intro k ms os env S s
    cases os with
    | nil =>
      have e2 : backs ms (.inr o' :: ts) [] env = env := by cases ms <;> simp [backs]
      rw [e2]
      exact ⟨S, s⟩
    | cons o os =>
      cases ms with
      | nil => exact ⟨S, by simp only [backs]; exact s.sub (List.sublist_append_right _ _)⟩
      | cons m ms =>
        have e2 : backs (m :: ms) (.inr o' :: ts) (o :: os) env = backs ms ts os env := by cases m <;> simp [backs]
        rw [e2]
        cases o with
        | none => exact ih (k := k + 1) s
        | some o => exact ih (k := k + 1) (Sx.pop s)
end

/-! ### calls -/
/-- what a def promises: its arguments stand for data, and so does what it hands back -/
def spF (K : PySem.W.Frag) (xv : Xv) (np : Nat) (fn : List Ow → Cr) : Sp := fun vs H Q X => vs.length = np ∧ ∃ F Sc as, Sx K (snapE H F Sc []) F H Sc (fun _ => noA) (vs.map some) (as.map some) [] ∧ match fn as with
  | .ret o outs => ∀ v F' H' S' T, Sx K (snapE H F Sc []) F' H' S' (fun _ => noA) (vs.map some) outs [⟨v, o, T⟩] → Q v H'
  | .exc d outs => ∀ c od F' H' S', Sx K (snapE H F Sc []) F' H' S' (fun _ => noA) (vs.map some) outs [] → xv K F' H' c od d → X c od H'
  | .no => False
section
variable {K : PySem.W.Frag} {xv : Xv} {W : WX} {C : Cl} {σ : L2.St} {H : Hp}
theorem rd_call {f np : Nat} {os : Ops} {Q : VK} (hnp : (C.md f).length = np) (h : RdE K xv W (ev C (.call f os)) σ H Q) : tCallS (spF K xv np (C.fn f)) (WE W) (RdA K xv W (evo C os)) σ H Q := by
  obtain ⟨E, F, S, L, env, Ts, s, w⟩ := h
  refine ⟨E, F, S, L, env, Ts, s, ?_⟩
  simp only [ev] at w
  split at w
  · rename_i ts e1 hx
    rw [hx]
    intro vs Us F' H' S' s' ov
    split at w
    · rename_i as e2 ha
      obtain ⟨F1, S1, Xs, s1, av⟩ := args_ok (Ws := []) (s'.perm (Us := Us ++ ([] ++ Ts)) (by simpa using (List.reverse_perm Us).symm.append_right Ts)) ov ha
      have s1 : Sx K E F1 H' S1 L σ e2 (Xs ++ Ts) := s1
      refine ⟨by rw [av.at.1, args_len ha, hnp], F1, scOf Xs, as, s1.enter av, ?_⟩
      split at w
      · rename_i o outs hc
        try rw [hc]
        intro v F2 H2 S2 T h2
        have s2 := s1.leave (as := as) h2
        rw [List.append_assoc] at s2
        obtain ⟨S3, s3⟩ := backs_ok (ms := C.md f) ov s2
        exact w v F2 H2 S3 T s3
      · rename_i d outs hc
        try rw [hc]
        intro c od F2 H2 S2 h2 hd
        have s2 := s1.leave (as := as) h2
        rw [List.append_nil] at s2
        obtain ⟨S3, s3⟩ := backs_ok (ms := C.md f) ov s2
        exact w F2 H2 S3 c od s3 hd
      · exact w.elim
    · exact w.elim
  · rename_i d e1 hx
    rw [hx]
    exact w
  · exact w.elim
end
end Pd
set_option Elab.async false
set_option linter.all false
set_option maxRecDepth 100000
set_option maxHeartbeats 4000000
/-! Part 9: what is gone through; list comprehensions. -/
namespace Pd
open PySem PySem.Spec PyProof.Rows L2
section
variable {K : PySem.W.Frag} {E : En0} {F F' : As} {H H' : Hp} {S S' : Nat → As} {L L' : Nat → As} {σ : L2.St} {env : En} {Ts : List Tp} {t : Tp} {i : Nat} {v : V} {o : Ow} {T : As}
/-- stored, whether the slot is there or not -/
theorem Sx.store' (h : Sx K E F H S L σ env (⟨v, o, T⟩ :: Ts)) (hx : ∀ p ∈ E.fix, p.1 ≠ i) : ∃ S', Sx K E F H S' L (σ.set i (some v)) (env.set i (some o)) Ts := by
  by_cases hi : i < env.length
  · exact ⟨_, h.store hi hx⟩
  · rw [List.set_eq_of_length_le (by rw [← h.len]; omega), List.set_eq_of_length_le (by omega)]
    exact ⟨_, h.pop⟩
/-- the slots vs are forgotten -/
theorem Sx.forget {vs : List Nat} (h : Sx K E F H S L σ env Ts) (hx : ∀ p ∈ E.fix, p.1 ∉ vs) : Sx K E F H (wipeS S vs) L (wipe σ vs) (wipeE env vs) Ts := by
  refine ⟨by rw [wipeE_len, wipe_length]; exact h.len, fun j u e => ?_, h.tm, fun i j x a b => h.dS i j x a.2 b.2, h.dT, fun t ht i x a b => h.dST t ht i x a b.2, fun i x q => h.oS i x q.2, h.oT, h.fr, h.ff, h.lt, h.ag, h.tk, fun p hp => ?_⟩
  · obtain ⟨h1, h2⟩ := wipeE_get e
    obtain ⟨v, e1, e2⟩ := h.sl j u h2
    refine ⟨v, by rw [wipe_get h1]; exact e1, ?_⟩
    have es : wipeS S vs j = S j := by
      funext x
      exact propext ⟨fun z => z.2, fun z => ⟨h1, z⟩⟩
    rw [es]
    exact e2
  · rw [wipe_get (hx p hp)]
    exact h.fx p hp
/-! ### locks -/
/-- the slots is are locked -/
structure Lks (K : PySem.W.Frag) (E : En0) (F : As) (H : Hp) (S L : Nat → As) (σ : L2.St) (env : En) (Ts : List Tp) (is : List Nat) (S1 L1 : Nat → As) (env1 : En) : Prop where
  s1 : Sx K E F H S1 L1 σ env1 Ts
  sub : ∀ j x, S1 j x → S j x
  emp : ∀ i ∈ is, ∀ x, ¬ S1 i x
  back : ∀ {F2 : As} {H2 : Hp} {S2 : Nat → As} {σ2 : L2.St} {env2 : En} {Us : List Tp}, Sx K E F2 H2 S2 L1 σ2 env2 Us → (∀ i ∈ is, σ2[i]? = σ[i]?) → (∀ x, H x ≠ none → (∀ j, ¬ S1 j x) → H2 x = H x) → (∀ x, F x → F2 x) →
    ∃ S3, Sx K E F2 H2 S3 L σ2 (backE env env2 is) Us
theorem lks_nil (h : Sx K E F H S L σ env Ts) : Lks K E F H S L σ env Ts [] S L env := ⟨h, fun _ _ z => z, fun _ hi => (nomatch hi), fun s2 _ _ _ => ⟨_, s2⟩⟩
theorem lock_emp {env1 : En} {d : Dt} {S1 L1 : Nat → As} {σ' : L2.St} {F1 : As} (hg : getE env i = some o) (hd : o.vw = some d) (hl : lockE env (.v i) = some env1) (h1 : Sx K E F1 H S1 L1 σ' env1 Ts) : ∀ x, ¬ S1 i x := by
  simp only [lockE, hg] at hl
  have hi := getE_lt hg
  cases o with
  | lk c =>
    cases hl
    obtain ⟨w, _, ow⟩ := h1.sl i _ hg
    exact ow.1
  | rc fs => cases hd
  | p o1 =>
    cases o1 with
    | imm c =>
      cases hl
      obtain ⟨w, _, ow⟩ := h1.sl i _ hg
      exact ow.1
    | lst ds =>
      cases hl
      obtain ⟨w, _, ow⟩ := h1.sl i (.lk (.lst ds)) (by rw [getE_set hi, if_pos rfl])
      exact ow.1
    | dic ds =>
      cases hl
      obtain ⟨w, _, ow⟩ := h1.sl i (.lk (.dic ds)) (by rw [getE_set hi, if_pos rfl])
      exact ow.1
theorem slot_lt {σ2 : L2.St} (h : Sx K E F H S L σ env Ts) (hg : getE env i = some o) (e : σ2[i]? = σ[i]?) : i < σ2.length := by
  obtain ⟨v, e1, _⟩ := h.sl i o hg
  rw [e1] at e
  exact (List.getElem?_eq_some_iff.mp e).1
theorem lks_one {env1 : En} {d : Dt} (h : Sx K E F H S L σ env Ts) (hg : getE env i = some o) (hd : o.vw = some d) (hl : lockE env (.v i) = some env1) : ∃ S1 L1, Lks K E F H S L σ env Ts [i] S1 L1 env1 := by
  obtain ⟨S1, L1, k⟩ := lock_slot h hg hd hl
  refine ⟨S1, L1, k.s1, k.sub, fun j hj => ?_, fun s2 hσ hp hF => ?_⟩
  · obtain rfl : j = i := by simpa using hj
    exact lock_emp hg hd hl k.s1
  · have hi := slot_lt h hg (hσ i List.mem_cons_self)
    exact k.back s2 (hσ i List.mem_cons_self) hp hF (by rw [backE_len, s2.len]; exact hi)
theorem lks_two {a b : Nat} {oa ob : Ow} {da db : Dt} {e1 e2 : En} (h : Sx K E F H S L σ env Ts) (ga : getE env a = some oa) (va : oa.vw = some da) (gb : getE env b = some ob) (vb : ob.vw = some db) (la : lockE env (.v a) = some e1) (lb : lockE e1 (.v b) = some e2) :
    ∃ S1 L1, Lks K E F H S L σ env Ts [a, b] S1 L1 e2 := by
  have ha := getE_lt ga
  have hb := getE_lt gb
  obtain ⟨S1, L1, k⟩ := lock_slot h ga va la
  have gb' : ∃ ob', getE e1 b = some ob' ∧ ∃ db', ob'.vw = some db' := by
    by_cases e : b = a
    · subst e
      rw [ga] at gb
      cases gb
      simp only [lockE, ga] at la
      cases oa with
      | lk c => cases la; exact ⟨_, ga, _, va⟩
      | rc fs => cases va
      | p o1 =>
        cases o1 with
        | imm c => cases la; exact ⟨_, ga, _, va⟩
        | lst ds => cases la; exact ⟨.lk (.lst ds), by rw [getE_set ha, if_pos rfl], _, rfl⟩
        | dic ds => cases la; exact ⟨.lk (.dic ds), by rw [getE_set ha, if_pos rfl], _, rfl⟩
    · exact ⟨ob, by rw [k.oth b e]; exact gb, db, vb⟩
  obtain ⟨ob', gb', db', vb'⟩ := gb'
  obtain ⟨S2, L2, k2⟩ := lock_slot k.s1 gb' vb' lb
  refine ⟨S2, L2, k2.s1, fun j x z => k.sub j x (k2.sub j x z), fun j hj x z => ?_, fun {F2 H2 S3 σ2 env2 Us} s2 hσ hp hF => ?_⟩
  · rcases List.mem_cons.mp hj with e | hj
    · subst e
      exact lock_emp ga va la k.s1 x (k2.sub _ x z)
    · obtain rfl : j = b := by simpa using hj
      exact lock_emp gb' vb' lb k2.s1 x z
  · have ha' := slot_lt h ga (hσ a (by simp))
    have hb' := slot_lt h gb (hσ b (by simp))
    obtain ⟨S4, s4⟩ := k2.back s2 (hσ b (by simp)) hp hF (by rw [s2.len]; exact hb')
    obtain ⟨S5, s5⟩ := k.back s4 (hσ a (by simp)) (fun x hx hn => hp x hx fun j z => hn j (k2.sub j x z)) hF (by rw [List.length_set, s2.len]; exact ha')
    refine ⟨S5, ?_⟩
    have e : backE env env2 [a, b] = (env2.set b (e1.getD b none)).set a (env.getD a none) := by
      show (env2.set b (env.getD b none)).set a (env.getD a none) = _
      by_cases e : b = a
      · subst e
        rw [List.set_set, List.set_set]
      · have : e1.getD b none = env.getD b none := by
          rw [getD_of gb]
          exact getD_of (by rw [k.oth b e]; exact gb)
        rw [this]
    rw [e]
    exact s5
/-- a list of slots to go through -/
theorem backE_wipe (e0 env : En) : ∀ (vs : List Nat), env.length = e0.length → backE e0 (wipeE env vs) vs = backE e0 env vs := fun vs hl => by
  apply List.ext_getElem?
  intro j
  have A : ∀ (vs : List Nat) (env : En), env.length = e0.length → (backE e0 env vs)[j]? = if j ∈ vs then e0[j]? else env[j]? := by
    intro vs env hl
    induction vs with
    | nil => simp [backE]
    | cons v vs ih =>
      unfold backE
      by_cases e : j = v
      · subst e
        rw [if_pos List.mem_cons_self]
        by_cases hj : j < (backE e0 env vs).length
        · rw [List.getElem?_set_self hj]
          rw [backE_len, hl] at hj
          rw [List.getD_eq_getElem?_getD, List.getElem?_eq_getElem hj]
          rfl
        · rw [List.getElem?_eq_none (by rw [List.length_set]; omega)]
          rw [backE_len, hl] at hj
          rw [List.getElem?_eq_none (by omega)]
      · rw [List.getElem?_set_ne (Ne.symm e), ih]
        simp [e]
  have B : ∀ (vs : List Nat), j ∉ vs → (wipeE env vs)[j]? = env[j]? := by
    intro vs
    induction vs with
    | nil => intro _; rfl
    | cons v vs ih =>
      intro hn
      unfold wipeE
      rw [List.getElem?_set_ne (fun e => hn (by rw [e]; exact List.mem_cons_self)), ih (fun z => hn (List.mem_cons_of_mem _ z))]
  rw [A _ _ (by rw [wipeE_len]; exact hl), A _ _ hl]
  by_cases e : j ∈ vs
  · rw [if_pos e, if_pos e]
  · rw [if_neg e, if_neg e, B vs e]

/-! ### what is gone through -/
/-- J yields what stands for ds, as long as nothing but P changes -/
structure JOk (K : PySem.W.Frag) (J : It) (ds : List Dt) (F : As) (H : Hp) (P : As) : Prop where
  go : ∀ (i : Nat) (F2 : As) (H2 : Hp) (d : Dt), (∀ x, F x → F2 x) → (∀ x, H x ≠ none → ¬ P x → H2 x = H x) → (∀ x, F2 x → H2 x ≠ none) → ds[i]? = some d → J.go i H2 ∧ ∀ x H', J.yld i H2 x H' →
    ∃ F', (∀ x, F2 x → F' x) ∧ (∀ x, F' x → F2 x ∨ (H2 x = none ∧ H' x ≠ none)) ∧ (∀ x, H2 x ≠ none → H' x = H2 x) ∧ DV K F' H' x d
  stop : ∀ (F2 : As) (H2 : Hp), (∀ x, F x → F2 x) → (∀ x, H x ≠ none → ¬ P x → H2 x = H x) → J.stop ds.length H2
/-- nothing but what other slots than is hold alone -/
def Pok (S : Nat → As) (is : List Nat) (P : As) : Prop := ∀ x, P x → ∃ j, j ∉ is ∧ S j x
theorem jok_list {a : Addr} {vs : List V} {ds : List Dt} {P : As} (ha : H a = some (.lst vs)) (hP : ¬ P a) (hv : DVs K F H vs ds) (hF : ∀ x, F x → H x ≠ none ∧ ¬ P x) : JOk K (Itl K a) ds F H P := by
  refine ⟨fun i F2 H2 d f p t e => ?_, fun F2 H2 f p => ?_⟩
  · have h2 : H2 a = some (.lst vs) := (p a (by rw [ha]; simp) hP).trans ha
    obtain ⟨v, e1, dv⟩ := hv.get e
    refine ⟨⟨vs, v, .of h2, e1⟩, fun x H' y => ?_⟩
    obtain ⟨rfl, y⟩ := y
    have := y vs (.of h2)
    rw [e1] at this
    cases this
    exact ⟨F2, fun _ z => z, fun _ z => .inl z, fun _ _ => rfl, dv.mono f fun x hx => p x (hF x hx).1 (hF x hx).2⟩
  · have h2 : H2 a = some (.lst vs) := (p a (by rw [ha]; simp) hP).trans ha
    exact ⟨vs, .of h2, by rw [hv.len]; exact Nat.le_refl _⟩
theorem jok_tup {a : Addr} {vs : List V} {ds : List Dt} {P : As} (ha : H a = some (.tup vs)) (hP : ¬ P a) (hv : DVs K F H vs ds) (hF : ∀ x, F x → H x ≠ none ∧ ¬ P x) : JOk K (Itt K a) ds F H P := by
  refine ⟨fun i F2 H2 d f p t e => ?_, fun F2 H2 f p => ?_⟩
  · have h2 : H2 a = some (.tup vs) := (p a (by rw [ha]; simp) hP).trans ha
    obtain ⟨v, e1, dv⟩ := hv.get e
    refine ⟨⟨vs, v, .of h2, e1⟩, fun x H' y => ?_⟩
    obtain ⟨rfl, y⟩ := y
    have := y vs (.of h2)
    rw [e1] at this
    cases this
    exact ⟨F2, fun _ z => z, fun _ z => .inl z, fun _ _ => rfl, dv.mono f fun x hx => p x (hF x hx).1 (hF x hx).2⟩
  · have h2 : H2 a = some (.tup vs) := (p a (by rw [ha]; simp) hP).trans ha
    exact ⟨vs, .of h2, by rw [hv.len]; exact Nat.le_refl _⟩
theorem jok_scr {a : Addr} {is : List Int} {P : As} (ha : StS K F H a (is.map V.int)) (hF : ∀ x, F x → H x ≠ none ∧ ¬ P x) : JOk K (Itl K a) (is.map Dt.int) F H P := by
  have st : ∀ H2 : Hp, (∀ x, H x ≠ none → ¬ P x → H2 x = H x) → SqL K H2 a (is.map V.int) := fun H2 p => by
    rcases ha with ⟨f, r⟩ | k
    · exact .inl (rd_same r (p a (hF a f).1 (hF a f).2))
    · exact .inr k
  refine ⟨fun i F2 H2 d f p t e => ?_, fun F2 H2 f p => ?_⟩
  · rw [List.getElem?_map] at e
    cases q : is[i]? with
    | none => rw [q] at e; cases e
    | some j =>
      rw [q] at e
      cases e
      have e1 : (is.map V.int)[i]? = some (.int j) := by rw [List.getElem?_map, q]; rfl
      refine ⟨⟨_, _, st H2 p, e1⟩, fun x H' y => ?_⟩
      obtain ⟨rfl, y⟩ := y
      have := y _ (st _ p)
      rw [e1] at this
      cases this
      exact ⟨F2, fun _ z => z, fun _ z => .inl z, fun _ _ => rfl, .int j⟩
  · exact ⟨_, st H2 p, by simp⟩
theorem jok_rng {lo : Int} {n : Nat} {P : As} : JOk K (Itr lo n) (rngD lo n) F H P := by
  refine ⟨fun i F2 H2 d f p t e => ?_, fun F2 H2 f p => ?_⟩
  · unfold rngD at e
    rw [List.getElem?_map] at e
    by_cases hi : i < n
    · rw [List.getElem?_range hi] at e
      cases e
      refine ⟨hi, fun x H' y => ?_⟩
      obtain ⟨rfl, rfl⟩ := y
      exact ⟨F2, fun _ z => z, fun _ z => .inl z, fun _ _ => rfl, .int _⟩
    · rw [List.getElem?_eq_none (by simpa using hi)] at e
      cases e
  · show n ≤ (rngD lo n).length
    unfold rngD
    simp
end
end Pd
set_option Elab.async false
set_option linter.all false
set_option maxRecDepth 100000
set_option maxHeartbeats 4000000
/-! Part 10: what is gone through; list comprehensions (the readings). -/
namespace Pd
open PySem PySem.Spec PyProof.Rows L2
section
variable {K : PySem.W.Frag} {E : En0} {F F' : As} {H H' : Hp} {S S' : Nat → As} {L L' : Nat → As} {σ : L2.St} {env : En} {Ts : List Tp} {t : Tp} {i : Nat} {v : V} {o : Ow} {T : As}
def opSl : Op → List Nat
  | .v i => [i]
  | .e _ => []
def SlOk (env : En) (is : List Nat) : Prop := ∀ i ∈ is, ∃ o d, getE env i = some o ∧ o.vw = some d
theorem lks_ir {it : Ir} {e2 : En} (h : Sx K E F H S L σ env Ts) (hs : SlOk env (slotI it)) (hl : lckI it env = some e2) : ∃ S1 L1, Lks K E F H S L σ env Ts (slotI it) S1 L1 e2 := by
  have one : ∀ (o : Op), SlOk env (opSl o) → lockE env o = some e2 → ∃ S1 L1, Lks K E F H S L σ env Ts (opSl o) S1 L1 e2 := fun o hs hl => by
    cases o with
    | v i =>
      obtain ⟨o, d, g, vd⟩ := hs i List.mem_cons_self
      exact lks_one h g vd hl
    | e x =>
      simp only [lockE] at hl
      cases hl
      exact ⟨S, L, lks_nil h⟩
  cases it with
  | op o =>
    have e : slotI (.op o) = (opSl o) := by cases o <;> rfl
    rw [e] at hs ⊢
    exact one o hs hl
  | enum o =>
    have e : slotI (.enum o) = (opSl o) := by cases o <;> rfl
    rw [e] at hs ⊢
    exact one o hs hl
  | rng1 a => simp only [lckI] at hl; cases hl; exact ⟨S, L, lks_nil h⟩
  | rng2 a b => simp only [lckI] at hl; cases hl; exact ⟨S, L, lks_nil h⟩
  | zip a b =>
    simp only [lckI] at hl
    split at hl
    · rename_i e1 h1
      cases a with
      | v i =>
        cases b with
        | v j =>
          obtain ⟨o1, d1, g1, v1⟩ := hs i (by simp [slotI])
          obtain ⟨o2, d2, g2, v2⟩ := hs j (by simp [slotI])
          exact lks_two h g1 v1 g2 v2 h1 hl
        | e y =>
          simp only [lockE] at hl
          cases hl
          obtain ⟨o1, d1, g1, v1⟩ := hs i (by simp [slotI])
          exact lks_one h g1 v1 h1
      | e x =>
        simp only [lockE] at h1
        cases h1
        cases b with
        | v j =>
          obtain ⟨o2, d2, g2, v2⟩ := hs j (by simp [slotI])
          exact lks_one h g2 v2 hl
        | e y =>
          simp only [lockE] at hl
          cases hl
          exact ⟨S, L, lks_nil h⟩
    · cases hl
end
section
variable (K : PySem.W.Frag) (xv : Xv) (W : WX) (C : Cl)
/-- the reading of what a loop goes through -/
def RdI (it : Ir) : TI := fun σ H R => ∃ E F S L env Ts, Sx K E F H S L σ env Ts ∧ Wp (evi C it env) (fun ds e1 => ∀ J F' H' S' Us, Sx K E F' H' S' L σ e1 (Us ++ Ts) → SlOk e1 (slotI it) → (∀ P, Pok S' (slotI it) P → JOk K J ds F' H' P) → R J H') (Xw K xv W E L σ Ts)
end
def iSeq (K : PySem.W.Frag) (tl : TE) : TI := fun σ H R => tl σ H fun x H1 => ∃ a, x = .ref a ∧ (((∃ xs, SqL K H1 a xs) ∧ R (Itl K a) H1) ∨ ((∃ xs, SqT K H1 a xs) ∧ R (Itt K a) H1))
theorem pi_seq {X : Cx} {tg l : PySem.Expr} {tl : TE} (hl : PE X l tl) : PI X tg l (iSeq X.K tl) := by
  refine ⟨fun pins s σ H R I h => ?_⟩
  refine thn (hl.run pins s σ H _ I h) fun v s1 ⟨x, H1, I1, r1, q1⟩ => ?_
  obtain ⟨a, e, q⟩ := q1
  subst e
  cases r1
  rcases q with ⟨⟨xs, hq⟩, q⟩ | ⟨⟨xs, hq⟩, q⟩
  · obtain ⟨its, rv, p, hz⟩ := I1.list hq
    refine wpAny_pyIter_list p.isList ?_
    refine ⟨s1.heap.objs.size, [s1.heap.objs.size], _, _, H1, rfl, I1.kept (t' := s1.toks) fun b o e => Heap.get?_push_of_some _ e, turn_list a _, ⟨_, Heap.get?_push_size _ rfl, rfl, rfl⟩, fun b hb => ?_, q⟩
    have e : b = s1.heap.objs.size := by simpa using hb
    subst e
    exact I1.fpOk (Nat.le_refl _) (I1.hok.fresh (Nat.le_refl _))
  · obtain ⟨its, rv, p, hz⟩ := I1.tuple hq
    refine wpAny_pyIter_tuple (show s1.heap.IsTuple a its.toArray from p) ?_
    refine ⟨s1.heap.objs.size, [s1.heap.objs.size], _, _, H1, rfl, I1.kept (t' := s1.toks) fun b o e => Heap.get?_push_of_some _ e, turn_tuple a _, ⟨_, Heap.get?_push_size _ rfl, rfl, rfl⟩, fun b hb => ?_, q⟩
    have e : b = s1.heap.objs.size := by simpa using hb
    subst e
    exact I1.fpOk (Nat.le_refl _) (I1.hok.fresh (Nat.le_refl _))
def iEn (K : PySem.W.Frag) (ta : TA) : TI := fun σ H R => ta σ H fun vs H1 => ∃ a, vs = [.ref a] ∧ ((∃ xs, SqL K H1 a xs ∧ R (Ite K a) H1) ∨ (∃ xs, SqT K H1 a xs ∧ R (ItT K a) H1))
theorem pi_en {X : Cx} {e : PySem.Expr} {ta : TA} {p pos tpos : Pos} {elts : List PySem.Expr} {kk : Nat} (hg : Gl X "enumerate") (hm : X.mg "enumerate" = none) (ha : PA X [e] ta) (hs : starEach [e] X.env = [(false, eval e X.env)]) :
    PI X (.Tuple elts kk tpos) (.Call (.Name "enumerate" p) [e] [] pos) (iEn X.K ta) := by
  refine ⟨fun ps s σ H R I h => ?_⟩
  refine Call_ (ld_blt I hg hm boot_enumerate (PyProof.Rows.callWith_type1 (thn (ha.run pos ps s σ H _ I h) fun us s1 ⟨vs, H1, I1, r1, q1⟩ => ?_) hs rfl))
  obtain ⟨a, ex, q⟩ := q1
  subst ex
  cases r1 with
  | cons r rr =>
    cases rr
    cases r
    rcases q with ⟨xs, hq, q⟩ | ⟨xs, hq, q⟩
    · obtain ⟨its, rv, p', hz⟩ := I1.list hq
      refine call_enumerate_list p'.isList fun h' he hit hsz hk => wpAny_pyIter_enum he ?_
      have I2 : L2.Inv X ps σ H1 { s1 with heap := h' } := I1.kept (t' := s1.toks) hk
      refine ⟨s1.heap.objs.size + 1, [s1.heap.objs.size + 1, s1.heap.objs.size], _, _, H1, rfl, I2, turn_enum a (s1.heap.objs.size + 1) s1.heap.objs.size, ⟨⟨.none, he⟩, hit, Nat.succ_ne_self _⟩, fun b hb => ?_, q⟩
      have e' : b = s1.heap.objs.size + 1 ∨ b = s1.heap.objs.size := by simpa using hb
      have hle : s1.heap.objs.size ≤ b := by
        rcases e' with z | z
        · rw [z]; exact Nat.le_add_right _ _
        · rw [z]; exact Nat.le_refl _
      exact I1.fpOk hle (I1.hok.fresh hle)
    · obtain ⟨its, rv, p', hz⟩ := I1.tuple hq
      have hal : a < s1.heap.objs.size := by obtain ⟨_, q, _⟩ := p'; exact Heap.lt_size q
      refine call_enumerate_tuple p' fun h' he hit hsz hk => wpAny_pyIter_enum he ?_
      have I2 : L2.Inv X ps σ H1 { s1 with heap := h' } := I1.kept (t' := s1.toks) hk
      refine ⟨s1.heap.objs.size + 1, [s1.heap.objs.size + 1, s1.heap.objs.size], _, _, H1, rfl, I2, turn_enumT a (s1.heap.objs.size + 1) s1.heap.objs.size (Nat.ne_of_lt hal) (Nat.ne_of_lt (Nat.lt_succ_of_lt hal)), ⟨⟨.none, he⟩, hit, Nat.succ_ne_self _⟩, fun b hb => ?_, q⟩
      have e' : b = s1.heap.objs.size + 1 ∨ b = s1.heap.objs.size := by simpa using hb
      have hle : s1.heap.objs.size ≤ b := by
        rcases e' with z | z
        · rw [z]; exact Nat.le_add_right _ _
        · rw [z]; exact Nat.le_refl _
      exact I1.fpOk hle (I1.hok.fresh hle)
section
variable {K : PySem.W.Frag} {F : As} {H : Hp}
/-- a pair with its number -/
theorem enumD_get : ∀ {ds : List Dt} {k i : Nat} {d : Dt}, (enumD k ds)[i]? = some d → ∃ e, ds[i]? = some e ∧ d = .tup [.int ((k + i : Nat) : Int), e]
  | [], k, i, d, h => by simp [enumD] at h
  | e :: ds, k, 0, d, h => by
    simp [enumD] at h
    subst h
    exact ⟨e, rfl, by simp⟩
  | e :: ds, k, i + 1, d, h => by
    obtain ⟨e', h1, h2⟩ := enumD_get (k := k + 1) (i := i) (show (enumD (k + 1) ds)[i]? = some d by simpa [enumD] using h)
    refine ⟨e', by simpa using h1, ?_⟩
    rw [h2]
    congr 4
    omega
theorem enumD_len : ∀ (ds : List Dt) (k : Nat), (enumD k ds).length = ds.length
  | [], _ => rfl
  | _ :: ds, k => by simp [enumD, enumD_len ds]
theorem new_pair {K : PySem.W.Frag} {F2 : As} {H2 : Hp} {T : Addr} {vs : List V} {ds : List Dt} (t : ∀ x, F2 x → H2 x ≠ none) (hT : H2 T = none) (hv : DVs K F2 H2 vs ds) :
    ∃ F' : As, (∀ x, F2 x → F' x) ∧ (∀ x, F' x → F2 x ∨ (H2 x = none ∧ upd H2 T (.tup vs) x ≠ none)) ∧ (∀ x, H2 x ≠ none → upd H2 T (.tup vs) x = H2 x) ∧ DV K F' (upd H2 T (.tup vs)) (.ref T) (.tup ds) := by
  have ne : ∀ x, H2 x ≠ none → x ≠ T := fun x hx e => by subst e; exact hx hT
  refine ⟨fun x => F2 x ∨ x = T, fun x hx => .inl hx, fun x hx => ?_, fun x hx => upd_ne (ne x hx), ?_⟩
  · rcases hx with z | z
    · exact .inl z
    · subst z
      exact .inr ⟨hT, by rw [upd_same]; simp⟩
  · exact .tup ⟨.inr rfl, upd_same⟩ (hv.mono (fun x hx => .inl hx) fun x hx => upd_ne (ne x (t x hx)))
theorem jok_enL {a : Addr} {vs : List V} {ds : List Dt} {P : As} (st : ∀ H2 : Hp, (∀ x, H x ≠ none → ¬ P x → H2 x = H x) → SqL K H2 a vs) (hv : DVs K F H vs ds) (hF : ∀ x, F x → H x ≠ none ∧ ¬ P x) : JOk K (Ite K a) (enumD 0 ds) F H P := by
  refine ⟨fun i F2 H2 d f p t e => ?_, fun F2 H2 f p => ?_⟩
  · obtain ⟨d', e1, rfl⟩ := enumD_get e
    obtain ⟨v, e2, dv⟩ := hv.get e1
    refine ⟨⟨vs, v, st H2 p, e2⟩, fun x H' y => ?_⟩
    obtain ⟨T, y, rfl, hT, rfl, q⟩ := y
    have := q vs (st H2 p)
    rw [e2] at this
    cases this
    rw [Nat.zero_add]
    exact new_pair t hT (.cons (.int _) (.one (dv.mono f fun x hx => p x (hF x hx).1 (hF x hx).2)))
  · exact ⟨vs, st H2 p, by rw [enumD_len, hv.len]; exact Nat.le_refl _⟩
theorem jok_enT {a : Addr} {vs : List V} {ds : List Dt} {P : As} (ha : H a = some (.tup vs)) (hP : ¬ P a) (hv : DVs K F H vs ds) (hF : ∀ x, F x → H x ≠ none ∧ ¬ P x) : JOk K (ItT K a) (enumD 0 ds) F H P := by
  have st : ∀ H2 : Hp, (∀ x, H x ≠ none → ¬ P x → H2 x = H x) → H2 a = some (.tup vs) := fun H2 p => (p a (by rw [ha]; simp) hP).trans ha
  refine ⟨fun i F2 H2 d f p t e => ?_, fun F2 H2 f p => ?_⟩
  · obtain ⟨d', e1, rfl⟩ := enumD_get e
    obtain ⟨v, e2, dv⟩ := hv.get e1
    refine ⟨⟨vs, v, .of (st H2 p), e2⟩, fun x H' y => ?_⟩
    obtain ⟨T, y, rfl, hT, rfl, q⟩ := y
    have := q vs (.of (st H2 p))
    rw [e2] at this
    cases this
    rw [Nat.zero_add]
    exact new_pair t hT (.cons (.int _) (.one (dv.mono f fun x hx => p x (hF x hx).1 (hF x hx).2)))
  · exact ⟨vs, .of (st H2 p), by rw [enumD_len, hv.len]⟩
end
section
variable {K : PySem.W.Frag} {xv : Xv} {W : WX} {C : Cl} {σ : L2.St} {H : Hp}
/-- where a sequence stands, seen of a slot or of a value at hand -/
inductive SeqAt (K : PySem.W.Frag) (F : As) (H : Hp) (P : As → Prop) : V → List Dt → Prop
  | lst {a : Addr} {vs : List V} {ds : List Dt} : H a = some (.lst vs) → (∀ Q, P Q → ¬ Q a) → DVs K F H vs ds → SeqAt K F H P (.ref a) ds
  | tup {a : Addr} {vs : List V} {ds : List Dt} : H a = some (.tup vs) → (∀ Q, P Q → ¬ Q a) → DVs K F H vs ds → SeqAt K F H P (.ref a) ds
  | scr {a : Addr} {is : List Int} : StS K F H a (is.map V.int) → SeqAt K F H P (.ref a) (is.map Dt.int)
theorem seq_of {F : As} {v : V} {d : Dt} {ds : List Dt} {P : As → Prop} (hb : BV K F H v d) (hs : seqD d = some ds) (hF : ∀ Q, P Q → ∀ x, F x → ¬ Q x) (hl : ∀ a es, v = .ref a → d = .lst es → ∀ Q, P Q → ¬ Q a) : SeqAt K F H P v ds := by
  cases d with
  | lst es =>
    cases hs
    obtain ⟨a, vs, rfl, ha, hv⟩ := hb
    exact .lst ha (hl a ds rfl rfl) hv
  | tup es =>
    cases hs
    obtain ⟨a, vs, rfl, ha, hv⟩ := bv_tup hb
    exact .tup ha.2 (fun Q hQ => hF Q hQ a ha.1) hv
  | scr is =>
    cases hs
    obtain ⟨a, rfl, ha⟩ := bv_scr hb
    exact .scr ha
  | non => cases hs
  | bl b => cases hs
  | int b => cases hs
  | str b => cases hs
  | dic b => cases hs
theorem seq_slot {E : En0} {F : As} {S L : Nat → As} {env : En} {Ts : List Tp} {i : Nat} {o : Ow} {v : V} {d : Dt} {ds : List Dt} {is : List Nat} (s : Sx K E F H S L σ env Ts) (hi : i ∈ is) (hg : getE env i = some o) (hv : σ[i]? = some (some v)) (hd : o.vw = some d) (hs : seqD d = some ds) : SeqAt K F H (Pok S is) v ds := by
  obtain ⟨w, ew, ow⟩ := s.sl i o hg
  rw [hv] at ew
  cases ew
  have hF : ∀ Q, Pok S is Q → ∀ x, F x → ¬ Q x := fun Q hQ x hx z => let ⟨j, _, hj⟩ := hQ x z; (s.oS j x hj).nf hx
  refine seq_of (ow.bv hd) hs hF fun a es ev ed Q hQ z => ?_
  subst ed
  obtain ⟨j, hj, sj⟩ := hQ a z
  cases o with
  | rc fs => cases hd
  | lk c =>
    cases hd
    obtain ⟨_, _, q⟩ := ow
    rcases q with q | ⟨⟨b, eb, lb⟩, q⟩
    · rw [ev] at q
      cases q with
      | lst f _ _ => exact (s.oS j a sj).nf f
    · rw [ev] at eb
      cases eb
      exact (s.oS j a sj).nl i lb
  | p o1 =>
    cases o1 with
    | imm c =>
      cases hd
      have q := ow.2
      rw [ev] at q
      cases q with
      | lst f _ _ => exact (s.oS j a sj).nf f
    | lst c =>
      cases hd
      obtain ⟨b, vs, eb, sb, _⟩ := ow
      rw [ev] at eb
      cases eb
      have := s.dS j i a sj ((sb a).mpr rfl)
      rw [this] at hj
      exact hj hi
    | dic c => cases hd
theorem seq_temp {E : En0} {F : As} {S L : Nat → As} {env : En} {Ts : List Tp} {o : Ow} {v : V} {T : As} {d : Dt} {ds : List Dt} {is : List Nat} (s : Sx K E F H S L σ env (⟨v, o, T⟩ :: Ts)) (hd : o.vw = some d) (hs : seqD d = some ds) : SeqAt K F H (Pok S is) v ds := by
  have ow := s.tm _ List.mem_cons_self
  have hF : ∀ Q, Pok S is Q → ∀ x, F x → ¬ Q x := fun Q hQ x hx z => let ⟨j, _, hj⟩ := hQ x z; (s.oS j x hj).nf hx
  refine seq_of (ow.bv hd) hs hF fun a es ev ed Q hQ z => ?_
  subst ed
  obtain ⟨j, hj, sj⟩ := hQ a z
  have ev : v = .ref a := ev
  cases o with
  | rc fs => cases hd
  | lk c =>
    cases hd
    obtain ⟨_, _, q⟩ := ow
    rcases q with q | ⟨⟨b, eb, lb⟩, q⟩
    · rw [show v = _ from ev] at q
      cases q with
      | lst f _ _ => exact (s.oS j a sj).nf f
    · exact lb.elim
  | p o1 =>
    cases o1 with
    | imm c =>
      cases hd
      have q := ow.2
      rw [show v = _ from ev] at q
      cases q with
      | lst f _ _ => exact (s.oS j a sj).nf f
    | lst c =>
      cases hd
      obtain ⟨b, vs, eb, sb, _⟩ := ow
      rw [show v = _ from ev] at eb
      cases eb
      exact s.dST _ List.mem_cons_self j a ((sb a).mpr rfl) sj
    | dic c => cases hd
theorem evp_v {i : Nat} {env e1 : En} {t : Tm} (h : evp C (.v i) env = .ok t e1) : t = .inl i ∧ e1 = env ∧ ∃ o, getE env i = some o := by
  simp only [evp] at h
  split at h
  · rename_i o hg
    cases h
    exact ⟨rfl, rfl, o, hg⟩
  · cases h
theorem evp_e {x : Ex} {env e1 : En} {t : Tm} (h : evp C (.e x) env = .ok t e1) : ∃ o, t = .inr o := by
  simp only [evp] at h
  split at h
  · cases h; exact ⟨_, rfl⟩
  · cases h
  · cases h
theorem hF_of {E : En0} {F : As} {S L : Nat → As} {env : En} {Ts : List Tp} {is : List Nat} {P : As} (s : Sx K E F H S L σ env Ts) (hP : Pok S is P) : ∀ x, F x → H x ≠ none ∧ ¬ P x := fun x hx => ⟨(s.fr x hx).1, fun z => let ⟨j, _, hj⟩ := hP x z; (s.oS j x hj).nf hx⟩
theorem rdi_op {o : Op} {R : It → Hp → Prop} (h : RdI K xv W C (.op o) σ H R) : iSeq K (RdP K xv W (evp C o)) σ H R := by
  obtain ⟨E, F, S, L, env, Ts, s, w⟩ := h
  refine ⟨E, F, S, L, env, Ts, s, ?_⟩
  simp only [evi] at w
  have fin : ∀ {F' : As} {H' : Hp} {S' : Nat → As} {e1 : En} {Us : List Tp} {v : V} {ds : List Dt}, Sx K E F' H' S' L σ e1 (Us ++ Ts) → SlOk e1 (slotI (.op o)) → SeqAt K F' H' (Pok S' (slotI (.op o))) v ds →
      (∀ J F' H' S' Us, Sx K E F' H' S' L σ e1 (Us ++ Ts) → SlOk e1 (slotI (.op o)) → (∀ P, Pok S' (slotI (.op o)) P → JOk K J ds F' H' P) → R J H') → ∃ a, v = .ref a ∧ (((∃ xs, SqL K H' a xs) ∧ R (Itl K a) H') ∨ ((∃ xs, SqT K H' a xs) ∧ R (Itt K a) H')) := fun {F' H' S' e1 Us v ds} s' ok q w => by
    cases q with
    | @lst a vs _ ha hP hv => exact ⟨a, rfl, .inl ⟨⟨vs, .of ha⟩, w _ F' H' S' Us s' ok fun P hp => jok_list ha (hP P hp) hv (hF_of s' hp)⟩⟩
    | @tup a vs _ ha hP hv => exact ⟨a, rfl, .inr ⟨⟨vs, .of ha⟩, w _ F' H' S' Us s' ok fun P hp => jok_tup ha (hP P hp) hv (hF_of s' hp)⟩⟩
    | @scr a is ha => exact ⟨a, rfl, .inl ⟨⟨_, ha.sq⟩, w _ F' H' S' Us s' ok fun P hp => jok_scr ha (hF_of s' hp)⟩⟩
  split at w
  · rename_i t e1 hx
    rw [hx]
    split at w
    · rename_i d hd
      split at w
      · rename_i ds hs
        intro v F' H' S' Us ok s'
        cases o with
        | v i =>
          obtain ⟨rfl, rfl, o, hg⟩ := evp_v hx
          obtain ⟨hv, rfl⟩ := ok
          simp only [Tm.vw, hg] at hd
          refine fin (Us := []) s' (fun j hj => ?_) (seq_slot s' (by simp [slotI]) hg hv hd hs) w
          have : j = i := by simpa [slotI] using hj
          subst this
          exact ⟨o, d, hg, hd⟩
        | e x =>
          obtain ⟨o, rfl⟩ := evp_e hx
          obtain ⟨T, rfl⟩ := ok
          exact fin (Us := [⟨v, o, T⟩]) s' (fun j hj => (nomatch hj)) (seq_temp s' hd hs) w
      · exact w.elim
    · exact w.elim
  · rename_i d e1 hx
    rw [hx]
    exact w
  · exact w.elim
def tOp1 (tp : TE) : TA := fun σ H Q => tp σ H fun x H1 => Q [x] H1
theorem rdi_enum {o : Op} {R : It → Hp → Prop} (h : RdI K xv W C (.enum o) σ H R) : iEn K (tOp1 (RdP K xv W (evp C o))) σ H R := by
  obtain ⟨E, F, S, L, env, Ts, s, w⟩ := h
  refine ⟨E, F, S, L, env, Ts, s, ?_⟩
  simp only [evi] at w
  have fin : ∀ {F' : As} {H' : Hp} {S' : Nat → As} {e1 : En} {Us : List Tp} {v : V} {ds : List Dt}, Sx K E F' H' S' L σ e1 (Us ++ Ts) → SlOk e1 (slotI (.enum o)) → SeqAt K F' H' (Pok S' (slotI (.enum o))) v ds →
      (∀ J F' H' S' Us, Sx K E F' H' S' L σ e1 (Us ++ Ts) → SlOk e1 (slotI (.enum o)) → (∀ P, Pok S' (slotI (.enum o)) P → JOk K J (enumD 0 ds) F' H' P) → R J H') → ∃ a, [v] = [.ref a] ∧ ((∃ xs, SqL K H' a xs ∧ R (Ite K a) H') ∨ (∃ xs, SqT K H' a xs ∧ R (ItT K a) H')) := fun {F' H' S' e1 Us v ds} s' ok q w => by
    cases q with
    | @lst a vs _ ha hP hv => exact ⟨a, rfl, .inl ⟨vs, .of ha, w _ F' H' S' Us s' ok fun P hp => jok_enL (fun H2 p => .of ((p a (by rw [ha]; simp) (hP P hp)).trans ha)) hv (hF_of s' hp)⟩⟩
    | @tup a vs _ ha hP hv => exact ⟨a, rfl, .inr ⟨vs, .of ha, w _ F' H' S' Us s' ok fun P hp => jok_enT ha (hP P hp) hv (hF_of s' hp)⟩⟩
    | @scr a is ha => 
      refine ⟨a, rfl, .inl ⟨_, ha.sq, w _ F' H' S' Us s' ok fun P hp => jok_enL (fun H2 p => ?_) (dvs_ints is) (hF_of s' hp)⟩⟩
      rcases ha with ⟨f, r⟩ | k
      · exact .inl (rd_same r (p a ((hF_of s' hp) a f).1 ((hF_of s' hp) a f).2))
      · exact .inr k
  split at w
  · rename_i t e1 hx
    rw [hx]
    split at w
    · rename_i d hd
      split at w
      · rename_i ds hs
        intro v F' H' S' Us ok s'
        cases o with
        | v i =>
          obtain ⟨rfl, rfl, o, hg⟩ := evp_v hx
          obtain ⟨hv, rfl⟩ := ok
          simp only [Tm.vw, hg] at hd
          refine fin (Us := []) s' (fun j hj => ?_) (seq_slot s' (by simp [slotI]) hg hv hd hs) w
          have : j = i := by simpa [slotI] using hj
          subst this
          exact ⟨o, d, hg, hd⟩
        | e x =>
          obtain ⟨o, rfl⟩ := evp_e hx
          obtain ⟨T, rfl⟩ := ok
          exact fin (Us := [⟨v, o, T⟩]) s' (fun j hj => (nomatch hj)) (seq_temp s' hd hs) w
      · exact w.elim
    · exact w.elim
  · rename_i d e1 hx
    rw [hx]
    exact w
  · exact w.elim
theorem rdi_rng1 {x : Ex} {R : It → Hp → Prop} (h : RdI K xv W C (.rng1 x) σ H R) : iRng1 (tCons (RdE K xv W (ev C x)) tNil) σ H R := by
  obtain ⟨E, F, S, L, env, Ts, s, w⟩ := h
  refine ⟨E, F, S, L, env, Ts, s, ?_⟩
  simp only [evi] at w
  split at w
  · rename_i n e1 hx
    rw [hx]
    split at w
    · rename_i hn
      intro v F' H' S' T s'
      have q := (s'.tm _ List.mem_cons_self).2
      cases q
      exact ⟨n, rfl, hn.1, hn.2, w _ F' H' S' [] s'.pop (fun _ hj => (nomatch hj)) fun P _ => jok_rng⟩
    · exact w.elim
  · exact w.elim
  · rename_i d e1 hx
    rw [hx]
    exact w
  · exact w.elim
theorem rdi_rng2 {x y : Ex} {R : It → Hp → Prop} (h : RdI K xv W C (.rng2 x y) σ H R) : iRng2 (tCons (RdE K xv W (ev C x)) (tCons (RdE K xv W (ev C y)) tNil)) σ H R := by
  obtain ⟨E, F, S, L, env, Ts, s, w⟩ := h
  refine ⟨E, F, S, L, env, Ts, s, ?_⟩
  simp only [evi] at w
  split at w
  · rename_i m e1 hx
    rw [hx]
    intro v F' H' S' T s'
    have q := (s'.tm _ List.mem_cons_self).2
    cases q
    refine ⟨E, F', S', L, e1, Ts, s'.pop, ?_⟩
    split at w
    · rename_i n e2 hy
      rw [hy]
      split at w
      · rename_i hn
        intro v F' H' S' T s'
        have q := (s'.tm _ List.mem_cons_self).2
        cases q
        exact ⟨m, n, rfl, hn, w _ F' H' S' [] s'.pop (fun _ hj => (nomatch hj)) fun P _ => jok_rng⟩
      · exact w.elim
    · exact w.elim
    · rename_i d e2 hy
      rw [hy]
      exact w
    · exact w.elim
  · exact w.elim
  · rename_i d e1 hx
    rw [hx]
    exact w
  · exact w.elim
end
end Pd
set_option Elab.async false
set_option linter.all false
set_option maxRecDepth 100000
set_option maxHeartbeats 4000000
/-! Part 11: list comprehensions. -/
namespace Pd
open PySem PySem.Spec PyProof.Rows L2
section
variable {K : PySem.W.Frag} {E : En0} {F F' : As} {H H' : Hp} {S S' : Nat → As} {L L' : Nat → As} {σ : L2.St} {env : En} {Ts : List Tp} {t : Tp} {i : Nat} {v : V} {o : Ow} {T : As}
/-- a target -/
def gNames : List Nat → TGs
  | [] => gNil
  | i :: is => gCons (gName i) (gNames is)
def gOf (K : PySem.W.Frag) : Tg → TG
  | .nm i => gName i
  | .tp is => gTup K is.length (gNames is)
def tgSl : Tg → List Nat
  | .nm i => [i]
  | .tp is => is
theorem wipe_set {σ : L2.St} {j : Nat} {x : Option V} : ∀ {vs : List Nat}, j ∈ vs → wipe (σ.set j x) vs = wipe σ vs := fun {vs} h => by
  have len : ∀ (σ : L2.St) (vs : List Nat), (wipe σ vs).length = σ.length := wipe_length
  apply List.ext_getElem?
  intro k
  have A : ∀ (vs : List Nat) (σ : L2.St), (wipe σ vs)[k]? = if k ∈ vs then (if k < σ.length then some none else none) else σ[k]? := by
    intro vs σ
    induction vs with
    | nil => simp [wipe]
    | cons v vs ih =>
      unfold wipe
      by_cases e : k = v
      · subst e
        rw [if_pos List.mem_cons_self]
        by_cases hk : k < (wipe σ vs).length
        · rw [List.getElem?_set_self hk, if_pos (by rw [← len σ vs]; exact hk)]
        · rw [List.getElem?_eq_none (by rw [List.length_set]; omega), if_neg (by rw [← len σ vs]; exact hk)]
      · rw [List.getElem?_set_ne (Ne.symm e), ih]
        simp [e]
  rw [A, A]
  by_cases e : k ∈ vs
  · rw [if_pos e, if_pos e, List.length_set]
  · rw [if_neg e, if_neg e, List.getElem?_set_ne (fun z => e (by rw [← z]; exact h))]
theorem go_ok {own : List Nat} {σ0 : L2.St} {ds : List Dt} : ∀ {is : List Nat} {vs : List V} {σ : L2.St} {env : En} {S : Nat → As}, Sx K E F H S L σ env Ts → DVs K F H vs ds → is.length = ds.length → (∀ p ∈ E.fix, p.1 ∉ is) → (∀ i ∈ is, i ∈ own) → wipe σ own = σ0 →
    gNames is vs σ H fun σ' H' => H' = H ∧ wipe σ' own = σ0 ∧ σ'.length = σ.length ∧ ∃ S', Sx K E F H S' L σ' (tgSet.go is ds env) Ts := by
  induction ds with
  | nil =>
    intro is vs σ env S s hv hl hx ho hw
    cases is with
    | nil =>
      cases hv
      exact ⟨rfl, rfl, hw, rfl, S, s⟩
    | cons i is => simp at hl
  | cons d ds ih =>
    intro is vs σ env S s hv hl hx ho hw
    cases is with
    | nil => simp at hl
    | cons i is =>
      cases hv with
      | @cons v vs _ _ h1 h2 =>
        obtain ⟨S1, s1⟩ := (s.pushI h1).store' (i := i) fun p hp e => hx p hp (by rw [e]; exact List.mem_cons_self)
        refine ⟨v, vs, rfl, ?_⟩
        have q := ih (is := is) s1 h2 (by simpa using hl) (fun p hp z => hx p hp (List.mem_cons_of_mem _ z)) (fun j hj => ho j (List.mem_cons_of_mem _ hj)) (by rw [wipe_set (ho i List.mem_cons_self)]; exact hw)
        have len : (σ.set i (some v)).length = σ.length := List.length_set
        rw [len] at q
        exact q
/-- the target is set -/
theorem tg_ok {own : List Nat} {tg : Tg} {d : Dt} {e' : En} (s : Sx K E F H S L σ env Ts) (hv : DV K F H v d) (ht : tgSet tg d env = some e') (hx : ∀ p ∈ E.fix, p.1 ∉ tgSl tg) (ho : ∀ i ∈ tgSl tg, i ∈ own) :
    gOf K tg v σ H fun σ' H' => H' = H ∧ wipe σ' own = wipe σ own ∧ σ'.length = σ.length ∧ ∃ S', Sx K E F H S' L σ' e' Ts := by
  cases tg with
  | nm i =>
    simp only [tgSet] at ht
    cases ht
    obtain ⟨S1, s1⟩ := (s.pushI hv).store' (i := i) fun p hp e => hx p hp (by rw [e]; exact List.mem_cons_self)
    exact ⟨rfl, wipe_set (ho i List.mem_cons_self), List.length_set, S1, s1⟩
  | tp is =>
    cases d with
    | tup ds =>
      simp only [tgSet] at ht
      split at ht
      · rename_i hl
        cases ht
        cases hv with
        | @tup a vs _ st hvs => exact ⟨a, vs, rfl, st.sq, by rw [hvs.len, hl], go_ok s hvs hl hx ho rfl⟩
      · cases ht
    | _ => simp [tgSet] at ht
/-- the list at hand has grown -/
theorem Sx.grow {D : Addr} {acc : List Dt} {Tv : As} {o1 : Ow1} {TD : As} (h : Sx K E F H S L σ env (⟨v, .p o1, Tv⟩ :: ⟨.ref D, .p (.lst acc), TD⟩ :: Ts)) :
    ∃ vs F', H D = some (.lst vs) ∧ vs.length = acc.length ∧ Sx K E F' (upd H D (.lst (vs ++ [v]))) S L σ env (⟨.ref D, .p (.lst (acc ++ [o1.dt])), TD⟩ :: Ts) := by
  obtain ⟨s1, dv⟩ := h.frzT
  obtain ⟨a, vs, ea, sa, ha, hvs⟩ := s1.tm _ List.mem_cons_self
  cases ea
  have sa : ∀ x, TD x ↔ x = D := sa
  have nF : ∀ x, (F x ∨ Tv x) → x ≠ D := fun x hx e => (s1.oT _ List.mem_cons_self x ((sa x).mpr e)).nf hx
  refine ⟨vs, _, ha, hvs.len, Sx.fuse (Us := [⟨.ref D, .p (.lst acc), TD⟩]) s1 (fun x hn => upd_ne fun e => hn ⟨_, List.mem_cons_self, (sa x).mpr e⟩) (fun x ⟨u, hu, hx⟩ => ?_) (fun x hx => ⟨_, List.mem_cons_self, hx⟩) ?_⟩
  · obtain rfl : u = _ := by simpa using hu
    rw [(sa x).mp hx, upd_same]; simp
  · exact ⟨D, vs ++ [v], rfl, sa, upd_same, (hvs.app (.one dv)).mono (fun _ z => z) fun x hx => upd_ne (nF x hx)⟩
end
def noWX : WX := fun _ _ _ _ => False
section
variable (K : PySem.W.Frag) (xv : Xv) (C : Cl)
def ttOf : Tes → TT
  | .nil => tYes
  | .one t => RdB K xv noWX (evt C t)
end
section
variable {K : PySem.W.Frag} {xv : Xv} {W : WX} {C : Cl} {σ : L2.St} {H : Hp}
theorem rd_tests {ifs : Tes} {Q : Bool → Hp → Prop} (h : RdB K xv noWX (evf C ifs) σ H Q) : ttOf K xv C ifs σ H Q := by
  cases ifs with
  | nil =>
    obtain ⟨E, F, S, L, env, Ts, s, w⟩ := h
    simp only [evf] at w
    exact w F H S s
  | one t =>
    obtain ⟨E, F, S, L, env, Ts, s, w⟩ := h
    simp only [evf] at w
    exact ⟨E, F, S, L, env, Ts, s, w⟩
theorem rd_lc {el : Ex} {tg : Tg} {it : Ir} {ifs : Tes} {own : List Nat} {Q : VK} (ho : ∀ i ∈ tgSl tg, i ∈ own) (h : RdE K xv W (ev C (.lc el tg it ifs own)) σ H Q) :
    tLc (RdI K xv W C it) (gOf K tg) (ttOf K xv C ifs) (RdE K xv noWX (ev C el)) own σ H Q := by
  obtain ⟨E, F, S, L, env, Ts, s, w⟩ := h
  refine ⟨E, F, S, L, env, Ts, s, ?_⟩
  simp only [ev] at w
  generalize hst : (fun d e => match tgSet tg d (wipeE e own) with
          | some e3 => match evf C ifs e3 with
            | .ok true e4 => match ev C el e4 with
              | .ok o e5 => match o.dt? with | some y => Rs.ok (some y) e5 | none => .no
              | .exc x e5 => .exc x e5
              | .no => .no
            | .ok false e4 => .ok none e4
            | .exc x e4 => .exc x e4
            | .no => .no
          | none => .no) = st at w
  split at w
  · rename_i ds e1 hx
    rw [hx]
    intro J F' H' S' Us s' sl hJ D hD
    split at w
    · rename_i e2 hlk
      obtain ⟨S1, L1, lk⟩ := lks_ir s' sl hlk
      -- the block's beginning
      have hJ := hJ (fun x => ∃ i, wipeS S1 own i x) fun x ⟨j, z⟩ => ⟨j, fun hj => lk.emp j hj x z.2, lk.sub j x z.2⟩
      have b0 := lk.s1.wiped (vs := own)
      let EB := snapE H' F' (wipeS S1 own) []
      let H0 := upd H' D (.lst [])
      have ne : ∀ x, H' x ≠ none → x ≠ D := fun x hx e => by subst e; exact hx hD
      have b1 : Sx K EB F' H0 (wipeS S1 own) L1 (wipe σ own) (wipeE e2 own) [⟨.ref D, .p (.lst []), fun x => x = D⟩] :=
        b0.fresh (fun _ z => z) (fun _ z => .inl z) (fun x hx => upd_ne (ne x hx)) (fun x hx => by
          subst hx
          exact ⟨hD, by show upd H' x (.lst []) x ≠ none; rw [upd_same]; simp, fun z => (s'.fr _ z).1 hD⟩) ⟨D, [], rfl, fun _ => Iff.rfl, upd_same, .nil⟩
      let WW : Nat → Nat → Hp → Prop := fun i m H => m = ds.length - i ∧ i ≤ ds.length ∧ ∃ F2 S2 env2 acc, Sx K EB F2 H S2 L1 (wipe σ own) (wipeE env2 own) [⟨.ref D, .p (.lst acc), fun x => x = D⟩] ∧ env2.length = σ.length ∧
        match lcGo st (ds.drop i) acc env2 with
        | .ok ys e6 => ∀ v F' H' S' T, Sx K E F' H' S' L σ (backE e1 (backE e2 e6 own) (slotI it)) (⟨v, .p (.lst ys), T⟩ :: Ts) → Q v H'
        | _ => False
      have le2 : e2.length = σ.length := lk.s1.len
      refine ⟨WW, ⟨ds.length, by simp, Nat.zero_le _, F', _, e2, [], b1, le2, ?_⟩, ?_⟩
      · rw [List.drop_zero]
        split at w
        · rename_i ys e6 hl
          try rw [hl]
          exact w
        · exact w.elim
      · rintro i m H2 ⟨rfl, hi, F2, S2, env2, acc, b2, l2, w2⟩
        have hFF : ∀ x, F' x → F2 x := b2.ff
        have hHH : ∀ x, H' x ≠ none → (¬ ∃ j, wipeS S1 own j x) → H2 x = H' x := b2.ag
        by_cases hlt : i < ds.length
        · refine .inr ?_
          obtain ⟨d, hd⟩ : ∃ d, ds[i]? = some d := ⟨ds[i], by simp [hlt]⟩
          obtain ⟨g, y⟩ := hJ.go i F2 H2 d hFF hHH (fun x hx => (b2.fr x hx).1) hd
          refine ⟨g, fun H' => WW (i + 1) (ds.length - (i + 1)) H', fun H' z => ⟨_, by omega, z⟩, fun x H3 hy => ?_⟩
          obtain ⟨F3, c1, c2, c3, dv⟩ := y x H3 hy
          have b3 := b2.change c1 c2 c3
          have hdr : ds.drop i = d :: ds.drop (i + 1) := by
            rw [List.drop_eq_getElem_cons hlt]
            congr 1
            have := List.getElem?_eq_getElem hlt
            rw [this] at hd
            exact Option.some.inj hd
          rw [hdr] at w2
          unfold lcGo at w2
          have hsd := congrFun (congrFun hst d) env2
          rw [← hsd] at w2
          try dsimp only at w2
          cases ht : tgSet tg d (wipeE env2 own) with
          | none => rw [ht] at w2; exact w2.elim
          | some e3 =>
            rw [ht] at w2
            dsimp only at w2
            have tk := tg_ok (own := own) b3 dv ht (fun _ hp => (nomatch hp)) ho
            have mono : ∀ {Q Q' : L2.St → Hp → Prop}, (∀ σ' H', Q σ' H' → Q' σ' H') → gOf K tg x (wipe σ own) H3 Q → gOf K tg x (wipe σ own) H3 Q' := fun {Q Q'} hq h => by
              have names : ∀ (is : List Nat) (vs : List V) (σ : L2.St) (H : Hp), gNames is vs σ H Q → gNames is vs σ H Q' := by
                intro is
                induction is with
                | nil => intro vs σ H h; exact ⟨h.1, hq _ _ h.2⟩
                | cons i is ih =>
                  intro vs σ H h
                  obtain ⟨v, r, e, h⟩ := h
                  exact ⟨v, r, e, ih _ _ _ h⟩
              cases tg with
              | nm i => exact hq _ _ h
              | tp is =>
                obtain ⟨a, xs, e, q, l, h⟩ := h
                exact ⟨a, xs, e, q, l, names _ _ _ _ h⟩
            refine mono (fun σ' H4 hz => ?_) tk
            obtain ⟨rfl, hw, hlen, S4, s4⟩ := hz
            have ww : wipe (wipe σ own) own = wipe σ own := by
              apply List.ext_getElem?
              intro k
              by_cases hk : k ∈ own
              · cases q : (wipe (wipe σ own) own)[k]? with
                | none =>
                  have l1 := List.getElem?_eq_none_iff.mp q
                  rw [wipe_length, wipe_length] at l1
                  rw [List.getElem?_eq_none (by rw [wipe_length]; exact l1)]
                | some z =>
                  have l1 := (List.getElem?_eq_some_iff.mp q).1
                  rw [wipe_length, wipe_length] at l1
                  cases z with
                  | some z => exact absurd hk (wipe_some q).2
                  | none =>
                    cases q2 : (wipe σ own)[k]? with
                    | none => rw [List.getElem?_eq_none_iff, wipe_length] at q2; omega
                    | some z2 =>
                      cases z2 with
                      | none => rfl
                      | some z2 => exact absurd hk (wipe_some q2).2
              · rw [wipe_out hk]
            rw [ww] at hw
            refine ⟨hw, rd_tests ⟨EB, F3, S4, L1, e3, _, s4, ?_⟩⟩
            cases hf : evf C ifs e3 with
            | no => rw [hf] at w2; exact w2.elim
            | exc xx ee => rw [hf] at w2; exact w2.elim
            | ok b e4 =>
              rw [hf] at w2
              intro F5 H5 S5 s5
              cases b with
              | false =>
                rw [if_neg Bool.false_ne_true]
                dsimp only at w2
                have fg := s5.forget (vs := own) (fun _ hp => (nomatch hp))
                rw [hw] at fg
                exact ⟨rfl, by omega, F5, _, e4, acc, fg, by rw [s5.len, hlen, wipe_length], w2⟩
              | true =>
                rw [if_pos rfl]
                dsimp only at w2
                refine ⟨EB, F5, S5, L1, e4, _, s5, ?_⟩
                cases he : ev C el e4 with
                | no => rw [he] at w2; exact w2.elim
                | exc xx ee => rw [he] at w2; exact w2.elim
                | ok o e5 =>
                  rw [he] at w2
                  dsimp only at w2
                  intro v F6 H6 S6 T s6
                  cases hdt : o.dt? with
                  | none => rw [hdt] at w2; exact w2.elim
                  | some yv =>
                    rw [hdt] at w2
                    dsimp only at w2
                    obtain ⟨o1, rfl, rfl⟩ := dt?_p hdt
                    obtain ⟨vs, F7, hDv, hlv, s7⟩ := s6.grow
                    by_cases hz : acc.length < sizeLine
                    · rw [if_pos hz] at w2
                      have fg := s7.forget (vs := own) (fun _ hp => (nomatch hp))
                      rw [hw] at fg
                      exact ⟨vs, hDv, by rw [hlv]; exact hz, rfl, by omega, F7, _, e5, _, fg, by rw [s7.len, hlen, wipe_length], w2⟩
                    · rw [if_neg hz] at w2
                      exact w2.elim
        · have ei : i = ds.length := by omega
          subst ei
          refine .inl ⟨hJ.stop F2 H2 hFF hHH, ?_⟩
          rw [List.drop_length] at w2
          simp only [lcGo] at w2
          have u := lk.s1.unwiped (vs := own) b2
          have le : env2.length = e2.length := by rw [l2, le2]
          rw [backE_wipe e2 env2 own le] at u
          have hag : ∀ x, H' x ≠ none → (∀ j, ¬ S1 j x) → H2 x = H' x := fun x hx hn => hHH x hx fun ⟨j, z⟩ => hn j z.2
          obtain ⟨S3, s3⟩ := lk.back u (fun _ _ => rfl) hag hFF
          exact w2 _ F2 H2 S3 (fun x => x = D) (s3.sub ((List.sublist_append_right Us Ts).cons_cons _))
    · exact w.elim
  · rename_i d e1 hx
    rw [hx]
    exact w
  · exact w.elim
end
end Pd
set_option Elab.async false
set_option linter.all false
set_option maxRecDepth 100000
set_option maxHeartbeats 4000000
/-! Part 12: rules for statements, by values. -/
namespace Pd
open PySem PySem.Spec PyProof.Rows L2
section
variable {X : Cx} {pos : Pos}
/-- o[i] = v of a list or a dict; an empty dict takes keys of either kind -/
def rSetO : TSet := fun o i v H Q => ∃ a, o = .ref a ∧
  ((∃ xs k j, i = .int k ∧ H a = some (.lst xs) ∧ ixN xs.length k = some j ∧ Q (upd H a (.lst (xs.set j v)))) ∨
   (∃ kvs k, (H a = some (.dK kvs) ∨ (H a = some (.dT []) ∧ kvs = [])) ∧ i = kV k ∧ kvs.length < sizeLine ∧ Q (upd H a (.dK (putK kvs k v)))) ∨
   (∃ kvs k b, (H a = some (.dT kvs) ∨ (H a = some (.dK []) ∧ kvs = [])) ∧ i = .ref b ∧ b ≠ a ∧ H b = some (.tup (k.map kV)) ∧ kvs.length < sizeLine ∧ Q (upd H a (.dT (putK kvs k v)))))
theorem set_any (hu : X.A.units + 1 < cLine) : PSet X rSetO := by
  intro pins s σ H o i v ov iv u Q I ro ri rv h
  obtain ⟨a, eo, h⟩ := h
  subst eo
  cases (show ov = Value.ref a from ro)
  rcases h with ⟨xs, k, j, ei, ha, hj, q⟩ | ⟨kvs, k, ha, ei, hl, q⟩ | ⟨kvs, k, b, ha, ei, hne, hb, hl, q⟩
  · exact set_list pins s σ H (.ref a) i v _ iv u Q I rfl ri rv ⟨a, xs, k, j, rfl, ei, ha, hj, q⟩
  · subst ei
    rcases ha with ha | ⟨ha, rfl⟩
    · exact d_setItem hu I (DPut.k ha hl) ri rv fun s' I' => ⟨_, I', q⟩
    · refine d_setItem hu (emp_dK I ha) (DPut.k upd_same hl) ri rv fun s' I' => ⟨_, I', ?_⟩
      rw [upd_upd]
      exact q
  · subst ei
    rcases ha with ha | ⟨ha, rfl⟩
    · exact d_setItem hu I (DPut.t ha hb hl) ri rv fun s' I' => ⟨_, I', q⟩
    · refine d_setItem hu (emp_dT I ha) (DPut.t upd_same (by rw [upd_ne hne]; exact hb) hl) ri rv fun s' I' => ⟨_, I', ?_⟩
      rw [upd_upd]
      exact q

/-! ### a, b, .. = x, y, .. -/
inductive NmL (X : Cx) : List PySem.Expr → List Nat → Prop
  | nil : NmL X [] []
  | cons {x : Str} {p : Pos} {ts : List PySem.Expr} {i : Nat} {is : List Nat} : X.N[i]? = some x → Loc X.env.scope x → (X.fn x = true ∨ X.env.scope.names.lookup x = some .local) → NmL X ts is → NmL X (.Name x p :: ts) (i :: is)
def setN : L2.St → List Nat → List V → L2.St
  | σ, i :: is, v :: vs => setN (σ.set i (some v)) is vs
  | σ, _, _ => σ
theorem NmL.len {ts : List PySem.Expr} {is : List Nat} (h : NmL X ts is) : (assignEach ts X.env).length = is.length ∧ (assignEach ts X.env).findIdx? (·.1) = none := by
  induction h with
  | nil => exact ⟨rfl, rfl⟩
  | cons _ _ _ _ ih =>
    unfold assignEach
    refine ⟨by simp [ih.1], ?_⟩
    rw [List.findIdx?_cons]
    simp [ih.2]
theorem store_all {ts : List PySem.Expr} {is : List Nat} (hN : X.N.Nodup) (h : NmL X ts is) : ∀ {pins : List (Addr × Obj)} {s : Shared} {σ : L2.St} {H : Hp} {vs : List V} {us : List Value} {Q : Unit → Shared → Prop}, L2.Inv X pins σ H s → Vals vs us → vs.length = is.length →
    (∀ s', L2.Inv X pins (setN σ is vs) H s' → Q () s') → wpAny (model X.prog X.w) X.A (assignInOrder ((assignEach ts X.env).map (·.2)) us) Q X.xe s := by
  induction h with
  | nil =>
    intro pins s σ H vs us Q I r hl q
    cases vs with
    | nil =>
      cases r
      exact assignInOrder_nil (q s I)
    | cons v vs => simp at hl
  | @cons x p ts i is hi hx hf _ ih =>
    intro pins s σ H vs us Q I r hl q
    cases vs with
    | nil => simp at hl
    | cons v vs =>
      cases r with
      | cons r rr =>
        unfold assignEach
        rw [List.map_cons]
        exact assignInOrder_cons (wpAny_assign_Name (store_ok I hN hi hx r (fun s2 I2 => ih I2 rr (by simpa using hl) q) hf))
def tParN (is : List Nat) (ta : TA) : TS := fun D σ H => ta σ H fun vs H1 => vs.length = is.length ∧ D.nx (setN σ is vs) H1
def foldOk (es : List PySem.Expr) : Bool := es.all (foldedForSure 8) || !(es.all (constantsAlone 8))
inductive BdL (X : Cx) : List Str → List Nat → Prop
  | nil : BdL X [] []
  | cons {x : Str} {ns : List Str} {i : Nat} {is : List Nat} : X.N[i]? = some x → X.env.scope.names.lookup x = some .local → BdL X ns is → BdL X (x :: ns) (i :: is)
theorem BdL.len {ns : List Str} {is : List Nat} (h : BdL X ns is) : ns.length = is.length := by
  induction h with
  | nil => rfl
  | cons _ _ _ ih => simp [ih]
theorem NmL.names {ts : List PySem.Expr} {is : List Nat} (h : NmL X ts is) (line : Nat) : ∀ ns : List Str, ns = ts.filterMap (fun | .Name id pos => if X.env.kindOf id == some .local && pos.line == line then some id else none | _ => none) → ns.length = ts.length → BdL X ns is := by
  induction h with
  | nil =>
    intro ns e hl
    subst e
    exact .nil
  | @cons x p ts i is hi hx hf _ ih =>
    intro ns e hl
    have le : ∀ l : List PySem.Expr, (l.filterMap (fun | .Name id pos => if X.env.kindOf id == some .local && pos.line == line then some id else none | _ => none)).length ≤ l.length := fun l => List.length_filterMap_le _ _
    rw [List.filterMap_cons] at e
    by_cases c : (X.env.kindOf x == some .local && p.line == line) = true
    · simp only [c, if_true] at e
      subst e
      refine .cons hi ?_ (ih _ rfl (by simpa using hl))
      have := (Bool.and_eq_true _ _ ▸ c).1
      have : X.env.kindOf x = some .local := by simpa using this
      exact this
    · simp only [c] at e
      have e' : ns = ts.filterMap (fun | .Name id pos => if X.env.kindOf id == some .local && pos.line == line then some id else none | _ => none) := by simpa using e
      have := le ts
      rw [← e'] at this
      simp at hl
      omega
theorem swap_cases {ts es : List PySem.Expr} {kt : Nat} {pt pt2 : Pos} {k2 : Nat} {is : List Nat} (h : NmL X ts is) (hf : foldOk es = true) (hb : X.env.blockKind = .function) :
    swappedStores [.Tuple ts kt pt] (.Tuple es k2 pt2) X.env = pure none ∨ ∃ ns, swappedStores [.Tuple ts kt pt] (.Tuple es k2 pt2) X.env = pure (some ns) ∧ (ns.length = 2 ∨ ns.length = 3) ∧ BdL X ns is := by
  unfold swappedStores
  dsimp only
  split
  · exact .inl rfl
  · rename_i c1
    split
    · exact .inl rfl
    · split
      · exact .inl rfl
      · rename_i c3
        split
        · exact .inl rfl
        · split
          · rename_i c4 c5
            exfalso
            unfold foldOk at hf
            simp [c4, c5] at hf
          · rename_i c4 c5
            simp only [Bool.or_eq_true, not_or, bne_iff_ne, ne_eq, Decidable.not_not] at c3
            refine .inr ⟨_, rfl, ?_, h.names _ _ rfl c3.1⟩
            have e := c3.1

            have c1' : (ts.length == 2 || ts.length == 3) = true := by
              cases z : (ts.length == 2 || ts.length == 3) with
              | true => rfl
              | false => exact absurd (by rw [z]; rfl) c1
            rw [e]
            simpa using c1'
theorem set_swap2 {σ : L2.St} {i j : Nat} {v w : V} (h : i ≠ j) : setN σ [i, j] [v, w] = setN σ [j, i] [w, v] := by
  show (σ.set i _).set j _ = (σ.set j _).set i _
  rw [List.set_comm _ _ h]
/-- a, b, .. = x, y, .. : plain names -/
theorem ps_parN {ts es : List PySem.Expr} {kt k2 : Nat} {pt pt2 : Pos} {is : List Nat} {ta : TA} (hc : X.calm = true) (hN : X.N.Nodup) (ht : NmL X ts is) (hd : is.Nodup) (ha : PA X es ta) (hf : foldOk es = true) (hb : X.env.blockKind = .function) (hz : is.length ≤ 1000) :
    PS X (.Assign [.Tuple ts kt pt] (.Tuple es k2 pt2) pos) (tParN is ta) := by
  refine ⟨fun pins s σ H D I h => ?_⟩
  rw [exec_Assign_arm]
  refine wpAny_bind (wpAny_standAt ?_)
  have hs : swapsWithSole [.Tuple ts kt pt] (.Tuple es k2 pt2) pos.line X.env = pure false := rfl
  rw [hs]
  refine wpAny_bind (wpAny_pure ?_)
  rw [if_neg (by decide)]
  refine wpAny_bind (Tuple_ (thn (ha.run _ pins s σ H _ I h) fun us s1 ⟨vs, H1, I1, r1, q1⟩ => ?_))
  obtain ⟨hl, q1⟩ := q1
  have hlu : us.length = is.length := by rw [← r1.length]; exact hl
  refine wpAny_newObj_type ?_ (by show us.toArray.size ≤ sizeLine; rw [List.size_toArray, hlu]; exact Nat.le_trans hz (by decide))
  have I2 : L2.Inv X pins σ H1 { s1 with heap := s1.heap.push { cls := .type "tuple", data := .seq us.toArray } } := I1.kept (t' := s1.toks) fun b o e => Heap.get?_push_of_some _ e
  rcases swap_cases (kt := kt) (pt := pt) (pt2 := pt2) (k2 := k2) ht hf hb with hw | ⟨ns, hw, h23, bl⟩
  · rw [hw]
    refine wpAny_bind (wpAny_pure ?_)
    show wpAny (model X.prog X.w) X.A (do assign (.Tuple ts kt pt) X.env (.ref s1.heap.objs.size); pure Flow.next) _ _ _
    refine wpAny_bind (assign_Tuple_tuple (items := us.toArray) (I.ok.hd hc) (IsTup.new s1.heap _) (by rw [ht.len.1, List.size_toArray, hlu]) ht.len.2 fun h' hx' => ?_)
    have I3 := I2.kept (h' := h') (t' := s1.toks) fun b o e => hx' b o (Nat.ne_of_lt (Heap.lt_size e)) e
    exact store_all hN ht I3 (by simpa using r1) hl fun s3 I4 => wpAny_pure ⟨_, H1, I4, q1⟩
  · rw [hw]
    refine wpAny_bind (wpAny_pure ?_)
    have hnl : ns.length = is.length := by
      exact bl.len
    show wpAny (model X.prog X.w) X.A (do rule "assign.swapped-stores"; let items ← unpackItems (.ref s1.heap.objs.size) ns.length none; assignInOrder (ns.reverse.map fun n => bindName X.env n) items.reverse; pure Flow.next) _ _ _
    have hus : us.toArray.size = ns.length := by rw [List.size_toArray, hlu, hnl]
    rw [← hus]
    refine wpAny_bind (wpAny_rule (wpAny_bind (unpackItems_tuple (items := us.toArray) (I.ok.hd hc) (IsTup.new s1.heap _) fun h' hx' => ?_)))
    have I3 := I2.kept (h' := h') (t' := s1.toks) fun b o e => hx' b o (Nat.ne_of_lt (Heap.lt_size e)) e
    have fin : ∀ {σ' : L2.St} {s3 : Shared}, L2.Inv X pins σ' H1 s3 → σ' = setN σ is vs → SP X pins D .next s3 := fun I4 e => by subst e; exact ⟨_, H1, I4, q1⟩
    cases bl with
    | nil => simp at h23
    | @cons x ns i is hi hx bl =>
    cases bl with
    | nil => simp at h23
    | @cons y ns j is hj hy bl =>
    cases bl with
    | nil =>
      match vs, hl with
      | [v, w], _ =>
        obtain ⟨u1, u2, rfl, rv, rw'⟩ : ∃ u1 u2, us = [u1, u2] ∧ RelV v u1 ∧ RelV w u2 := by
          cases r1 with
          | cons p q =>
            cases q with
            | cons p' q' =>
              cases q'
              exact ⟨_, _, rfl, p, p'⟩
        show wpAny _ _ (assignInOrder [fun v => bindName X.env y v, fun v => bindName X.env x v] [u2, u1] >>= fun _ => pure Flow.next) _ _ _
        refine wpAny_bind (assignInOrder_cons (wpAny_bindName (store_ok I3 hN hj (.inl hy) rw' (fun s2 I4 => ?_) (.inr hy))))
        refine assignInOrder_cons (wpAny_bindName (store_ok I4 hN hi (.inl hx) rv (fun s3 I5 => assignInOrder_nil (wpAny_pure (fin I5 ?_))) (.inr hx)))
        show (σ.set j _).set i _ = (σ.set i _).set j _
        rw [List.set_comm]
        simp at hd
        exact fun e => hd e.symm
    | @cons z ns k is hk hzl bl =>
    cases bl with
    | nil =>
      match vs, hl with
      | [v, w, o], _ =>
        obtain ⟨u1, u2, u3, rfl, rv, rw', ro⟩ : ∃ u1 u2 u3, us = [u1, u2, u3] ∧ RelV v u1 ∧ RelV w u2 ∧ RelV o u3 := by
          cases r1 with
          | cons p q =>
            cases q with
            | cons p' q' =>
              cases q' with
              | cons p'' q'' =>
                cases q''
                exact ⟨_, _, _, rfl, p, p', p''⟩
        show wpAny _ _ (assignInOrder [fun v => bindName X.env z v, fun v => bindName X.env y v, fun v => bindName X.env x v] [u3, u2, u1] >>= fun _ => pure Flow.next) _ _ _
        refine wpAny_bind (assignInOrder_cons (wpAny_bindName (store_ok I3 hN hk (.inl hzl) ro (fun s2 I4 => ?_) (.inr hzl))))
        refine assignInOrder_cons (wpAny_bindName (store_ok I4 hN hj (.inl hy) rw' (fun s3 I5 => ?_) (.inr hy)))
        refine assignInOrder_cons (wpAny_bindName (store_ok I5 hN hi (.inl hx) rv (fun s4 I6 => assignInOrder_nil (wpAny_pure (fin I6 ?_))) (.inr hx)))
        simp only [List.nodup_cons, List.mem_cons, List.not_mem_nil, not_or, or_false] at hd
        show ((σ.set k _).set j _).set i _ = ((σ.set i _).set j _).set k _
        rw [List.set_comm (i := k) _ _ (fun e => hd.2.1 e.symm), List.set_comm (i := k) _ _ (fun e => hd.1.2 e.symm), List.set_comm (i := j) _ _ (fun e => hd.1.1 e.symm)]
    | cons _ _ bl => simp at h23
end
end Pd
set_option Elab.async false
set_option linter.all false
set_option maxRecDepth 100000
set_option maxHeartbeats 4000000
/-! Part 13: displays of dicts, records; stars. -/
namespace Pd
open PySem PySem.Spec PyProof.Rows L2
section
variable {K : PySem.W.Frag} {F : As} {H : Hp}
theorem DKs.any {k : Key} : ∀ {kvs : List (Key × V)} {ds : List (Dt × Dt)}, DKs K F H kvs ds → (ds.any fun p => decide (p.1.key = some (.inl k))) = (kvs.any fun kv => decide (kv.1 = k))
  | _, _, .nil => rfl
  | _, _, .cons (k := q) _ t => by
    rw [List.any_cons, List.any_cons, DKs.any t]
    congr 1
    rw [key_kD]
    simp
theorem DKs.mapk {k : Key} {v : V} {d : Dt} (hv : DV K F H v d) : ∀ {kvs : List (Key × V)} {ds : List (Dt × Dt)}, DKs K F H kvs ds → DKs K F H (kvs.map fun kv => if kv.1 = k then (kv.1, v) else kv) (ds.map fun p => if p.1.key = some (.inl k) then (p.1, d) else p)
  | _, _, .nil => .nil
  | _, _, .cons (k := q) (v := w) (d := e) h t => by
    rw [List.map_cons, List.map_cons]
    by_cases c : q = k
    · subst c
      simp only [key_kD, if_true]
      exact .cons hv (t.mapk hv)
    · have c' : ¬ (some (Sum.inl q) : Option (Sum Key (List Key))) = some (.inl k) := fun e => c (by cases e; rfl)
      simp only [key_kD, c, c', if_false]
      exact .cons h (t.mapk hv)
theorem DKs.snoc {k : Key} {v : V} {d : Dt} (hv : DV K F H v d) : ∀ {kvs : List (Key × V)} {ds : List (Dt × Dt)}, DKs K F H kvs ds → DKs K F H (kvs ++ [(k, v)]) (ds ++ [(kD k, d)])
  | _, _, .nil => .cons hv .nil
  | _, _, .cons h t => .cons h (t.snoc hv)
theorem DKs.put {k : Key} {v : V} {d : Dt} {kvs : List (Key × V)} {ds : List (Dt × Dt)} (h : DKs K F H kvs ds) (hv : DV K F H v d) : DKs K F H (putK kvs k v) (putD (.inl k) (kD k) d ds) := by
  unfold putK putD
  rw [h.any]
  split
  · exact h.mapk hv
  · exact h.snoc hv
theorem DTs.any {k : List Key} : ∀ {kvs : List (List Key × V)} {ds : List (Dt × Dt)}, DTs K F H kvs ds → (ds.any fun p => decide (p.1.key = some (.inr k))) = (kvs.any fun kv => decide (kv.1 = k))
  | _, _, .nil => rfl
  | _, _, .cons (k := q) _ t => by
    rw [List.any_cons, List.any_cons, DTs.any t]
    congr 1
    rw [key_tkD]
    simp
theorem DTs.mapk {k : List Key} {v : V} {d : Dt} (hv : DV K F H v d) : ∀ {kvs : List (List Key × V)} {ds : List (Dt × Dt)}, DTs K F H kvs ds → DTs K F H (kvs.map fun kv => if kv.1 = k then (kv.1, v) else kv) (ds.map fun p => if p.1.key = some (.inr k) then (p.1, d) else p)
  | _, _, .nil => .nil
  | _, _, .cons (k := q) (v := w) (d := e) h t => by
    rw [List.map_cons, List.map_cons]
    by_cases c : q = k
    · subst c
      simp only [key_tkD, if_true]
      exact .cons hv (t.mapk hv)
    · have c' : ¬ (some (Sum.inr q) : Option (Sum Key (List Key))) = some (.inr k) := fun e => c (by cases e; rfl)
      simp only [key_tkD, c, c', if_false]
      exact .cons h (t.mapk hv)
theorem DTs.snoc {k : List Key} {v : V} {d : Dt} (hv : DV K F H v d) : ∀ {kvs : List (List Key × V)} {ds : List (Dt × Dt)}, DTs K F H kvs ds → DTs K F H (kvs ++ [(k, v)]) (ds ++ [(tkD k, d)])
  | _, _, .nil => .cons hv .nil
  | _, _, .cons h t => .cons h (t.snoc hv)
theorem DTs.put {k : List Key} {v : V} {d : Dt} {kvs : List (List Key × V)} {ds : List (Dt × Dt)} (h : DTs K F H kvs ds) (hv : DV K F H v d) : DTs K F H (putK kvs k v) (putD (.inr k) (tkD k) d ds) := by
  unfold putK putD
  rw [h.any]
  split
  · exact h.mapk hv
  · exact h.snoc hv
theorem put_new {κ : Type} [DecidableEq κ] {kvs : List (κ × V)} {k : κ} {v : V} (h : ∀ p ∈ kvs, p.1 ≠ k) : putK kvs k v = kvs ++ [(k, v)] := by
  unfold putK
  rw [if_neg]
  intro z
  rw [List.any_eq_true] at z
  obtain ⟨p, hp, e⟩ := z
  exact h p hp (by simpa using e)
theorem merge_new : ∀ {more kvs : List (Key × V)}, ((kvs ++ more).map (·.1)).Nodup → mergeK kvs more = kvs ++ more
  | [], kvs, _ => by simp [mergeK]
  | p :: more, kvs, h => by
    have e : putK kvs p.1 p.2 = kvs ++ [p] := put_new fun q hq e => by
      rw [List.map_append, List.nodup_append] at h
      exact h.2.2 _ (List.mem_map.mpr ⟨q, hq, rfl⟩) _ (List.mem_map.mpr ⟨p, List.mem_cons_self, rfl⟩) e
    show mergeK (putK kvs p.1 p.2) more = _
    rw [e, merge_new (by simpa using h)]
    simp
theorem mk_ok : ∀ {ds : List Dt} {vs : List V} {acc acc' : List (Dt × Dt)} {kvs : List (Key × V)}, DVs K F H vs ds → DKs K F H kvs acc → mkD ds acc = some acc' → ∃ more : List (Key × V), vs = more.flatMap (fun p => [kV p.1, p.2]) ∧ 2 * more.length = ds.length ∧ DKs K F H (mergeK kvs more) acc'
  | [], _, acc, acc', kvs, h, a, e => by
    cases h
    simp only [mkD] at e
    cases e
    exact ⟨[], rfl, rfl, a⟩
  | [d], _, acc, acc', kvs, h, a, e => by simp [mkD] at e
  | k :: d :: r, _, acc, acc', kvs, h, a, e => by
    cases h with
    | @cons x xs _ _ hx h =>
    cases h with
    | @cons v vs _ _ hv h =>
    simp only [mkD] at e
    split at e
    · rename_i q hq
      have ek := key_inl hq
      subst ek
      obtain ⟨more, e1, e2, e3⟩ := mk_ok h (a.put (k := q) hv) e
      refine ⟨(q, v) :: more, ?_, by simp; omega, e3⟩
      rw [bv_kD hx.bv, e1]
      rfl
    · cases e
end
section
variable (K : PySem.W.Frag) (xv : Xv) (W : WX) (C : Cl)
def trsR : List Str → Exs → List (TE × TE)
  | k :: ks, .cons e es => (tC (.str k), RdE K xv W (ev C e)) :: trsR ks es
  | _, _ => []
def trsD : Exs → List (TE × TE)
  | .cons k (.cons e es) => (RdE K xv W (ev C k), RdE K xv W (ev C e)) :: trsD es
  | _ => []
end
section
variable {K : PySem.W.Frag} {xv : Xv} {W : WX} {C : Cl} {σ : L2.St} {H : Hp}
theorem RdE.mono {f : En → Rs Ow} {Q Q' : VK} (h : RdE K xv W f σ H Q) (q : ∀ v H', Q v H' → Q' v H') : RdE K xv W f σ H Q' := by
  obtain ⟨E, F, S, L, env, Ts, s, w⟩ := h
  exact ⟨E, F, S, L, env, Ts, s, w.imp (fun o e _ z v F' H' S' T s' => q _ _ (z v F' H' S' T s')) fun _ _ z => z⟩
theorem RdP.mono {f : En → Rs Tm} {Q Q' : VK} (h : RdP K xv W f σ H Q) (q : ∀ v H', Q v H' → Q' v H') : RdP K xv W f σ H Q' := by
  obtain ⟨E, F, S, L, env, Ts, s, w⟩ := h
  exact ⟨E, F, S, L, env, Ts, s, w.imp (fun o e _ z v F' H' S' Us ok s' => q _ _ (z v F' H' S' Us ok s')) fun _ _ z => z⟩
def pairs2 : List V → List (V × V)
  | x :: y :: r => (x, y) :: pairs2 r
  | _ => []
/-- keys and values by turns -/
def dOk : Exs → Bool
  | .nil => true
  | .cons _ (.cons _ es) => dOk es
  | _ => false
def exsLen : Exs → Nat
  | .nil => 0
  | .cons _ es => exsLen es + 1
  | .star _ es => exsLen es
theorem rdw_pairs : ∀ {ks : List Str} {es : Exs} {H : Hp} {Q : List (V × V) → Hp → Prop}, exsLen es = ks.length → RdW K xv W (evw C es) σ H (fun vs H1 => vs.length = ks.length ∧ Q ((ks.map V.str).zip vs) H1) → tPairs (trsR K xv W C ks es) σ H Q
  | [], .nil, H, Q, hl, h => by
    have q := rdw_nil h
    exact q.2
  | k :: ks, .cons e es, H, Q, hl, h => by
    have q := rdw_cons h
    refine RdE.mono q fun v H1 q1 => ?_
    refine rdw_pairs (ks := ks) (es := es) (by simpa [exsLen] using hl) ?_
    obtain ⟨E, F, S, L, env, Ts, s, w⟩ := q1
    refine ⟨E, F, S, L, env, Ts, s, w.imp (fun o e _ z vs Us F' H' S' s' ov => ?_) fun _ _ z => z⟩
    obtain ⟨z1, z2⟩ := z vs Us F' H' S' s' ov
    exact ⟨by simpa using z1, z2⟩
  | [], .cons e es, H, Q, hl, h => by simp [exsLen] at hl
  | k :: ks, .nil, H, Q, hl, h => by simp [exsLen] at hl
  | ks, .star o es, H, Q, hl, h => by
    obtain ⟨E, F, S, L, env, Ts, s, w⟩ := h
    simp only [evw] at w
    exact w.elim
theorem OwV.at {vs : List V} {os : List Ow1} {Us : List Tp} (h : OwV vs os Us) : vs.length = os.length ∧ Us.length = os.length ∧ ∀ (k : Nat) (o : Ow1), os[k]? = some o → ∃ v T, vs[k]? = some v ∧ Us[k]? = some ⟨v, .p o, T⟩ := by
  induction h with
  | nil => exact ⟨rfl, rfl, fun k o e => by simp at e⟩
  | @cons v o T vs os Us r ih =>
    refine ⟨by simp [ih.1], by simp [ih.2.1], fun k o' e => ?_⟩
    cases k with
    | zero => simp at e; subst e; exact ⟨v, T, rfl, rfl⟩
    | succ k => exact ih.2.2 k o' (by simpa using e)
theorem zip_get {α β : Type} : ∀ {as : List α} {bs : List β} {i : Nat} {p : α × β}, (as.zip bs)[i]? = some p → as[i]? = some p.1 ∧ bs[i]? = some p.2
  | [], bs, i, p, h => by simp at h
  | a :: as, [], i, p, h => by simp at h
  | a :: as, b :: bs, 0, p, h => by simp at h; subst h; exact ⟨rfl, rfl⟩
  | a :: as, b :: bs, i + 1, p, h => by
    obtain ⟨h1, h2⟩ := zip_get (i := i) (show (as.zip bs)[i]? = some p by simpa using h)
    exact ⟨by simpa using h1, by simpa using h2⟩
theorem get_zip {α β : Type} : ∀ {as : List α} {bs : List β} {i : Nat} {a : α} {b : β}, as[i]? = some a → bs[i]? = some b → (as.zip bs)[i]? = some (a, b)
  | [], bs, i, a, b, h, _ => by simp at h
  | x :: as, [], i, a, b, _, h => by simp at h
  | x :: as, y :: bs, 0, a, b, h1, h2 => by simp at h1 h2; subst h1 h2; rfl
  | x :: as, y :: bs, i + 1, a, b, h1, h2 => by
    simpa using get_zip (as := as) (bs := bs) (i := i) (by simpa using h1) (by simpa using h2)
theorem rd_rcd {ks : List Str} {es : Exs} {Q : VK} (hl : exsLen es = ks.length) (h : RdE K xv W (ev C (.rcd ks es)) σ H Q) : tDisp (trsR K xv W C ks es) σ H Q := by
  obtain ⟨E, F, S, L, env, Ts, s, w⟩ := h
  intro p hp
  refine rdw_pairs hl ?_
  have ne : ∀ x, H x ≠ none → x ≠ p := fun x hx e => by subst e; exact hx hp
  have s0 : Sx K E F (upd H p (.dK [])) S L σ env (⟨.ref p, .rc [], fun x => x = p⟩ :: Ts) := s.fresh (fun _ z => z) (fun _ z => .inl z) (fun x hx => upd_ne (ne x hx)) (fun x hx => by
      subst hx
      exact ⟨hp, by rw [upd_same]; simp, fun z => (s.fr _ z).1 hp⟩)
    ⟨p, [], fun _ => noA, rfl, upd_same, ⟨rfl, fun i q e => by simp at e⟩, fun _ _ _ z => z.elim, fun _ z => z, fun x => by simp, List.nodup_nil⟩
  refine ⟨E, F, S, L, env, _, s0, ?_⟩
  simp only [ev] at w
  split at w
  · rename_i os e1 hx
    rw [hx]
    split at w
    · rename_i hc
      obtain ⟨c1, c2, c3⟩ := hc
      intro vs Us F' H' S' s' ov
      obtain ⟨l1, l2, at_⟩ := ov.at
      have hvk : vs.length = ks.length := by rw [l1, c1]
      refine ⟨hvk, ?_⟩
      obtain ⟨a, kv0, Sf0, ea, h0, r0, _⟩ := s'.tm ⟨.ref p, .rc [], fun x => x = p⟩ (by simp)
      cases ea
      have k0 : kv0 = [] := by
        have := r0.len
        cases kv0 with
        | nil => rfl
        | cons _ _ => simp at this
      subst k0
      refine ⟨h0, (ks.map (fun k => (.inr k : Key))).zip vs, ?_, ?_, ?_⟩
      · rw [List.zip_map_left, List.zip_map_left, List.map_map]
        rfl
      · rw [List.length_zip, List.length_map, hvk, Nat.min_self]; exact c3
      · have ek : (ks.map (fun k => (.inr k : Key))).zip vs = sk (ks.zip vs) := by rw [List.zip_map_left]; rfl
        have en : (sk (ks.zip vs)).map (·.1) = ks.map (fun k => (.inr k : Key)) := by
          have e : (ks.zip vs).map Prod.fst = ks := by rw [List.map_fst_zip]; omega
          have e2 : (sk (ks.zip vs)).map (·.1) = ((ks.zip vs).map Prod.fst).map (fun k => (.inr k : Key)) := by
            rw [List.map_map, List.map_map]; rfl
          rw [e2, e]
        have nd : ((([] : List (Key × V)) ++ sk (ks.zip vs)).map (·.1)).Nodup := by
          rw [List.nil_append, en]
          exact List.Pairwise.map _ (fun a b hab e => hab (by cases e; rfl)) c2
        rw [ek, merge_new nd, List.nil_append]
        have s1 : Sx K E F' H' S' L σ e1 ((⟨.ref p, .rc [], fun x => x = p⟩ :: Us) ++ Ts) := s'.perm (by
          refine List.Perm.trans ?_ (List.perm_middle (l₁ := Us.reverse)).symm
          exact ((List.reverse_perm Us).symm.append_right Ts).cons _)
        have tmU : ∀ {i : Nat} {u : Tp}, Us[i]? = some u → u ∈ (⟨.ref p, .rc [], fun x => x = p⟩ :: Us) ++ Ts := fun e => List.mem_append_left _ (List.mem_cons_of_mem _ (List.mem_of_getElem? e))
        have hU : ∀ {i : Nat} {u : Tp}, Us[i]? = some u → ¬ u.T p := fun {i u} e z => by
          have pw := (List.pairwise_append.mp s1.dT).1
          exact (List.pairwise_cons.mp pw).1 u (List.mem_of_getElem? e) p rfl z
        have nF : ∀ x, F' x → x ≠ p := fun x hx e => (s1.oT ⟨.ref p, .rc [], fun x => x = p⟩ (by simp) x e).nf hx
        refine w (.ref p) F' _ S' (fun x => x = p ∨ ∃ i, i < (ks.zip os).length ∧ scOf Us i x) (s1.fuse (Us := ⟨.ref p, .rc [], fun x => x = p⟩ :: Us) (fun x hn => upd_ne fun e => hn ⟨_, List.mem_cons_self, e⟩) (fun x ⟨u, hu, hx⟩ => ?_) (fun x hx => ?_) ?_)
        · by_cases e : x = p
          · rw [e, upd_same]; simp
          · rw [upd_ne e]
            exact (s1.oT u (List.mem_append_left _ hu) x hx).tr
        · rcases hx with e | ⟨i, _, u, hu, z⟩
          · exact ⟨_, List.mem_cons_self, e⟩
          · exact ⟨u, List.mem_cons_of_mem _ (List.mem_of_getElem? hu), z⟩
        · refine ⟨p, ks.zip vs, scOf Us, rfl, upd_same, ⟨by rw [List.length_zip, List.length_zip, l1], fun i q hq => ?_⟩, fun i j x ⟨u, e1, u1⟩ ⟨u', e2, u2⟩ => ?_, fun i ⟨u, e, z⟩ => hU e z, fun x => Iff.rfl, ?_⟩
          · obtain ⟨hk, ho⟩ := zip_get hq
            obtain ⟨v, T, ev, eT⟩ := at_ i q.2 ho
            refine ⟨v, get_zip hk ev, ?_⟩
            have es : scOf Us i = T := by
              funext x
              refine propext ⟨fun ⟨t, e1, t1⟩ => ?_, fun z => ⟨_, eT, z⟩⟩
              rw [eT] at e1
              cases e1
              exact t1
            rw [es]
            have tm : O1V K F' H' T v q.2 := s1.tm _ (tmU eT)
            exact tm.mono (fun _ z => z) (fun x hx => upd_ne (nF x hx)) fun x hx => upd_ne fun e => hU eT (by rw [← e]; exact hx)
          · have pw := (List.pairwise_cons.mp (List.pairwise_append.mp s1.dT).1).2
            obtain ⟨hj, ej⟩ := List.getElem?_eq_some_iff.mp e1
            obtain ⟨hk, ek⟩ := List.getElem?_eq_some_iff.mp e2
            rcases Nat.lt_trichotomy i j with c | c | c
            · exact absurd u2 (by have := (List.pairwise_iff_getElem.mp pw) i j hj hk c x; rw [ej, ek] at this; exact this u1)
            · exact c
            · exact absurd u1 (by have := (List.pairwise_iff_getElem.mp pw) j i hk hj c x; rw [ej, ek] at this; exact this u2)
          · have : (ks.zip os).map Prod.fst = ks := by rw [List.map_fst_zip]; omega
            rw [show ((ks.zip os).map (·.1)) = ks from this]
            exact c2
    · exact w.elim
  · rename_i d e1 hx
    rw [hx]
    exact Xw.pop w
  · exact w.elim
theorem rds_pairs : ∀ {n : Nat} {es : Exs} {H : Hp} {Q : List (V × V) → Hp → Prop}, exsLen es ≤ n → RdS K xv W (evs C es) σ H (fun vs H1 => Q (pairs2 vs) H1) → dOk es = true → tPairs (trsD K xv W C es) σ H Q
  | _, .nil, H, Q, _, h, _ => rds_nil h
  | _, .cons k .nil, H, Q, _, h, d => by simp [dOk] at d
  | _, .cons k (.star _ _), H, Q, _, h, d => by simp [dOk] at d
  | _, .star _ _, H, Q, _, h, d => by simp [dOk] at d
  | n, .cons k (.cons e es), H, Q, hn, h, d => by
    have q := rds_cons h
    refine RdE.mono q fun x H1 q1 => RdE.mono (rds_cons q1) fun y H2 q2 => ?_
    match n, hn with
    | n + 2, hn => exact rds_pairs (n := n) (es := es) (by simp [exsLen] at hn; omega) q2 (by simpa [dOk] using d)
    | 1, hn => simp [exsLen] at hn
    | 0, hn => simp [exsLen] at hn
theorem pairs2_flat : ∀ (more : List (Key × V)), pairs2 (more.flatMap (fun p => [kV p.1, p.2])) = more.map fun p => (kV p.1, p.2)
  | [] => rfl
  | p :: r => by
    show (kV p.1, p.2) :: pairs2 (r.flatMap _) = _
    rw [pairs2_flat r]; rfl
theorem rd_dmk {es : Exs} {Q : VK} (hd : dOk es = true) (h : RdE K xv W (ev C (.dmk es)) σ H Q) : tDisp (trsD K xv W C es) σ H Q := by
  obtain ⟨E, F, S, L, env, Ts, s, w⟩ := h
  intro p hp
  refine rds_pairs (n := exsLen es) (Nat.le_refl _) ?_ hd
  have ne : ∀ x, H x ≠ none → x ≠ p := fun x hx e => by subst e; exact hx hp
  have s0 : Sx K E F (upd H p (.dK [])) S L σ env (⟨.ref p, .rc [], fun x => x = p⟩ :: Ts) := s.fresh (fun _ z => z) (fun _ z => .inl z) (fun x hx => upd_ne (ne x hx)) (fun x hx => by
      subst hx
      exact ⟨hp, by rw [upd_same]; simp, fun z => (s.fr _ z).1 hp⟩) ⟨p, [], fun _ => noA, rfl, upd_same, ⟨rfl, fun i q e => by simp at e⟩, fun _ _ _ z => z.elim, fun _ z => z, fun x => by simp, List.nodup_nil⟩
  refine ⟨E, F, S, L, env, _, s0, ?_⟩
  simp only [ev] at w
  split at w
  · rename_i ds e1 hx
    rw [hx]
    split at w
    · rename_i kvs hm
      split at w
      · rename_i hz
        intro vs Us F' H' S' s' iv
        have dv := imv_dvs s' (fun u hu => List.mem_append_left _ (List.mem_reverse.mpr hu)) iv
        obtain ⟨more, e1', e2, e3⟩ := mk_ok dv .nil hm
        have s1 : Sx K E F' H' S' L σ e1 ([⟨.ref p, .rc [], fun x => x = p⟩] ++ Ts) := s'.sub (List.sublist_append_right _ _)
        obtain ⟨a, kv0, Sf0, ea, h0', r0, _⟩ := s1.tm ⟨.ref p, .rc [], fun x => x = p⟩ (by simp)
        cases ea
        have k0 : kv0 = [] := by
          have := r0.len
          cases kv0 with
          | nil => rfl
          | cons _ _ => simp at this
        subst k0
        have nF : ∀ x, F' x → x ≠ p := fun x hx e => (s1.oT ⟨.ref p, .rc [], fun x => x = p⟩ (by simp) x e).nf hx
        refine ⟨h0', more, ?_, by omega, ?_⟩
        · rw [e1', pairs2_flat]
        · refine w (.ref p) F' _ S' (fun x => x = p) (s1.fuse (Us := [⟨.ref p, .rc [], fun x => x = p⟩]) (fun x hn => upd_ne fun e => hn ⟨_, List.mem_cons_self, e⟩) (fun x ⟨u, hu, hx⟩ => ?_) (fun x hx => ⟨_, List.mem_cons_self, hx⟩) ?_)
          · obtain rfl : u = _ := by simpa using hu
            rw [show x = p from hx, upd_same]; simp
          · exact ⟨p, rfl, fun _ => Iff.rfl, .inl ⟨_, upd_same, e3.mono (fun _ z => z) fun x hx => upd_ne (nF x hx)⟩⟩
      · exact w.elim
    · exact w.elim
  · rename_i d e1 hx
    rw [hx]
    exact Xw.pop w
  · exact w.elim
theorem rds_star {o : Op} {xs : Exs} {Q : List V → Hp → Prop} (h : RdS K xv W (evs C (.star o xs)) σ H Q) : StX.tStar K (RdP K xv W (evp C o)) (RdS K xv W (evs C xs)) σ H Q := by
  obtain ⟨E, F, S, L, env, Ts, s, w⟩ := h
  refine ⟨E, F, S, L, env, Ts, s, ?_⟩
  simp only [evs] at w
  split at w
  · rename_i t e1 hx
    rw [hx]
    split at w
    · rename_i d hd
      split at w
      · rename_i ds1 hs
        intro v F' H' S' Us ok s'
        have bv : BV K F' H' v d := by
          cases t with
          | inl i =>
            obtain ⟨hv, rfl⟩ := ok
            simp only [Tm.vw] at hd
            split at hd
            · rename_i o hg
              obtain ⟨y, ey, bv⟩ := s'.view hg hd
              rw [hv] at ey
              cases ey
              exact bv
            · cases hd
          | inr ow =>
            obtain ⟨T, rfl⟩ := ok
            exact (s'.tm _ List.mem_cons_self).bv hd
        have st : ∃ p vs, v = .ref p ∧ (SqT K H' p vs ∨ SqL K H' p vs) ∧ DVs K F' H' vs ds1 := by
          cases d with
          | lst es =>
            cases hs
            obtain ⟨a, vs, rfl, ha, hv⟩ := bv
            exact ⟨a, vs, rfl, .inr (.of ha), hv⟩
          | tup es =>
            cases hs
            obtain ⟨a, vs, rfl, ha, hv⟩ := bv_tup bv
            exact ⟨a, vs, rfl, .inl ha.sq, hv⟩
          | scr is =>
            cases hs
            obtain ⟨a, rfl, ha⟩ := bv_scr bv
            exact ⟨a, _, rfl, .inr ha.sq, dvs_ints is⟩
          | non => cases hs
          | bl b => cases hs
          | int b => cases hs
          | str b => cases hs
          | dic b => cases hs
        obtain ⟨p, vs, rfl, hq, dv⟩ := st
        refine ⟨p, vs, rfl, hq, ?_⟩
        have push : ∀ {vs : List V} {ds1 : List Dt} (Us : List Tp), DVs K F' H' vs ds1 → Sx K E F' H' S' L σ e1 Us → ∃ Vs, Sx K E F' H' S' L σ e1 (Vs.reverse ++ Us) ∧ ∀ {vs2 : List V} {ds2 : List Dt} {Us2 : List Tp}, ImV vs2 ds2 Us2 → ImV (vs ++ vs2) (ds1 ++ ds2) (Vs ++ Us2) := by
          intro vs
          induction vs with
          | nil =>
            intro ds1 Us dv s
            cases dv
            exact ⟨[], s, fun z => z⟩
          | cons v vs ih =>
            intro ds1 Us dv s
            cases dv with
            | cons h t =>
              obtain ⟨Vs, s2, im2⟩ := ih _ t (s.pushI h)
              exact ⟨_ :: Vs, by simpa using s2, fun z => .cons (im2 z)⟩
        obtain ⟨Vs, s2, im2⟩ := push Us dv s'
        refine ⟨E, F', S', L, e1, _, s2, ?_⟩
        have sub : Ts.Sublist Us := by
          cases t with
          | inl i => obtain ⟨_, rfl⟩ := ok; exact List.Sublist.refl _
          | inr ow => obtain ⟨T, rfl⟩ := ok; exact List.sublist_cons_self _ _
        split at w
        · rename_i ds e2 hy
          rw [hy]
          intro ys Us' F'' H'' S'' s'' iv
          refine w (vs ++ ys) (Vs ++ Us') F'' H'' S'' ?_ (im2 iv)
          rw [List.reverse_append, List.append_assoc]
          exact s''.sub ((List.Sublist.refl _).append ((List.Sublist.refl _).append sub))
        · rename_i d e2 hy
          rw [hy]
          intro F H S c od sx hxv
          exact w F H S c od (sx.sub (sub.trans (List.sublist_append_right _ _))) hxv
        · exact w.elim
      · exact w.elim
    · exact w.elim
  · rename_i d e1 hx
    rw [hx]
    exact w
  · exact w.elim
end
end Pd
set_option Elab.async false
set_option linter.all false
set_option maxRecDepth 100000
set_option maxHeartbeats 4000000
/-! Part 14: statements. -/
namespace Pd
open PySem PySem.Spec PyProof.Rows L2
mutual
/-- the slots that a statement may store in -/
def wrS : Sm → List Nat
  | .asg i _ => [i]
  | .asgT is _ => is
  | .unp is _ => is
  | .aug i _ _ => [i]
  | .ite _ a b => wrSs a ++ wrSs b
  | .fors tg _ b => tgSl tg ++ wrSs b
  | .whl _ b => wrSs b
  | _ => []
def wrSs : Sms → List Nat
  | .nil => []
  | .cons s ss => wrS s ++ wrSs ss
end
section
variable (K : PySem.W.Frag) (xv : Xv) (W : WX)
/-- the reading of a statement that stores in ws -/
def RdC (ws : List Nat) (f : En → Rs Fl) : TS := fun D σ H => ∃ E F S L env Ts, Sx K E F H S L σ env Ts ∧ (∀ p ∈ E.fix, p.1 ∉ ws) ∧ Wp (f env) (fun fl e => match fl with
    | .nx => ∀ σ' F' H' S', Sx K E F' H' S' L σ' e Ts → D.nx σ' H'
    | .rt o => ∀ σ' v F' H' S' T, Sx K E F' H' S' L σ' e (⟨v, o, T⟩ :: Ts) → D.rt v H') (fun d e => ∀ σ', Xw K xv W E L σ' Ts d e)
end
section
variable {K : PySem.W.Frag} {xv : Xv} {W : WX} {C : Cl} {wf : Nat} {σ : L2.St} {H : Hp} {D : Ends}
theorem rt_nil (h : RdC K xv W (wrSs .nil) (exs C wf .nil) D σ H) : tNext D σ H := by
  obtain ⟨E, F, S, L, env, Ts, s, hx, w⟩ := h
  simp only [exs] at w
  exact w σ F H S s
theorem rt_cons {s : Sm} {ss : Sms} (h : RdC K xv W (wrSs (.cons s ss)) (exs C wf (.cons s ss)) D σ H) : tSeq (RdC K xv W (wrS s) (ex C wf s)) (RdC K xv W (wrSs ss) (exs C wf ss)) D σ H := by
  obtain ⟨E, F, S, L, env, Ts, s1, hx, w⟩ := h
  have h1 : ∀ p ∈ E.fix, p.1 ∉ wrS s := fun p hp z => hx p hp (by simp [wrSs, z])
  have h2 : ∀ p ∈ E.fix, p.1 ∉ wrSs ss := fun p hp z => hx p hp (by simp [wrSs, z])
  refine ⟨E, F, S, L, env, Ts, s1, h1, ?_⟩
  simp only [exs] at w
  split at w
  · rename_i e1 he
    rw [he]
    intro σ' F' H' S' s'
    exact ⟨E, F', S', L, e1, Ts, s', h2, w⟩
  · rename_i r hr
    cases hw : ex C wf s env with
    | no => rw [hw] at w; exact w.elim
    | exc d e => rw [hw] at w; exact w
    | ok fl e =>
      cases fl with
      | nx => exact absurd hw (hr e)
      | rt o => rw [hw] at w; exact w
theorem rt_asg {i : Nat} {e : Ex} (h : RdC K xv W (wrS (.asg i e)) (ex C wf (.asg i e)) D σ H) : tAsg (RdE K xv W (ev C e)) (gName i) D σ H := by
  obtain ⟨E, F, S, L, env, Ts, s, hx, w⟩ := h
  refine ⟨E, F, S, L, env, Ts, s, ?_⟩
  simp only [ex] at w
  split at w
  · rename_i o e1 he
    rw [he]
    intro v F' H' S' T s'
    obtain ⟨S2, s2⟩ := s'.store' (i := i) fun p hp z => hx p hp (by simp [wrS, z])
    exact w _ F' H' S2 s2
  · rename_i d e1 he
    rw [he]
    exact w σ
  · exact w.elim
theorem rt_expr {e : Ex} (h : RdC K xv W (wrS (.expr e)) (ex C wf (.expr e)) D σ H) : tDrop (RdE K xv W (ev C e)) D σ H := by
  obtain ⟨E, F, S, L, env, Ts, s, hx, w⟩ := h
  refine ⟨E, F, S, L, env, Ts, s, ?_⟩
  simp only [ex] at w
  split at w
  · rename_i o e1 he
    rw [he]
    intro v F' H' S' T s'
    exact w _ F' H' S' s'.pop
  · rename_i d e1 he
    rw [he]
    exact w σ
  · exact w.elim
theorem rt_ret {e : Ex} (h : RdC K xv W (wrS (.ret e)) (ex C wf (.ret e)) D σ H) : tRet (RdE K xv W (ev C e)) D σ H := by
  obtain ⟨E, F, S, L, env, Ts, s, hx, w⟩ := h
  refine ⟨E, F, S, L, env, Ts, s, ?_⟩
  simp only [ex] at w
  split at w
  · rename_i o e1 he
    rw [he]
    intro v F' H' S' T s'
    exact w σ v F' H' S' T s'
  · rename_i d e1 he
    rw [he]
    exact w σ
  · exact w.elim
theorem rt_retV {i : Nat} (h : RdC K xv W (wrS (.retV i)) (ex C wf (.retV i)) D σ H) : tRet (tVar i) D σ H := by
  obtain ⟨E, F, S, L, env, Ts, s, hx, w⟩ := h
  simp only [ex] at w
  split at w
  · exact w.elim
  · rename_i o hne hg
    obtain ⟨v, e1, s1⟩ := s.take hg fun d z => hne d z
    exact ⟨v, e1, w σ v F H _ _ s1⟩
  · exact w.elim
theorem rt_retN (h : RdC K xv W (wrS .retN) (ex C wf .retN) D σ H) : tRetN D σ H := by
  obtain ⟨E, F, S, L, env, Ts, s, hx, w⟩ := h
  simp only [ex] at w
  exact w σ _ F H S _ (s.pushI .non)
theorem rt_ite {t : Te} {a b : Sms} (h : RdC K xv W (wrS (.ite t a b)) (ex C wf (.ite t a b)) D σ H) : tIfS (RdB K xv W (evt C t)) (RdC K xv W (wrSs a) (exs C wf a)) (RdC K xv W (wrSs b) (exs C wf b)) D σ H := by
  obtain ⟨E, F, S, L, env, Ts, s, hx, w⟩ := h
  have h1 : ∀ p ∈ E.fix, p.1 ∉ wrSs a := fun p hp z => hx p hp (by simp [wrS, z])
  have h2 : ∀ p ∈ E.fix, p.1 ∉ wrSs b := fun p hp z => hx p hp (by simp [wrS, z])
  refine ⟨E, F, S, L, env, Ts, s, ?_⟩
  simp only [ex] at w
  split at w
  · rename_i e1 he
    rw [he]
    intro F' H' S' s'
    rw [if_pos rfl]
    exact ⟨E, F', S', L, e1, Ts, s', h1, w⟩
  · rename_i e1 he
    rw [he]
    intro F' H' S' s'
    rw [if_neg Bool.false_ne_true]
    exact ⟨E, F', S', L, e1, Ts, s', h2, w⟩
  · rename_i d e1 he
    rw [he]
    exact w σ
  · exact w.elim
theorem setAll_ok {E : En0} {F : As} {L : Nat → As} {Ts : List Tp} : ∀ {is : List Nat} {vs : List V} {os : List Ow1} {Us : List Tp} {σ : L2.St} {env : En} {S : Nat → As}, Sx K E F H S L σ env (Us ++ Ts) → OwV vs os Us → is.length = os.length → (∀ p ∈ E.fix, p.1 ∉ is) →
    vs.length = is.length ∧ ∃ S', Sx K E F H S' L (setN σ is vs) (setAll is os env) Ts
  | [], _, _, _, σ, env, S, s, .nil, _, _ => ⟨rfl, S, s⟩
  | i :: is, _, _, _, σ, env, S, s, .cons ov, hl, hx => by
    obtain ⟨S1, s1⟩ := Sx.store' (i := i) s fun p hp e => hx p hp (by rw [e]; exact List.mem_cons_self)
    obtain ⟨q1, q2⟩ := setAll_ok s1 ov (by simpa using hl) fun p hp z => hx p hp (List.mem_cons_of_mem _ z)
    exact ⟨by simp [q1], q2⟩
  | [], _, _, _, σ, env, S, s, .cons ov, hl, hx => by simp at hl
  | i :: is, _, _, _, σ, env, S, s, .nil, hl, hx => by simp at hl
theorem rt_asgT {is : List Nat} {es : Exs} (h : RdC K xv W (wrS (.asgT is es)) (ex C wf (.asgT is es)) D σ H) : tParN is (RdW K xv W (evw C es)) D σ H := by
  obtain ⟨E, F, S, L, env, Ts, s, hx, w⟩ := h
  refine ⟨E, F, S, L, env, Ts, s, ?_⟩
  simp only [ex] at w
  split at w
  · rename_i os e1 he
    rw [he]
    split at w
    · rename_i hl
      intro vs Us F' H' S' s' ov
      obtain ⟨q1, S2, s2⟩ := setAll_ok (is := is) (s'.perm ((List.reverse_perm Us).symm.append_right Ts)) ov hl fun p hp z => hx p hp z
      exact ⟨q1, w _ F' H' S2 s2⟩
    · exact w.elim
  · rename_i d e1 he
    rw [he]
    exact w σ
  · exact w.elim
theorem go_ok' {E : En0} {F : As} {L : Nat → As} {Ts : List Tp} {ds : List Dt} : ∀ {is : List Nat} {vs : List V} {σ : L2.St} {env : En} {S : Nat → As}, Sx K E F H S L σ env Ts → DVs K F H vs ds → is.length = ds.length → (∀ p ∈ E.fix, p.1 ∉ is) →
    gNames is vs σ H fun σ' H' => H' = H ∧ ∃ S', Sx K E F H S' L σ' (tgSet.go is ds env) Ts := by
  induction ds with
  | nil =>
    intro is vs σ env S s hv hl hx
    cases is with
    | nil => cases hv; exact ⟨rfl, rfl, S, s⟩
    | cons i is => simp at hl
  | cons d ds ih =>
    intro is vs σ env S s hv hl hx
    cases is with
    | nil => simp at hl
    | cons i is =>
      cases hv with
      | @cons v vs _ _ h1 h2 =>
        obtain ⟨S1, s1⟩ := (s.pushI h1).store' (i := i) fun p hp e => hx p hp (by rw [e]; exact List.mem_cons_self)
        exact ⟨v, vs, rfl, ih (is := is) s1 h2 (by simpa using hl) fun p hp z => hx p hp (List.mem_cons_of_mem _ z)⟩
theorem tg_ok' {E : En0} {F : As} {S L : Nat → As} {Ts : List Tp} {env : En} {v : V} {tg : Tg} {d : Dt} {e' : En} (s : Sx K E F H S L σ env Ts) (hv : DV K F H v d) (ht : tgSet tg d env = some e') (hx : ∀ p ∈ E.fix, p.1 ∉ tgSl tg) : gOf K tg v σ H fun σ' H' => H' = H ∧ ∃ S', Sx K E F H S' L σ' e' Ts := by
  cases tg with
  | nm i =>
    simp only [tgSet] at ht
    cases ht
    obtain ⟨S1, s1⟩ := (s.pushI hv).store' (i := i) fun p hp e => hx p hp (by rw [e]; exact List.mem_cons_self)
    exact ⟨rfl, S1, s1⟩
  | tp is =>
    cases d with
    | tup ds =>
      simp only [tgSet] at ht
      split at ht
      · rename_i hl
        cases ht
        cases hv with
        | @tup a vs _ st hvs => exact ⟨a, vs, rfl, st.sq, by rw [hvs.len, hl], go_ok' s hvs hl hx⟩
      · cases ht
    | _ => simp [tgSet] at ht
theorem gOf_mono {tg : Tg} {v : V} {Q Q' : L2.St → Hp → Prop} (hq : ∀ σ' H', Q σ' H' → Q' σ' H') (h : gOf K tg v σ H Q) : gOf K tg v σ H Q' := by
  have names : ∀ (is : List Nat) (vs : List V) (σ : L2.St) (H : Hp), gNames is vs σ H Q → gNames is vs σ H Q' := by
    intro is
    induction is with
    | nil => intro vs σ H h; exact ⟨h.1, hq _ _ h.2⟩
    | cons i is ih =>
      intro vs σ H h
      obtain ⟨v, r, e, h⟩ := h
      exact ⟨v, r, e, ih _ _ _ h⟩
  cases tg with
  | nm i => exact hq _ _ h
  | tp is =>
    obtain ⟨a, xs, e, q, l, h⟩ := h
    exact ⟨a, xs, e, q, l, names _ _ _ _ h⟩
theorem bv_tupDV {F : As} {v : V} {ds : List Dt} (h : BV K F H v (.tup ds)) : DV K F H v (.tup ds) := h
theorem rt_unp {is : List Nat} {o : Op} (h : RdC K xv W (wrS (.unp is o)) (ex C wf (.unp is o)) D σ H) : tAsg (RdP K xv W (evp C o)) (gOf K (.tp is)) D σ H := by
  obtain ⟨E, F, S, L, env, Ts, s, hx, w⟩ := h
  refine ⟨E, F, S, L, env, Ts, s, ?_⟩
  simp only [ex] at w
  split at w
  · rename_i t e1 he
    rw [he]
    split at w
    · rename_i d hd
      split at w
      · rename_i e2 ht
        intro v F' H' S' Us ok s'
        have q : Sx K E F' H' S' L σ e1 Ts ∧ BV K F' H' v d := by
          cases t with
          | inl i =>
            obtain ⟨hv, rfl⟩ := ok
            simp only [Tm.vw] at hd
            split at hd
            · rename_i o hg
              obtain ⟨y, ey, bv⟩ := s'.view hg hd
              rw [hv] at ey
              cases ey
              exact ⟨s', bv⟩
            · cases hd
          | inr ow =>
            obtain ⟨T, rfl⟩ := ok
            exact ⟨s'.pop, (s'.tm _ List.mem_cons_self).bv hd⟩
        have dt : ∃ ds, d = .tup ds := by
          cases d with
          | tup ds => exact ⟨ds, rfl⟩
          | _ => simp [tgSet] at ht
        obtain ⟨ds, rfl⟩ := dt
        refine gOf_mono (fun σ' H2 ⟨eH, S2, s2⟩ => ?_) (tg_ok' q.1 (bv_tupDV q.2) ht fun p hp z => hx p hp z)
        subst eH
        exact w σ' F' _ S2 s2
      · exact w.elim
    · exact w.elim
  · rename_i d e1 he
    rw [he]
    exact w σ
  · exact w.elim
theorem rt_whl {t : Te} {b : Sms} (h : RdC K xv W (wrS (.whl t b)) (ex C wf (.whl t b)) D σ H) : tWhile (RdB K xv W (evt C t)) (RdC K xv W (wrSs b) (exs C wf b)) D σ H := by
  obtain ⟨E, F, S, L, env, Ts, s, hx, w⟩ := h
  have h1 : ∀ p ∈ E.fix, p.1 ∉ wrSs b := fun p hp z => hx p hp (by simp [wrS, z])
  simp only [ex] at w
  refine ⟨fun m σ H => ∃ F S env, Sx K E F H S L σ env Ts ∧ Wp (whGo (fun e => evt C t e) (fun e => exs C wf b e) m env) (fun fl e => match fl with
    | .nx => ∀ σ' F' H' S', Sx K E F' H' S' L σ' e Ts → D.nx σ' H'
    | .rt o => ∀ σ' v F' H' S' T, Sx K E F' H' S' L σ' e (⟨v, o, T⟩ :: Ts) → D.rt v H') (fun d e => ∀ σ', Xw K xv W E L σ' Ts d e), ⟨wf, F, S, env, s, w⟩, ?_⟩
  rintro m σ1 H1 ⟨F1, S1, env1, s1, w1⟩
  cases m with
  | zero => exact w1.elim
  | succ m =>
    unfold whGo at w1
    refine ⟨E, F1, S1, L, env1, Ts, s1, ?_⟩
    cases ht : evt C t env1 with
    | no => rw [ht] at w1; exact w1.elim
    | exc d e => rw [ht] at w1; exact w1 σ1
    | ok c e1 =>
      rw [ht] at w1
      intro F2 H2 S2 s2
      cases c with
      | false =>
        rw [if_neg Bool.false_ne_true]
        exact w1 σ1 F2 H2 S2 s2
      | true =>
        rw [if_pos rfl]
        dsimp only at w1
        refine ⟨_, fun σ' H' z => ⟨m, Nat.lt_succ_self m, z⟩, E, F2, S2, L, e1, Ts, s2, h1, ?_⟩
        cases hb : exs C wf b e1 with
        | no => rw [hb] at w1; exact w1.elim
        | exc d e => rw [hb] at w1; exact w1
        | ok fl e =>
          rw [hb] at w1
          cases fl with
          | nx => exact fun σ' F' H' S' s' => ⟨F', S', e, s', w1⟩
          | rt o => exact w1
end
end Pd
set_option Elab.async false
set_option linter.all false
set_option maxRecDepth 100000
set_option maxHeartbeats 4000000
/-! Part 15: statements that change objects; for. -/
namespace Pd
open PySem PySem.Spec PyProof.Rows L2
section
variable {K : PySem.W.Frag} {xv : Xv} {W : WX} {C : Cl} {wf : Nat} {σ : L2.St} {H : Hp} {D : Ends}
theorem rt_setF {i : Nat} {f : Str} {e : Ex} (h : RdC K xv W (wrS (.setF i f e)) (ex C wf (.setF i f e)) D σ H) : tAsg (RdE K xv W (ev C e)) (gSub (tVar i) (tC (.str f)) rSetO) D σ H := by
  obtain ⟨E, F, S, L, env, Ts, s, hx, w⟩ := h
  refine ⟨E, F, S, L, env, Ts, s, ?_⟩
  simp only [ex] at w
  split at w
  · rename_i o e1 he
    rw [he]
    split at w
    · rename_i fs hg
      split at w
      · rename_i hc
        obtain ⟨c1, c2⟩ := hc
        intro v F' H' S' T s'
        obtain ⟨s1, dv⟩ := s'.frzT
        obtain ⟨fo, hfo⟩ := Option.isSome_iff_exists.mp c2
        obtain ⟨u, e1', e2⟩ := s1.sl i _ hg
        obtain ⟨a, kvs, Sf, j, y, A⟩ := rc_fld e2 hfo
        have hF : ∀ x, (F' x ∨ T x) → ¬ S' i x := fun x hx z => (s1.oS i x z).nf hx
        obtain ⟨S1, q1, q2, q3⟩ := A.set hF dv
        refine ⟨u, e1', a, A.ev, .inr (.inl ⟨sk kvs, .inr f, .inl A.at_, rfl, ?_, ?_⟩)⟩
        · have : (sk kvs).length = fs.length := by rw [List.length_map]; exact A.fs'.len
          rw [this]
          exact Nat.lt_trans c1 (by decide)
        · have s2 := s1.write (o' := .rc (setRec f (.imm o.dt) fs)) (S1 := S1) (H' := upd H' a (.dK (putK (sk kvs) (.inr f) v))) hg q1 (fun x hx => upd_ne fun e => hx (by rw [e]; exact q3)) (fun x hx => by
            by_cases e : x = a
            · rw [e, upd_same]; simp
            · rw [upd_ne e]; exact (s1.oS i x hx).tr) fun v' hv' => by rw [e1'] at hv'; cases hv'; exact ov_noA q2
          exact w σ _ _ _ s2
      · exact w.elim
    · exact w.elim
  · exact w.elim
  · rename_i d e1 he
    rw [he]
    exact w σ
  · exact w.elim
theorem atL {F : As} {v : V} {d : Dt} (h : DV K F H v d) {q : Key} (e : d.key = some (.inl q)) : v = kV q := by
  rw [key_inl e] at h
  exact bv_kD h.bv
theorem dic_write {E : En0} {S : Nat → As} {L : Nat → As} {env : En} {Ts : List Tp} {F : As} {i : Nat} {ds ds' : List (Dt × Dt)} {a : Addr} {o : HO} (s : Sx K E F H S L σ env Ts) (hg : getE env i = some (.p (.dic ds))) (hv : σ[i]? = some (some (.ref a))) (hS : ∀ x, S i x ↔ x = a)
    (hn : (∃ kvs, o = .dK kvs ∧ DKs K F H kvs ds') ∨ ∃ kvs, o = .dT kvs ∧ DTs K F H kvs ds') : ∃ S', Sx K E F (upd H a o) S' L σ (env.set i (some (.p (.dic ds')))) Ts := by
  have kF : ∀ x, F x → upd H a o x = H x := fun x hx => upd_ne fun e => (s.oS i x ((hS x).mpr e)).nf hx
  refine ⟨_, s.write (S1 := S i) hg (fun _ z => z) (fun x hx => upd_ne fun e => hx ((hS x).mpr e)) (fun x hx => ?_) fun v hv' => ?_⟩
  · rw [(hS x).mp hx, upd_same]; simp
  · rw [hv] at hv'
    cases hv'
    refine ⟨a, rfl, hS, ?_⟩
    rcases hn with ⟨kvs, rfl, hn⟩ | ⟨kvs, rfl, hn⟩
    · exact .inl ⟨kvs, upd_same, hn.mono (fun _ z => z) kF⟩
    · exact .inr ⟨kvs, upd_same, hn.mono (fun _ z => z) kF⟩
theorem dks_kOk {F : As} {k : Sum Key (List Key)} {ds : List (Dt × Dt)} {kvs : List (Key × V)} (h : DKs K F H kvs ds) (ok : kOk k ds = true) : (∃ q, k = .inl q) ∨ kvs = [] := by
  cases h with
  | nil => exact .inr rfl
  | cons h t =>
    simp only [kOk, key_kD] at ok
    cases k with
    | inl q => exact .inl ⟨q, rfl⟩
    | inr q => simp at ok
theorem dts_kOk {F : As} {k : Sum Key (List Key)} {ds : List (Dt × Dt)} {kvs : List (List Key × V)} (h : DTs K F H kvs ds) (ok : kOk k ds = true) : (∃ q, k = .inr q) ∨ kvs = [] := by
  cases h with
  | nil => exact .inr rfl
  | cons h t =>
    simp only [kOk, key_tkD] at ok
    cases k with
    | inr q => exact .inl ⟨q, rfl⟩
    | inl q => simp at ok
theorem rt_setI {i : Nat} {k e : Ex} (h : RdC K xv W (wrS (.setI i k e)) (ex C wf (.setI i k e)) D σ H) : tAsg (RdE K xv W (ev C e)) (gSub (tVar i) (RdE K xv W (ev C k)) rSetO) D σ H := by
  obtain ⟨E, F, S, L, env, Ts, s, hx, w⟩ := h
  refine ⟨E, F, S, L, env, Ts, s, ?_⟩
  simp only [ex] at w
  split at w
  · rename_i o e1 he
    rw [he]
    intro v F' H' S' T s'
    split at w
    · exact w.elim
    · rename_i hn
      obtain ⟨oi, hgi⟩ : ∃ oi, getE e1 i = some oi := by
        cases q : getE e1 i with
        | none => rw [q] at hn; simp at hn
        | some oi => exact ⟨oi, rfl⟩
      obtain ⟨vi, hvi, _⟩ := s'.sl i oi hgi
      refine ⟨vi, hvi, E, F', S', L, e1, _, s', ?_⟩
      split at w
      · rename_i kd e2 hk
        rw [hk]
        intro u F2 H2 S2 T2 s2
        have du : DV K F2 H2 u kd := (s2.tm _ List.mem_cons_self).2
        split at w
        · rename_i d xs hd hg
          obtain ⟨o1, rfl, rfl⟩ := dt?_p hd
          split at w
          · rename_i j
            split at w
            · rename_i hj
              have s3 := s2.pop
              obtain ⟨s4, dv⟩ := s3.frzT
              obtain ⟨v', ev', a, vs, rfl, sa, ha, hvs⟩ := s4.sl i _ hg
              rw [hvi] at ev'
              cases ev'
              cases du
              obtain ⟨s5, kF⟩ := lst_write s4 hg hvi sa (hvs.set j.toNat dv)
              have hl := hvs.len
              refine ⟨a, rfl, .inl ⟨vs, j, j.toNat, rfl, ha, ?_, w σ _ _ _ s5⟩⟩
              unfold ixN
              rw [if_pos hj.1, if_pos (by omega)]
            · exact w.elim
          · exact w.elim
        · rename_i d kvs hd hg
          obtain ⟨o1, rfl, rfl⟩ := dt?_p hd
          split at w
          · rename_i q hq
            split at w
            · rename_i hc
              obtain ⟨c1, c2⟩ := hc
              have s3 := s2.pop
              have du' : DV K (fun x => F2 x ∨ T x) H2 u kd := du.mono (fun _ z => .inl z) fun _ _ => rfl
              obtain ⟨s4, dv⟩ := s3.frzT
              obtain ⟨v', ev', a, rfl, sa, hdd⟩ := s4.sl i _ hg
              rw [hvi] at ev'
              cases ev'
              refine ⟨a, rfl, .inr ?_⟩
              have keyed : ∀ q', q = .inl q' → (∃ ks, (H2 a = some (.dK ks) ∨ (H2 a = some (.dT []) ∧ ks = [])) ∧ DKs K (fun x => F2 x ∨ T x) H2 ks kvs) → ∃ ks k, (H2 a = some (.dK ks) ∨ (H2 a = some (.dT []) ∧ ks = [])) ∧ u = kV k ∧ ks.length < sizeLine ∧ D.nx σ (upd H2 a (.dK (putK ks k v))) := fun q' eq ⟨ks, h1, h2⟩ => by
                subst eq
                refine ⟨ks, q', h1, atL du' hq, by rw [h2.len]; exact c1, ?_⟩
                have ek := key_inl hq
                have hp := h2.put (k := q') dv
                rw [← ek] at hp
                obtain ⟨S6, s6⟩ := dic_write (o := .dK (putK ks q' v)) s4 hg hvi sa (.inl ⟨_, rfl, hp⟩)
                exact w σ _ _ _ s6
              have tupled : ∀ q', q = .inr q' → (∃ ks, (H2 a = some (.dT ks) ∨ (H2 a = some (.dK []) ∧ ks = [])) ∧ DTs K (fun x => F2 x ∨ T x) H2 ks kvs) → ∃ ks k b, (H2 a = some (.dT ks) ∨ (H2 a = some (.dK []) ∧ ks = [])) ∧ u = .ref b ∧ b ≠ a ∧ H2 b = some (.tup (k.map kV)) ∧ ks.length < sizeLine ∧ D.nx σ (upd H2 a (.dT (putK ks k v))) := fun q' eq ⟨ks, h1, h2⟩ => by
                subst eq
                have ek := key_inr hq
                have du2 := du'
                rw [ek] at du2
                obtain ⟨b, rfl, hb⟩ := bv_tkD du2.bv
                refine ⟨ks, q', b, h1, rfl, fun eb => ?_, hb, by rw [h2.len]; exact c1, ?_⟩
                · subst eb
                  rcases h1 with z | z
                  · rw [z] at hb; cases hb
                  · rw [z.1] at hb; cases hb
                · have hp := h2.put (k := q') dv
                  rw [← ek] at hp
                  obtain ⟨S6, s6⟩ := dic_write (o := .dT (putK ks q' v)) s4 hg hvi sa (.inr ⟨_, rfl, hp⟩)
                  exact w σ _ _ _ s6
              rcases hdd with ⟨ks, hk1, hk2⟩ | ⟨ks, hk1, hk2⟩
              · cases q with
                | inl q' => exact .inl (keyed q' rfl ⟨ks, .inl hk1, hk2⟩)
                | inr q' =>
                  rcases dks_kOk hk2 c2 with ⟨_, z⟩ | z
                  · cases z
                  · subst z
                    cases hk2
                    exact .inr (tupled q' rfl ⟨[], .inr ⟨hk1, rfl⟩, .nil⟩)
              · cases q with
                | inr q' => exact .inr (tupled q' rfl ⟨ks, .inl hk1, hk2⟩)
                | inl q' =>
                  rcases dts_kOk hk2 c2 with ⟨_, z⟩ | z
                  · cases z
                  · subst z
                    cases hk2
                    exact .inl (keyed q' rfl ⟨[], .inr ⟨hk1, rfl⟩, .nil⟩)
            · exact w.elim
          · exact w.elim
        · exact w.elim
      · exact w.elim
      · rename_i d e2 hk
        rw [hk]
        exact Xw.pop (w σ)
      · exact w.elim
  · rename_i d e1 he
    rw [he]
    exact w σ
  · exact w.elim
theorem some_get {e1 : En} {i : Nat} (hn : ¬ (getE e1 i).isNone = true) : ∃ oi, getE e1 i = some oi := by
  cases q : getE e1 i with
  | none => rw [q] at hn; simp at hn
  | some oi => exact ⟨oi, rfl⟩
theorem putL_some {env e3 : En} {i : Nat} {u : Int} {d : Dt} (h : putL env i u d = some e3) : ∃ xs, getE env i = some (.p (.lst xs)) ∧ (0 ≤ u ∧ u < xs.length) ∧ e3 = env.set i (some (.p (.lst (xs.set u.toNat d)))) := by
  unfold putL at h
  split at h
  · rename_i xs hx
    split at h
    · rename_i hc
      cases h
      exact ⟨xs, hx, hc, rfl⟩
    · cases h
  · cases h
theorem rt_asgS {i j : Nat} {k l e : Ex} (h : RdC K xv W (wrS (.asgS i k j l e)) (ex C wf (.asgS i k j l e)) D σ H) : tAsg (RdE K xv W (ev C e)) (gTup K 2 (gCons (gSub (tVar i) (RdE K xv W (ev C k)) rSetO) (gCons (gSub (tVar j) (RdE K xv W (ev C l)) rSetO) gNil))) D σ H := by
  obtain ⟨E, F, S, L, env, Ts, s, hx, w⟩ := h
  refine ⟨E, F, S, L, env, Ts, s, ?_⟩
  simp only [ex] at w
  split at w
  · rename_i a b e1 he
    rw [he]
    intro v F' H' S' T s'
    have dv : DV K F' H' v (.tup [a, b]) := (s'.tm _ List.mem_cons_self).2
    cases dv with
    | @tup p vs _ hst hvs =>
    cases hvs with
    | @cons v1 _ _ _ d1 hvs =>
    cases hvs with
    | @cons v2 _ _ _ d2 hvs =>
    cases hvs with
    | nil =>
    refine ⟨p, [v1, v2], rfl, hst.sq, rfl, v1, [v2], rfl, ?_⟩
    have s0 := (s'.pop.pushI d1).pushI d2
    split at w
    · exact w.elim
    · rename_i hn
      obtain ⟨oi, hgi⟩ := some_get hn
      obtain ⟨vi, hvi, _⟩ := s0.sl i oi hgi
      refine ⟨vi, hvi, E, F', S', L, e1, _, s0, ?_⟩
      split at w
      · rename_i u e2 hk
        rw [hk]
        intro y F2 H2 S2 T2 s2
        have du : DV K F2 H2 y (.int u) := (s2.tm _ List.mem_cons_self).2
        cases du
        have d1' : DV K F2 H2 v1 a := (s2.tm _ (List.mem_cons_of_mem _ (List.mem_cons_of_mem _ List.mem_cons_self))).2
        split at w
        · rename_i e3 hp
          obtain ⟨xs, hg, hj, rfl⟩ := putL_some hp
          have s3 := s2.pop
          obtain ⟨v', ev', a0, vs, rfl, sa, ha, hvs⟩ := s3.sl i _ hg
          rw [hvi] at ev'
          cases ev'
          obtain ⟨s5, kF⟩ := lst_write s3 hg hvi sa (hvs.set u.toNat d1')
          have hl := hvs.len
          refine ⟨a0, rfl, .inl ⟨vs, u, u.toNat, rfl, ha, ?_, v2, [], rfl, ?_⟩⟩
          · unfold ixN
            rw [if_pos hj.1, if_pos (by omega)]
          split at w
          · exact w.elim
          · rename_i hn2
            obtain ⟨oj, hgj⟩ := some_get hn2
            obtain ⟨vj, hvj, _⟩ := s5.sl j oj hgj
            refine ⟨vj, hvj, E, _, _, L, _, _, s5, ?_⟩
            split at w
            · rename_i u2 e4 hk2
              rw [hk2]
              intro y2 F6 H6 S6 T6 s6
              have du2 : DV K F6 H6 y2 (.int u2) := (s6.tm _ List.mem_cons_self).2
              cases du2
              have d2' : DV K F6 H6 v2 b := (s6.tm _ (List.mem_cons_of_mem _ List.mem_cons_self)).2
              split at w
              · rename_i e5 hp2
                obtain ⟨xs2, hg2, hj2, rfl⟩ := putL_some hp2
                have s7 := s6.pop
                obtain ⟨v'', ev'', a2, vs2, rfl, sa2, ha2, hvs2⟩ := s7.sl j _ hg2
                rw [hvj] at ev''
                cases ev''
                obtain ⟨s8, kF2⟩ := lst_write s7 hg2 hvj sa2 (hvs2.set u2.toNat d2')
                have hl2 := hvs2.len
                refine ⟨a2, rfl, .inl ⟨vs2, u2, u2.toNat, rfl, ha2, ?_, rfl, w σ _ _ _ s8.pop.pop⟩⟩
                unfold ixN
                rw [if_pos hj2.1, if_pos (by omega)]
              · exact w.elim
            · exact w.elim
            · rename_i d e4 hk2
              rw [hk2]
              exact Xw.pop (Xw.pop (w σ))
            · exact w.elim
        · exact w.elim
      · exact w.elim
      · rename_i d e2 hk
        rw [hk]
        exact Xw.pop (Xw.pop (w σ))
      · exact w.elim
  · exact w.elim
  · rename_i d e1 he
    rw [he]
    exact w σ
  · exact w.elim
def rAug (q : Pr) : TIp := fun x y H Q => ∃ a b c, x = .int a ∧ y = .int b ∧ q.sem [.int a, .int b] = some (.imm (.int c)) ∧ Q (.int c) H
theorem rt_aug {i : Nat} {q : Pr} {e : Ex} (h : RdC K xv W (wrS (.aug i q e)) (ex C wf (.aug i q e)) D σ H) : tAug i (RdE K xv W (ev C e)) (rAug q) D σ H := by
  obtain ⟨E, F, S, L, env, Ts, s, hx, w⟩ := h
  simp only [ex] at w
  split at w
  · rename_i a hg
    obtain ⟨v, hv, ov⟩ := s.sl i _ hg
    have dv : DV K F H v (.int a) := ov.2
    cases dv
    refine ⟨_, hv, E, F, S, L, env, Ts, s, ?_⟩
    split at w
    · rename_i b e1 he
      rw [he]
      intro y F' H' S' T s'
      have dy : DV K F' H' y (.int b) := (s'.tm _ List.mem_cons_self).2
      cases dy
      split at w
      · rename_i c hc
        obtain ⟨S2, s2⟩ := (s'.pop.pushI (.int c)).store' (i := i) fun p hp z => hx p hp (by simp [wrS, z])
        exact ⟨a, b, c, rfl, rfl, hc, w _ F' H' S2 s2⟩
      · exact w.elim
    · exact w.elim
    · rename_i d e1 he
      rw [he]
      exact w σ
    · exact w.elim
  · exact w.elim
/-- the slots' values -/
def slF (σ : L2.St) (is : List Nat) : List (Nat × V) := is.filterMap fun i => match σ[i]? with | some (some v) => some (i, v) | _ => none
theorem slF_mem {i : Nat} {v : V} {is : List Nat} (hi : i ∈ is) (e : σ[i]? = some (some v)) : (i, v) ∈ slF σ is := List.mem_filterMap.mpr ⟨i, hi, by rw [e]⟩
theorem slF_of {p : Nat × V} {is : List Nat} (h : p ∈ slF σ is) : p.1 ∈ is ∧ σ[p.1]? = some (some p.2) := by
  obtain ⟨i, hi, e⟩ := List.mem_filterMap.mp h
  split at e
  · rename_i v hv
    cases e
    exact ⟨hi, hv⟩
  · cases e
theorem rt_for {tg : Tg} {it : Ir} {b : Sms} (hd : ∀ i ∈ slotI it, i ∉ tgSl tg ++ wrSs b) (h : RdC K xv W (wrS (.fors tg it b)) (ex C wf (.fors tg it b)) D σ H) : tFor (RdI K xv W C it) (gOf K tg) (RdC K xv W (wrSs b) (exs C wf b)) D σ H := by
  obtain ⟨E, F, S, L, env, Ts, s, hx, w⟩ := h
  refine ⟨E, F, S, L, env, Ts, s, ?_⟩
  simp only [ex] at w
  generalize hst : (fun d e => match tgSet tg d e with | some e3 => exs C wf b e3 | none => Rs.no) = st at w
  split at w
  · rename_i ds e1 he
    rw [he]
    intro J F' H' S' Us s' sl hJ
    split at w
    · rename_i e2 hlk
      obtain ⟨S1, L1, lk⟩ := lks_ir s' sl hlk
      have hJ := hJ (fun x => ∃ i, S1 i x) fun x ⟨j, z⟩ => ⟨j, fun hj => lk.emp j hj x z, lk.sub j x z⟩
      let EB := snapE H' F' S1 (E.fix ++ slF σ (slotI it))
      have b0 : Sx K EB F' H' S1 L1 σ e2 [] := lk.s1.snap fun p hp => by
        rcases List.mem_append.mp hp with z | z
        · exact lk.s1.fx p z
        · exact (slF_of z).2
      have bx : ∀ p ∈ EB.fix, p.1 ∉ tgSl tg ++ wrSs b := fun p hp => by
        rcases List.mem_append.mp hp with z | z
        · exact hx p z
        · exact hd p.1 (slF_of z).1
      -- out of the loop
      have out : ∀ {F2 : As} {H2 : Hp} {S2 : Nat → As} {σ2 : L2.St} {env2 : En} {Vs : List Tp}, Sx K EB F2 H2 S2 L1 σ2 env2 Vs → ∃ S3, Sx K E F2 H2 S3 L σ2 (backE e1 env2 (slotI it)) (Vs ++ Ts) := fun {F2 H2 S2 σ2 env2 Vs} s2 => by
        have hag : ∀ x, H' x ≠ none → (∀ j, ¬ S1 j x) → H2 x = H' x := fun x hx hn => s2.ag x hx fun ⟨j, z⟩ => hn j z
        have q := lk.s1.back s2 fun p hp => List.mem_append_left _ hp
        obtain ⟨S3, s3⟩ := lk.back q (fun i hi => by
          obtain ⟨o, d, g, _⟩ := sl i hi
          obtain ⟨v, ev, _⟩ := s'.sl i o g
          rw [ev]
          exact s2.fx (i, v) (List.mem_append_right _ (slF_mem hi ev))) hag s2.ff
        exact ⟨S3, s3.sub ((List.Sublist.refl Vs).append (List.sublist_append_right Us Ts))⟩
      refine ⟨fun i m σ2 H2 => m = ds.length - i ∧ i ≤ ds.length ∧ ∃ F2 S2 env2, Sx K EB F2 H2 S2 L1 σ2 env2 [] ∧ Wp (forGo st (ds.drop i) env2) (fun fl e => match fl with
        | .nx => ∀ σ' F' H' S', Sx K E F' H' S' L σ' (backE e1 e (slotI it)) Ts → D.nx σ' H'
        | .rt o => ∀ σ' v F' H' S' T, Sx K E F' H' S' L σ' (backE e1 e (slotI it)) (⟨v, o, T⟩ :: Ts) → D.rt v H') (fun d e => ∀ σ', Xw K xv W E L σ' Ts d (backE e1 e (slotI it))),
        ⟨ds.length, by simp, Nat.zero_le _, F', S1, e2, b0, ?_⟩, ?_⟩
      · rw [List.drop_zero]
        cases hf : forGo st ds e2 with
        | no => rw [hf] at w; exact w.elim
        | exc d e => rw [hf] at w; exact w
        | ok fl e =>
          rw [hf] at w
          cases fl with
          | nx => exact w
          | rt o => exact w
      · rintro i m σ2 H2 ⟨rfl, hi, F2, S2, env2, b2, w2⟩
        by_cases hlt : i < ds.length
        · refine .inr ?_
          obtain ⟨d, hd⟩ : ∃ d, ds[i]? = some d := ⟨ds[i], by simp [hlt]⟩
          obtain ⟨g, y⟩ := hJ.go i F2 H2 d b2.ff b2.ag (fun x hx => (b2.fr x hx).1) hd
          refine ⟨g, _, fun σ' H' z => ⟨ds.length - (i + 1), by omega, z⟩, fun x H3 hy => ?_⟩
          obtain ⟨F3, c1, c2, c3, dv⟩ := y x H3 hy
          have b3 := b2.change c1 c2 c3
          have hdr : ds.drop i = d :: ds.drop (i + 1) := by
            rw [List.drop_eq_getElem_cons hlt]
            congr 1
            have := List.getElem?_eq_getElem hlt
            rw [this] at hd
            exact Option.some.inj hd
          rw [hdr] at w2
          unfold forGo at w2
          have hsd := congrFun (congrFun hst d) env2
          rw [← hsd] at w2
          try dsimp only at w2
          cases ht : tgSet tg d env2 with
          | none => rw [ht] at w2; exact w2.elim
          | some e3 =>
            rw [ht] at w2
            dsimp only at w2
            refine gOf_mono (fun σ3 H4 ⟨eH, S4, s4⟩ => ?_) (tg_ok' b3 dv ht fun p hp z => bx p hp (List.mem_append_left _ z))
            subst eH
            refine ⟨EB, F3, S4, L1, e3, [], s4, fun p hp z => bx p hp (List.mem_append_right _ z), ?_⟩
            cases hb : exs C wf b e3 with
            | no => rw [hb] at w2; exact w2.elim
            | exc dd e =>
              rw [hb] at w2
              intro σ' Fx Hx Sx' c od sx hxv
              obtain ⟨S5, s5⟩ := out sx
              exact w2 σ' Fx Hx S5 c od s5 hxv
            | ok fl e =>
              rw [hb] at w2
              cases fl with
              | nx => exact fun σ' F' H' S' s' => ⟨rfl, by omega, F', S', e, s', w2⟩
              | rt o =>
                intro σ' v Fx Hx Sx' T sx
                obtain ⟨S5, s5⟩ := out sx
                exact w2 σ' v Fx Hx S5 T s5
        · have ei : i = ds.length := by omega
          subst ei
          refine .inl ⟨hJ.stop F2 H2 b2.ff b2.ag, ?_⟩
          rw [List.drop_length] at w2
          simp only [forGo] at w2
          obtain ⟨S5, s5⟩ := out b2
          exact w2 σ2 F2 H2 S5 s5
    · exact w.elim
  · rename_i d e1 he
    rw [he]
    exact w σ
  · exact w.elim
end
end Pd
set_option Elab.async false
set_option linter.all false
set_option maxRecDepth 100000
set_option maxHeartbeats 4000000
/-! Part 16: defs. Calls are looked at where no object is being shown (repr). -/
namespace Pd
open PySem PySem.Spec PyProof.Rows L2
structure RoomG (k : Nat) (A : Around) : Prop where
  r : Room k A
  g : A.guards = some []
theorem RoomG.mono {j k : Nat} {A : Around} (r : RoomG k A) (h : j ≤ k) : RoomG j A := ⟨r.r.mono h, r.g⟩
/-- what a def keeps, called where nothing is being shown -/
structure FnG (P : Program) (w : World) (K : PySem.W.Frag) (mg : Str → Option Value) (base : Heap) (k : Nat) (f : Addr) (fd : FuncData) (ps : List Str) (sp : Sp) : Prop where
  len : ∀ vs H Q E, sp vs H Q E → vs.length = ps.length
  run : ∀ {A : Around} {outer : List Env} {s : Shared} {H : Hp} {args : Args} {us : List Value} {vs : List V} {Q : VK} {E : XK}, RoomG k A → Env0 P w K mg base A outer s H → BindsTo s fd args (ps.zip us) → Vals vs us → sp vs H Q E →
    codeAny (model P w) A (.call (.ref f) args) (CR (L2.CX P w) outer P w H s Q E) s
section
variable {X : Cx} {k : Nat} {f : Addr} {fd : FuncData} {ps : List Str} {sp : Sp} {x : Str} {p pos : Pos} {e : PySem.Expr} {es : List PySem.Expr} {t : TA} {W : WX}
theorem pe_callG (F : FnG X.prog X.w X.K X.mg X.base k f fd ps sp) (hr : RoomG k X.A) (tk : Takes X W) (hg : Gl X x) (hm : X.mg x = some (.ref f)) (hk : PySem.W.keepIn X.K (.ref f) = true) (hb : Binds X.K fd ps []) (ha : PA X (e :: es) t)
    (hdb : (x == ("__debug__" : Str)) = false) (he : starEach (e :: es) X.env = (false, eval e X.env) :: starEach es X.env) (hpl : (backTo pos (starEach es X.env)).any (·.1) = false) : PE X (.Call (.Name x p) (e :: es) [] pos) (tCallS sp (WE W) t) := by
  refine ⟨fun pins s σ H Q I h => ?_⟩
  refine wpAny_Call_Name_kw (ld_glob I hg hm ?_ hdb)
  refine PySem.W.callWith_K (h₀ := X.base) I.ok.mod.kin hk (thn (ha.run pos pins s σ H _ I h) fun us s1 ⟨vs, H1, I1, r, q⟩ => ⟨I1.kIn, ?_⟩) he hpl
  have b := hb s1 us I1.kIn (by rw [List.append_nil, ← r.length]; exact F.len _ _ _ _ q)
  rw [List.append_nil] at b
  refine wpAny_call (codeAny_mono (F.run hr I1.env0 b r q) fun res s' hq => ?_)
  match res, hq with
  | .error e, hq => exact passAt tk σ pins H1 s1 e s' I1 hq
  | .ok (.ret u), hq => exact I1.after hq
  | .ok .next, hq => exact False.elim hq
  | .ok .brk, hq => exact False.elim hq
  | .ok .cont, hq => exact False.elim hq
end
section
variable {P : Program} {w : World} {K : PySem.W.Frag} {mg : Str → Option Value} {base : Heap}
theorem Fun.okG {x qual : Str} {st : Stmt} {f : Addr} {fd : FuncData} {N ps : List Str} {k : Nat} {sp : Sp} (F : Fun K x qual st f fd) (S : FnScope N ps (defScope st)) (len : ∀ vs H Q E, sp vs H Q E → vs.length = ps.length)
    (hbody : ∀ (cdv : Value) (A : Around) (outer : List Env) (s : Shared) (H : Hp) (vs : List V) (Q : VK) (E : XK), RoomG k (A.deeper (envOfC qual (defScope st) s.heap.objs.size f cdv)) → sp vs H Q E →
      ∃ t, PSs (cxOf (L2.CX P w) P w K mg base N qual (defScope st) f cdv A outer s H E) (defBody st) t ∧ t { nx := fun _ H' => Q .non H', rt := Q } (L2.start N vs) H) : FnG P w K mg base (k + 1) f fd ps sp := by
  obtain ⟨oc, od, kV, doc, pm, an, cdv, ct, osl, rfl, lk, hcd⟩ := F.ex
  refine ⟨len, fun {A outer s H args us vs Q E} hr e0 hb r hsp => ?_⟩
  have hl := len _ _ _ _ hsp
  have KX : K.In s.heap := e0.mod.kin.keeps fun b o e => (e0.bs b o e).1
  have lim : s.heap.NoLimit := e0.mod.nolimit.keeps fun b o e => (e0.bs b o e).1
  refine codeAny_call_function hr.r.depth (KX _ _ lk) rfl S.co S.gen rfl (PySem.W.codeRec_of KX hcd) (hb _ _ _ _ ?_)
  refine wpAny_newFunctionEnv_cells S.kind (fun ⟨n, v⟩ hy => (S.par n (List.of_mem_zip hy).1).imp id fun q => ⟨q, PySem.W.cellsFrom_some _ _ _ (.inl q)⟩) fun env he s1 xc => ?_
  subst he
  refine ⟨lim.keeps xc.toInCall.keep, codeAny_func ?_⟩
  obtain ⟨t, ht, hq⟩ := hbody cdv A outer s H vs Q E ⟨hr.r.deeper _, hr.g⟩ hsp
  refine wpAny_mono (ht.run [] s1 (L2.start N vs) H _ (inv_start S hr.r.hd e0 hl r xc) hq) (fun fl s' hs => ?_) fun e s' hs => hs
  match fl, hs with
  | .ret u, ⟨v, σ', H', J, rv, q⟩ => exact ⟨v, H', J.os, J.bare, J.base, J.hok, rv, q⟩
  | .next, ⟨σ', H', J, q⟩ => exact ⟨V.non, H', J.os, J.bare, J.base, J.hok, (rfl : RelV V.non Value.none), q⟩
  | .brk, ⟨_, _, _, q⟩ => exact False.elim q
  | .cont, ⟨_, _, _, q⟩ => exact False.elim q
end

/-! ### a def by its data -/
section
variable {K : PySem.W.Frag} {E : En0} {F F' : As} {H H' : Hp} {S S' : Nat → As} {L L' : Nat → As} {σ : L2.St} {env : En} {Ts : List Tp}
theorem Sx.startN {n : Nat} {fix : List (Nat × V)} (h : Sx K E F H S L σ env Ts) (hf : ∀ p ∈ fix, σ[p.1]? = some (some p.2)) : Sx K ⟨E.H, E.F, E.P, fix⟩ F H S L (σ ++ List.replicate n none) (env ++ List.replicate n none) Ts := by
  refine ⟨by simp [h.len], fun i o e => ?_, h.tm, h.dS, h.dT, h.dST, fun i x q => ⟨(h.oS i x q).tr, (h.oS i x q).nf, (h.oS i x q).nl, (h.oS i x q).or⟩, fun t ht x q => ⟨(h.oT t ht x q).tr, (h.oT t ht x q).nf, (h.oT t ht x q).nl, (h.oT t ht x q).or⟩, h.fr, h.ff, h.lt, h.ag, h.tk, fun p hp => ?_⟩
  · have e0 := getE_some e
    by_cases hi : i < env.length
    · rw [List.getElem?_append_left hi] at e0
      obtain ⟨v, e1, e2⟩ := h.sl i o (getE_of e0)
      exact ⟨v, by rw [List.getElem?_append_left (by rw [← h.len]; exact hi)]; exact e1, e2⟩
    · rw [List.getElem?_append_right (by omega), List.getElem?_replicate] at e0
      split at e0 <;> cases e0
  · have e := hf p hp
    rw [List.getElem?_append_left (List.getElem?_eq_some_iff.mp e).1]
    exact e
theorem outsOf_len (env : En) : ∀ (ms : List Md) (i : Nat), (outsOf env ms i).length = ms.length
  | [], _ => rfl
  | .mu :: ms, i => by simp [outsOf, outsOf_len env ms]
  | .sh :: ms, i => by simp [outsOf, outsOf_len env ms]
theorem outsOf_get {env : En} {o : Ow} : ∀ {ms : List Md} {i k : Nat}, (outsOf env ms i)[k]? = some (some o) → ms[k]? = some Md.mu ∧ getE env (i + k) = some o
  | [], i, k, h => by simp [outsOf] at h
  | .mu :: ms, i, 0, h => by
    simp [outsOf] at h
    refine ⟨rfl, ?_⟩
    cases q : env[i]? with
    | none => rw [q] at h; cases h
    | some z =>
      rw [q] at h
      exact getE_of (by rw [Nat.add_zero, q]; exact congrArg some h)
  | .sh :: ms, i, 0, h => by simp [outsOf] at h
  | .mu :: ms, i, k + 1, h => by
    obtain ⟨h1, h2⟩ := outsOf_get (ms := ms) (i := i + 1) (k := k) (by simpa [outsOf] using h)
    exact ⟨by simpa using h1, by rw [← h2]; congr 1; omega⟩
  | .sh :: ms, i, k + 1, h => by
    obtain ⟨h1, h2⟩ := outsOf_get (ms := ms) (i := i + 1) (k := k) (by simpa [outsOf] using h)
    exact ⟨by simpa using h1, by rw [← h2]; congr 1; omega⟩
theorem Sx.cut {ms : List Md} {vs : List V} (h : Sx K E F H S L σ env Ts) (hl : ms.length = vs.length) (hf : ∀ (k : Nat) (v : V), ms[k]? = some Md.mu → vs[k]? = some v → σ[k]? = some (some v)) :
    Sx K ⟨E.H, E.F, E.P, []⟩ F H (fun k x => ms[k]? = some Md.mu ∧ S k x) L (vs.map some) (outsOf env ms 0) Ts := by
  refine ⟨by simp [outsOf_len, hl], fun k o e => ?_, h.tm, fun i j x a b => h.dS i j x a.2 b.2, h.dT, fun t ht i x a b => h.dST t ht i x a b.2, fun i x q => ⟨(h.oS i x q.2).tr, (h.oS i x q.2).nf, (h.oS i x q.2).nl, (h.oS i x q.2).or⟩, fun t ht x q => ⟨(h.oT t ht x q).tr, (h.oT t ht x q).nf, (h.oT t ht x q).nl, (h.oT t ht x q).or⟩, h.fr, h.ff, h.lt, h.ag, h.tk, fun _ hp => (nomatch hp)⟩
  obtain ⟨h1, h2⟩ := outsOf_get (getE_some e)
  rw [Nat.zero_add] at h2
  obtain ⟨v, e1, e2⟩ := h.sl k o h2
  have hk : k < vs.length := by rw [← hl]; exact (List.getElem?_eq_some_iff.mp h1).1
  have ev : vs[k]? = some vs[k] := List.getElem?_eq_getElem hk
  have := hf k _ h1 ev
  rw [this] at e1
  cases e1
  refine ⟨vs[k], by rw [List.getElem?_map, ev]; rfl, ?_⟩
  have es : (fun x => ms[k]? = some Md.mu ∧ S k x) = S k := by
    funext x
    exact propext ⟨fun z => z.2, fun z => ⟨h1, z⟩⟩
  rw [es]
  exact e2
end
/-- the parameters that must keep their object -/
def muFix (ms : List Md) (vs : List V) : List (Nat × V) := (List.range ms.length).filterMap fun k => match ms[k]?, vs[k]? with | some Md.mu, some v => some (k, v) | _, _ => none
theorem muFix_of {ms : List Md} {vs : List V} {p : Nat × V} (h : p ∈ muFix ms vs) : ms[p.1]? = some Md.mu ∧ vs[p.1]? = some p.2 := by
  obtain ⟨k, _, e⟩ := List.mem_filterMap.mp h
  split at e
  · rename_i h1 h2
    cases e
    exact ⟨h1, h2⟩
  · cases e
theorem muFix_mem {ms : List Md} {vs : List V} {k : Nat} {v : V} (h1 : ms[k]? = some Md.mu) (h2 : vs[k]? = some v) : (k, v) ∈ muFix ms vs :=
  List.mem_filterMap.mpr ⟨k, List.mem_range.mpr (List.getElem?_eq_some_iff.mp h1).1, by rw [h1, h2]⟩
/-- no stored slot is a lent parameter's -/
def muOk (ms : List Md) (ws : List Nat) : Bool := ws.all fun k => match ms[k]? with | some Md.mu => false | _ => true
theorem body_of {K : PySem.W.Frag} {xv : Xv} {C : Cl} {wf : Nat} {g : Fn} {N : List Str} {vs : List V} {H : Hp} {Q : VK} {X : XK} (hN : N.length = g.ns) (hm : g.md.length = g.np) (hle : g.np ≤ g.ns) (hw : muOk g.md (wrSs g.body) = true)
    (h : spF K xv g.np (runFn C wf g) vs H Q X) : RdC K xv (fun c od _ H' => X c od H') (wrSs g.body) (exs C wf g.body) { nx := fun _ H' => Q .non H', rt := Q } (L2.start N vs) H := by
  obtain ⟨hv, F, Sc, as, s, w⟩ := h
  have hal : as.length = g.np := by
    have := s.len
    simp at this
    omega
  unfold runFn at w
  rw [if_pos hal] at w
  have s1 := s.startN (n := g.ns - g.np) (fix := muFix g.md vs) fun p hp => by
    obtain ⟨_, h2⟩ := muFix_of hp
    rw [List.getElem?_map, h2]; rfl
  have e1 : vs.map some ++ List.replicate (g.ns - g.np) none = L2.start N vs := by
    unfold L2.start
    rw [hN, hv]
  rw [e1] at s1
  refine ⟨_, F, Sc, _, _, [], s1, fun p hp z => ?_, ?_⟩
  · obtain ⟨h1, _⟩ := muFix_of hp
    have := List.all_eq_true.mp hw p.1 z
    rw [h1] at this
    cases this
  · have cut : ∀ {F' : As} {H' : Hp} {S' : Nat → As} {σ' : L2.St} {env' : En} {Ts : List Tp}, Sx K (snapE H F Sc (muFix g.md vs)) F' H' S' (fun _ => noA) σ' env' Ts → ∃ S2, Sx K (snapE H F Sc []) F' H' S2 (fun _ => noA) (vs.map some) (outsOf env' g.md 0) Ts := fun {F' H' S' σ' env' Ts} s' =>
      ⟨_, s'.cut (by rw [hm, hv]) fun k v h1 h2 => s'.fx (k, v) (muFix_mem h1 h2)⟩
    cases hb : exs C wf g.body (as.map some ++ List.replicate (g.ns - g.np) none) with
    | no => rw [hb] at w; exact w.elim
    | exc d e =>
      rw [hb] at w
      intro σ' F' H' S' c od s' hxv
      obtain ⟨S2, s2⟩ := cut s'
      exact w c od F' H' S2 s2 hxv
    | ok fl e =>
      rw [hb] at w
      cases fl with
      | nx =>
        intro σ' F' H' S' s'
        obtain ⟨S2, s2⟩ := cut s'
        exact w .non F' H' S2 _ (s2.pushI .non)
      | rt o =>
        intro σ' v F' H' S' T s'
        obtain ⟨S2, s2⟩ := cut s'
        exact w v F' H' S2 T s2
end Pd
set_option Elab.async false
set_option linter.all false
set_option maxRecDepth 100000
set_option maxHeartbeats 4000000
/-! Part 17: from the text to the language: expressions. -/
namespace Pd
open PySem PySem.Spec PyProof.Rows L2
/-- what is known of a place in the text -/
structure Ct where
  N : List Str
  sc : Scope
  fn : Str → Bool
  rc : List Nat
  gl : List (Str × Nat)
  cs : List (Str × Dt)
def ixS (x : Str) : List Str → Nat → Option Nat
  | [], _ => none
  | y :: r, i => if y = x then some i else ixS x r (i + 1)
def Ct.slot (c : Ct) (x : Str) : Option Nat := match c.sc.names.lookup x with
  | some .local => ixS x c.N 0
  | some .cell => ixS x c.N 0
  | some .free => ixS x c.N 0
  | _ => none
def Ct.sto (c : Ct) (x : Str) : Option Nat := match c.sc.names.lookup x with
  | some .local => ixS x c.N 0
  | some .cell => if c.fn x then ixS x c.N 0 else none
  | _ => none
def Ct.isGl (c : Ct) (x : Str) : Bool := match c.sc.names.lookup x with
  | some .globalImplicit => true
  | _ => false
/-- the built-in names -/
inductive Bt where
  | len | abs | max | min | int | str | repr | tuple | list | sorted | sum | any | all | range | enumerate | zip
  deriving DecidableEq
def Bt.nm : Bt → Str
  | .len => "len" | .abs => "abs" | .max => "max" | .min => "min" | .int => "int" | .str => "str" | .repr => "repr" | .tuple => "tuple" | .list => "list" | .sorted => "sorted" | .sum => "sum" | .any => "any" | .all => "all" | .range => "range" | .enumerate => "enumerate" | .zip => "zip"
def Bt.every : List Bt := [.len, .int, .range, .tuple, .list, .repr, .max, .min, .enumerate, .sorted, .sum, .all, .any, .abs, .zip, .str]
def bOf (x : Str) : Option Bt := Bt.every.find? fun b => decide (b.nm = x)
theorem bOf_nm {x : Str} {b : Bt} (h : bOf x = some b) : x = b.nm := by
  have := List.find?_some h
  exact (of_decide_eq_true this).symm
/-- how a pure built-in is called with so many arguments -/
def Bt.pr : Bt → Nat → Option Pr
  | .len, 1 => some .len
  | .abs, 1 => some .abs
  | .max, 2 => some .max2
  | .min, 2 => some .min2
  | .max, 1 => some .maxL
  | .min, 1 => some .minL
  | .int, 1 => some .int
  | .str, 1 => some .str
  | .repr, 1 => some .repr
  | .tuple, 1 => some .tuple
  | .list, 1 => some .list
  | .sorted, 1 => some .sorted
  | .sum, 1 => some .sum
  | .any, 1 => some .any
  | .all, 1 => some .all
  | _, _ => none
def noStar : PySem.Expr → Bool
  | .Starred _ _ => false
  | _ => true
def binP : Operator → Option Pr
  | .Add => some .add
  | .Sub => some .sub
  | .Mult => some .mul
  | .FloorDiv => some .fdiv
  | .Mod => some .mod
  | .Pow => some .pow
  | _ => none
def cmpP : CmpOp → Option Pr
  | .Eq => some .eq
  | .NotEq => some .ne
  | .Lt => some .lt
  | .LtE => some .le
  | .Gt => some .gt
  | .GtE => some .ge
  | .In => some .isIn
  | .NotIn => some .notIn
  | _ => none
def isSet : PySem.Expr → Bool
  | .Set _ _ _ => true
  | _ => false
def isSlice : PySem.Expr → Bool
  | .Slice _ _ _ _ => true
  | _ => false

/-! ### the places -/
theorem ixS_ok {x : Str} : ∀ {N : List Str} {k i : Nat}, ixS x N k = some i → k ≤ i ∧ N[i - k]? = some x
  | [], k, i, h => by simp [ixS] at h
  | y :: r, k, i, h => by
    unfold ixS at h
    split at h
    · rename_i e
      cases h
      exact ⟨Nat.le_refl _, by simp [e]⟩
    · obtain ⟨h1, h2⟩ := ixS_ok h
      refine ⟨by omega, ?_⟩
      have : i - k = (i - (k + 1)) + 1 := by omega
      rw [this]
      simpa using h2
structure OkX (X : Cx) (c : Ct) (xv : Xv) (W : WX) (C : Cl) (n : Nat) : Prop where
  N : X.N = c.N
  nd : c.N.Nodup
  nn : ∀ x ∈ c.N, (x == ("__debug__" : Str)) = false ∧ (x == ("__classdict__" : Str)) = false
  sc : X.env.scope = c.sc
  kind : c.sc.kind = .function
  fn : X.fn = c.fn
  calm : X.calm = true
  room : RoomG n X.A
  tk : Takes X W
  bt : ∀ b : Bt, X.mg b.nm = none
  gl : ∀ x f, c.gl.lookup x = some f → (x == ("__debug__" : Str)) = false ∧ ∃ a fd ps, X.mg x = some (.ref a) ∧ PySem.W.keepIn X.K (.ref a) = true ∧ FnG X.prog X.w X.K X.mg X.base n a fd ps (spF X.K xv (C.md f).length (C.fn f)) ∧ Binds X.K fd ps []
  cs : ∀ x d, c.cs.lookup x = some d → (x == ("__debug__" : Str)) = false ∧ ∃ u v, X.mg x = some u ∧ RelV v u ∧ ∀ F H, DV X.K F H v d
section
variable {X : Cx} {c : Ct} {xv : Xv} {W : WX} {C : Cl} {n : Nat}
theorem OkX.slot (o : OkX X c xv W C n) {x : Str} {i : Nat} {pos : Pos} (h : c.slot x = some i) : PE X (.Name x pos) (tVar i) := by
  have q : ixS x c.N 0 = some i ∧ Vis X.env.scope x := by
    unfold Ct.slot at h
    rw [← o.sc] at h
    split at h
    · rename_i e; exact ⟨h, .inl e⟩
    · rename_i e; exact ⟨h, .inr (.inl e)⟩
    · rename_i e; exact ⟨h, .inr (.inr e)⟩
    · cases h
  obtain ⟨_, h2⟩ := ixS_ok q.1
  have hm := List.mem_of_getElem? h2
  exact pe_var (by rw [o.N]; exact h2) q.2 (o.nn x hm).1 (o.nn x hm).2
theorem OkX.sto (o : OkX X c xv W C n) {x : Str} {i : Nat} (h : c.sto x = some i) : X.N[i]? = some x ∧ Loc X.env.scope x ∧ (X.fn x = true ∨ X.env.scope.names.lookup x = some .local) := by
  unfold Ct.sto at h
  rw [← o.sc] at h
  have fin : ixS x c.N 0 = some i → X.N[i]? = some x := fun h => by
    obtain ⟨_, h2⟩ := ixS_ok h
    rw [o.N]; exact h2
  split at h
  · rename_i e; exact ⟨fin h, .inl e, .inr e⟩
  · rename_i e
    split at h
    · rename_i hf; exact ⟨fin h, .inr e, .inl (by rw [o.fn]; exact hf)⟩
    · cases h
  · cases h
theorem OkX.isGl (o : OkX X c xv W C n) {x : Str} (h : c.isGl x = true) : Gl X x := by
  unfold Ct.isGl at h
  show X.env.scope.names.lookup x = _
  rw [o.sc]
  split at h
  · assumption
  · cases h
theorem OkX.ndX (o : OkX X c xv W C n) : X.N.Nodup := by rw [o.N]; exact o.nd
theorem star_cons {e : PySem.Expr} {es : List PySem.Expr} {env : Env} (h : noStar e = true) : starEach (e :: es) env = (false, eval e env) :: starEach es env := by
  cases e <;> first | rfl | cases h
theorem star_plain {env : Env} {pos : Pos} : ∀ {es : List PySem.Expr}, es.all noStar = true → (backTo pos (starEach es env)).any (·.1) = false
  | [], _ => rfl
  | e :: es, h => by
    rw [List.all_cons, Bool.and_eq_true] at h
    rw [star_cons h.1]
    show (false || (backTo pos (starEach es env)).any (·.1)) = false
    rw [Bool.false_or]
    exact star_plain h.2

/-! ### soundness of the pieces -/
abbrev SE (X : Cx) (xv : Xv) (W : WX) (C : Cl) (e : PySem.Expr) (x : Ex) : Prop := PE X e (RdE X.K xv W (ev C x))
abbrev SO (X : Cx) (xv : Xv) (W : WX) (C : Cl) (e : PySem.Expr) (o : Op) : Prop := PE X e (RdP X.K xv W (evp C o))
abbrev SA (X : Cx) (xv : Xv) (W : WX) (C : Cl) (es : List PySem.Expr) (os : Ops) : Prop := PA X es (RdA X.K xv W (evo C os))
abbrev SS (X : Cx) (xv : Xv) (W : WX) (C : Cl) (es : List PySem.Expr) (xs : Exs) : Prop := PA X es (RdS X.K xv W (evs C xs))
abbrev SW (X : Cx) (xv : Xv) (W : WX) (C : Cl) (es : List PySem.Expr) (xs : Exs) : Prop := PA X es (RdW X.K xv W (evw C xs))
abbrev ST (X : Cx) (xv : Xv) (W : WX) (C : Cl) (e : PySem.Expr) (t : Te) : Prop := PT X e (RdB X.K xv W (evt C t))
theorem so_v (o : OkX X c xv W C n) {x : Str} {i : Nat} {pos : Pos} (h : c.slot x = some i) : SO X xv W C (.Name x pos) (.v i) := (o.slot h).imp fun _ _ _ h => rdp_slot h
theorem so_e {e : PySem.Expr} {x : Ex} (h : SE X xv W C e x) : SO X xv W C e (.e x) := h.imp fun _ _ _ h => rdp_ex h
theorem sa_nil : SA X xv W C [] .nil := pa_nil.imp fun _ _ _ h => rda_nil h
theorem sa_cons {e : PySem.Expr} {es : List PySem.Expr} {o : Op} {os : Ops} (hn : noStar e = true) (h : SO X xv W C e o) (hs : SA X xv W C es os) : SA X xv W C (e :: es) (.cons o os) := (pa_cons h hs (star_cons hn)).imp fun _ _ _ h => rda_cons h
theorem ss_nil : SS X xv W C [] .nil := pa_nil.imp fun _ _ _ h => rds_nil h
theorem ss_cons {e : PySem.Expr} {es : List PySem.Expr} {x : Ex} {xs : Exs} (hn : noStar e = true) (h : SE X xv W C e x) (hs : SS X xv W C es xs) : SS X xv W C (e :: es) (.cons x xs) := (pa_cons h hs (star_cons hn)).imp fun _ _ _ h => rds_cons h
theorem ss_star {e : PySem.Expr} {es : List PySem.Expr} {o : Op} {xs : Exs} {p : Pos} (h : SO X xv W C e o) (hs : SS X xv W C es xs) : SS X xv W C (.Starred e p :: es) (.star o xs) := (StX.pa_star h hs rfl).imp fun _ _ _ h => rds_star h
theorem sw_nil : SW X xv W C [] .nil := pa_nil.imp fun _ _ _ h => rdw_nil h
theorem sw_cons {e : PySem.Expr} {es : List PySem.Expr} {x : Ex} {xs : Exs} (hn : noStar e = true) (h : SE X xv W C e x) (hs : SW X xv W C es xs) : SW X xv W C (e :: es) (.cons x xs) := (pa_cons h hs (star_cons hn)).imp fun _ _ _ h => rdw_cons h
section
variable {K : PySem.W.Frag} {σ : L2.St} {H : Hp} {Q : VK} {q : Pr} {o p r : Op}
theorem rd_prim1 (h : RdE K xv W (ev C (.pr q (.cons o .nil))) σ H Q) : RdP K xv W (evp C o) σ H fun x H1 => rQ K q [x] H1 Q :=
  RdP.mono (rda_cons (rd_prim h)) fun _ _ z => rda_nil z
theorem rd_prim2 (h : RdE K xv W (ev C (.pr q (.cons o (.cons p .nil)))) σ H Q) : RdP K xv W (evp C o) σ H fun x H1 => RdP K xv W (evp C p) σ H1 fun y H2 => rQ K q [x, y] H2 Q :=
  RdP.mono (rda_cons (rd_prim h)) fun _ _ z => RdP.mono (rda_cons z) fun _ _ z => rda_nil z
theorem rd_prim3 (h : RdE K xv W (ev C (.pr q (.cons o (.cons p (.cons r .nil))))) σ H Q) : RdP K xv W (evp C o) σ H fun x H1 => RdP K xv W (evp C p) σ H1 fun y H2 => RdP K xv W (evp C r) σ H2 fun z H3 => rQ K q [x, y, z] H3 Q :=
  RdP.mono (rda_cons (rd_prim h)) fun _ _ z => RdP.mono (rda_cons z) fun _ _ z => RdP.mono (rda_cons z) fun _ _ z => rda_nil z
end
theorem se_bin (ok : OkX X c xv W C n) {a b : PySem.Expr} {op : Operator} {q : Pr} {o p : Op} {pos : Pos} (hq : binP op = some q) (ha : SO X xv W C a o) (hb : SO X xv W C b p) : SE X xv W C (.BinOp a op b pos) (.pr q (.cons o (.cons p .nil))) := by
  have go : ∀ {r : R2}, OpR X (binaryOp op) r → (∀ x y H Q, rQ X.K q [x, y] H Q → r x y H Q) → SE X xv W C (.BinOp a op b pos) (.pr q (.cons o (.cons p .nil))) := fun hr h =>
    (pe_op hr ha hb).imp fun σ H Q z => RdP.mono (rd_prim2 z) fun _ _ z => RdP.mono z fun _ _ z => h _ _ _ _ z
  cases op <;> cases hq
  · exact go oq_add fun _ _ _ _ z => z
  · exact go oq_sub fun _ _ _ _ z => z
  · exact go oq_mul fun _ _ _ _ z => z
  · exact go oq_mod fun _ _ _ _ z => z
  · exact go oq_pow fun _ _ _ _ z => z
  · exact go oq_fdiv fun _ _ _ _ z => z
theorem se_neg {a : PySem.Expr} {o : Op} {pos : Pos} (ha : SO X xv W C a o) : SE X xv W C (.UnaryOp .USub a pos) (.pr .neg (.cons o .nil)) :=
  (pe_un uq_neg ha).imp fun _ _ _ h => rd_prim1 h
theorem se_not {a : PySem.Expr} {o : Op} {pos : Pos} (ha : SO X xv W C a o) : SE X xv W C (.UnaryOp .Not a pos) (.lnot o) := (pe_notT ha).imp fun _ _ _ h => rd_lnot h
theorem hu_ok (ok : OkX X c xv W C n) : X.A.units + 100 < cLine := by
  have := ok.room.r.un
  omega
theorem se_cmp (ok : OkX X c xv W C n) {a b : PySem.Expr} {op : CmpOp} {q : Pr} {o p : Op} {pos : Pos} (hq : cmpP op = some q) (hs : isSet b = false) (ha : SO X xv W C a o) (hb : SO X xv W C b p) : SE X xv W C (.Compare a [op] [b] pos) (.pr q (.cons o (.cons p .nil))) := by
  have hu := hu_ok ok
  have hm : behindInMarks op b = false := by cases b <;> first | rfl | cases hs
  have go : ∀ {r : R2}, OpR X (compareOp op) r → (∀ x y H Q, rQ X.K q [x, y] H Q → r x y H Q) → SE X xv W C (.Compare a [op] [b] pos) (.pr q (.cons o (.cons p .nil))) := fun hr h =>
    (pe_cmpR hr ha hb hm).imp fun σ H Q z => RdP.mono (rd_prim2 z) fun _ _ z => RdP.mono z fun _ _ z => h _ _ _ _ z
  cases op <;> cases hq
  · exact go (oq_eq (by omega)) fun _ _ _ _ z => z
  · exact go (oq_ne (by omega)) fun _ _ _ _ z => z
  · exact go (oq_lt (by omega)) fun _ _ _ _ z => z
  · exact go oq_le fun _ _ _ _ z => z
  · exact go oq_gt fun _ _ _ _ z => z
  · exact go oq_ge fun _ _ _ _ z => z
  · exact go (oq_in (by omega)) fun _ _ _ _ z => z
  · exact go (oq_notIn (by omega)) fun _ _ _ _ z => z
theorem se_isN {a : PySem.Expr} {o : Op} {k : Nat} {p pos : Pos} (ha : SO X xv W C a o) : SE X xv W C (.Compare a [.Is] [.Constant .none k p] pos) (.pr .isN (.cons o .nil)) :=
  (pe_cmpR oq_isN ha pe_non rfl).imp fun σ H Q z => RdP.mono (rd_prim1 z) fun _ _ z => ⟨rfl, z⟩
theorem se_notN {a : PySem.Expr} {o : Op} {k : Nat} {p pos : Pos} (ha : SO X xv W C a o) : SE X xv W C (.Compare a [.IsNot] [.Constant .none k p] pos) (.pr .notN (.cons o .nil)) :=
  (pe_cmpR oq_notN ha pe_non rfl).imp fun σ H Q z => RdP.mono (rd_prim1 z) fun _ _ z => ⟨rfl, z⟩
theorem se_isB {a : PySem.Expr} {o : Op} {b : Bool} {k : Nat} {p pos : Pos} (ha : SO X xv W C a o) : SE X xv W C (.Compare a [.Is] [.Constant (.bool b) k p] pos) (.pr (.isB b) (.cons o .nil)) :=
  (pe_cmpR oq_isB ha pe_bl rfl).imp fun σ H Q z => RdP.mono (rd_prim1 z) fun _ _ z => ⟨rfl, z⟩
theorem plain_ix {i : PySem.Expr} (h : isSlice i = false) : PlainIx i := fun o v => by cases i <;> first | rfl | cases h
theorem se_ix (ok : OkX X c xv W C n) {a b : PySem.Expr} {o p : Op} {pos : Pos} (hs : isSlice b = false) (ha : SO X xv W C a o) (hb : SO X xv W C b p) : SE X xv W C (.Subscript a b pos) (.pr .ix (.cons o (.cons p .nil))) := by
  have hu := hu_ok ok
  exact (pe_ix (iq_ix (by omega)) ha hb (plain_ix hs)).imp fun σ H Q z => RdP.mono (rd_prim2 z) fun _ _ z => RdP.mono z fun _ _ z => z
theorem se_fld (ok : OkX X c xv W C n) {x f : Str} {i k : Nat} {p1 p2 pos : Pos} (hi : c.slot x = some i) : SE X xv W C (.Subscript (.Name x p1) (.Constant (.str f) k p2) pos) (.fld i f) := by
  have hu := hu_ok ok
  exact (pe_dget (by omega) (ok.slot hi) pe_str (fun _ _ => rfl)).imp fun σ H Q z => rd_fld z
end
end Pd
set_option Elab.async false
set_option linter.all false
set_option maxRecDepth 100000
set_option maxHeartbeats 4000000
/-! Part 18: expressions, second part. -/
namespace Pd
open PySem PySem.Spec PyProof.Rows L2
section
variable {X : Cx} {c : Ct} {xv : Xv} {W : WX} {C : Cl} {n : Nat}
theorem se_blt (ok : OkX X c xv W C n) {x : Str} {b : Bt} {es : List PySem.Expr} {os : Ops} {q : Pr} {p pos : Pos} (hb : bOf x = some b) (hg : c.isGl x = true) (hq : b.pr es.length = some q) (hn : es.all noStar = true) (ha : SA X xv W C es os) : SE X xv W C (.Call (.Name x p) es [] pos) (.pr q os) := by
  have hx := bOf_nm hb
  have g := ok.isGl hg
  have m := ok.bt b
  have hu := hu_ok ok
  have hc := ok.calm
  rw [hx] at g ⊢
  cases es with
  | nil => cases b <;> simp [Bt.pr] at hq
  | cons e es =>
    have hn' := hn
    rw [List.all_cons, Bool.and_eq_true] at hn'
    have he := star_cons (env := X.env) (es := es) hn'.1
    have hp := star_plain (env := X.env) (pos := pos) hn'.2
    have goB : ∀ {id : String} {q : Pr}, CallR X (.builtin id) (rQ X.K q) → Gl X b.nm → X.mg b.nm = none → bootBuiltins b.nm = some (.builtin id) → b.nm ≠ "__name__" → (b.nm == ("__debug__" : Str)) = false → SE X xv W C (.Call (.Name b.nm p) (e :: es) [] pos) (.pr q os) := fun hr g m hv h1 h2 =>
      (pe_callB hr g m hv ha h1 h2 he hp).imp fun σ H Q z => rd_prim z
    have goT : ∀ {id : String} {q : Pr}, CallR X (.type id) (rQ X.K q) → Gl X b.nm → X.mg b.nm = none → bootBuiltins b.nm = some (.type id) → b.nm ≠ "__name__" → (b.nm == ("__debug__" : Str)) = false → SE X xv W C (.Call (.Name b.nm p) (e :: es) [] pos) (.pr q os) := fun hr g m hv h1 h2 =>
      (pe_callTy hr g m hv ha h1 h2 he hp).imp fun σ H Q z => rd_prim z
    have hg1 := ok.room.g
    cases b <;> (rcases es with _ | ⟨e2, _ | ⟨e3, es⟩⟩ <;> simp [Bt.pr] at hq) <;> subst hq
    · exact goB cq_len g m (by decide +kernel) (by decide +kernel) (by decide +kernel)
    · exact goB cq_abs g m (by decide +kernel) (by decide +kernel) (by decide +kernel)
    · exact goB (cq_maxL hc) g m (by decide +kernel) (by decide +kernel) (by decide +kernel)
    · exact goB (cq_max2 hc) g m (by decide +kernel) (by decide +kernel) (by decide +kernel)
    · exact goB (cq_minL hc) g m (by decide +kernel) (by decide +kernel) (by decide +kernel)
    · exact goB (cq_min2 hc) g m (by decide +kernel) (by decide +kernel) (by decide +kernel)
    · exact goT cq_int g m (by decide +kernel) (by decide +kernel) (by decide +kernel)
    · exact goT cq_str g m (by decide +kernel) (by decide +kernel) (by decide +kernel)
    · exact goB (cq_repr hg1 (by omega)) g m (by decide +kernel) (by decide +kernel) (by decide +kernel)
    · exact goT cq_tuple g m (by decide +kernel) (by decide +kernel) (by decide +kernel)
    · exact goT cq_list g m (by decide +kernel) (by decide +kernel) (by decide +kernel)
    · exact goB (cq_sorted hc hu) g m (by decide +kernel) (by decide +kernel) (by decide +kernel)
    · exact goB (cq_sum hc) g m (by decide +kernel) (by decide +kernel) (by decide +kernel)
    · exact goB (cq_any hc) g m (by decide +kernel) (by decide +kernel) (by decide +kernel)
    · exact goB (cq_all hc) g m (by decide +kernel) (by decide +kernel) (by decide +kernel)
theorem se_call (ok : OkX X c xv W C n) {x : Str} {f : Nat} {es : List PySem.Expr} {os : Ops} {p pos : Pos} (hf : c.gl.lookup x = some f) (hg : c.isGl x = true) (hz : es ≠ []) (hn : es.all noStar = true) (ha : SA X xv W C es os) : SE X xv W C (.Call (.Name x p) es [] pos) (.call f os) := by
  obtain ⟨hd, a, fd, ps, m, hk, F, hb⟩ := ok.gl x f hf
  cases es with
  | nil => exact absurd rfl hz
  | cons e es =>
    have hn' := hn
    rw [List.all_cons, Bool.and_eq_true] at hn'
    exact (pe_callG F ok.room ok.tk (ok.isGl hg) m hk hb ha hd (star_cons hn'.1) (star_plain hn'.2)).imp fun σ H Q z => rd_call rfl z
/-! slices -/
section
variable {K : PySem.W.Frag} {σ : L2.St} {H : Hp} {Q : VK} {o p r : Op}
theorem cut_ok {d : Dt} {lo hi : Option Int} {y : Ow1} {bl bh : Bool} {ds : List Dt} (hs : (Pr.cut bl bh).sem (d :: ds) = some y) (hd : ds = (lo.map Dt.int).toList ++ (hi.map Dt.int).toList) (hl : lo.isSome = bl) (hh : hi.isSome = bh) : cutS d lo hi = some y := by
  subst hd
  cases lo <;> cases hi <;> (simp at hl hh) <;> subst hl <;> subst hh <;> (cases d <;> simp [Pr.sem, i1] at hs) <;> (try subst hs)
  all_goals simp [cutS, i1, cutD, cutN]
end
theorem se_cutN {a : PySem.Expr} {o : Op} {p2 pos : Pos} (ha : SO X xv W C a o) : SE X xv W C (.Subscript a (.Slice none none none p2) pos) (.pr (.cut false false) (.cons o .nil)) :=
  (pe_slice sq_cut ha po_none po_none).imp fun σ H Q z => RdP.mono (rd_prim1 z) fun x H1 ⟨F, ds, y, hF, hv, hs, rn⟩ => by
    obtain ⟨d, rfl, hd⟩ := bvs_of1 hv
    exact ⟨F, d, y, hF, hd, cut_ok (lo := none) (hi := none) hs rfl rfl rfl, rn⟩
theorem cut_int1 {d e : Dt} {y : Ow1} {bl bh : Bool} (h : (Pr.cut bl bh).sem [d, e] = some y) : ∃ i, e = .int i := by
  cases bl <;> cases bh <;> cases d <;> cases e <;> simp [Pr.sem] at h <;> exact ⟨_, rfl⟩
theorem se_cutL {a l : PySem.Expr} {o p : Op} {p2 pos : Pos} (ha : SO X xv W C a o) (hl : SO X xv W C l p) : SE X xv W C (.Subscript a (.Slice (some l) none none p2) pos) (.pr (.cut true false) (.cons o (.cons p .nil))) :=
  (pe_slice sq_cut ha (po_some hl) po_none).imp fun σ H Q z => RdP.mono (rd_prim2 z) fun x H1 z => RdP.mono z fun w H2 ⟨F, ds, y, hF, hv, hs, rn⟩ => by
    obtain ⟨d, e, rfl, hd, he⟩ := bvs_of2 hv
    obtain ⟨i, rfl⟩ := cut_int1 hs
    exact ⟨i, bv_int he, F, d, y, hF, hd, cut_ok (lo := some i) (hi := none) hs rfl rfl rfl, rn⟩
theorem se_cutH {a l : PySem.Expr} {o p : Op} {p2 pos : Pos} (ha : SO X xv W C a o) (hl : SO X xv W C l p) : SE X xv W C (.Subscript a (.Slice none (some l) none p2) pos) (.pr (.cut false true) (.cons o (.cons p .nil))) :=
  (pe_slice sq_cut ha po_none (po_some hl)).imp fun σ H Q z => RdP.mono (rd_prim2 z) fun x H1 z => RdP.mono z fun w H2 ⟨F, ds, y, hF, hv, hs, rn⟩ => by
    obtain ⟨d, e, rfl, hd, he⟩ := bvs_of2 hv
    obtain ⟨i, rfl⟩ := cut_int1 hs
    exact ⟨i, bv_int he, F, d, y, hF, hd, cut_ok (lo := none) (hi := some i) hs rfl rfl rfl, rn⟩
/-! lists -/
theorem se_rev {a : PySem.Expr} {o : Op} {k : Nat} {p1 p2 p3 pos : Pos} (ha : SO X xv W C a o) : SE X xv W C (.Subscript a (.Slice none none (some (.UnaryOp .USub (.Constant (.int 1) k p1) p2)) p3) pos) (.pr .rev (.cons o .nil)) :=
  (pe_revL ha).imp fun σ H Q z => RdP.mono (rd_prim1 z) fun x H1 ⟨F, ds, y, hF, hv, hs, rn⟩ => by
    obtain ⟨d, rfl, hd⟩ := bvs_of1 hv
    cases d <;> simp [Pr.sem] at hs
    subst hs
    obtain ⟨a, vs, rfl, ha, hvs⟩ := hd
    exact ⟨a, vs, rfl, .of ha, fun p hp => rn.newL hF hp hvs.rev⟩
theorem se_lrng (ok : OkX X c xv W C n) {a : PySem.Expr} {o : Op} {p q pos pos2 : Pos} (hl : c.isGl "list" = true) (hr : c.isGl "range" = true) (hn : noStar a = true) (ha : SO X xv W C a o) : SE X xv W C (.Call (.Name "list" p) [.Call (.Name "range" q) [a] [] pos2] [] pos) (.pr .lrng (.cons o .nil)) :=
  (pe_listRg ok.calm (ok.isGl hl) (ok.bt .list) (prg_1 (ok.isGl hr) (ok.bt .range) ha (star_cons hn)) rfl).imp fun σ H Q z => RdP.mono (rd_prim1 z) fun x H1 ⟨F, ds, y, hF, hv, hs, rn⟩ => by
    obtain ⟨d, rfl, hd⟩ := bvs_of1 hv
    cases d <;> simp [Pr.sem] at hs
    rename_i i
    obtain ⟨hi, hs⟩ := hs
    subst hs
    have e := bv_int hd
    refine ⟨i, e, ?_, fun p hp => ?_⟩
    · exact RgOk.of_le (by omega) hi.2 (by omega) hi.1
    · have : DVs X.K F H1 (rgV 0 i) ((List.range i.toNat).map fun (j : Nat) => Dt.int (j : Int)) := by
        unfold rgV
        rw [Int.sub_zero]
        generalize List.range i.toNat = l
        induction l with
        | nil => exact .nil
        | cons j l ih =>
          rw [List.map_cons, List.map_cons, Int.zero_add]
          exact .cons (.int _) ih
      exact rn.newL hF hp this
/-! methods of lists -/
theorem base_name {x m : Str} {pos : Pos} {env : Env} {w : Sem Value} : attributeBase (.Name x pos) m env w = w := rfl
theorem base_sub {a i : PySem.Expr} {m : Str} {pos : Pos} {env : Env} {w : Sem Value} : attributeBase (.Subscript a i pos) m env w = w := rfl
theorem few_one {e : PySem.Expr} {env : Env} {pos : Pos} (h : noStar e = true) : ((backTo pos (starEach [e] env)).all (fun x => !x.1) && (backToKw pos (keywordEach [] env)).all (fun x => x.1.isSome)
      && decide (([e] : List PySem.Expr).length + ([] : List Keyword).length + (if ([] : List Keyword).isEmpty then 0 else 1) < 30)) = true := by
  rw [star_cons h]
  rfl
theorem se_app (ok : OkX X c xv W C n) {x : Str} {i : Nat} {e : PySem.Expr} {y : Ex} {p apos pos : Pos} (hi : c.slot x = some i) (hn : noStar e = true) (hl : (apos.endLine == pos.line) = true) (he : SE X xv W C e y) : SE X xv W C (.Call (.Attribute (.Name x p) "append" apos) [e] [] pos) (.app i y) :=
  (pe_bm PySem.F.plainAttrs_list PySem.F.slot_list_append PySem.F.type_list_append mt_append (ok.slot hi) (pa_cons he pa_nil (star_cons hn)) base_name (few_one hn) hl (star_cons hn) rfl).imp fun σ H Q z => rd_app z
theorem se_pop (ok : OkX X c xv W C n) {x : Str} {i : Nat} {p apos pos : Pos} (hi : c.slot x = some i) (hl : (apos.endLine == pos.line) = true) : SE X xv W C (.Call (.Attribute (.Name x p) "pop" apos) [] [] pos) (.pop i) :=
  (pe_bm0 PySem.F.plainAttrs_list PySem.F.slot_list_pop PySem.F.type_list_pop mt_pop (ok.slot hi) base_name hl).imp fun σ H Q z => rd_pop z
theorem se_popAt (ok : OkX X c xv W C n) {x : Str} {i : Nat} {e : PySem.Expr} {y : Ex} {p apos pos : Pos} (hi : c.slot x = some i) (hn : noStar e = true) (hl : (apos.endLine == pos.line) = true) (he : SE X xv W C e y) : SE X xv W C (.Call (.Attribute (.Name x p) "pop" apos) [e] [] pos) (.popAt i y) :=
  (pe_bm PySem.F.plainAttrs_list PySem.F.slot_list_pop PySem.F.type_list_pop mt_popAt (ok.slot hi) (pa_cons he pa_nil (star_cons hn)) base_name (few_one hn) hl (star_cons hn) rfl).imp fun σ H Q z => rd_popAt z
theorem se_idx (ok : OkX X c xv W C n) {x : Str} {i : Nat} {e : PySem.Expr} {y : Ex} {p apos pos : Pos} (hi : c.slot x = some i) (hn : noStar e = true) (hl : (apos.endLine == pos.line) = true) (he : SE X xv W C e y) : SE X xv W C (.Call (.Attribute (.Name x p) "index" apos) [e] [] pos) (.idx i y) :=
  (pe_bm PySem.F.plainAttrs_list PySem.F.slot_list_index PySem.F.type_list_index mt_index (ok.slot hi) (pa_cons he pa_nil (star_cons hn)) base_name (few_one hn) hl (star_cons hn) rfl).imp fun σ H Q z => rd_idx z
theorem se_popF (ok : OkX X c xv W C n) {x f : Str} {i k : Nat} {p1 p2 p3 apos pos : Pos} (hi : c.slot x = some i) (hl : (apos.endLine == pos.line) = true) : SE X xv W C (.Call (.Attribute (.Subscript (.Name x p1) (.Constant (.str f) k p2) p3) "pop" apos) [] [] pos) (.popF i f) := by
  have hu := hu_ok ok
  exact (pe_bm0 PySem.F.plainAttrs_list PySem.F.slot_list_pop PySem.F.type_list_pop mt_pop (pe_dget (by omega) (ok.slot hi) pe_str (fun _ _ => rfl)) base_sub hl).imp fun σ H Q z => rd_popF z
theorem se_lenF (ok : OkX X c xv W C n) {x f : Str} {i k : Nat} {p p1 p2 p3 pos : Pos} (hi : c.slot x = some i) (hg : c.isGl "len" = true) : SE X xv W C (.Call (.Name "len" p) [.Subscript (.Name x p1) (.Constant (.str f) k p2) p3] [] pos) (.lenF i f) := by
  have hu := hu_ok ok
  exact (pe_callB call_len_seq (ok.isGl hg) (ok.bt .len) PySem.boot_len (pa_cons (pe_dget (by omega) (ok.slot hi) pe_str (fun _ _ => rfl)) pa_nil rfl) (by decide +kernel) (by decide +kernel) rfl rfl).imp fun σ H Q z => rd_lenF z
/-! displays -/
theorem se_tup {es : List PySem.Expr} {xs : Exs} {k : Nat} {pos : Pos} (h : SS X xv W C es xs) : SE X xv W C (.Tuple es k pos) (.tup xs) := (pe_tup h).imp fun σ H Q z => rd_tup z
theorem se_lst {es : List PySem.Expr} {xs : Exs} {pos : Pos} (h : SS X xv W C es xs) : SE X xv W C (.List es pos) (.lst xs) := (pe_lst h).imp fun σ H Q z => rd_lst z
theorem se_dnew {pos : Pos} : SE X xv W C (.Dict [] [] pos) .dnew := pe_dnewK.imp fun σ H Q z => rd_dnew z
inductive PsR (X : Cx) (xv : Xv) (W : WX) (C : Cl) : List (Option PySem.Expr) → List PySem.Expr → List Str → Exs → Prop
  | nil : PsR X xv W C [] [] [] .nil
  | cons {f : Str} {k : Nat} {p : Pos} {v : PySem.Expr} {x : Ex} {ks : List (Option PySem.Expr)} {vs : List PySem.Expr} {fs : List Str} {xs : Exs} : SE X xv W C v x → PsR X xv W C ks vs fs xs → PsR X xv W C (some (.Constant (.str f) k p) :: ks) (v :: vs) (f :: fs) (.cons x xs)
theorem PsR.pps {pos : Pos} {ks : List (Option PySem.Expr)} {vs : List PySem.Expr} {fs : List Str} {xs : Exs} (h : PsR X xv W C ks vs fs xs) : PPs X pos ks vs (trsR X.K xv W C fs xs) ∧ ks.all (·.isSome) = true ∧ ks.length = vs.length ∧ exsLen xs = fs.length ∧ ks.length = fs.length := by
  induction h with
  | nil => exact ⟨pps_nil, rfl, rfl, rfl, rfl⟩
  | cons hv _ ih => exact ⟨pps_cons pe_str hv ih.1, by simp [ih.2.1], by simp [ih.2.2.1], by simp [exsLen, ih.2.2.2.1], by simp [ih.2.2.2.2]⟩
theorem se_rcd {ks : List (Option PySem.Expr)} {vs : List PySem.Expr} {fs : List Str} {xs : Exs} {pos : Pos} (h : PsR X xv W C ks vs fs xs) (h0 : ks ≠ []) (hz : ks.length ≤ 15) : SE X xv W C (.Dict ks vs pos) (.rcd fs xs) := by
  obtain ⟨h1, h2, h3, h4, h5⟩ := h.pps (pos := pos)
  exact (pe_disp h1 h2 h3 h0 hz).imp fun σ H Q z => rd_rcd h4 z
inductive PsD (X : Cx) (xv : Xv) (W : WX) (C : Cl) : List (Option PySem.Expr) → List PySem.Expr → Exs → Prop
  | nil : PsD X xv W C [] [] .nil
  | cons {e v : PySem.Expr} {y x : Ex} {ks : List (Option PySem.Expr)} {vs : List PySem.Expr} {xs : Exs} : SE X xv W C e y → SE X xv W C v x → PsD X xv W C ks vs xs → PsD X xv W C (some e :: ks) (v :: vs) (.cons y (.cons x xs))
theorem PsD.pps {pos : Pos} {ks : List (Option PySem.Expr)} {vs : List PySem.Expr} {xs : Exs} (h : PsD X xv W C ks vs xs) : PPs X pos ks vs (trsD X.K xv W C xs) ∧ ks.all (·.isSome) = true ∧ ks.length = vs.length ∧ dOk xs = true := by
  induction h with
  | nil => exact ⟨pps_nil, rfl, rfl, rfl⟩
  | cons he hv _ ih => exact ⟨pps_cons he hv ih.1, by simp [ih.2.1], by simp [ih.2.2.1], by simpa [dOk] using ih.2.2.2⟩
theorem se_dmk {ks : List (Option PySem.Expr)} {vs : List PySem.Expr} {xs : Exs} {pos : Pos} (h : PsD X xv W C ks vs xs) (h0 : ks ≠ []) (hz : ks.length ≤ 15) : SE X xv W C (.Dict ks vs pos) (.dmk xs) := by
  obtain ⟨h1, h2, h3, h4⟩ := h.pps (pos := pos)
  exact (pe_disp h1 h2 h3 h0 hz).imp fun σ H Q z => rd_dmk h4 z
/-! tests, ways -/
theorem se_cond {t a b : PySem.Expr} {u : Te} {x y : Ex} {pos : Pos} (ht : ST X xv W C t u) (ha : SE X xv W C a x) (hb : SE X xv W C b y) : SE X xv W C (.IfExp t a b pos) (.cond u x y) := (pe_ifExp ht ha hb).imp fun σ H Q z => rd_cond z
theorem se_and {a b : PySem.Expr} {r : List PySem.Expr} {x y : Ex} {pos : Pos} (ha : SE X xv W C a x) (hb : SE X xv W C (.BoolOp .And (b :: r) pos) y) : SE X xv W C (.BoolOp .And (a :: b :: r) pos) (.land x y) := (pe_and ha hb).imp fun σ H Q z => rd_land z
theorem se_or {a b : PySem.Expr} {r : List PySem.Expr} {x y : Ex} {pos : Pos} (ha : SE X xv W C a x) (hb : SE X xv W C (.BoolOp .Or (b :: r) pos) y) : SE X xv W C (.BoolOp .Or (a :: b :: r) pos) (.lor x y) := (pe_or ha hb).imp fun σ H Q z => rd_lor z
theorem se_one {op : BoolOp} {a : PySem.Expr} {x : Ex} {pos : Pos} (ha : SE X xv W C a x) : SE X xv W C (.BoolOp op [a] pos) x := pe_one ha
abbrev SV (X : Cx) (xv : Xv) (W : WX) (C : Cl) (e : PySem.Expr) (t : Te) : Prop := PW X e (RdB X.K xv W (evt C t))
theorem st_and1 {a : PySem.Expr} {x : Te} {pos : Pos} (ha : ST X xv W C a x) : SV X xv W C (.BoolOp .And [a] pos) x := pw_and1 ha
theorem st_and {a b : PySem.Expr} {r : List PySem.Expr} {x y : Te} {pos : Pos} (ha : ST X xv W C a x) (hb : SV X xv W C (.BoolOp .And (b :: r) pos) y) : SV X xv W C (.BoolOp .And (a :: b :: r) pos) (.land x y) := (pw_and ha hb).imp fun σ H Q z => rd_tand z
theorem st_or1 {a : PySem.Expr} {x : Te} {pos : Pos} (ha : ST X xv W C a x) : SV X xv W C (.BoolOp .Or [a] pos) x := pw_or1 ha
theorem st_or {a b : PySem.Expr} {r : List PySem.Expr} {x y : Te} {pos : Pos} (ha : ST X xv W C a x) (hb : SV X xv W C (.BoolOp .Or (b :: r) pos) y) : SV X xv W C (.BoolOp .Or (a :: b :: r) pos) (.lor x y) := (pw_or ha hb).imp fun σ H Q z => rd_tor z
theorem st_not {a : PySem.Expr} {x : Te} {pos : Pos} (ha : ST X xv W C a x) : ST X xv W C (.UnaryOp .Not a pos) (.lnot x) := (pt_not ha).imp fun σ H Q z => rd_tnot z
/-- a test that is a value -/
def plainT : PySem.Expr → Bool
  | .UnaryOp _ _ _ => false
  | .BoolOp _ _ _ => false
  | .IfExp _ _ _ _ => false
  | .Compare _ _ _ _ => false
  | _ => true
theorem st_val {a : PySem.Expr} {o : Op} (hp : plainT a = true) (ha : SO X xv W C a o) : ST X xv W C a (.tr o) :=
  (pt_truth ha (fun wh => by
    cases a <;> first | rfl | (simp [plainT] at hp))).imp fun σ H Q z => rd_tr z
/-- a comparison as a test -/
def isCmp : Pr → Bool
  | .eq => true | .ne => true | .lt => true | .le => true | .gt => true | .ge => true | .isN => true | .notN => true | .isB _ => true | .isIn => true | .notIn => true
  | _ => false
theorem cmp_bl {q : Pr} {ds : List Dt} {y : Ow1} (h : isCmp q = true) (hs : q.sem ds = some y) : ∃ r, y = .imm (.bl r) := by
  unfold Pr.sem at hs
  split at hs <;> first | (simp [isCmp] at h; done) | (simp at hs; done) | (simp only [i1] at hs; first | (cases hs; exact ⟨_, rfl⟩) | (split at hs <;> first | (cases hs; exact ⟨_, rfl⟩) | (split at hs <;> first | (cases hs; exact ⟨_, rfl⟩) | cases hs) | cases hs))
theorem rd_cmpT {K : PySem.W.Frag} {σ : L2.St} {H : Hp} {Q : Bool → Hp → Prop} {q : Pr} {os : Ops} (hq : isCmp q = true) (h : RdB K xv W (evt C (.tr (.e (.pr q os)))) σ H Q) : RdE K xv W (ev C (.pr q os)) σ H fun v H1 => ∃ k, v = .bl k ∧ Q k H1 := by
  obtain ⟨E, F, S, L, env, Ts, s, w⟩ := h
  refine ⟨E, F, S, L, env, Ts, s, ?_⟩
  simp only [evt, evp] at w
  cases hx : ev C (.pr q os) env with
  | no => rw [hx] at w; exact w.elim
  | exc d e => rw [hx] at w; exact w
  | ok o e1 =>
    rw [hx] at w
    have ho : ∃ r, o = .p (.imm (.bl r)) := by
      simp only [ev] at hx
      split at hx
      · split at hx
        · split at hx
          · rename_i y hy
            cases hx
            obtain ⟨r, rfl⟩ := cmp_bl hq hy
            exact ⟨r, rfl⟩
          · cases hx
        · cases hx
      · cases hx
      · cases hx
    obtain ⟨r, rfl⟩ := ho
    intro v F' H' S' T s'
    have dv : DV K F' H' v (.bl r) := (s'.tm _ List.mem_cons_self).2
    cases dv
    exact ⟨r, rfl, w F' H' S' s'.pop⟩
theorem st_cmp (ok : OkX X c xv W C n) {a b : PySem.Expr} {op : CmpOp} {q : Pr} {o p : Op} {pos : Pos} (hq : cmpP op = some q) (hs : isSet b = false) (ha : SO X xv W C a o) (hb : SO X xv W C b p) : ST X xv W C (.Compare a [op] [b] pos) (.tr (.e (.pr q (.cons o (.cons p .nil))))) := by
  have hu := hu_ok ok
  have hm : behindInMarks op b = false := by cases b <;> first | rfl | cases hs
  have hc : isCmp q = true := by cases op <;> cases hq <;> rfl
  have go : ∀ {r : R2}, OpR X (compareOp op) r → (∀ x y H Q, rQ X.K q [x, y] H Q → r x y H Q) → ST X xv W C (.Compare a [op] [b] pos) (.tr (.e (.pr q (.cons o (.cons p .nil))))) := fun hr h =>
    (pt_cmpR hr ha hb hm).imp fun σ H Q z => RdP.mono (rd_prim2 (rd_cmpT hc z)) fun _ _ z => RdP.mono z fun _ _ z => h _ _ _ _ z
  cases op <;> cases hq
  · exact go (oq_eq (by omega)) fun _ _ _ _ z => z
  · exact go (oq_ne (by omega)) fun _ _ _ _ z => z
  · exact go (oq_lt (by omega)) fun _ _ _ _ z => z
  · exact go oq_le fun _ _ _ _ z => z
  · exact go oq_gt fun _ _ _ _ z => z
  · exact go oq_ge fun _ _ _ _ z => z
  · exact go (oq_in (by omega)) fun _ _ _ _ z => z
  · exact go (oq_notIn (by omega)) fun _ _ _ _ z => z
theorem st_isN {a : PySem.Expr} {o : Op} {k : Nat} {p pos : Pos} (ha : SO X xv W C a o) : ST X xv W C (.Compare a [.Is] [.Constant .none k p] pos) (.tr (.e (.pr .isN (.cons o .nil)))) :=
  (pt_cmpR oq_isN ha pe_non rfl).imp fun σ H Q z => RdP.mono (rd_prim1 (rd_cmpT rfl z)) fun _ _ z => ⟨rfl, z⟩
theorem st_notN {a : PySem.Expr} {o : Op} {k : Nat} {p pos : Pos} (ha : SO X xv W C a o) : ST X xv W C (.Compare a [.IsNot] [.Constant .none k p] pos) (.tr (.e (.pr .notN (.cons o .nil)))) :=
  (pt_cmpR oq_notN ha pe_non rfl).imp fun σ H Q z => RdP.mono (rd_prim1 (rd_cmpT rfl z)) fun _ _ z => ⟨rfl, z⟩
theorem st_isB {a : PySem.Expr} {o : Op} {b : Bool} {k : Nat} {p pos : Pos} (ha : SO X xv W C a o) : ST X xv W C (.Compare a [.Is] [.Constant (.bool b) k p] pos) (.tr (.e (.pr (.isB b) (.cons o .nil)))) :=
  (pt_cmpR oq_isB ha pe_bl rfl).imp fun σ H Q z => RdP.mono (rd_prim1 (rd_cmpT rfl z)) fun _ _ z => ⟨rfl, z⟩
/-! comprehensions -/
def gsOf (c : Ct) : Tg → PySem.Expr → Bool
  | _, _ => true
theorem noset {iter : PySem.Expr} {env : Env} (h : isSet iter = false) (x : Value) : foldedSetIterable iter env x = pure x := by cases iter <;> first | rfl | cases h
/-- what is known within a comprehension's block -/
def Ct.blk (c : Ct) (scope : Scope) : Ct := { c with sc := relS scope c.sc, fn := fun x => scope.names.lookup x == some .cell }
theorem OkX.blk (o : OkX X c xv W C n) {s : Shared} {H : Hp} {scope : Scope} {Ca : Addr} {cl : List (Str × Addr)} {fp : List Addr} (hk : scope.kind = .function) : OkX (X.blk s H scope (compEnvC scope cl Ca X.env) fp) (c.blk scope) xv noWX C n where
  N := o.N
  nd := o.nd
  nn := o.nn
  sc := by
    show relabel scope X.env = relS scope c.sc
    rw [← o.sc]
    rfl
  kind := hk
  fn := rfl
  calm := o.calm
  room := o.room
  tk := takes0
  bt := o.bt
  gl := o.gl
  cs := o.cs
end
end Pd
set_option Elab.async false
set_option linter.all false
set_option maxRecDepth 100000
set_option maxHeartbeats 4000000
/-! Part 19: from the text to the language: the reader of expressions, and that it reads right. -/
namespace Pd
open PySem PySem.Spec PyProof.Rows L2
structure Cm where
  e : Ct → PySem.Expr → Option Ex
  t : Ct → PySem.Expr → Option Te
section
variable (m : Cm) (c : Ct)
def cO : PySem.Expr → Option Op
  | .Name x p => match c.slot x with
    | some i => some (.v i)
    | none => (m.e c (.Name x p)).map .e
  | e => (m.e c e).map .e
def cOps : List PySem.Expr → Option Ops
  | [] => some .nil
  | e :: es => if noStar e then match cO m c e with
    | some o => match cOps es with | some os => some (.cons o os) | none => none
    | none => none else none
def cExs : List PySem.Expr → Option Exs
  | [] => some .nil
  | .Starred e _ :: es => match cO m c e with
    | some o => match cExs es with | some os => some (.star o os) | none => none
    | none => none
  | e :: es => if noStar e then match m.e c e with
    | some o => match cExs es with | some os => some (.cons o os) | none => none
    | none => none else none
def cExw : List PySem.Expr → Option Exs
  | [] => some .nil
  | e :: es => if noStar e then match m.e c e with
    | some o => match cExw es with | some os => some (.cons o os) | none => none
    | none => none else none
def cRcd : List (Option PySem.Expr) → List PySem.Expr → Option (List Str × Exs)
  | [], [] => some ([], .nil)
  | some (.Constant (.str f) _ _) :: ks, v :: vs => match m.e c v with
    | some x => match cRcd ks vs with | some (fs, xs) => some (f :: fs, .cons x xs) | none => none
    | none => none
  | _, _ => none
def cDmk : List (Option PySem.Expr) → List PySem.Expr → Option Exs
  | [], [] => some .nil
  | some k :: ks, v :: vs => match m.e c k with
    | some y => match m.e c v with
      | some x => match cDmk ks vs with | some xs => some (.cons y (.cons x xs)) | none => none
      | none => none
    | none => none
  | _, _ => none
def cBool (op : BoolOp) : List PySem.Expr → Option Ex
  | [] => none
  | [a] => m.e c a
  | a :: r => match m.e c a with
    | some x => match cBool op r with
      | some y => some (match op with | .And => .land x y | .Or => .lor x y)
      | none => none
    | none => none
def cBoolT (op : BoolOp) : List PySem.Expr → Option Te
  | [] => none
  | [a] => m.t c a
  | a :: r => match m.t c a with
    | some x => match cBoolT op r with
      | some y => some (match op with | .And => .land x y | .Or => .lor x y)
      | none => none
    | none => none
def cCmp (a : PySem.Expr) (op : CmpOp) (b : PySem.Expr) : Option Ex := match cO m c a with
  | none => none
  | some o => match op, b with
    | .Is, .Constant .none _ _ => some (.pr .isN (.cons o .nil))
    | .IsNot, .Constant .none _ _ => some (.pr .notN (.cons o .nil))
    | .Is, .Constant (.bool k) _ _ => some (.pr (.isB k) (.cons o .nil))
    | op, b => match cmpP op with
      | some q => if isSet b then none else match cO m c b with
        | some p => some (.pr q (.cons o (.cons p .nil)))
        | none => none
      | none => none
def cNames : List PySem.Expr → Option (List Nat)
  | [] => some []
  | .Name x _ :: es => match c.sto x with
    | some i => match cNames es with | some is => some (i :: is) | none => none
    | none => none
  | _ :: _ => none
def cTg : PySem.Expr → Option Tg
  | .Name x _ => (c.sto x).map .nm
  | .Tuple es _ _ => (cNames c es).map .tp
  | _ => none
def namesOf : PySem.Expr → List Str
  | .Name x _ => [x]
  | .Tuple es _ _ => es.filterMap fun | .Name x _ => some x | _ => none
  | _ => []
def ownOf (e : PySem.Expr) : List (Str × Nat) := (namesOf e).filterMap fun x => match ixS x c.N 0 with | some i => some (x, i) | none => none
def isTup : PySem.Expr → Bool
  | .Tuple _ _ _ => true
  | _ => false
/-- what is gone through by the target tg -/
def cIr (tg : PySem.Expr) : PySem.Expr → Option Ir
  | .Call (.Name f p) [a] [] q => match (if c.isGl f then bOf f else none) with
    | some .range => if noStar a then (m.e c a).map .rng1 else none
    | some .enumerate => if noStar a && isTup tg then (cO m c a).map .enum else none
    | _ => (m.e c (.Call (.Name f p) [a] [] q)).map fun x => .op (.e x)
  | .Call (.Name f p) [a, b] [] q => match (if c.isGl f then bOf f else none) with
    | some .range => if noStar a && noStar b then match m.e c a with
      | some x => (m.e c b).map fun y => .rng2 x y
      | none => none else none
    | _ => (m.e c (.Call (.Name f p) [a, b] [] q)).map fun x => .op (.e x)
  | e => if isSet e then none else (cO m c e).map .op
def cIfs : List PySem.Expr → Option Tes
  | [] => some .nil
  | [t] => (m.t c t).map .one
  | _ => none
def cLc (el : PySem.Expr) (gs : List Comprehension) (scope : Scope) : Option Ex := match gs with
  | [⟨tg, iter, ifs, 0⟩] =>
    if isSet iter then none else
    if blkC c.N c.sc scope (ownOf c tg) then match cIr m c tg iter with
      | some it => match cTg (c.blk scope) tg with
        | some g => match cIfs m (c.blk scope) ifs with
          | some t => match m.e (c.blk scope) el with
            | some x => if (tgSl g).all (fun i => decide (i ∈ (ownOf c tg).map (·.2))) then some (.lc x g it t ((ownOf c tg).map (·.2))) else none
            | none => none
          | none => none
        | none => none
      | none => none
    else none
  | _ => none
def cSub (a i : PySem.Expr) : Option Ex := match i with
  | .Slice none none none _ => (cO m c a).map fun o => .pr (.cut false false) (.cons o .nil)
  | .Slice (some l) none none _ => match cO m c a with
    | some o => (cO m c l).map fun p => .pr (.cut true false) (.cons o (.cons p .nil))
    | none => none
  | .Slice none (some l) none _ => match cO m c a with
    | some o => (cO m c l).map fun p => .pr (.cut false true) (.cons o (.cons p .nil))
    | none => none
  | .Slice none none (some (.UnaryOp .USub (.Constant (.int 1) _ _) _)) _ => (cO m c a).map fun o => .pr .rev (.cons o .nil)
  | .Slice _ _ _ _ => none
  | i => match cO m c a with
    | some o => match cO m c i with
      | some p => some (.pr .ix (.cons o (.cons p .nil)))
      | none => none
    | none => none
/-- d['f'] of a record -/
def cFld (a i : PySem.Expr) : Option (Nat × Str) := match a, i with
  | .Name x _, .Constant (.str f) _ _ => match c.slot x with
    | some k => if k ∈ c.rc then some (k, f) else none
    | none => none
  | _, _ => none
def cMeth (o : PySem.Expr) (f : Str) (args : List PySem.Expr) (good : Bool) : Option Ex := if good then match o with
    | .Name x _ => match c.slot x with
      | some i => if f = "append" then match args with
          | [e] => if noStar e then (m.e c e).map fun y => .app i y else none
          | _ => none
        else if f = "pop" then match args with
          | [] => some (.pop i)
          | [e] => if noStar e then (m.e c e).map fun y => .popAt i y else none
          | _ => none
        else if f = "index" then match args with
          | [e] => if noStar e then (m.e c e).map fun y => .idx i y else none
          | _ => none
        else none
      | none => none
    | .Subscript a k _ => match cFld c a k with
      | some (i, g) => if f = "pop" then match args with
          | [] => some (.popF i g)
          | _ => none
        else none
      | none => none
    | _ => none
  else none
def cCallN (x : Str) (args : List PySem.Expr) : Option Ex := match c.gl.lookup x with
  | some f => if args.isEmpty then none else if args.all noStar then (cOps m c args).map fun os => .call f os else none
  | none => match bOf x with
    | none => none
    | some b => match b, args with
      | .len, [.Subscript a k p] => match cFld c a k with
        | some (i, g) => some (.lenF i g)
        | none => (cOps m c [.Subscript a k p]).map fun os => .pr .len os
      | .list, [.Call (.Name r p) [a] [] q] => if c.isGl r && decide (bOf r = some .range) && noStar a then (cO m c a).map fun o => .pr .lrng (.cons o .nil) else (cOps m c [.Call (.Name r p) [a] [] q]).map fun os => .pr .list os
      | b, args => match b.pr args.length with
        | some q => if args.all noStar then (cOps m c args).map fun os => .pr q os else none
        | none => none
def cE1 : PySem.Expr → Option Ex
  | .Name x _ => match c.slot x with
    | some i => some (.var i)
    | none => if c.isGl x then (c.cs.lookup x).map .cst else none
  | .Constant (.int i) _ _ => some (.cst (.int i))
  | .Constant (.str i) _ _ => some (.cst (.str i))
  | .Constant (.bool i) _ _ => some (.cst (.bl i))
  | .Constant .none _ _ => some (.cst .non)
  | .BinOp a op b _ => match binP op with
    | some q => match cO m c a with
      | some o => (cO m c b).map fun p => .pr q (.cons o (.cons p .nil))
      | none => none
    | none => none
  | .UnaryOp .USub a _ => (cO m c a).map fun o => .pr .neg (.cons o .nil)
  | .UnaryOp .Not a _ => (cO m c a).map .lnot
  | .BoolOp op es _ => cBool m c op es
  | .IfExp t a b _ => match m.t c t with
    | some u => match m.e c a with
      | some x => (m.e c b).map fun y => .cond u x y
      | none => none
    | none => none
  | .Compare a [op] [b] _ => cCmp m c a op b
  | .Call (.Name x _) args [] _ => if c.isGl x then cCallN m c x args else none
  | .Call (.Attribute o f ap) args [] p => cMeth m c o f args (ap.endLine == p.line)
  | .Subscript a i _ => match cFld c a i with
    | some (k, f) => some (.fld k f)
    | none => cSub m c a i
  | .Tuple es _ _ => (cExs m c es).map .tup
  | .List es _ => (cExs m c es).map .lst
  | .Dict [] [] _ => some .dnew
  | .Dict ks vs _ => if ks.isEmpty || decide (15 < ks.length) then none else match cRcd m c ks vs with
    | some (fs, xs) => some (.rcd fs xs)
    | none => (cDmk m c ks vs).map .dmk
  | .ListComp el gs scope _ => cLc m c el gs scope
  | _ => none
def cT1 : PySem.Expr → Option Te
  | .UnaryOp .Not a _ => (m.t c a).map .lnot
  | .BoolOp op es _ => cBoolT m c op es
  | .Compare a [op] [b] _ => (cCmp m c a op b).map fun x => .tr (.e x)
  | e => if plainT e then (cO m c e).map .tr else none
end
def cM : Nat → Cm
  | 0 => ⟨fun _ _ => none, fun _ _ => none⟩
  | n + 1 => ⟨cE1 (cM n), cT1 (cM n)⟩

/-! ### it reads right -/
def MOk (xv : Xv) (C : Cl) (m : Cm) : Prop := ∀ (X : Cx) (c : Ct) (W : WX) (n : Nat), OkX X c xv W C n → (∀ e x, m.e c e = some x → SE X xv W C e x) ∧ (∀ e t, m.t c e = some t → ST X xv W C e t)
section
variable {X : Cx} {c : Ct} {xv : Xv} {W : WX} {C : Cl} {n : Nat} {m : Cm}
theorem PI.imp {tg it : PySem.Expr} {wi wi' : TI} (h : PI X tg it wi) (q : ∀ σ H R, wi' σ H R → wi σ H R) : PI X tg it wi' := ⟨fun ps s σ H R I hw => h.run ps s σ H R I (q σ H R hw)⟩
theorem cO_ok (hm : MOk xv C m) (ok : OkX X c xv W C n) {e : PySem.Expr} {o : Op} (h : cO m c e = some o) : SO X xv W C e o := by
  have gen : ∀ {e : PySem.Expr}, (m.e c e).map Op.e = some o → SO X xv W C e o := fun {e} h => by
    cases q : m.e c e with
    | none => rw [q] at h; cases h
    | some x =>
      rw [q] at h
      cases h
      exact so_e ((hm X c W n ok).1 e x q)
  cases e with
  | Name x p =>
    cases hs : c.slot x with
    | some i =>
      simp only [cO, hs] at h
      cases h
      exact so_v ok hs
    | none =>
      simp only [cO, hs] at h
      exact gen h
  | _ => exact gen h
theorem cOps_ok (hm : MOk xv C m) (ok : OkX X c xv W C n) : ∀ {es : List PySem.Expr} {os : Ops}, cOps m c es = some os → SA X xv W C es os ∧ es.all noStar = true
  | [], os, h => by
    simp only [cOps] at h
    cases h
    exact ⟨sa_nil, rfl⟩
  | e :: es, os, h => by
    simp only [cOps] at h
    split at h
    · rename_i hn
      split at h
      · rename_i o ho
        split at h
        · rename_i os' hos
          cases h
          obtain ⟨q1, q2⟩ := cOps_ok hm ok hos
          exact ⟨sa_cons hn (cO_ok hm ok ho) q1, by rw [List.all_cons, hn, q2]; rfl⟩
        · cases h
      · cases h
    · cases h
theorem cExs_ok (hm : MOk xv C m) (ok : OkX X c xv W C n) : ∀ {es : List PySem.Expr} {xs : Exs}, cExs m c es = some xs → SS X xv W C es xs
  | [], xs, h => by
    simp only [cExs] at h
    cases h
    exact ss_nil
  | e :: es, xs, h => by
    by_cases hn : noStar e = true
    · have h' : (match m.e c e with
        | some o => match cExs m c es with | some os => some (Exs.cons o os) | none => none
        | none => none) = some xs := by
        cases e <;> first | (simp [noStar] at hn; done) | (simpa [cExs, noStar] using h)
      split at h'
      · rename_i o ho
        split at h'
        · rename_i os hos
          cases h'
          exact ss_cons hn ((hm X c W n ok).1 e o ho) (cExs_ok hm ok hos)
        · cases h'
      · cases h'
    · cases e with
      | Starred e p =>
        simp only [cExs] at h
        split at h
        · rename_i o ho
          split at h
          · rename_i os hos
            cases h
            exact ss_star (cO_ok hm ok ho) (cExs_ok hm ok hos)
          · cases h
        · cases h
      | _ => exact absurd rfl hn
theorem cExw_ok (hm : MOk xv C m) (ok : OkX X c xv W C n) : ∀ {es : List PySem.Expr} {xs : Exs}, cExw m c es = some xs → SW X xv W C es xs
  | [], xs, h => by
    simp only [cExw] at h
    cases h
    exact sw_nil
  | e :: es, xs, h => by
    simp only [cExw] at h
    split at h
    · rename_i hn
      split at h
      · rename_i o ho
        split at h
        · rename_i os' hos
          cases h
          exact sw_cons hn ((hm X c W n ok).1 e o ho) (cExw_ok hm ok hos)
        · cases h
      · cases h
    · cases h
theorem cRcd_ok (hm : MOk xv C m) (ok : OkX X c xv W C n) : ∀ {ks : List (Option PySem.Expr)} {vs : List PySem.Expr} {fs : List Str} {xs : Exs}, cRcd m c ks vs = some (fs, xs) → PsR X xv W C ks vs fs xs
  | [], [], fs, xs, h => by
    simp only [cRcd] at h
    cases h
    exact .nil
  | k :: ks, v :: vs, fs, xs, h => by
    unfold cRcd at h
    split at h
    · contradiction
    · rename_i e1 e2
      cases e1
      cases e2
      split at h
      · rename_i x hx
        split at h
        · rename_i fs' xs' hr
          cases h
          exact .cons ((hm X c W n ok).1 _ _ hx) (cRcd_ok hm ok hr)
        · cases h
      · cases h
    · cases h
  | [], _ :: _, fs, xs, h => by simp [cRcd] at h
  | k :: ks, [], fs, xs, h => by simp [cRcd] at h
theorem cDmk_ok (hm : MOk xv C m) (ok : OkX X c xv W C n) : ∀ {ks : List (Option PySem.Expr)} {vs : List PySem.Expr} {xs : Exs}, cDmk m c ks vs = some xs → PsD X xv W C ks vs xs
  | [], [], xs, h => by
    simp only [cDmk] at h
    cases h
    exact .nil
  | some k :: ks, v :: vs, xs, h => by
    simp only [cDmk] at h
    split at h
    · rename_i y hy
      split at h
      · rename_i x hx
        split at h
        · rename_i xs' hr
          cases h
          exact .cons ((hm X c W n ok).1 _ _ hy) ((hm X c W n ok).1 _ _ hx) (cDmk_ok hm ok hr)
        · cases h
      · cases h
    · cases h
  | none :: ks, v :: vs, xs, h => by simp [cDmk] at h
  | [], _ :: _, xs, h => by simp [cDmk] at h
  | k :: ks, [], xs, h => by cases k <;> simp [cDmk] at h
theorem cBool_ok (hm : MOk xv C m) (ok : OkX X c xv W C n) {op : BoolOp} {pos : Pos} : ∀ {es : List PySem.Expr} {x : Ex}, cBool m c op es = some x → SE X xv W C (.BoolOp op es pos) x
  | [], x, h => by simp [cBool] at h
  | [a], x, h => by
    simp only [cBool] at h
    exact se_one ((hm X c W n ok).1 _ _ h)
  | a :: b :: r, x, h => by
    unfold cBool at h
    split at h
    · rename_i y hy
      split at h
      · rename_i z hz
        cases h
        have q1 := (hm X c W n ok).1 _ _ hy
        have q2 := cBool_ok hm ok (pos := pos) hz
        cases op with
        | And => exact se_and q1 q2
        | Or => exact se_or q1 q2
      · cases h
    · cases h
theorem cBoolT_ok (hm : MOk xv C m) (ok : OkX X c xv W C n) {op : BoolOp} {pos : Pos} : ∀ {es : List PySem.Expr} {x : Te}, cBoolT m c op es = some x → SV X xv W C (.BoolOp op es pos) x
  | [], x, h => by simp [cBoolT] at h
  | [a], x, h => by
    simp only [cBoolT] at h
    have q := (hm X c W n ok).2 _ _ h
    cases op with
    | And => exact st_and1 q
    | Or => exact st_or1 q
  | a :: b :: r, x, h => by
    unfold cBoolT at h
    split at h
    · rename_i y hy
      split at h
      · rename_i z hz
        cases h
        have q1 := (hm X c W n ok).2 _ _ hy
        have q2 := cBoolT_ok hm ok (pos := pos) hz
        cases op with
        | And => exact st_and q1 q2
        | Or => exact st_or q1 q2
      · cases h
    · cases h
theorem cCmp_ok (hm : MOk xv C m) (ok : OkX X c xv W C n) {a b : PySem.Expr} {op : CmpOp} {pos : Pos} {x : Ex} (h : cCmp m c a op b = some x) : SE X xv W C (.Compare a [op] [b] pos) x ∧ ST X xv W C (.Compare a [op] [b] pos) (.tr (.e x)) := by
  unfold cCmp at h
  split at h
  · cases h
  · rename_i o ho
    have ha := cO_ok hm ok ho
    split at h
    · cases h; exact ⟨se_isN ha, st_isN ha⟩
    · cases h; exact ⟨se_notN ha, st_notN ha⟩
    · cases h; exact ⟨se_isB ha, st_isB ha⟩
    · split at h
      · rename_i q hq
        split at h
        · cases h
        · rename_i hs
          have hs : isSet b = false := by simpa using hs
          split at h
          · rename_i p hp
            cases h
            exact ⟨se_cmp ok hq hs ha (cO_ok hm ok hp), st_cmp ok hq hs ha (cO_ok hm ok hp)⟩
          · cases h
      · cases h
end
end Pd
set_option Elab.async false
set_option linter.all false
set_option maxRecDepth 100000
set_option maxHeartbeats 4000000
/-! Part 20: the reader of expressions reads right (second part). -/
namespace Pd
open PySem PySem.Spec PyProof.Rows L2
section
variable {X : Cx} {c : Ct} {xv : Xv} {W : WX} {C : Cl} {n : Nat} {m : Cm}
theorem mapS {α β : Type} {f : α → β} {o : Option α} {y : β} (h : o.map f = some y) : ∃ x, o = some x ∧ f x = y := by
  cases o with
  | none => cases h
  | some x => cases h; exact ⟨x, rfl, rfl⟩
theorem cNames_ok (ok : OkX X c xv W C n) : ∀ {es : List PySem.Expr} {is : List Nat}, cNames c es = some is → NmL X es is
  | [], is, h => by simp only [cNames] at h; cases h; exact .nil
  | e :: es, is, h => by
    cases e with
    | Name x p =>
      simp only [cNames] at h
      split at h
      · rename_i i hi
        split at h
        · rename_i is' hs
          cases h
          obtain ⟨q1, q2, q3⟩ := ok.sto hi
          exact .cons q1 q2 q3 (cNames_ok ok hs)
        · cases h
      · cases h
    | _ => simp [cNames] at h
theorem NmL.pgs (hN : X.N.Nodup) {es : List PySem.Expr} {is : List Nat} (h : NmL X es is) : PGs X es (gNames is) := by
  induction h with
  | nil => exact pgs_nil
  | cons hi hx hf _ ih => exact pgs_cons (pg_name hN hi hx hf) ih rfl
theorem cTg_ok (ok : OkX X c xv W C n) {e : PySem.Expr} {tg : Tg} (h : cTg c e = some tg) : PG X e (gOf X.K tg) := by
  cases e with
  | Name x p =>
    obtain ⟨i, hi, rfl⟩ := mapS (show (c.sto x).map Tg.nm = some tg from h)
    obtain ⟨q1, q2, q3⟩ := ok.sto hi
    exact pg_name ok.ndX q1 q2 q3
  | Tuple es k p =>
    obtain ⟨is, hi, rfl⟩ := mapS (show (cNames c es).map Tg.tp = some tg from h)
    have q := cNames_ok ok hi
    exact pg_tup ok.calm (q.pgs ok.ndX) q.len.1 q.len.2
  | _ => simp [cTg] at h
theorem cIr_ok (hm : MOk xv C m) (ok : OkX X c xv W C n) {tg e : PySem.Expr} {it : Ir} (h : cIr m c tg e = some it) : PI X tg e (RdI X.K xv W C it) := by
  have op : ∀ {e : PySem.Expr} {o : Op}, SO X xv W C e o → PI X tg e (RdI X.K xv W C (.op o)) := fun ho => PI.imp (pi_seq ho) fun _ _ _ z => rdi_op z
  have opE : ∀ {e : PySem.Expr}, (m.e c e).map (fun x => Ir.op (.e x)) = some it → PI X tg e (RdI X.K xv W C it) := fun {e} h => by
    obtain ⟨x, hx, rfl⟩ := mapS h
    exact op (so_e ((hm X c W n ok).1 _ _ hx))
  have gen : ∀ {e : PySem.Expr}, (if isSet e then none else (cO m c e).map Ir.op) = some it → PI X tg e (RdI X.K xv W C it) := fun {e} h => by
    split at h
    · cases h
    · obtain ⟨o, ho, rfl⟩ := mapS h
      exact op (cO_ok hm ok ho)
  unfold cIr at h
  split at h
  · rename_i f p a q
    split at h
    · rename_i hb
      split at hb
      · rename_i hg
        split at h
        · rename_i hn
          obtain ⟨x, hx, rfl⟩ := mapS h
          have g := ok.isGl hg
          rw [bOf_nm hb] at g ⊢
          exact PI.imp (pi_range1 g (ok.bt .range) (pa_cons ((hm X c W n ok).1 _ _ hx) pa_nil (star_cons hn)) (star_cons hn)) fun _ _ _ z => rdi_rng1 z
        · cases h
      · cases hb
    · rename_i hb
      split at hb
      · rename_i hg
        split at h
        · rename_i hn
          rw [Bool.and_eq_true] at hn
          obtain ⟨o, ho, rfl⟩ := mapS h
          have g := ok.isGl hg
          rw [bOf_nm hb] at g ⊢
          cases tg with
          | Tuple es k tp =>
            have pa : PA X [a] (tOp1 (RdP X.K xv W (evp C o))) := (pa_cons (cO_ok hm ok ho) pa_nil (star_cons hn.1)).imp fun _ _ _ z => z
            exact PI.imp (pi_en g (ok.bt .enumerate) pa (star_cons hn.1)) fun _ _ _ z => rdi_enum z
          | _ => simp [isTup] at hn
        · cases h
      · cases hb
    · exact opE h
  · rename_i f p a b q
    split at h
    · rename_i hb
      split at hb
      · rename_i hg
        split at h
        · rename_i hn
          rw [Bool.and_eq_true] at hn
          split at h
          · rename_i x hx
            obtain ⟨y, hy, rfl⟩ := mapS h
            have g := ok.isGl hg
            rw [bOf_nm hb] at g ⊢
            have h1 := star_cons (env := X.env) (es := []) hn.2
            have h2 := star_cons (env := X.env) (es := [b]) hn.1
            refine PI.imp (pi_range2 g (ok.bt .range) (pa_cons ((hm X c W n ok).1 _ _ hx) (pa_cons ((hm X c W n ok).1 _ _ hy) pa_nil h1) h2) ?_ h1) fun _ _ _ z => rdi_rng2 z
            rw [h2, h1]; rfl
          · cases h
        · cases h
      · cases hb
    · exact opE h
  · exact gen h
theorem cIfs_ok (hm : MOk xv C m) (ok : OkX X c xv noWX C n) {es : List PySem.Expr} {t : Tes} (h : cIfs m c es = some t) : PTs X es (ttOf X.K xv C t) := by
  unfold cIfs at h
  split at h
  · cases h; exact pts_nil
  · obtain ⟨x, hx, rfl⟩ := mapS h
    exact pts_one ((hm X c noWX n ok).2 _ _ hx)
  · cases h
/-- what a comprehension's reader has found -/
structure LcOk (X : Cx) (c : Ct) (xv : Xv) (W : WX) (C : Cl) (el : PySem.Expr) (gs : List Comprehension) (scope : Scope) (y : Ex) : Prop where
  ex : ∃ (tg iter : PySem.Expr) (ifs : List PySem.Expr) (it : Ir) (g : Tg) (t : Tes) (x : Ex), gs = [⟨tg, iter, ifs, 0⟩] ∧ isSet iter = false ∧ blkC c.N c.sc scope (ownOf c tg) = true ∧ PI X tg iter (RdI X.K xv W C it) ∧
    (∀ (s : Shared) (H : Hp) (Ca : Addr) (cl : List (Str × Addr)) (fp : List Addr), PG (X.blk s H scope (compEnvC scope cl Ca X.env) fp) tg (gOf X.K g)) ∧
    (∀ (s : Shared) (H : Hp) (Ca : Addr) (cl : List (Str × Addr)) (fp : List Addr), PTs (X.blk s H scope (compEnvC scope cl Ca X.env) fp) ifs (ttOf X.K xv C t)) ∧
    (∀ (s : Shared) (H : Hp) (Ca : Addr) (cl : List (Str × Addr)) (fp : List Addr), PE (X.blk s H scope (compEnvC scope cl Ca X.env) fp) el (RdE X.K xv noWX (ev C x))) ∧
    (∀ i ∈ tgSl g, i ∈ (ownOf c tg).map (·.2)) ∧ y = .lc x g it t ((ownOf c tg).map (·.2))
theorem cLc_ok (hm : MOk xv C m) (ok : OkX X c xv W C n) {el : PySem.Expr} {gs : List Comprehension} {scope : Scope} {y : Ex} (h : cLc m c el gs scope = some y) : LcOk X c xv W C el gs scope y := by
  unfold cLc at h
  split at h
  · rename_i tg iter ifs
    split at h
    · cases h
    · rename_i hs
      split at h
      · rename_i hb
        split at h
        · rename_i it hi
          split at h
          · rename_i g hg
            split at h
            · rename_i t ht
              split at h
              · rename_i x hx
                split at h
                · rename_i hall
                  cases h
                  have hk : scope.kind = .function := (blkOk_by hb).kind
                  refine ⟨tg, iter, ifs, it, g, t, x, rfl, by simpa using hs, hb, cIr_ok hm ok hi, fun s H Ca cl fp => cTg_ok (ok.blk (s := s) (H := H) (Ca := Ca) (cl := cl) (fp := fp) hk) hg, fun s H Ca cl fp => cIfs_ok hm (ok.blk (s := s) (H := H) (Ca := Ca) (cl := cl) (fp := fp) hk) ht, fun s H Ca cl fp => (hm _ _ _ _ (ok.blk (s := s) (H := H) (Ca := Ca) (cl := cl) (fp := fp) hk)).1 _ _ hx, fun i hi => of_decide_eq_true (List.all_eq_true.mp hall i hi), rfl⟩
                · cases h
              · cases h
            · cases h
          · cases h
        · cases h
      · cases h
  · cases h
theorem LcOk.se (ok : OkX X c xv W C n) {el : PySem.Expr} {gs : List Comprehension} {scope : Scope} {y : Ex} {pos : Pos} (h : LcOk X c xv W C el gs scope y) : SE X xv W C (.ListComp el gs scope pos) y := by
  obtain ⟨tg, iter, ifs, it, g, t, x, rfl, h1, h2, h3, h4, h5, h6, h7, rfl⟩ := h.ex
  have hb := blkOk_by h2
  rw [← ok.N, ← ok.sc] at hb
  exact (pe_lc ok.calm ok.ndX h3 hb h4 h5 h6 (noset h1)).imp fun σ H Q z => rd_lc h7 z
theorem cFld_ok {a i : PySem.Expr} {k : Nat} {f : Str} (h : cFld c a i = some (k, f)) : ∃ x p j q, a = .Name x p ∧ i = .Constant (.str f) j q ∧ c.slot x = some k := by
  unfold cFld at h
  split at h
  · split at h
    · rename_i hk
      split at h
      · cases h; exact ⟨_, _, _, _, rfl, rfl, hk⟩
      · cases h
    · cases h
  · cases h
theorem cSub_ok (hm : MOk xv C m) (ok : OkX X c xv W C n) {a i : PySem.Expr} {pos : Pos} {x : Ex} (h : cSub m c a i = some x) : SE X xv W C (.Subscript a i pos) x := by
  unfold cSub at h
  split at h
  · obtain ⟨o, ho, rfl⟩ := mapS h
    exact se_cutN (cO_ok hm ok ho)
  · split at h
    · rename_i o ho
      obtain ⟨p, hp, rfl⟩ := mapS h
      exact se_cutL (cO_ok hm ok ho) (cO_ok hm ok hp)
    · cases h
  · split at h
    · rename_i o ho
      obtain ⟨p, hp, rfl⟩ := mapS h
      exact se_cutH (cO_ok hm ok ho) (cO_ok hm ok hp)
    · cases h
  · obtain ⟨o, ho, rfl⟩ := mapS h
    exact se_rev (cO_ok hm ok ho)
  · cases h
  · rename_i hne
    have hs : isSlice i = false := by
      cases i <;> first | rfl | exact absurd rfl (hne _ _ _ _)
    split at h
    · rename_i o ho
      split at h
      · rename_i p hp
        cases h
        exact se_ix ok hs (cO_ok hm ok ho) (cO_ok hm ok hp)
      · cases h
    · cases h
theorem cMeth_ok (hm : MOk xv C m) (ok : OkX X c xv W C n) {o : PySem.Expr} {f : Str} {args : List PySem.Expr} {ap pos : Pos} {x : Ex} (h : cMeth m c o f args (ap.endLine == pos.line) = some x) : SE X xv W C (.Call (.Attribute o f ap) args [] pos) x := by
  unfold cMeth at h
  split at h
  · rename_i hl
    split at h
    · split at h
      · rename_i y p i hi
        split at h
        · rename_i hf
          subst hf
          split at h
          · rename_i e
            split at h
            · rename_i hn
              obtain ⟨z, hz, rfl⟩ := mapS h
              exact se_app ok hi hn hl ((hm X c W n ok).1 _ _ hz)
            · cases h
          · cases h
        · split at h
          · rename_i hf
            subst hf
            split at h
            · cases h
              exact se_pop ok hi hl
            · rename_i e
              split at h
              · rename_i hn
                obtain ⟨z, hz, rfl⟩ := mapS h
                exact se_popAt ok hi hn hl ((hm X c W n ok).1 _ _ hz)
              · cases h
            · cases h
          · split at h
            · rename_i hf
              subst hf
              split at h
              · rename_i e
                split at h
                · rename_i hn
                  obtain ⟨z, hz, rfl⟩ := mapS h
                  exact se_idx ok hi hn hl ((hm X c W n ok).1 _ _ hz)
                · cases h
              · cases h
            · cases h
      · cases h
    · split at h
      · rename_i a k sp i g hfl
        split at h
        · rename_i hf
          subst hf
          split at h
          · cases h
            obtain ⟨x, p, j, q, rfl, rfl, hs⟩ := cFld_ok hfl
            exact se_popF ok hs hl
          · cases h
        · cases h
      · cases h
    · cases h
  · cases h
theorem cCallN_ok (hm : MOk xv C m) (ok : OkX X c xv W C n) {x : Str} {args : List PySem.Expr} {p pos : Pos} {y : Ex} (hg : c.isGl x = true) (h : cCallN m c x args = some y) : SE X xv W C (.Call (.Name x p) args [] pos) y := by
  have gen : ∀ {b : Bt} {args : List PySem.Expr} {q : Pr}, bOf x = some b → b.pr args.length = some q → (cOps m c args).map (fun os => Ex.pr q os) = some y → SE X xv W C (.Call (.Name x p) args [] pos) y := fun hb hq h => by
    obtain ⟨os, hos, rfl⟩ := mapS h
    obtain ⟨q1, q2⟩ := cOps_ok hm ok hos
    exact se_blt ok hb hg hq q2 q1
  unfold cCallN at h
  split at h
  · rename_i f hf
    split at h
    · cases h
    · rename_i hz
      split at h
      · obtain ⟨os, hos, rfl⟩ := mapS h
        obtain ⟨q1, q2⟩ := cOps_ok hm ok hos
        refine se_call ok hf hg (fun e => ?_) q2 q1
        subst e
        exact hz rfl
      · cases h
  · split at h
    · cases h
    · rename_i b hb
      split at h
      · rename_i a k sp
        split at h
        · rename_i i g hfl
          cases h
          obtain ⟨z, p1, j, q, rfl, rfl, hs⟩ := cFld_ok hfl
          have hx := bOf_nm hb
          have hx : x = "len" := hx
          subst hx
          exact se_lenF ok hs hg
        · exact gen hb rfl h
      · rename_i r rp a rq
        split at h
        · rename_i hc
          simp only [Bool.and_eq_true, decide_eq_true_eq] at hc
          obtain ⟨o, ho, rfl⟩ := mapS h
          have hx : x = "list" := bOf_nm hb
          have hr : r = "range" := bOf_nm hc.1.2
          subst hx hr
          exact se_lrng ok hg hc.1.1 hc.2 (cO_ok hm ok ho)
        · exact gen hb rfl h
      · split at h
        · rename_i q hq
          split at h
          · exact gen hb hq h
          · cases h
        · cases h
theorem cE1_ok (hm : MOk xv C m) (ok : OkX X c xv W C n) {e : PySem.Expr} {x : Ex} (h : cE1 m c e = some x) : SE X xv W C e x := by
  unfold cE1 at h
  split at h
  · split at h
    · rename_i i hi
      cases h
      exact (ok.slot hi).imp fun σ H Q z => rd_var z
    · split at h
      · rename_i hg
        obtain ⟨d, hd, rfl⟩ := mapS h
        obtain ⟨h1, u, v, h2, h3, h4⟩ := ok.cs _ _ hd
        exact (pe_glob (ok.isGl hg) h2 h3 h1).imp fun σ H Q z => rd_cst h4 z
      · cases h
  · cases h; exact pe_int.imp fun σ H Q z => rd_cst (fun _ _ => .int _) z
  · cases h; exact pe_str.imp fun σ H Q z => rd_cst (fun _ _ => .str _) z
  · cases h; exact pe_bl.imp fun σ H Q z => rd_cst (fun _ _ => .bl _) z
  · cases h; exact pe_non.imp fun σ H Q z => rd_cst (fun _ _ => .non) z
  · split at h
    · rename_i q hq
      split at h
      · rename_i o ho
        obtain ⟨p, hp, rfl⟩ := mapS h
        exact se_bin ok hq (cO_ok hm ok ho) (cO_ok hm ok hp)
      · cases h
    · cases h
  · obtain ⟨o, ho, rfl⟩ := mapS h
    exact se_neg (cO_ok hm ok ho)
  · obtain ⟨o, ho, rfl⟩ := mapS h
    exact se_not (cO_ok hm ok ho)
  · exact cBool_ok hm ok h
  · split at h
    · rename_i u hu
      split at h
      · rename_i y hy
        obtain ⟨z, hz, rfl⟩ := mapS h
        exact se_cond ((hm X c W n ok).2 _ _ hu) ((hm X c W n ok).1 _ _ hy) ((hm X c W n ok).1 _ _ hz)
      · cases h
    · cases h
  · exact (cCmp_ok hm ok h).1
  · split at h
    · rename_i hg
      exact cCallN_ok hm ok hg h
    · cases h
  · exact cMeth_ok hm ok h
  · split at h
    · rename_i k f hf
      cases h
      obtain ⟨z, p1, j, q, rfl, rfl, hs⟩ := cFld_ok hf
      exact se_fld ok hs
    · exact cSub_ok hm ok h
  · obtain ⟨xs, hx, rfl⟩ := mapS h
    exact se_tup (cExs_ok hm ok hx)
  · obtain ⟨xs, hx, rfl⟩ := mapS h
    exact se_lst (cExs_ok hm ok hx)
  · cases h; exact se_dnew
  · split at h
    · cases h
    · rename_i hz
      simp only [Bool.or_eq_true, decide_eq_true_eq, not_or] at hz
      split at h
      · rename_i fs xs hr
        cases h
        exact se_rcd (cRcd_ok hm ok hr) (fun e => hz.1 (by rw [e]; rfl)) (by omega)
      · obtain ⟨xs, hx, rfl⟩ := mapS h
        exact se_dmk (cDmk_ok hm ok hx) (fun e => hz.1 (by rw [e]; rfl)) (by omega)
  · exact (cLc_ok hm ok h).se ok
  · cases h
theorem cT1_ok (hm : MOk xv C m) (ok : OkX X c xv W C n) {e : PySem.Expr} {x : Te} (h : cT1 m c e = some x) : ST X xv W C e x := by
  unfold cT1 at h
  split at h
  · obtain ⟨o, ho, rfl⟩ := mapS h
    exact st_not ((hm X c W n ok).2 _ _ ho)
  · exact (cBoolT_ok hm ok h).pt
  · obtain ⟨o, ho, rfl⟩ := mapS h
    exact (cCmp_ok hm ok ho).2
  · split at h
    · rename_i hp
      obtain ⟨o, ho, rfl⟩ := mapS h
      exact st_val hp (cO_ok hm ok ho)
    · cases h
theorem cM_ok {xv : Xv} {C : Cl} : ∀ k, MOk xv C (cM k)
  | 0 => fun X c W n ok => ⟨fun e x h => (by cases h), fun e t h => (by cases h)⟩
  | k + 1 => fun X c W n ok => ⟨fun e x h => cE1_ok (cM_ok k) ok h, fun e t h => cT1_ok (cM_ok k) ok h⟩
end
end Pd
set_option Elab.async false
set_option linter.all false
set_option maxRecDepth 100000
set_option maxHeartbeats 4000000
/-! Part 21: from the text to the language: statements, defs, the whole. -/
namespace Pd
open PySem PySem.Spec PyProof.Rows L2
section
variable {X : Cx} {c : Ct} {xv : Xv} {W : WX} {C : Cl} {n wf : Nat} {m : Cm}
abbrev SC (X : Cx) (xv : Xv) (W : WX) (C : Cl) (wf : Nat) (st : Stmt) (s : Sm) : Prop := PS X st (RdC X.K xv W (wrS s) (ex C wf s))
abbrev SCs (X : Cx) (xv : Xv) (W : WX) (C : Cl) (wf : Nat) (st : List Stmt) (s : Sms) : Prop := PSs X st (RdC X.K xv W (wrSs s) (exs C wf s))
theorem _root_.L2.PS.imp {st : Stmt} {t t' : TS} (h : PS X st t) (q : ∀ D σ H, t' D σ H → t D σ H) : PS X st t' := ⟨fun ps s σ H D I hw => h.run ps s σ H D I (q D σ H hw)⟩
theorem _root_.L2.PSs.imp {st : List Stmt} {t t' : TS} (h : PSs X st t) (q : ∀ D σ H, t' D σ H → t D σ H) : PSs X st t' := ⟨fun ps s σ H D I hw => h.run ps s σ H D I (q D σ H hw)⟩
def isComp : PySem.Expr → Bool
  | .ListComp _ _ _ _ => true
  | .SetComp _ _ _ _ => true
  | .DictComp _ _ _ _ _ => true
  | _ => false
theorem no_swap {e : PySem.Expr} {t : Option PySem.Expr} {l : Nat} {env : Env} (h : isComp e = false) : swapsWith e t l env = pure false := by
  cases e <;> first | rfl | cases h
theorem blk_fun (ok : OkX X c xv W C n) : X.env.blockKind = .function := by
  unfold Env.blockKind
  rw [ok.sc, ok.kind]
  rfl
/-- x = e -/
theorem sc_set (ok : OkX X c xv W C n) {x : Str} {i : Nat} {e : PySem.Expr} {y : Ex} {p pos : Pos} (hi : c.sto x = some i) (hc : isComp e = false) (he : SE X xv W C e y) : SC X xv W C wf (.Assign [.Name x p] e pos) (.asg i y) := by
  obtain ⟨q1, q2, q3⟩ := ok.sto hi
  exact (ps_set ok.ndX q1 q2 he (no_swap hc) q3).imp fun D σ H z => rt_asg z
theorem sc_setLc (ok : OkX X c xv W C n) {x : Str} {i : Nat} {el : PySem.Expr} {gs : List Comprehension} {scope : Scope} {y : Ex} {p lp pos : Pos} (hi : c.sto x = some i) (h : LcOk X c xv W C el gs scope y) : SC X xv W C wf (.Assign [.Name x p] (.ListComp el gs scope lp) pos) (.asg i y) := by
  obtain ⟨q1, q2, q3⟩ := ok.sto hi
  have hse := h.se (pos := lp) ok
  obtain ⟨tg, iter, ifs, it, g, t, z, rfl, h1, h2, h3, h4, h5, h6, h7, rfl⟩ := h.ex
  have hb := blkOk_by h2
  rw [← ok.N, ← ok.sc] at hb
  have e : swapsWith (.ListComp el [⟨tg, iter, ifs, 0⟩] scope lp) (some (.Name x p)) pos.line X.env = pure (X.env.blockKind == .function && X.env.kindOf x == some .local && p.line == lp.line && !(scope.names.any fun (n, k) => n == x && (k == .local || k == .cell))) := rfl
  cases hb2 : (X.env.blockKind == .function && X.env.kindOf x == some .local && p.line == lp.line && !(scope.names.any fun (n, k) => n == x && (k == .local || k == .cell))) with
  | true =>
    rw [hb2] at e
    simp only [Bool.and_eq_true] at hb2
    have hl : X.env.kindOf x = some .local := by simpa using hb2.1.1.2
    exact (ps_setLc ok.calm ok.ndX q1 hl e h3 hb h4 h5 h6 (noset h1)).imp fun D σ H w => rd_lc h7 (rt_asg w)
  | false =>
    rw [hb2] at e
    exact (ps_set ok.ndX q1 q2 hse e q3).imp fun D σ H z => rt_asg z
theorem sub_plain {i : PySem.Expr} {env : Env} {o : PySem.Expr} {pos : Pos} (h : isSlice i = false) (v : Value) : assign (.Subscript o i pos) env v = (do
      let ov ← holding [v] (eval o env)
      let iv ← holding [v, ov] (eval i env)
      standAt pos
      holding [v, ov, iv] (setItem ov iv v)
      release [v, ov, iv] []) := by cases i <;> first | rfl | cases h
theorem swc_false {e : PySem.Expr} {t : PySem.Expr} {l : Nat} {env : Env} (h : isComp e = false) : swapsWithSole [t] e l env = pure false := no_swap h
theorem sws_sub {a i e : PySem.Expr} {p : Pos} {env : Env} : swappedStores [.Subscript a i p] e env = pure none := by
  unfold swappedStores
  cases e <;> rfl
theorem sc_setI (ok : OkX X c xv W C n) {x : Str} {k : Nat} {i e : PySem.Expr} {z y : Ex} {p p2 pos : Pos} (hk : c.slot x = some k) (hc : isComp e = false) (hs : isSlice i = false) (hi : SE X xv W C i z) (he : SE X xv W C e y) : SC X xv W C wf (.Assign [.Subscript (.Name x p) i p2] e pos) (.setI k z y) := by
  have hu := hu_ok ok
  exact (ps_asg he (pg_sub (ok.slot hk) hi (set_any (by omega)) (sub_plain hs)) (swc_false hc) sws_sub rfl).imp fun D σ H z => rt_setI z
theorem sws_two {a b c d e : PySem.Expr} {k : Nat} {p p1 p2 : Pos} {env : Env} : swappedStores [.Tuple [.Subscript a b p1, .Subscript c d p2] k p] e env = pure none := by
  unfold swappedStores
  cases e <;> first
    | rfl
    | skip
  dsimp only
  split
  · rfl
  split
  · rfl
  rfl
theorem sc_asgS (ok : OkX X c xv W C n) {x x2 : Str} {i j : Nat} {k l e : PySem.Expr} {z z2 y : Ex} {q : Nat} {p p2 p3 p4 p5 pos : Pos} (hi : c.slot x = some i) (hj : c.slot x2 = some j) (hc : isComp e = false) (hs : isSlice k = false) (hs2 : isSlice l = false) (hk : SE X xv W C k z) (hl : SE X xv W C l z2) (he : SE X xv W C e y) :
    SC X xv W C wf (.Assign [.Tuple [.Subscript (.Name x p) k p2, .Subscript (.Name x2 p3) l p4] q p5] e pos) (.asgS i z j z2 y) := by
  have hu := hu_ok ok
  exact (ps_asg he (pg_tup ok.calm (pgs_cons (pg_sub (ok.slot hi) hk (set_any (by omega)) (sub_plain hs)) (pgs_cons (pg_sub (ok.slot hj) hl (set_any (by omega)) (sub_plain hs2)) pgs_nil))) (swc_false hc) sws_two rfl).imp fun D σ H z => rt_asgS z
theorem sc_setF (ok : OkX X c xv W C n) {x f : Str} {k j : Nat} {e : PySem.Expr} {y : Ex} {p p1 p2 pos : Pos} (hk : c.slot x = some k) (hc : isComp e = false) (he : SE X xv W C e y) : SC X xv W C wf (.Assign [.Subscript (.Name x p) (.Constant (.str f) j p1) p2] e pos) (.setF k f y) := by
  have hu := hu_ok ok
  exact (ps_asg he (pg_sub (ok.slot hk) pe_str (set_any (by omega)) (sub_plain rfl)) (swc_false hc) sws_sub rfl).imp fun D σ H z => rt_setF z
theorem sws_tup {es : List PySem.Expr} {e : PySem.Expr} {k : Nat} {p : Pos} {env : Env} (h : isTup e = false) : swappedStores [.Tuple es k p] e env = pure none := by
  unfold swappedStores
  cases e <;> first | rfl | cases h
theorem sc_unp (ok : OkX X c xv W C n) {es : List PySem.Expr} {is : List Nat} {e : PySem.Expr} {o : Op} {k : Nat} {p pos : Pos} (hn : cNames c es = some is) (hc : isComp e = false) (ht : isTup e = false) (he : SO X xv W C e o) : SC X xv W C wf (.Assign [.Tuple es k p] e pos) (.unp is o) := by
  have hg : PG X (.Tuple es k p) (gOf X.K (.tp is)) := by
    have q := cNames_ok ok hn
    exact pg_tup ok.calm (q.pgs ok.ndX) q.len.1 q.len.2
  exact (ps_asg he hg (swc_false hc) (sws_tup ht) rfl).imp fun D σ H z => rt_unp z
theorem sc_asgT (ok : OkX X c xv W C n) {es vs : List PySem.Expr} {is : List Nat} {xs : Exs} {k k2 : Nat} {p p2 pos : Pos} (hn : cNames c es = some is) (hd : is.Nodup) (hf : foldOk vs = true) (hz : is.length ≤ 1000) (he : SW X xv W C vs xs) : SC X xv W C wf (.Assign [.Tuple es k p] (.Tuple vs k2 p2) pos) (.asgT is xs) :=
  (ps_parN ok.calm ok.ndX (cNames_ok ok hn) hd he hf (blk_fun ok) hz).imp fun D σ H z => rt_asgT z
theorem sc_expr {e : PySem.Expr} {y : Ex} {pos : Pos} (hc : isComp e = false) (he : SE X xv W C e y) : SC X xv W C wf (.Expr e pos) (.expr y) := (ps_expr he (no_swap hc)).imp fun D σ H z => rt_expr z
theorem sc_ret {e : PySem.Expr} {y : Ex} {pos : Pos} (he : SE X xv W C e y) : SC X xv W C wf (.Return (some e) pos) (.ret y) := (ps_ret he).imp fun D σ H z => rt_ret z
theorem sc_retV (ok : OkX X c xv W C n) {x : Str} {i : Nat} {p pos : Pos} (hi : c.slot x = some i) : SC X xv W C wf (.Return (some (.Name x p)) pos) (.retV i) := (ps_ret (ok.slot hi)).imp fun D σ H z => rt_retV z
theorem sc_retN {pos : Pos} : SC X xv W C wf (.Return none pos) .retN := ps_retN.imp fun D σ H z => rt_retN z
theorem sc_ite {t : PySem.Expr} {a b : List Stmt} {u : Te} {x y : Sms} {pos : Pos} (ht : ST X xv W C t u) (ha : SCs X xv W C wf a x) (hb : SCs X xv W C wf b y) : SC X xv W C wf (.If t a b pos) (.ite u x y) := (ps_if ht ha hb).imp fun D σ H z => rt_ite z
theorem sc_whl (own : PassesOwn (model X.prog X.w) X.A X.env X.xe) {t : PySem.Expr} {b : List Stmt} {u : Te} {y : Sms} {pos : Pos} (ht : ST X xv W C t u) (hb : SCs X xv W C wf b y) : SC X xv W C wf (.While t b [] pos) (.whl u y) := (ps_while own ht hb).imp fun D σ H z => rt_whl z
theorem sc_for (own : PassesOwn (model X.prog X.w) X.A X.env X.xe) (ok : OkX X c xv W C n) {tg iter : PySem.Expr} {b : List Stmt} {g : Tg} {it : Ir} {y : Sms} {pos : Pos} (hs : isSet iter = false) (hi : PI X tg iter (RdI X.K xv W C it)) (hg : PG X tg (gOf X.K g)) (hb : SCs X xv W C wf b y) (hd : ∀ i ∈ slotI it, i ∉ tgSl g ++ wrSs y) :
    SC X xv W C wf (.For tg iter b [] pos) (.fors g it y) := (ps_for own ok.calm hi hg hb (noset hs)).imp fun D σ H z => rt_for hd z
theorem pip_of {op : Operator} {q : Pr} {f : Int → Int → Int} (h : PIp X op (ipI f)) (e : ∀ a b c, q.sem [.int a, .int b] = some (.imm (.int c)) → c = f a b) : PIp X op (rAug q) := fun ps s σ H x y v u Q I r1 r2 ⟨a, b, c, e1, e2, e3, z⟩ =>
  h ps s σ H x y v u Q I r1 r2 ⟨a, b, e1, e2, by rw [← e a b c e3]; exact z⟩
theorem sc_augA (ok : OkX X c xv W C n) {x : Str} {i : Nat} {e : PySem.Expr} {y : Ex} {p pos : Pos} (hi : c.sto x = some i) (he : SE X xv W C e y) : SC X xv W C wf (.AugAssign (.Name x p) .Add e pos) (.aug i .add y) := by
  obtain ⟨q1, q2, q3⟩ := ok.sto hi
  exact (ps_aug ok.ndX q1 q2 he (pip_of (q := .add) ip_add fun a b c h => by simp [Pr.sem, i1] at h; exact h.symm) q3).imp fun D σ H z => rt_aug z
theorem sc_augS (ok : OkX X c xv W C n) {x : Str} {i : Nat} {e : PySem.Expr} {y : Ex} {p pos : Pos} (hi : c.sto x = some i) (he : SE X xv W C e y) : SC X xv W C wf (.AugAssign (.Name x p) .Sub e pos) (.aug i .sub y) := by
  obtain ⟨q1, q2, q3⟩ := ok.sto hi
  exact (ps_aug ok.ndX q1 q2 he (pip_of (q := .sub) ip_sub fun a b c h => by simp [Pr.sem, i1] at h; exact h.symm) q3).imp fun D σ H z => rt_aug z
/-- what is not read: never done -/
theorem sc_bad {st : Stmt} : SC X xv W C wf st .bad := ⟨fun ps s σ H D I ⟨E, F, S, L, env, Ts, hs, hx, w⟩ => by
  simp only [ex] at w
  exact w.elim⟩
theorem scs_nil : SCs X xv W C wf [] .nil := pss_nil.imp fun D σ H z => rt_nil z
theorem scs_cons {s : Stmt} {ss : List Stmt} {x : Sm} {xs : Sms} (h : SC X xv W C wf s x) (hs : SCs X xv W C wf ss xs) : SCs X xv W C wf (s :: ss) (.cons x xs) := (pss_cons h hs).imp fun D σ H z => rt_cons z
end
section
variable (m : Cm) (c : Ct) (sub : List Stmt → Option Sms)
def cAsg (tg e : PySem.Expr) : Option Sm := match tg with
  | .Name x _ => match c.sto x with
    | some i => match e with
      | .ListComp el gs scope _ => (cLc m c el gs scope).map fun y => .asg i y
      | e => if isComp e then none else (m.e c e).map fun y => .asg i y
    | none => none
  | .Subscript (.Name x p) i _ => if isComp e then none else match cFld c (.Name x p) i with
    | some (k, f) => (m.e c e).map fun y => .setF k f y
    | none => if isSlice i then none else match c.slot x with
      | some k => match m.e c i with
        | some z => (m.e c e).map fun y => .setI k z y
        | none => none
      | none => none
  | .Tuple es _ _ => match cNames c es with
    | some is => match e with
      | .Tuple vs _ _ => if foldOk vs && decide is.Nodup && decide (is.length ≤ 1000) then (cExw m c vs).map fun xs => .asgT is xs else none
      | e => if isComp e || isTup e then none else (cO m c e).map fun o => .unp is o
    | none => match es with
      | [.Subscript (.Name x _) k _, .Subscript (.Name x2 _) l _] => if isComp e || isSlice k || isSlice l then none else match c.slot x with
        | some i => match c.slot x2 with
          | some j => match m.e c k with
            | some z => match m.e c l with
              | some z2 => (m.e c e).map fun y => .asgS i z j z2 y
              | none => none
            | none => none
          | none => none
        | none => none
      | _ => none
  | _ => none
def cS1 : Stmt → Option Sm
  | .Assign [tg] e _ => cAsg m c tg e
  | .AugAssign (.Name x _) op e _ => match c.sto x with
    | some i => match op with
      | .Add => (m.e c e).map fun y => .aug i .add y
      | .Sub => (m.e c e).map fun y => .aug i .sub y
      | _ => none
    | none => none
  | .Expr e _ => if isComp e then none else (m.e c e).map .expr
  | .Return none _ => some .retN
  | .Return (some (.Name x p)) _ => match c.slot x with
    | some i => some (.retV i)
    | none => (m.e c (.Name x p)).map .ret
  | .Return (some e) _ => (m.e c e).map .ret
  | .If t a b _ => match m.t c t with
    | some u => match sub a with
      | some x => (sub b).map fun y => .ite u x y
      | none => none
    | none => none
  | .While t b [] _ => match m.t c t with
    | some u => (sub b).map fun y => .whl u y
    | none => none
  | .For tg iter b [] _ => if isSet iter then none else match cIr m c tg iter with
    | some it => match cTg c tg with
      | some g => match sub b with
        | some y => if (slotI it).all (fun i => decide (i ∉ tgSl g ++ wrSs y)) then some (.fors g it y) else none
        | none => none
      | none => none
    | none => none
  | _ => none
def cSs1 : List Stmt → Option Sms
  | [] => some .nil
  | s :: ss => match cS1 m c sub s with
    | some x => (cSs1 ss).map fun xs => .cons x xs
    | none => (cSs1 ss).map fun xs => .cons .bad xs
end
def cSs (m : Cm) (c : Ct) : Nat → List Stmt → Option Sms
  | 0 => fun _ => none
  | k + 1 => cSs1 m c (cSs m c k)
section
variable {X : Cx} {c : Ct} {xv : Xv} {W : WX} {C : Cl} {n wf : Nat} {m : Cm} {sub : List Stmt → Option Sms}
theorem cAsg_ok (hm : MOk xv C m) (ok : OkX X c xv W C n) {tg e : PySem.Expr} {pos : Pos} {s : Sm} (h : cAsg m c tg e = some s) : SC X xv W C wf (.Assign [tg] e pos) s := by
  unfold cAsg at h
  split at h
  · split at h
    · rename_i i hi
      split at h
      · obtain ⟨y, hy, rfl⟩ := mapS h
        exact sc_setLc ok hi (cLc_ok hm ok hy)
      · split at h
        · cases h
        · rename_i hc
          obtain ⟨y, hy, rfl⟩ := mapS h
          exact sc_set ok hi (by simpa using hc) ((hm X c W n ok).1 _ _ hy)
    · cases h
  · split at h
    · cases h
    · rename_i hc
      have hc : isComp e = false := by simpa using hc
      split at h
      · rename_i k f hf
        obtain ⟨y, hy, rfl⟩ := mapS h
        obtain ⟨x, p, j, q, e1, rfl, hs⟩ := cFld_ok hf
        cases e1
        exact sc_setF ok hs hc ((hm X c W n ok).1 _ _ hy)
      · split at h
        · cases h
        · rename_i hsl
          split at h
          · rename_i k hk
            split at h
            · rename_i z hz
              obtain ⟨y, hy, rfl⟩ := mapS h
              exact sc_setI ok hk hc (by simpa using hsl) ((hm X c W n ok).1 _ _ hz) ((hm X c W n ok).1 _ _ hy)
            · cases h
          · cases h
  · split at h
    · rename_i is hn
      split at h
      · split at h
        · rename_i hc
          simp only [Bool.and_eq_true, decide_eq_true_eq] at hc
          obtain ⟨y, hy, rfl⟩ := mapS h
          exact sc_asgT ok hn hc.1.2 hc.1.1 hc.2 (cExw_ok hm ok hy)
        · cases h
      · split at h
        · cases h
        · rename_i hc
          simp only [Bool.or_eq_true, not_or, Bool.not_eq_true] at hc
          obtain ⟨y, hy, rfl⟩ := mapS h
          exact sc_unp ok hn hc.1 hc.2 (cO_ok hm ok hy)
    · split at h
      · split at h
        · cases h
        · rename_i hc
          simp only [Bool.or_eq_true, not_or, Bool.not_eq_true] at hc
          split at h
          · rename_i i hi
            split at h
            · rename_i j hj
              split at h
              · rename_i z hz
                split at h
                · rename_i z2 hz2
                  obtain ⟨y, hy, rfl⟩ := mapS h
                  exact sc_asgS ok hi hj hc.1.1 hc.1.2 hc.2 ((hm X c W n ok).1 _ _ hz) ((hm X c W n ok).1 _ _ hz2) ((hm X c W n ok).1 _ _ hy)
                · cases h
              · cases h
            · cases h
          · cases h
      · cases h
  · cases h
theorem cS1_ok (own : PassesOwn (model X.prog X.w) X.A X.env X.xe) (hm : MOk xv C m) (ok : OkX X c xv W C n) (hs : ∀ ss xs, sub ss = some xs → SCs X xv W C wf ss xs) {st : Stmt} {s : Sm} (h : cS1 m c sub st = some s) : SC X xv W C wf st s := by
  unfold cS1 at h
  split at h
  · exact cAsg_ok hm ok h
  · split at h
    · rename_i i hi
      split at h
      · obtain ⟨y, hy, rfl⟩ := mapS h
        exact sc_augA ok hi ((hm X c W n ok).1 _ _ hy)
      · obtain ⟨y, hy, rfl⟩ := mapS h
        exact sc_augS ok hi ((hm X c W n ok).1 _ _ hy)
      · cases h
    · cases h
  · split at h
    · cases h
    · rename_i hc
      obtain ⟨y, hy, rfl⟩ := mapS h
      exact sc_expr (by simpa using hc) ((hm X c W n ok).1 _ _ hy)
  · cases h; exact sc_retN
  · split at h
    · rename_i i hi
      cases h
      exact sc_retV ok hi
    · obtain ⟨y, hy, rfl⟩ := mapS h
      exact sc_ret ((hm X c W n ok).1 _ _ hy)
  · obtain ⟨y, hy, rfl⟩ := mapS h
    exact sc_ret ((hm X c W n ok).1 _ _ hy)
  · split at h
    · rename_i u hu
      split at h
      · rename_i x hx
        obtain ⟨y, hy, rfl⟩ := mapS h
        exact sc_ite ((hm X c W n ok).2 _ _ hu) (hs _ _ hx) (hs _ _ hy)
      · cases h
    · cases h
  · split at h
    · rename_i u hu
      obtain ⟨y, hy, rfl⟩ := mapS h
      exact sc_whl own ((hm X c W n ok).2 _ _ hu) (hs _ _ hy)
    · cases h
  · split at h
    · cases h
    · rename_i hset
      split at h
      · rename_i it hi
        split at h
        · rename_i g hg
          split at h
          · rename_i y hy
            split at h
            · rename_i hd
              cases h
              exact sc_for own ok (by simpa using hset) (cIr_ok hm ok hi) (cTg_ok ok hg) (hs _ _ hy) fun i hi => of_decide_eq_true (List.all_eq_true.mp hd i hi)
            · cases h
          · cases h
        · cases h
      · cases h
  · cases h
theorem cSs1_ok (own : PassesOwn (model X.prog X.w) X.A X.env X.xe) (hm : MOk xv C m) (ok : OkX X c xv W C n) (hs : ∀ ss xs, sub ss = some xs → SCs X xv W C wf ss xs) : ∀ {ss : List Stmt} {xs : Sms}, cSs1 m c sub ss = some xs → SCs X xv W C wf ss xs
  | [], xs, h => by simp only [cSs1] at h; cases h; exact scs_nil
  | s :: ss, xs, h => by
    simp only [cSs1] at h
    split at h
    · rename_i x hx
      obtain ⟨ys, hy, rfl⟩ := mapS h
      exact scs_cons (cS1_ok own hm ok hs hx) (cSs1_ok own hm ok hs hy)
    · obtain ⟨ys, hy, rfl⟩ := mapS h
      exact scs_cons sc_bad (cSs1_ok own hm ok hs hy)
theorem cSs_ok (own : PassesOwn (model X.prog X.w) X.A X.env X.xe) (hm : MOk xv C m) (ok : OkX X c xv W C n) : ∀ (k : Nat) {ss : List Stmt} {xs : Sms}, cSs m c k ss = some xs → SCs X xv W C wf ss xs
  | 0, ss, xs, h => by cases h
  | k + 1, ss, xs, h => cSs1_ok own hm ok (fun ss xs => cSs_ok own hm ok k) h
end
end Pd
set_option Elab.async false
set_option linter.all false
set_option maxRecDepth 100000
set_option maxHeartbeats 4000000
/-! Part 22: the whole program; the end. -/
namespace Pd
open PySem PySem.Spec PyProof.Rows L2
/-- a def to be read -/
structure Df where
  nm : Str
  st : Stmt
  N : List Str
  ps : List Str
  md : List Md
  rc : List Nat
def glOf : List Df → Nat → List (Str × Nat)
  | [], _ => []
  | d :: r, i => (d.nm, i) :: glOf r (i + 1)
def ctOf (dfs : List Df) (cs : List (Str × Dt)) (d : Df) : Ct := ⟨d.N, defScope d.st, fun _ => true, d.rc, glOf dfs 0, cs⟩
def readF (ka kb : Nat) (dfs : List Df) (cs : List (Str × Dt)) (d : Df) : Option Fn := match cSs (cM ka) (ctOf dfs cs d) kb (defBody d.st) with
  | some b => some ⟨d.ps.length, d.N.length, d.md, b⟩
  | none => none
def readAll (ka kb : Nat) (dfs : List Df) (cs : List (Str × Dt)) : List Df → Option (List Fn)
  | [] => some []
  | d :: r => match readF ka kb dfs cs d with
    | some f => match readAll ka kb dfs cs r with | some fs => some (f :: fs) | none => none
    | none => none
def isLoc : Option NameKind → Bool
  | some .local => true
  | some .cell => true
  | _ => false
def scopeOk (N ps : List Str) (sc : Scope) : Bool :=
  (match sc.kind with | .function => true | _ => false) && !sc.isCoroutine && !sc.isGenerator && decide N.Nodup && decide (N.take ps.length = ps) && (ps.all fun x => isLoc (sc.names.lookup x)) && (sc.names.all fun y => match y.2 with | .free => false | _ => true)
def dfOk (d : Df) (f : Fn) : Bool :=
  scopeOk d.N d.ps (defScope d.st) && (d.N.all fun x => !(x == ("__debug__" : Str)) && !(x == ("__classdict__" : Str))) && !(d.nm == ("__debug__" : Str)) && decide (d.md.length = d.ps.length) && decide (d.ps.length ≤ d.N.length) && muOk d.md (wrSs f.body)
theorem scopeOk_ok {N ps : List Str} {sc : Scope} (h : scopeOk N ps sc = true) : FnScope N ps sc := by
  unfold scopeOk at h
  simp only [Bool.and_eq_true, Bool.not_eq_true', List.all_eq_true, decide_eq_true_eq] at h
  obtain ⟨⟨⟨⟨⟨⟨h1, h2⟩, h3⟩, h4⟩, h5⟩, h6⟩, h7⟩ := h
  refine ⟨?_, h2, h3, h4, h5, fun x hx => ?_, fun y hy e => ?_⟩
  · split at h1
    · assumption
    · cases h1
  · have q := h6 x hx
    unfold isLoc at q
    split at q
    · rename_i e; exact .inl e
    · rename_i e; exact .inr e
    · cases q
  · have q := h7 y hy
    rw [e] at q
    cases q
theorem glOf_get {x : Str} {f : Nat} : ∀ {dfs : List Df} {i : Nat}, (glOf dfs i).lookup x = some f → ∃ d, dfs[f - i]? = some d ∧ d.nm = x ∧ i ≤ f
  | [], i, h => by simp [glOf] at h
  | d :: r, i, h => by
    unfold glOf at h
    rw [List.lookup_cons] at h
    cases e : x == d.nm with
    | true =>
      rw [e] at h
      cases h
      exact ⟨d, by simp, (beq_iff_eq.mp e).symm, Nat.le_refl _⟩
    | false =>
      rw [e] at h
      obtain ⟨d', h1, h2, h3⟩ := glOf_get h
      refine ⟨d', ?_, h2, by omega⟩
      have : f - i = (f - (i + 1)) + 1 := by omega
      rw [this]
      simpa using h1
theorem readAll_get {ka kb : Nat} {dfs : List Df} {cs : List (Str × Dt)} : ∀ {ds : List Df} {T : List Fn} {i : Nat} {d : Df}, readAll ka kb dfs cs ds = some T → ds[i]? = some d → ∃ f, T[i]? = some f ∧ readF ka kb dfs cs d = some f
  | [], T, i, d, h, e => by simp at e
  | d0 :: r, T, i, d, h, e => by
    unfold readAll at h
    split at h
    · rename_i f hf
      split at h
      · rename_i fs hfs
        cases h
        cases i with
        | zero =>
          simp at e
          subst e
          exact ⟨f, rfl, hf⟩
        | succ i =>
          obtain ⟨g, h1, h2⟩ := readAll_get hfs (i := i) (d := d) (by simpa using e)
          exact ⟨g, by simpa using h1, h2⟩
      · cases h
    · cases h
/-- what the top has left of the program -/
structure PF (K : PySem.W.Frag) (mg : Str → Option Value) (dfs : List Df) (cs : List (Str × Dt)) : Prop where
  fn : ∀ (f : Nat) (d : Df), dfs[f]? = some d → ∃ a fd, mg d.nm = some (.ref a) ∧ Fun K d.nm d.nm d.st a fd ∧ Binds K fd d.ps []
  bt : ∀ b : Bt, mg b.nm = none
  cs : ∀ (x : Str) (d : Dt), cs.lookup x = some d → (x == ("__debug__" : Str)) = false ∧ ∃ u v, mg x = some u ∧ RelV v u ∧ ∀ F H, DV K F H v d
def progOk : List Df → List Fn → Bool
  | d :: r, g :: q => dfOk d g && progOk r q
  | _, _ => true
theorem progOk_get : ∀ {dfs : List Df} {T : List Fn} {i : Nat} {d : Df} {g : Fn}, progOk dfs T = true → dfs[i]? = some d → T[i]? = some g → dfOk d g = true
  | [], _, i, d, g, _, h, _ => by simp at h
  | _ :: _, [], i, d, g, _, _, h => by simp at h
  | d0 :: r, g0 :: q, i, d, g, hk, h1, h2 => by
    unfold progOk at hk
    rw [Bool.and_eq_true] at hk
    cases i with
    | zero =>
      simp at h1 h2
      subst h1 h2
      exact hk.1
    | succ i => exact progOk_get (i := i) hk.2 (by simpa using h1) (by simpa using h2)
theorem prog_fn {ka kb : Nat} {P : Program} {w : World} {K : PySem.W.Frag} {mg : Str → Option Value} {base : Heap} {xv : Xv} {dfs : List Df} {cs : List (Str × Dt)} {T : List Fn} {wf : Nat} (pf : PF K mg dfs cs) (hr : readAll ka kb dfs cs dfs = some T) (hok : progOk dfs T = true) :
    ∀ (n f : Nat) (d : Df) (a : Addr) (fd : FuncData), dfs[f]? = some d → mg d.nm = some (.ref a) → Fun K d.nm d.nm d.st a fd → Binds K fd d.ps [] → FnG P w K mg base n a fd d.ps (spF K xv d.ps.length (run T wf n f))
  | 0, f, d, a, fd, hd, hm, F, hb => ⟨fun vs H Q E h => h.1, fun {A outer s H args us vs Q E} hr e0 hb r h => by
      obtain ⟨_, _, _, _, _, z⟩ := h
      exact z.elim⟩
  | n + 1, f, d, a, fd, hd, hm, F, hb => by
    obtain ⟨g, hT, hg⟩ := readAll_get hr hd
    have hk : dfOk d g = true := progOk_get hok hd hT
    unfold dfOk at hk
    simp only [Bool.and_eq_true, Bool.not_eq_true', List.all_eq_true, decide_eq_true_eq] at hk
    obtain ⟨⟨⟨⟨⟨k1, k2⟩, k3⟩, k4⟩, k5⟩, k6⟩ := hk
    have hg' : ∃ b, cSs (cM ka) (ctOf dfs cs d) kb (defBody d.st) = some b ∧ g = ⟨d.ps.length, d.N.length, d.md, b⟩ := by
      unfold readF at hg
      split at hg
      · rename_i b hb
        cases hg
        exact ⟨b, hb, rfl⟩
      · cases hg
    obtain ⟨b, hb', rfl⟩ := hg'
    have sc := scopeOk_ok k1
    refine Fun.okG F sc (fun vs H Q E h => h.1) fun cdv A outer s H vs Q E hrm hsp => ?_
    have e : run T wf (n + 1) f = runFn ⟨mdOf T, run T wf n⟩ wf ⟨d.ps.length, d.N.length, d.md, b⟩ := by
      funext as
      show (match T[f]? with | some g => runFn ⟨mdOf T, run T wf n⟩ wf g as | none => Cr.no) = _
      rw [hT]
    rw [e] at hsp
    have hbody := body_of (g := ⟨d.ps.length, d.N.length, d.md, b⟩) (N := d.N) rfl k4 k5 k6 hsp
    refine ⟨_, ?_, hbody⟩
    have ok : OkX (cxOf (L2.CX P w) P w K mg base d.N d.nm (defScope d.st) a cdv A outer s H E) (ctOf dfs cs d) xv (fun c od _ H' => E c od H') ⟨mdOf T, run T wf n⟩ n := {
      N := rfl
      nd := sc.nd
      nn := fun x hx => k2 x hx
      sc := rfl
      kind := sc.kind
      fn := rfl
      calm := rfl
      room := hrm
      tk := takes_of rfl rfl rfl rfl
      bt := pf.bt
      gl := fun x f' hx => by
        obtain ⟨d', h1, h2, _⟩ := glOf_get (dfs := dfs) (i := 0) hx
        rw [Nat.sub_zero] at h1
        subst h2
        obtain ⟨a', fd', q1, q2, q3⟩ := pf.fn f' d' h1
        obtain ⟨g', hT', hg'⟩ := readAll_get hr h1
        have hk' : dfOk d' g' = true := progOk_get hok h1 hT'
        have hmd : g'.md = d'.md := by
          unfold readF at hg'
          split at hg'
          · cases hg'; rfl
          · cases hg'
        unfold dfOk at hk'
        simp only [Bool.and_eq_true, Bool.not_eq_true', List.all_eq_true, decide_eq_true_eq] at hk'
        refine ⟨hk'.1.1.1.2, a', fd', d'.ps, q1, q2.kp, ?_, q3⟩
        have el : (mdOf T f').length = d'.ps.length := by
          unfold mdOf
          rw [hT']
          show g'.md.length = _
          rw [hmd]
          exact hk'.1.1.2
        show FnG P w K mg base n a' fd' d'.ps (spF K xv (mdOf T f').length (run T wf n f'))
        rw [el]
        exact prog_fn pf hr hok n f' d' a' fd' h1 q1 q2 q3
      cs := pf.cs }
    exact cSs_ok (passes_of rfl) (cM_ok ka) ok kb hb'
end Pd
set_option Elab.async false
set_option linter.all false
set_option maxRecDepth 100000
set_option maxHeartbeats 4000000
/-! Part 23: the end of a law. -/
namespace Pd
open PySem PySem.Spec PyProof.Rows L2
theorem room_top {k : Nat} (h : k ≤ 100) : RoomG k callerA := by
  have h1 : 1 + claimMargin + 3 * 100 + 5 < recursionLimit := by decide
  have h2 : 4 + 16 * 100 + 200 < cLine := by decide
  refine ⟨⟨rfl, ?_, ?_⟩, rfl⟩
  · show 1 + claimMargin + 3 * k + 5 < recursionLimit
    omega
  · show 4 + 16 * k + 200 < cLine
    omega
/-- the law's own call, by what its def keeps -/
theorem law_callG {P : Program} {w : World} {K : PySem.W.Frag} {mg mb : Str → Option Value} {k : Nat} {fa a : Addr} {fd : FuncData} {x : Str} {sp : Sp} {s₁ : Shared} {vs : List Value} {ns : List Int}
    (KX : K.In s₁.heap) (hns : s₁.heap.Ns mainGlobals mg) (hb : s₁.heap.Ns builtinsNs mb) (hbb : ∀ x : Str, x ≠ "__name__" → mb x = bootBuiltins x) (hlim : s₁.heap.NoLimit) (hg : s₁.gens = #[])
    (ha : s₁.heap.get? a = some { cls := .type "list", data := .seq vs.toArray }) (hi : IntsAre vs ns) (hl : ns.length ≤ sizeLine) (hr : RoomG k callerA)
    (F : ∀ base : Heap, FnG P w K mg base k fa fd [x] sp) (hbind : ∀ (s : Shared) (u : Value), BindsTo s fd ⟨[u], []⟩ [(x, u)])
    (hsp : ∀ H : Hp, Only H → SqL K H a (ns.map V.int) → sp [.ref a] H (fun v _ => v = .bl true) fun _ _ _ => False) :
    codeAny (model P w) callerA (.call (.ref fa) ⟨[.ref a], []⟩) (fun r s' => r = .ok (.ret (.bool true)) ∧ OldK s₁.heap s'.heap ∧ s'.os = s₁.os ∧ AllBare s'.gens) s₁ := by
  have core : ∀ H : Hp, Only H → SqL K H a (ns.map V.int) → HOk P w H s₁.heap → (∀ b, H b ≠ none → b = a) → (H a ≠ none → K.lookup a = none) →
      codeAny (model P w) callerA (.call (.ref fa) ⟨[.ref a], []⟩) (fun r s' => r = .ok (.ret (.bool true)) ∧ OldK s₁.heap s'.heap ∧ s'.os = s₁.os ∧ AllBare s'.gens) s₁ := by
    intro H hO hS hok hA hK
    have free : ∀ {b : Addr} {o : Obj}, s₁.heap.get? b = some o → (∀ q n, o.data ≠ .seq q n) → H b = none := fun {b o} e d => by
      cases q : H b with
      | none => rfl
      | some u =>
        obtain rfl : b = a := hA b (by rw [q]; simp)
        rw [ha] at e
        cases e
        exact absurd rfl (d _ _)
    have dictF : ∀ {b : Addr} {m : Str → Option Value}, s₁.heap.Ns b m → (hidT s₁.heap H).Ns b m := fun {b m} ⟨o, es, ep, e, d, r⟩ => ⟨o, es, ep, hidT_get e (free e fun q n z => by rw [d] at z; cases z), d, r⟩
    have inB : K.In (hidT s₁.heap H) := fun b o e => hidT_get (KX b o e) (by
      cases q : H b with
      | none => rfl
      | some u =>
        obtain rfl : b = a := hA b (by rw [q]; simp)
        have := hK (by rw [q]; simp)
        rw [this] at e
        cases e)
    have md : Mod K mg (hidT s₁.heap H) := ⟨inB, dictF hns, ⟨mb, dictF hb, hbb⟩, let ⟨mc, h1, h2⟩ := hlim; ⟨mc, dictF h1, h2⟩⟩
    have en : Env0 P w K mg (hidT s₁.heap H) callerA [] s₁ H := ⟨rfl, md, fun b o e => of_hidT e, Nat.le_of_eq (hidT_size _ _), trivial, fun b hb => (nomatch hb), hok, .of_eq hg⟩
    refine codeAny_mono ((F (hidT s₁.heap H)).run (us := [.ref a]) (vs := [.ref a]) hr en (hbind s₁ (.ref a)) (.cons rfl .nil) (hsp H hO hS)) fun r s' h => ?_
    match r, h with
    | .error e, ⟨_, _, _, _, _, _, _, _, _, _, _, _, z⟩ => exact z.elim
    | .ok .next, h => exact False.elim h
    | .ok .brk, h => exact False.elim h
    | .ok .cont, h => exact False.elim h
    | .ok (.ret u), ⟨v, H', os, bare, un, hok', r', q⟩ =>
      obtain rfl : v = .bl true := q
      obtain rfl : u = Value.bool true := r'
      refine ⟨rfl, OldK.of_keep fun b o e => ?_, os, bare⟩
      rcases hO b with z | ⟨ob, xs, z⟩
      · exact un.keep b o e z (by intro z; exact (nomatch z)) (by simp)
      · obtain ⟨e1, _⟩ := hok b _ z
        obtain ⟨e2, _⟩ := hok' b _ (un.frzs b ob _ z)
        rw [e] at e1
        cases e1
        exact e2
  have rv := vals_ints hi
  have hz : vs.length = ns.length := hi.length
  cases hk : K.lookup a with
  | some o =>
    have e := KX a o hk
    rw [ha] at e
    cases e
    exact core (fun _ => none) (fun _ => .inl rfl) (.inr ⟨_, vs.toArray, _, hk, rfl, rfl, rfl, by rw [List.size_toArray, hz]; exact hl, by simpa using rv⟩) (fun b u z => (nomatch z)) (fun b z => absurd rfl z) fun z => absurd rfl z
  | none =>
    let u : HO := .frz { cls := .type "list", data := .seq vs.toArray } (.lst (ns.map V.int))
    have at_ : ∀ {b : Addr} {z : HO}, (if b = a then some u else none) = some z → b = a ∧ z = u := fun {b z} e => by
      by_cases hb : b = a
      · rw [if_pos hb] at e; cases e; exact ⟨hb, rfl⟩
      · rw [if_neg hb] at e; cases e
    refine core (fun b => if b = a then some u else none) (fun b => ?_) (.inl (.inr ⟨_, if_pos rfl⟩)) (fun b z e => ?_) (fun b z => ?_) fun _ => hk
    · by_cases hb : b = a
      · exact .inr ⟨_, _, if_pos hb⟩
      · exact .inl (if_neg hb)
    · obtain ⟨rfl, rfl⟩ := at_ e
      exact ⟨ha, by rw [List.length_map]; exact hl, vs, _, rv, ha⟩
    · cases q : (if b = a then some u else none) with
      | none => exact absurd q z
      | some z => exact (at_ q).1
theorem walk_G {l : PySem.W.OpenLaw} {n k : Nat} {q : Program} {loose : List Str} {XP : (Str → Option Value) → Heap → Prop} {YP : World → Heap → Prop} {d : DefRec} {K : Params → PySem.W.Frag} {sp : World → Sp} {x : Str}
    (hn : l.most = some n) (hn2 : n ≤ sizeLine) (hdf : d.params.defaults = []) (hr : RoomG k callerA)
    (hY : ∀ (w : World) (h : Heap), YP w h → (K w.params).In h)
    (F : ∀ (w : World) (mg : Str → Option Value) (fa : Addr) (h : Heap), (K w.params).In h → h.Ns mainGlobals mg → mg d.name = some (.ref fa) →
      ∃ fd : FuncData, (∀ (s : Shared) (u : Value), BindsTo s fd ⟨[u], []⟩ [(x, u)]) ∧ ∀ base : Heap, FnG l.prog w (K w.params) mg base k fa fd [x] (sp w))
    (hsp : ∀ (w : World) (H : Hp) (a : Addr) (ns : List Int), ns.length ≤ n → Only H → SqL (K w.params) H a (ns.map V.int) → sp w [.ref a] H (fun v _ => v = .bl true) fun _ _ _ => False) :
    PySem.W.WalkO q loose XP YP l.row.toRowW d [] (fun f vs => PySem.call f vs) := by
  refine Att.attach_call hn hdf fun w s₀ s₁ mg mb fa o pm cd doc a vs ns G Y ho hd hcd hmg hobj hints hlen hg => ?_
  obtain ⟨fd, hb, hF⟩ := F w mg fa _ (hY w _ Y) G.T.g hmg
  exact law_callG (hY w _ Y) G.T.g G.T.b G.T.builtins G.T.nolimit hg hobj hints (Nat.le_trans hlen hn2) hr hF hb fun H hO hS => hsp w H a ns hlen hO hS
/-- a law of the program: what its run gives -/
theorem law_sp {K : PySem.W.Frag} {xv : Xv} {fn : List Ow → Cr} {H : Hp} {a : Addr} {ns : List Int} (hS : SqL K H a (ns.map V.int)) (h : ∃ outs, fn [im (.scr ns)] = .ret (im (.bl true)) outs) : spF K xv 1 fn [.ref a] H (fun v _ => v = .bl true) fun _ _ _ => False := by
  obtain ⟨outs, h⟩ := h
  have hd : DV K (fun x => H x ≠ none) H (.ref a) (.scr ns) := by
    refine .scr ?_
    rcases hS with r | k
    · refine .inl ⟨?_, r⟩
      rcases r with r | ⟨o, r⟩ <;> (show H a ≠ none; rw [r]; simp)
    · exact .inr k
  refine ⟨rfl, fun x => H x ≠ none, fun _ => noA, [im (.scr ns)], ⟨rfl, fun i o e => ?_, fun _ ht => (nomatch ht), fun _ _ _ z => z.elim, .nil, fun _ ht => (nomatch ht), fun _ _ z => z.elim, fun _ ht => (nomatch ht), fun x hx => ⟨hx, .inl hx⟩, fun _ hx => hx, fun _ _ z => z.elim, fun _ _ _ => rfl, fun _ hx => hx, fun _ hp => (nomatch hp)⟩, ?_⟩
  · have e0 := getE_some e
    cases i with
    | zero =>
      simp at e0
      subst e0
      exact ⟨.ref a, rfl, fun _ z => z, hd⟩
    | succ i => simp at e0
  · rw [h]
    intro v F' H' S' T s
    have q : DV K F' H' v (.bl true) := (s.tm _ List.mem_cons_self).2
    cases q
    rfl
end Pd
set_option Elab.async false
set_option linter.all false
set_option maxRecDepth 100000
set_option maxHeartbeats 4000000
/-! Part 24: plain data: what is shown, what is equal. -/
namespace Pd
open PySem
mutual
/-- small ints, None, rows of them -/
def pl : Dt → Bool
  | .non => true
  | .int i => decide (i.natAbs < 10 ^ 12)
  | .tup xs => plL xs
  | .lst xs => plL xs
  | _ => false
def plL : List Dt → Bool
  | [] => true
  | x :: xs => pl x && plL xs
end
mutual
def wt : Dt → Nat
  | .int _ => 41
  | .tup xs => wtL xs
  | .lst xs => wtL xs
  | _ => 0
def wtL : List Dt → Nat
  | [] => 0
  | x :: xs => wt x + 1 + wtL xs
end
mutual
def dpD : Dt → Nat
  | .tup xs => dpL xs + 1
  | .lst xs => dpL xs + 1
  | _ => 0
def dpL : List Dt → Nat
  | [] => 0
  | x :: xs => max (dpD x) (dpL xs)
end
theorem strOk_app {x y : Str} (hx : PyData.strOk x = true) (hy : PyData.strOk y = true) : PyData.strOk (x ++ y) = true := by
  unfold PyData.strOk at *
  show (x.cps ++ y.cps).all _ = true
  rw [Array.all_append, hx, hy]
  rfl
theorem strOk_of (s : String) : PyData.strOk (Str.ofString s) = true := by
  unfold PyData.strOk Str.ofString
  rw [cpsOfBytes_string]
  simp only [List.all_toArray, List.all_map]
  rw [List.all_eq_true]
  intro c _
  have h := c.valid
  simp only [UInt32.isValidChar, Nat.isValidChar] at h
  have : c.toNat = c.val.toNat := rfl
  simp only [Function.comp]
  rw [this]
  exact decide_eq_true (by omega)
theorem strOk_textFrom : ∀ (ts : List Str) (k : Nat) (acc : Str), (∀ t ∈ ts, PyData.strOk t = true) → PyData.strOk acc = true → PyData.strOk (textFrom k acc ts) = true
  | [], k, acc, _, h => h
  | t :: r, k, acc, ht, h => by
    refine strOk_textFrom r (k + 1) _ (fun t h => ht t (List.mem_cons_of_mem _ h)) (strOk_app (strOk_app h ?_) (ht t List.mem_cons_self))
    split <;> exact strOk_of _
theorem strOk_join (sep : Str) (hs : PyData.strOk sep = true) : ∀ (ts : List Str), (∀ t ∈ ts, PyData.strOk t = true) → PyData.strOk (Str.join sep ts) = true
  | [], _ => by
    show PyData.strOk Str.empty = true
    decide +kernel
  | [t], h => h t List.mem_cons_self
  | t :: u :: r, h => strOk_app (strOk_app (h t List.mem_cons_self) hs) (strOk_join sep hs (u :: r) fun t ht => h t (List.mem_cons_of_mem _ ht))
structure Shw (d : Dt) (e : PyData) : Prop where
  py : d.py = some e
  lay : e.canLay0 = true
  dep : e.depth = dpD d
  wei : e.weight ≤ wt d
  sho : e.intsShort 13 = true
  able : e.showable = true
  nod : e.hasDict = false
  txt : PyData.strOk e.shown = true
structure ShwL (d : List Dt) (e : List PyData) : Prop where
  py : pyL d = some e
  lay : PyData.canLayAll0 e = true
  dep : PyData.depthAll e = dpL d
  wei : PyData.weightAll e ≤ wtL d
  sho : PyData.intsShortAll 13 e = true
  able : PyData.showableAll e = true
  nod : PyData.hasDictAll e = false
  txt : ∀ t ∈ PyData.shownAll e, PyData.strOk t = true
mutual
theorem pl_ok : ∀ {d : Dt}, pl d = true → ∃ e, Shw d e
  | .non, _ => ⟨.none, rfl, rfl, rfl, Nat.le_refl _, rfl, rfl, rfl, strOk_of _⟩
  | .int i, h => by
    have hi : i.natAbs < 10 ^ 12 := of_decide_eq_true h
    have hl : i.natAbs.log2 < 40 := by
      by_cases z : i.natAbs = 0
      · rw [z]; decide
      · exact (Nat.log2_lt z).mpr (Nat.lt_trans hi (by decide))
    refine ⟨.int i, rfl, rfl, rfl, ?_, ?_, ?_, rfl, strOk_of _⟩
    · show (if (i == 0) = true then 0 else i.natAbs.log2 + 1) ≤ 41
      split <;> omega
    · have := int_text_length_le10 (a := i) (k := 12) (by decide) hi
      have e : (PyData.shown (.int i)).length = (toString i).length := by
        show (Str.ofString (toString i)).cps.size = _
        unfold Str.ofString
        rw [cpsOfBytes_string]
        simp [String.length_toList]
      show decide _ = true
      rw [e]
      exact decide_eq_true this
    · show decide (i.natAbs.log2 < 1920) = true
      exact decide_eq_true (by omega)
  | .tup xs, h => by
    obtain ⟨es, k⟩ := plL_ok (show plL xs = true from h)
    refine ⟨.tuple es, by show (match pyL xs with | some ys => some (PyData.tuple ys) | none => none) = _; rw [k.py], k.lay, by show _ + 1 = _ + 1; rw [k.dep], k.wei, k.sho, k.able, k.nod, ?_⟩
    exact strOk_app (strOk_app (strOk_of _) (strOk_join _ (strOk_of _) _ k.txt)) (by split <;> exact strOk_of _)
  | .lst xs, h => by
    obtain ⟨es, k⟩ := plL_ok (show plL xs = true from h)
    refine ⟨.list es, by show (match pyL xs with | some ys => some (PyData.list ys) | none => none) = _; rw [k.py], k.lay, by show _ + 1 = _ + 1; rw [k.dep], k.wei, k.sho, k.able, k.nod, ?_⟩
    exact strOk_app (strOk_textFrom _ _ _ k.txt (strOk_of _)) (strOk_of _)
  | .bl _, h => by cases h
  | .str _, h => by cases h
  | .dic _, h => by cases h
  | .scr _, h => by cases h
theorem plL_ok : ∀ {d : List Dt}, plL d = true → ∃ e, ShwL d e
  | [], _ => ⟨[], rfl, rfl, rfl, Nat.le_refl _, rfl, rfl, rfl, fun _ h => (nomatch h)⟩
  | x :: xs, h => by
    have h' : (pl x && plL xs) = true := h
    rw [Bool.and_eq_true] at h'
    obtain ⟨e, a⟩ := pl_ok h'.1
    obtain ⟨es, b⟩ := plL_ok h'.2
    refine ⟨e :: es, ?_, ?_, ?_, ?_, ?_, ?_, ?_, ?_⟩
    · simp only [pyL, a.py, b.py]
    · show (e.canLay0 && PyData.canLayAll0 es) = true
      rw [a.lay, b.lay]; rfl
    · show max _ _ = max _ _
      rw [a.dep, b.dep]
    · show e.weight + 1 + PyData.weightAll es ≤ wt x + 1 + wtL xs
      have := a.wei
      have := b.wei
      omega
    · show (e.intsShort 13 && PyData.intsShortAll 13 es) = true
      rw [a.sho, b.sho]; rfl
    · show (e.showable && PyData.showableAll es) = true
      rw [a.able, b.able]; rfl
    · show (e.hasDict || PyData.hasDictAll es) = false
      rw [a.nod, b.nod]; rfl
    · intro t ht
      rcases List.mem_cons.mp (show t ∈ e.shown :: PyData.shownAll es from ht) with z | z
      · rw [z]; exact a.txt
      · exact b.txt t z
end
/-- what repr gives -/
def shw (d : Dt) : Str := match d.py with | some e => e.shown | none => ⟨#[]⟩
theorem repr_pl {d : Dt} (h : pl d = true) (hd : dpD d ≤ 60) (hw : wt d ≤ 2 ^ 20) : Pr.repr.sem [d] = some (.imm (.str (shw d))) ∧ PyData.strOk (shw d) = true := by
  obtain ⟨e, k⟩ := pl_ok h
  have lay : e.layable0 = true := by
    unfold PyData.layable0
    rw [k.lay, Bool.true_and, Bool.and_eq_true]
    exact ⟨decide_eq_true (by rw [k.dep]; omega), decide_eq_true (Nat.le_trans k.wei hw)⟩
  have hz := PyProof.Rows.shown_le13 lay k.sho
  have es : shw d = e.shown := by unfold shw; rw [k.py]
  refine ⟨?_, by rw [es]; exact k.txt⟩
  simp only [Pr.sem, k.py, i1]
  rw [es, k.able, k.nod, decide_eq_true (show e.depth ≤ 60 by rw [k.dep]; exact hd), decide_eq_true (show e.shown.length ≤ sizeLine from Nat.le_trans hz (by decide))]
  rfl
theorem shaped_str {x : Str} (h : PyData.strOk x = true) : SeqAt.shaped (.str x) = true := by
  show (PyData.canLay0 (.str x) && decide _) = true
  rw [show PyData.canLay0 (.str x) = PyData.strOk x from rfl, h]
  rfl
/-- equal texts -/
theorem eqv_strs {x y : Str} (hx : PyData.strOk x = true) (hy : PyData.strOk y = true) : eqvD (.str x) (.str y) = some (decide (x = y)) := by
  show (if (SeqAt.shaped (.str x) && SeqAt.shaped (.str y)) = true then some (PyData.eqv (.str x) (.str y)) else none) = _
  rw [shaped_str hx, shaped_str hy]
  show some (x == y) = _
  congr 1
mutual
theorem eqv_iff : ∀ {a b : Dt} {x y : PyData}, pl a = true → pl b = true → a.py = some x → b.py = some y → (PyData.eqv x y = true ↔ a = b)
  | .non, b, x, y, ha, hb, hx, hy => by
    cases hx
    cases b <;> first | (cases hb; done) | skip
    · cases hy; simp [PyData.eqv]
    · cases hy; simp [PyData.eqv]
    · obtain ⟨e, k⟩ := plL_ok hb
      simp only [Dt.py, k.py] at hy
      cases hy; simp [PyData.eqv]
    · obtain ⟨e, k⟩ := plL_ok hb
      simp only [Dt.py, k.py] at hy
      cases hy; simp [PyData.eqv]
  | .int i, b, x, y, ha, hb, hx, hy => by
    cases hx
    cases b <;> first | (cases hb; done) | skip
    · cases hy; simp [PyData.eqv]
    · cases hy; simp [PyData.eqv]
    · obtain ⟨e, k⟩ := plL_ok hb
      simp only [Dt.py, k.py] at hy
      cases hy; simp [PyData.eqv]
    · obtain ⟨e, k⟩ := plL_ok hb
      simp only [Dt.py, k.py] at hy
      cases hy; simp [PyData.eqv]
  | .tup as, b, x, y, ha, hb, hx, hy => by
    obtain ⟨e, k⟩ := plL_ok ha
    simp only [Dt.py, k.py] at hx
    cases hx
    cases b <;> first | (cases hb; done) | skip
    · cases hy; simp [PyData.eqv]
    · cases hy; simp [PyData.eqv]
    · obtain ⟨e', k'⟩ := plL_ok hb
      simp only [Dt.py, k'.py] at hy
      cases hy
      simp only [PyData.eqv, Dt.tup.injEq]
      exact eqvL_iff ha hb k.py k'.py
    · obtain ⟨e', k'⟩ := plL_ok hb
      simp only [Dt.py, k'.py] at hy
      cases hy; simp [PyData.eqv]
  | .lst as, b, x, y, ha, hb, hx, hy => by
    obtain ⟨e, k⟩ := plL_ok ha
    simp only [Dt.py, k.py] at hx
    cases hx
    cases b <;> first | (cases hb; done) | skip
    · cases hy; simp [PyData.eqv]
    · cases hy; simp [PyData.eqv]
    · obtain ⟨e', k'⟩ := plL_ok hb
      simp only [Dt.py, k'.py] at hy
      cases hy; simp [PyData.eqv]
    · obtain ⟨e', k'⟩ := plL_ok hb
      simp only [Dt.py, k'.py] at hy
      cases hy
      simp only [PyData.eqv, Dt.lst.injEq]
      exact eqvL_iff ha hb k.py k'.py
  | .bl _, _, _, _, h, _, _, _ => by cases h
  | .str _, _, _, _, h, _, _, _ => by cases h
  | .dic _, _, _, _, h, _, _, _ => by cases h
  | .scr _, _, _, _, h, _, _, _ => by cases h
theorem eqvL_iff : ∀ {a b : List Dt} {x y : List PyData}, plL a = true → plL b = true → pyL a = some x → pyL b = some y → (PyData.eqvAll x y = true ↔ a = b)
  | [], [], x, y, ha, hb, hx, hy => by cases hx; cases hy; simp [PyData.eqvAll]
  | [], b :: bs, x, y, ha, hb, hx, hy => by
    cases hx
    obtain ⟨e, k⟩ := plL_ok hb
    rw [k.py] at hy
    cases hy
    cases y with
    | nil =>
      have := k.py
      simp only [pyL] at this
      split at this
      · split at this <;> cases this
      · cases this
    | cons _ _ => simp [PyData.eqvAll]
  | a :: as, [], x, y, ha, hb, hx, hy => by
    cases hy
    obtain ⟨e, k⟩ := plL_ok ha
    rw [k.py] at hx
    cases hx
    cases x with
    | nil =>
      have := k.py
      simp only [pyL] at this
      split at this
      · split at this <;> cases this
      · cases this
    | cons _ _ => simp [PyData.eqvAll]
  | a :: as, b :: bs, x, y, ha, hb, hx, hy => by
    have ha' : (pl a && plL as) = true := ha
    have hb' : (pl b && plL bs) = true := hb
    rw [Bool.and_eq_true] at ha' hb'
    simp only [pyL] at hx hy
    split at hx
    · rename_i x1 hx1
      split at hx
      · rename_i xs hxs
        cases hx
        split at hy
        · rename_i y1 hy1
          split at hy
          · rename_i ys hys
            cases hy
            simp only [PyData.eqvAll, Bool.and_eq_true, List.cons.injEq]
            rw [eqv_iff ha'.1 hb'.1 hx1 hy1, eqvL_iff ha'.2 hb'.2 hxs hys]
          · cases hy
        · cases hy
      · cases hx
    · cases hx
end
theorem shaped_pl {d : Dt} {e : PyData} (k : Shw d e) (hd : dpD d ≤ 60) : SeqAt.shaped e = true := by
  show (e.canLay0 && decide (e.depth ≤ 64)) = true
  rw [k.lay, decide_eq_true (show e.depth ≤ 64 by rw [k.dep]; omega)]
  rfl
open Classical in
theorem eqv_pl {a b : Dt} (ha : pl a = true) (hb : pl b = true) (da : dpD a ≤ 60) (db : dpD b ≤ 60) : eqvD a b = some (decide (a = b)) := by
  obtain ⟨x, k⟩ := pl_ok ha
  obtain ⟨y, l⟩ := pl_ok hb
  unfold eqvD
  rw [k.py, l.py]
  dsimp only
  rw [shaped_pl k da, shaped_pl l db]
  have h := eqv_iff ha hb k.py l.py
  simp only [Bool.and_self, if_true, Option.some.injEq]
  cases e : PyData.eqv x y with
  | true => exact (decide_eq_true (h.mp e)).symm
  | false =>
    refine (decide_eq_false fun z => ?_).symm
    rw [h.mpr z] at e
    cases e
theorem shw_inj_eq {a b : Dt} (h : a = b) : shw a = shw b := by rw [h]
end Pd
set_option Elab.async false
set_option linter.all false
set_option maxRecDepth 100000
set_option maxHeartbeats 1000000
/-! Part 25: plain runs: comprehensions, loops, the drawing of numbers. -/
namespace Pd
open PySem
/-! ### comprehensions -/
def stepLc (C : Cl) (el : Ex) (tg : Tg) (ifs : Tes) (own : List Nat) (d : Dt) (e : En) : Rs (Option Dt) :=
  match tgSet tg d (wipeE e own) with
  | some e3 => match evf C ifs e3 with
    | .ok true e4 => match ev C el e4 with
      | .ok o e5 => match o.dt? with | some y => .ok (some y) e5 | none => .no
      | .exc x e5 => .exc x e5
      | .no => .no
    | .ok false e4 => .ok none e4
    | .exc x e4 => .exc x e4
    | .no => .no
  | none => .no
theorem ev_lc {C : Cl} {el : Ex} {tg : Tg} {it : Ir} {ifs : Tes} {own : List Nat} {env e1 e2 : En} {ds : List Dt} (h1 : evi C it env = .ok ds e1) (h2 : lckI it e1 = some e2) :
    ev C (.lc el tg it ifs own) env = match lcGo (stepLc C el tg ifs own) ds [] e2 with
        | .ok ys e6 => .ok (.p (.lst ys)) (backE e1 (backE e2 e6 own) (slotI it))
        | _ => .no := by
  simp only [ev, h1, h2]
  rfl
theorem backE_get' (e0 env : En) (j : Nat) : ∀ (vs : List Nat), env.length = e0.length → (backE e0 env vs)[j]? = if j ∈ vs then e0[j]? else env[j]? := by
  intro vs hl
  induction vs with
  | nil => simp [backE]
  | cons v vs ih =>
    unfold backE
    by_cases e : j = v
    · subst e
      rw [if_pos List.mem_cons_self]
      by_cases hj : j < (backE e0 env vs).length
      · rw [List.getElem?_set_self hj]
        rw [backE_len, hl] at hj
        rw [List.getD_eq_getElem?_getD, List.getElem?_eq_getElem hj]
        rfl
      · rw [List.getElem?_eq_none (by rw [List.length_set]; omega)]
        rw [backE_len, hl] at hj
        rw [List.getElem?_eq_none (by omega)]
    · rw [List.getElem?_set_ne (Ne.symm e), ih]
      simp [e]
theorem wipeE_get' (env : En) (j : Nat) : ∀ (vs : List Nat), j ∉ vs → (wipeE env vs)[j]? = env[j]? := by
  intro vs
  induction vs with
  | nil => intro _; rfl
  | cons v vs ih =>
    intro hn
    unfold wipeE
    rw [List.getElem?_set_ne (fun e => hn (by rw [e]; exact List.mem_cons_self)), ih (fun z => hn (List.mem_cons_of_mem _ z))]
theorem back_of_wipe {e2 e6 : En} {own : List Nat} (h : wipeE e6 own = wipeE e2 own) : backE e2 e6 own = e2 := by
  have hl : e6.length = e2.length := by rw [← wipeE_len e6 own, h, wipeE_len]
  apply List.ext_getElem?
  intro j
  rw [backE_get' _ _ _ _ hl]
  by_cases hj : j ∈ own
  · rw [if_pos hj]
  · rw [if_neg hj, ← wipeE_get' e6 j own hj, h, wipeE_get' e2 j own hj]
theorem back_self (env : En) (vs : List Nat) : backE env env vs = env := back_of_wipe rfl
theorem lock_one {env e2 : En} {o : Op} (h : lockE env o = some e2) : backE env e2 (opSl o) = env := by
  cases o with
  | e x => simp only [lockE] at h; cases h; rfl
  | v i =>
    have hs : ∀ (x : Option Ow) (e2 : En), e2 = env.set i x → backE env e2 [i] = env := fun x e2 he => by
      subst he
      show ((env.set i x).set i (env.getD i none)) = env
      rw [List.set_set]
      apply List.ext_getElem?
      intro j
      by_cases e : i = j
      · subst e
        by_cases hj : i < env.length
        · rw [List.getElem?_set_self hj, List.getD_eq_getElem?_getD, List.getElem?_eq_getElem hj]; rfl
        · rw [List.getElem?_eq_none (by rw [List.length_set]; omega), List.getElem?_eq_none (by omega)]
      · rw [List.getElem?_set_ne e]
    simp only [lockE] at h
    split at h
    · cases h; exact hs _ _ rfl
    · cases h; exact hs _ _ rfl
    · cases h; exact back_self _ _
    · cases h
/-- the sources with one slot at most -/
def oneSl : Ir → Bool
  | .zip _ _ => false
  | _ => true
theorem lock_back {it : Ir} {env e2 : En} (h : lckI it env = some e2) (ho : oneSl it = true) : backE env e2 (slotI it) = env := by
  cases it with
  | op o =>
    have e : slotI (.op o) = opSl o := by cases o <;> rfl
    rw [e]; exact lock_one h
  | enum o =>
    have e : slotI (.enum o) = opSl o := by cases o <;> rfl
    rw [e]; exact lock_one h
  | rng1 a => simp only [lckI] at h; cases h; rfl
  | rng2 a b => simp only [lckI] at h; cases h; rfl
  | zip a b => cases ho
theorem lcGo_pure {st : Dt → En → Rs (Option Dt)} {own : List Nat} {W : En} {g : Dt → Option Dt} : ∀ (ds acc : List Dt) (e : En), wipeE e own = W → (∀ d ∈ ds, ∀ e, wipeE e own = W → ∃ e', st d e = .ok (g d) e' ∧ wipeE e' own = W) → acc.length + ds.length < sizeLine →
    ∃ e', lcGo st ds acc e = .ok (acc ++ ds.filterMap g) e' ∧ wipeE e' own = W
  | [], acc, e, he, _, _ => ⟨e, by simp [lcGo], he⟩
  | d :: ds, acc, e, he, h, hz => by
    obtain ⟨e1, h1, h2⟩ := h d List.mem_cons_self e he
    unfold lcGo
    rw [h1]
    simp only [List.length_cons] at hz
    cases hg : g d with
    | none =>
      obtain ⟨e', q1, q2⟩ := lcGo_pure ds acc e1 h2 (fun d hd => h d (List.mem_cons_of_mem _ hd)) (by omega)
      exact ⟨e', by simp only [q1]; simp [hg], q2⟩
    | some y =>
      obtain ⟨e', q1, q2⟩ := lcGo_pure ds (acc ++ [y]) e1 h2 (fun d hd => h d (List.mem_cons_of_mem _ hd)) (by simp; omega)
      refine ⟨e', ?_, q2⟩
      dsimp only
      rw [if_pos (by omega), q1]
      simp [hg]
/-- a comprehension that changes nothing -/
theorem lc_pure {C : Cl} {el : Ex} {tg : Tg} {it : Ir} {ifs : Tes} {own : List Nat} {env e2 : En} {ds : List Dt} (g : Dt → Option Dt) (h1 : evi C it env = .ok ds env) (h2 : lckI it env = some e2) (ho : oneSl it = true) (hz : ds.length < sizeLine)
    (h3 : ∀ d ∈ ds, ∃ e', stepLc C el tg ifs own d e2 = .ok (g d) e' ∧ wipeE e' own = wipeE e2 own) : ev C (.lc el tg it ifs own) env = .ok (.p (.lst (ds.filterMap g))) env := by
  rw [ev_lc h1 h2]
  obtain ⟨e', q1, q2⟩ := lcGo_pure (st := stepLc C el tg ifs own) (own := own) (W := wipeE e2 own) (g := g) ds [] e2 rfl (fun d hd e he => by
    obtain ⟨e', a, b⟩ := h3 d hd
    refine ⟨e', ?_, b⟩
    rw [← a]
    unfold stepLc
    rw [he]) (by simpa using hz)
  rw [q1]
  dsimp only
  rw [back_of_wipe q2, lock_back h2 ho, List.nil_append]
theorem lcGo_inv {st : Dt → En → Rs (Option Dt)} (I : List Dt → List Dt → En → Prop) : ∀ (ds pre acc : List Dt) (e : En), I pre acc e → (∀ (pre : List Dt) (d : Dt) (acc : List Dt) (e : En), d ∈ ds → I pre acc e → ∃ y e', st d e = .ok (some y) e' ∧ I (pre ++ [d]) (acc ++ [y]) e') → acc.length + ds.length < sizeLine →
    ∃ ys e', lcGo st ds acc e = .ok ys e' ∧ I (pre ++ ds) ys e'
  | [], pre, acc, e, h, _, _ => ⟨acc, e, rfl, by simpa using h⟩
  | d :: ds, pre, acc, e, h, hs, hz => by
    obtain ⟨y, e1, h1, h2⟩ := hs pre d acc e List.mem_cons_self h
    simp only [List.length_cons] at hz
    obtain ⟨ys, e', q1, q2⟩ := lcGo_inv I ds (pre ++ [d]) (acc ++ [y]) e1 h2 (fun pre d acc e hd => hs pre d acc e (List.mem_cons_of_mem _ hd)) (by simp; omega)
    refine ⟨ys, e', ?_, by simpa using q2⟩
    unfold lcGo
    rw [h1]
    dsimp only
    rw [if_pos (by omega)]
    exact q1
theorem wipe_set_out {env : En} {k : Nat} {x : Option Ow} : ∀ {vs : List Nat}, k ∉ vs → wipeE (env.set k x) vs = (wipeE env vs).set k x
  | [], _ => rfl
  | v :: vs, h => by
    unfold wipeE
    rw [wipe_set_out (fun z => h (List.mem_cons_of_mem _ z)), List.set_comm]
    exact fun e => h (by rw [e]; exact List.mem_cons_self)
theorem wipe_wipe (env : En) (vs : List Nat) : wipeE (wipeE env vs) vs = wipeE env vs := by
  have A : ∀ (us : List Nat), (∀ u ∈ us, u ∈ vs) → wipeE (wipeE env vs) us = wipeE env vs := by
    intro us
    induction us with
    | nil => intro _; rfl
    | cons u us ih =>
      intro h
      show (wipeE (wipeE env vs) us).set u none = _
      rw [ih fun x hx => h x (List.mem_cons_of_mem _ hx)]
      have hn : ∀ (ws : List Nat) (env : En), u ∈ ws → (wipeE env ws).set u none = wipeE env ws := by
        intro ws
        induction ws with
        | nil => intro _ hu; cases hu
        | cons w ws ih2 =>
          intro env hu
          unfold wipeE
          by_cases e : u = w
          · subst e; rw [List.set_set]
          · rw [List.set_comm _ _ (Ne.symm e), ih2 env ((List.mem_cons.mp hu).resolve_left e)]
      exact hn vs env (h u List.mem_cons_self)
  exact A vs fun _ h => h
theorem set_same {α : Type} {l : List α} {k : Nat} {x : α} (h : l[k]? = some x) : l.set k x = l := by
  obtain ⟨hk, e⟩ := List.getElem?_eq_some_iff.mp h
  rw [← e]
  exact List.set_getElem_self hk
theorem lockE_len {env e2 : En} {o : Op} (h : lockE env o = some e2) : e2.length = env.length := by
  cases o with
  | e x => simp only [lockE] at h; cases h; rfl
  | v i =>
    simp only [lockE] at h
    split at h <;> cases h <;> simp
theorem lock_len {it : Ir} {env e2 : En} (h : lckI it env = some e2) : e2.length = env.length := by
  cases it with
  | op o => exact lockE_len h
  | enum o => exact lockE_len h
  | rng1 a => simp only [lckI] at h; cases h; rfl
  | rng2 a b => simp only [lckI] at h; cases h; rfl
  | zip a b =>
    simp only [lckI] at h
    split at h
    · rename_i e1 h1
      rw [lockE_len h, lockE_len h1]
    · cases h
/-- a comprehension that changes the slot k alone -/
theorem lc_slot {C : Cl} {el : Ex} {tg : Tg} {it : Ir} {ifs : Tes} {own : List Nat} {env env1 e2 : En} {ds : List Dt} {k : Nat} (P : List Dt → List Dt → Ow → Prop) (h1 : evi C it env = .ok ds env1) (h2 : lckI it env1 = some e2) (ho : oneSl it = true) (hz : ds.length < sizeLine) (hk : k ∉ own) (hk2 : k ∉ slotI it)
    (h0 : ∃ s, e2[k]? = some (some s) ∧ P [] [] s)
    (h3 : ∀ pre d acc s, d ∈ ds → P pre acc s → ∃ y s' e', stepLc C el tg ifs own d ((wipeE e2 own).set k (some s)) = .ok (some y) e' ∧ wipeE e' own = (wipeE e2 own).set k (some s') ∧ P (pre ++ [d]) (acc ++ [y]) s') :
    ∃ ys s', ev C (.lc el tg it ifs own) env = .ok (.p (.lst ys)) (env1.set k (some s')) ∧ P ds ys s' := by
  rw [ev_lc h1 h2]
  obtain ⟨s0, hs0, hp0⟩ := h0
  have hle := lock_len h2
  obtain ⟨ys, e6, q1, s', q2, q3⟩ := lcGo_inv (st := stepLc C el tg ifs own) (fun pre acc e => ∃ s, P pre acc s ∧ wipeE e own = (wipeE e2 own).set k (some s)) ds [] [] e2 ⟨s0, hp0, by rw [set_same]; rw [wipeE_get' e2 k own hk]; exact hs0⟩ (fun pre d acc e hd ⟨s, hp, he⟩ => by
    obtain ⟨y, s', e', a, b, c⟩ := h3 pre d acc s hd hp
    refine ⟨y, e', ?_, s', c, b⟩
    rw [← a]
    unfold stepLc
    rw [he, wipe_set_out hk, wipe_wipe]) (by simpa using hz)
  rw [List.nil_append] at q2
  refine ⟨ys, s', ?_, q2⟩
  rw [q1]
  dsimp only
  have hl6 : e6.length = e2.length := by rw [← wipeE_len e6 own, q3, List.length_set, wipeE_len]
  have e1 : backE e2 e6 own = e2.set k (some s') := by
    apply List.ext_getElem?
    intro j
    rw [backE_get' _ _ _ _ hl6]
    by_cases hj : j ∈ own
    · rw [if_pos hj, List.getElem?_set_ne (fun e => hk (by rw [e]; exact hj))]
    · rw [if_neg hj, ← wipeE_get' e6 j own hj, q3, ← wipe_set_out hk, wipeE_get' _ j own hj]
  rw [e1]
  congr 1
  have hb := lock_back h2 ho
  apply List.ext_getElem?
  intro j
  rw [backE_get' _ _ _ _ (by rw [List.length_set]; exact hle)]
  by_cases hj : j ∈ slotI it
  · rw [if_pos hj, List.getElem?_set_ne (fun e => hk2 (by rw [e]; exact hj))]
  · rw [if_neg hj]
    by_cases e : k = j
    · subst e
      by_cases hl : k < e2.length
      · rw [List.getElem?_set_self hl, List.getElem?_set_self (by rw [← hle]; exact hl)]
      · rw [List.getElem?_eq_none (by rw [List.length_set]; omega), List.getElem?_eq_none (by rw [List.length_set]; omega)]
    · rw [List.getElem?_set_ne e, List.getElem?_set_ne e, ← hb, backE_get' _ _ _ _ hle, if_neg hj]
end Pd
set_option Elab.async false
set_option linter.all false
set_option maxRecDepth 100000
set_option maxHeartbeats 1000000
/-! Part 26: plain runs: the drawing of numbers. -/
namespace Pd
open PySem
/-! ### the record of a script -/
def srcF (cells : List Int) (l m t : Int) : List (Str × Ow1) := [("cells", .lst (cells.map .int)), ("left", .imm (.int l)), ("mixed", .imm (.int m)), ("turn", .imm (.int t))]
def Src (o : Ow) : Prop := ∃ cells l m t, cells.length ≤ 63 ∧ o = .rc (srcF cells l m t)
theorem ne1 : (("left" : Str) == "cells") = false := by decide +kernel
theorem ne2 : (("mixed" : Str) == "cells") = false := by decide +kernel
theorem ne3 : (("mixed" : Str) == "left") = false := by decide +kernel
theorem ne4 : (("turn" : Str) == "cells") = false := by decide +kernel
theorem ne5 : (("turn" : Str) == "left") = false := by decide +kernel
theorem ne6 : (("turn" : Str) == "mixed") = false := by decide +kernel
section
variable {cells : List Int} {l m t x : Int}
theorem lk_c : (srcF cells l m t).lookup ("cells" : Str) = some (Ow1.lst (cells.map .int)) := by simp [srcF, List.lookup_cons]
theorem lk_l : (srcF cells l m t).lookup ("left" : Str) = some (Ow1.imm (.int l)) := by simp [srcF, List.lookup_cons, ne1]
theorem lk_m : (srcF cells l m t).lookup ("mixed" : Str) = some (Ow1.imm (.int m)) := by simp [srcF, List.lookup_cons, ne2, ne3]
theorem lk_t : (srcF cells l m t).lookup ("turn" : Str) = some (Ow1.imm (.int t)) := by simp [srcF, List.lookup_cons, ne4, ne5, ne6]
theorem nq {a b : Str} (h : (a == b) = false) : ¬ b = a := fun e => by subst e; simp at h
theorem st_c {ds : List Dt} : setRec "cells" (.lst ds) (srcF cells l m t) = (("cells" : Str), Ow1.lst ds) :: (srcF cells l m t).tail := by simp [srcF, setRec]
theorem st_l : setRec "left" (.imm (.int x)) (srcF cells l m t) = srcF cells x m t := by simp [srcF, setRec, nq ne1]
theorem st_m : setRec "mixed" (.imm (.int x)) (srcF cells l m t) = srcF cells l x t := by simp [srcF, setRec, nq ne2, nq ne3]
theorem st_t : setRec "turn" (.imm (.int x)) (srcF cells l m t) = srcF cells l m x := by simp [srcF, setRec, nq ne4, nq ne5, nq ne6]
theorem src_len : (srcF cells l m t).length = 4 := rfl
end
theorem int_map_getLast {cells : List Int} {c : Int} (h : cells.getLast? = some c) : (cells.map Dt.int).getLast? = some (.int c) := by
  rw [List.getLast?_map, h]; rfl
/-- the drawing of a number, its numbers open -/
def pickB (c1 c2 c3 c4 c5 : Int) : Sms :=
  (.cons (.whl (.land (.tr (.e (.pr .gt (.cons (.v 1) (.cons (.e (.cst (.int 1))) .nil))))) (.land (.tr (.e (.pr .lt (.cons (.e (.fld 0 "left")) (.cons (.e (.cst (.int 2))) .nil))))) (.tr (.e (.pr .gt (.cons (.e (.lenF 0 "cells")) (.cons (.e (.cst (.int 0))) .nil))))))) (.cons (.setF 0 "left" (.popF 0 "cells"))
    .nil))
  (.cons (.asg 2 (.fld 0 "left"))
  (.cons (.ite (.lor (.tr (.e (.pr .lt (.cons (.v 1) (.cons (.e (.cst (.int 2))) .nil))))) (.tr (.e (.pr .gt (.cons (.v 2) (.cons (.e (.cst (.int 1))) .nil)))))) (.cons (.setF 0 "left" (.pr .fdiv (.cons (.v 2) (.cons (.e (.pr .max2 (.cons (.e (.cst (.int 1))) (.cons (.v 1) .nil)))) .nil))))
    (.cons (.ret (.pr .mod (.cons (.e (.pr .int (.cons (.v 2) .nil))) (.cons (.e (.pr .max2 (.cons (.e (.cst (.int 1))) (.cons (.v 1) .nil)))) .nil))))
    .nil)) .nil)
  (.cons (.setF 0 "turn" (.pr .add (.cons (.e (.fld 0 "turn")) (.cons (.e (.cst (.int 1))) .nil))))
  (.cons (.asg 3 (.pr .mod (.cons (.e (.pr .int (.cons (.e (.pr .add (.cons (.e (.fld 0 "mixed")) (.cons (.e (.pr .mul (.cons (.e (.fld 0 "turn")) (.cons (.e (.cst (.int c1))) .nil)))) .nil)))) .nil))) (.cons (.e (.cst (.int c2))) .nil))))
  (.cons (.asg 3 (.pr .mod (.cons (.e (.pr .int (.cons (.e (.pr .add (.cons (.e (.pr .mul (.cons (.v 3) (.cons (.v 3) .nil)))) (.cons (.e (.pr .mul (.cons (.e (.fld 0 "turn")) (.cons (.e (.cst (.int c3))) .nil)))) .nil)))) .nil))) (.cons (.e (.cst (.int c4))) .nil))))
  (.cons (.setF 0 "mixed" (.var 3))
  (.cons (.ret (.pr .mod (.cons (.e (.pr .int (.cons (.e (.pr .fdiv (.cons (.v 3) (.cons (.e (.cst (.int c5))) .nil)))) .nil))) (.cons (.v 1) .nil))))
  .nil))))))))
theorem ix0 {α : Type} {a : α} {l : List α} : (a :: l)[0]? = some a := rfl
theorem ix1 {α : Type} {a b : α} {l : List α} : (a :: b :: l)[1]? = some b := rfl
theorem ix2 {α : Type} {a b c : α} {l : List α} : (a :: b :: c :: l)[2]? = some c := rfl
theorem ix3 {α : Type} {a b c d : α} {l : List α} : (a :: b :: c :: d :: l)[3]? = some d := rfl
section
variable {C : Cl}
/-- the test of the first loop -/
theorem pick_test {cells : List Int} {l m t many : Int} {x y : Option Ow} : evt C (.land (.tr (.e (.pr .gt (.cons (.v 1) (.cons (.e (.cst (.int 1))) .nil))))) (.land (.tr (.e (.pr .lt (.cons (.e (.fld 0 "left")) (.cons (.e (.cst (.int 2))) .nil))))) (.tr (.e (.pr .gt (.cons (.e (.lenF 0 "cells")) (.cons (.e (.cst (.int 0))) .nil)))))))
    [some (.rc (srcF cells l m t)), some (im (.int many)), x, y] = .ok (decide (1 < many) && (decide (l < 2) && decide (0 < (cells.length : Int)))) [some (.rc (srcF cells l m t)), some (im (.int many)), x, y] := by
  have g0 : ∀ (a : Option Ow), getE [a, some (im (.int many)), x, y] 0 = a := fun a => by cases a <;> rfl
  have g1 : ∀ (a : Option Ow), getE [a, some (im (.int many)), x, y] 1 = some (im (.int many)) := fun a => rfl
  simp only [evt, evp, ev, evo, vws, Tm.vw, Ow.vw, Ow1.dt, im, Pr.sem, i1, Dt.tru, g0, g1, lk_l, lk_c, List.length_map]
  by_cases h1 : 1 < many
  · by_cases h2 : l < 2
    · simp [h1, h2, g0, g1, lk_l, lk_c, evt, evp, ev, evo, vws, Tm.vw, Ow.vw, Ow1.dt, im, Pr.sem, i1, Dt.tru]
    · simp [h1, h2, g0, g1, lk_l, lk_c, evt, evp, ev, evo, vws, Tm.vw, Ow.vw, Ow1.dt, im, Pr.sem, i1, Dt.tru]
  · simp [h1]
theorem pick_body {wf : Nat} {cells : List Int} {c l m t many : Int} {x y : Option Ow} (hc : cells.getLast? = some c) : exs C wf (.cons (.setF 0 "left" (.popF 0 "cells")) .nil) [some (.rc (srcF cells l m t)), some (im (.int many)), x, y] = .ok .nx [some (.rc (srcF cells.dropLast c m t)), some (im (.int many)), x, y] := by
  have g0 : ∀ (a : Option Ow), getE [a, some (im (.int many)), x, y] 0 = a := fun a => by cases a <;> rfl
  have e1 : (("cells" : Str), Ow1.lst (cells.map Dt.int).dropLast) :: (srcF cells l m t).tail = srcF cells.dropLast l m t := by
    unfold srcF
    rw [List.map_dropLast]
    rfl
  simp only [exs, ex, ev, g0, lk_c, int_map_getLast hc, st_c, e1, im, List.set_cons_zero, Ow1.dt, lk_l, st_l, src_len]
  simp
theorem pick_loop {wf0 : Nat} {m t many : Int} {x y : Option Ow} : ∀ (k : Nat) (cells : List Int) (l : Int) (wf : Nat), cells.length = k → k < wf → ∃ cells' l', cells'.length ≤ k ∧
    whGo (fun e => evt C (.land (.tr (.e (.pr .gt (.cons (.v 1) (.cons (.e (.cst (.int 1))) .nil))))) (.land (.tr (.e (.pr .lt (.cons (.e (.fld 0 "left")) (.cons (.e (.cst (.int 2))) .nil))))) (.tr (.e (.pr .gt (.cons (.e (.lenF 0 "cells")) (.cons (.e (.cst (.int 0))) .nil))))))) e) (fun e => exs C wf0 (.cons (.setF 0 "left" (.popF 0 "cells")) .nil) e) wf
      [some (.rc (srcF cells l m t)), some (im (.int many)), x, y] = .ok .nx [some (.rc (srcF cells' l' m t)), some (im (.int many)), x, y]
  | k, cells, l, 0, hk, hw => by omega
  | k, cells, l, wf + 1, hk, hw => by
    unfold whGo
    rw [pick_test]
    cases hb : (decide (1 < many) && (decide (l < 2) && decide (0 < (cells.length : Int)))) with
    | false => exact ⟨cells, l, by omega, rfl⟩
    | true =>
      simp only [Bool.and_eq_true, decide_eq_true_eq] at hb
      have hn : cells ≠ [] := fun e => by rw [e] at hb; simp at hb
      have hc : cells.getLast? = some (cells.getLast hn) := List.getLast?_eq_some_getLast hn
      dsimp only
      rw [pick_body hc]
      dsimp only
      obtain ⟨cells', l', h1, h2⟩ := pick_loop (k - 1) cells.dropLast (cells.getLast hn) wf (by rw [List.length_dropLast, hk]) (by omega)
      exact ⟨cells', l', by omega, h2⟩
theorem max2_pos {many : Int} : 0 < (if many > 1 then many else 1) := by split <;> omega
theorem okMul_r {a b : Int} (h : b.natAbs < 2 ^ 64) : okMul a b = true := by
  unfold okMul
  simp [h]
theorem log_small {a : Int} (h0 : 0 < a) (h : a < 2 ^ 62) : a.natAbs.log2 < 9000 := by
  have : a.natAbs.log2 < 62 := (Nat.log2_lt (by omega)).mpr (by omega)
  omega
theorem pick_run {wf : Nat} {c1 c2 c3 c4 c5 many : Int} {s : Ow} (hs : Src s) (hwf : 63 < wf) (h1 : c1.natAbs < 2 ^ 64) (h2 : 0 < c2) (h2' : c2 < 2 ^ 62) (h3 : c3.natAbs < 2 ^ 64) (h4 : 0 < c4) (h5 : 0 < c5) (h5' : c5 < 2 ^ 62) (hm : many < 2 ^ 62) :
    ∃ k s', runFn C wf ⟨2, 4, [.mu, .sh], pickB c1 c2 c3 c4 c5⟩ [s, im (.int many)] = .ret (im (.int k)) [some s', none] ∧ Src s' ∧ 0 ≤ k ∧ (k < many ∨ k = 0) := by
  obtain ⟨cells, l, m, t, hz, rfl⟩ := hs
  obtain ⟨cells', l', hz', hloop⟩ := pick_loop (C := C) (wf0 := wf) (m := m) (t := t) (many := many) (x := none) (y := none) cells.length cells l wf rfl (by omega)
  have g0 : ∀ (a u v : Option Ow), getE [a, some (im (.int many)), u, v] 0 = a := fun a u v => by cases a <;> rfl
  have g1 : ∀ (a u v : Option Ow), getE [a, some (im (.int many)), u, v] 1 = some (im (.int many)) := fun a u v => rfl
  have g2 : ∀ (a u v : Option Ow), getE [a, some (im (.int many)), u, v] 2 = u := fun a u v => by cases u <;> rfl
  have g3 : ∀ (a u v : Option Ow), getE [a, some (im (.int many)), u, v] 3 = v := fun a u v => by cases v <;> rfl
  unfold runFn
  simp only [List.length_cons, List.length_nil, List.map_cons, List.map_nil, if_true, pickB, List.replicate, List.cons_append, List.nil_append, Nat.reduceAdd, Nat.reduceSub]
  rw [exs]
  rw [show ex C wf (Sm.whl _ _) _ = _ from hloop]
  dsimp only
  have pm : (0 : Int) < (if many > 1 then many else 1) := max2_pos
  have pl : (if many > 1 then many else 1).natAbs.log2 < 9000 := log_small pm (by split <;> omega)
  by_cases hb : many < 2 ∨ 1 < l'
  · refine ⟨l' % (if many > 1 then many else 1), .rc (srcF cells' (l' / (if many > 1 then many else 1)) m t), ?_, ⟨cells', _, m, t, by omega, rfl⟩, Int.emod_nonneg _ (by omega), ?_⟩
    · have ht : evt C (.lor (.tr (.e (.pr .lt (.cons (.v 1) (.cons (.e (.cst (.int 2))) .nil))))) (.tr (.e (.pr .gt (.cons (.v 2) (.cons (.e (.cst (.int 1))) .nil)))))) [some (.rc (srcF cells' l' m t)), some (im (.int many)), some (im (.int l')), none] = .ok true [some (.rc (srcF cells' l' m t)), some (im (.int many)), some (im (.int l')), none] := by
        simp only [evt, evp, ev, evo, vws, Tm.vw, Ow.vw, Ow1.dt, im, Pr.sem, i1, Dt.tru, g1, g2]
        by_cases h : many < 2
        · simp [h]
        · have h' : 1 < l' := hb.resolve_left h
          simp [h, h', g1, g2, evt, evp, ev, evo, vws, Tm.vw, Ow.vw, Ow1.dt, im, Pr.sem, i1, Dt.tru]
      have s1 : ex C wf (.asg 2 (.fld 0 "left")) [some (.rc (srcF cells' l' m t)), some (im (.int many)), none, none] = .ok .nx [some (.rc (srcF cells' l' m t)), some (im (.int many)), some (im (.int l')), none] := by
        simp [ex, ev, g0, lk_l]
      have s2 : ex C wf (.setF 0 "left" (.pr .fdiv (.cons (.v 2) (.cons (.e (.pr .max2 (.cons (.e (.cst (.int 1))) (.cons (.v 1) .nil)))) .nil)))) [some (.rc (srcF cells' l' m t)), some (im (.int many)), some (im (.int l')), none] = .ok .nx [some (.rc (srcF cells' (l' / (if many > 1 then many else 1)) m t)), some (im (.int many)), some (im (.int l')), none] := by
        simp only [ex, ev, g0, g1, g2, lk_l, evp, evo, vws, Tm.vw, Ow.vw, Ow1.dt, im, Pr.sem, i1, pm, pl, and_self, if_true, src_len, st_l, List.set_cons_zero]
        simp
      have s3 : ex C wf (.ret (.pr .mod (.cons (.e (.pr .int (.cons (.v 2) .nil))) (.cons (.e (.pr .max2 (.cons (.e (.cst (.int 1))) (.cons (.v 1) .nil)))) .nil)))) [some (.rc (srcF cells' (l' / (if many > 1 then many else 1)) m t)), some (im (.int many)), some (im (.int l')), none] = .ok (.rt (im (.int (l' % (if many > 1 then many else 1))))) [some (.rc (srcF cells' (l' / (if many > 1 then many else 1)) m t)), some (im (.int many)), some (im (.int l')), none] := by
        simp only [ex, ev, g0, g1, g2, evp, evo, vws, Tm.vw, Ow.vw, Ow1.dt, im, Pr.sem, i1, pm, if_true]
      have s7 : ∀ a b, ex C wf (.ite (.lor (.tr (.e (.pr .lt (.cons (.v 1) (.cons (.e (.cst (.int 2))) .nil))))) (.tr (.e (.pr .gt (.cons (.v 2) (.cons (.e (.cst (.int 1))) .nil)))))) a b) [some (.rc (srcF cells' l' m t)), some (im (.int many)), some (im (.int l')), none] = exs C wf a [some (.rc (srcF cells' l' m t)), some (im (.int many)), some (im (.int l')), none] := fun a b => by
        rw [ex, ht]
      simp only [exs, s1, s7, s2, s3]
      rfl
    · have := Int.emod_lt_of_pos l' pm
      by_cases h : many > 1
      · rw [if_pos h] at this; exact .inl (by rw [if_pos h]; exact this)
      · rw [if_neg h] at this ⊢; omega
  · have hm2 : ¬ many < 2 := fun h => hb (.inl h)
    have hl2 : ¬ 1 < l' := fun h => hb (.inr h)
    have ht : evt C (.lor (.tr (.e (.pr .lt (.cons (.v 1) (.cons (.e (.cst (.int 2))) .nil))))) (.tr (.e (.pr .gt (.cons (.v 2) (.cons (.e (.cst (.int 1))) .nil)))))) [some (.rc (srcF cells' l' m t)), some (im (.int many)), some (im (.int l')), none] = .ok false [some (.rc (srcF cells' l' m t)), some (im (.int many)), some (im (.int l')), none] := by
      simp [hm2, hl2, g1, g2, evt, evp, ev, evo, vws, Tm.vw, Ow.vw, Ow1.dt, im, Pr.sem, i1, Dt.tru]
    have k1 : ∀ a : Int, okMul a c1 = true := fun a => okMul_r h1
    have k3 : ∀ a : Int, okMul a c3 = true := fun a => okMul_r h3
    let u := (m + (t + 1) * c1) % c2
    have hu : okMul u u = true := okMul_r (by
      have h0 := Int.emod_nonneg (m + (t + 1) * c1) (show c2 ≠ 0 by omega)
      have h9 := Int.emod_lt_of_pos (m + (t + 1) * c1) h2
      show ((m + (t + 1) * c1) % c2).natAbs < 2 ^ 64
      omega)
    let z := (u * u + (t + 1) * c3) % c4
    have p5 : c5.natAbs.log2 < 9000 := log_small h5 h5'
    have hp : (0 : Int) < many := by omega
    refine ⟨(z / c5) % many, .rc (srcF cells' l' z (t + 1)), ?_, ⟨cells', _, _, _, by omega, rfl⟩, Int.emod_nonneg _ (by omega), .inl (Int.emod_lt_of_pos _ hp)⟩
    have s1 : ex C wf (.asg 2 (.fld 0 "left")) [some (.rc (srcF cells' l' m t)), some (im (.int many)), none, none] = .ok .nx [some (.rc (srcF cells' l' m t)), some (im (.int many)), some (im (.int l')), none] := by
      simp [ex, ev, g0, lk_l]
    have s2 : ex C wf (.setF 0 "turn" (.pr .add (.cons (.e (.fld 0 "turn")) (.cons (.e (.cst (.int 1))) .nil)))) [some (.rc (srcF cells' l' m t)), some (im (.int many)), some (im (.int l')), none] = .ok .nx [some (.rc (srcF cells' l' m (t + 1))), some (im (.int many)), some (im (.int l')), none] := by
      simp [ex, ev, g0, lk_t, evp, evo, vws, Tm.vw, Ow.vw, Ow1.dt, im, Pr.sem, i1, src_len, st_t]
    have s3 : ex C wf (.asg 3 (.pr .mod (.cons (.e (.pr .int (.cons (.e (.pr .add (.cons (.e (.fld 0 "mixed")) (.cons (.e (.pr .mul (.cons (.e (.fld 0 "turn")) (.cons (.e (.cst (.int c1))) .nil)))) .nil)))) .nil))) (.cons (.e (.cst (.int c2))) .nil)))) [some (.rc (srcF cells' l' m (t + 1))), some (im (.int many)), some (im (.int l')), none] = .ok .nx [some (.rc (srcF cells' l' m (t + 1))), some (im (.int many)), some (im (.int l')), some (im (.int u))] := by
      simp [ex, ev, g0, lk_t, lk_m, evp, evo, vws, Tm.vw, Ow.vw, Ow1.dt, im, Pr.sem, i1, k1, h2, u]
    have s4 : ex C wf (.asg 3 (.pr .mod (.cons (.e (.pr .int (.cons (.e (.pr .add (.cons (.e (.pr .mul (.cons (.v 3) (.cons (.v 3) .nil)))) (.cons (.e (.pr .mul (.cons (.e (.fld 0 "turn")) (.cons (.e (.cst (.int c3))) .nil)))) .nil)))) .nil))) (.cons (.e (.cst (.int c4))) .nil)))) [some (.rc (srcF cells' l' m (t + 1))), some (im (.int many)), some (im (.int l')), some (im (.int u))] = .ok .nx [some (.rc (srcF cells' l' m (t + 1))), some (im (.int many)), some (im (.int l')), some (im (.int z))] := by
      simp [ex, ev, g0, g3, lk_t, evp, evo, vws, Tm.vw, Ow.vw, Ow1.dt, im, Pr.sem, i1, k3, hu, h4, z]
    have s5 : ex C wf (.setF 0 "mixed" (.var 3)) [some (.rc (srcF cells' l' m (t + 1))), some (im (.int many)), some (im (.int l')), some (im (.int z))] = .ok .nx [some (.rc (srcF cells' l' z (t + 1))), some (im (.int many)), some (im (.int l')), some (im (.int z))] := by
      simp [ex, ev, g0, g3, Ow1.dt, im, lk_m, src_len, st_m]
    have s6 : ex C wf (.ret (.pr .mod (.cons (.e (.pr .int (.cons (.e (.pr .fdiv (.cons (.v 3) (.cons (.e (.cst (.int c5))) .nil)))) .nil))) (.cons (.v 1) .nil)))) [some (.rc (srcF cells' l' z (t + 1))), some (im (.int many)), some (im (.int l')), some (im (.int z))] = .ok (.rt (im (.int ((z / c5) % many)))) [some (.rc (srcF cells' l' z (t + 1))), some (im (.int many)), some (im (.int l')), some (im (.int z))] := by
      simp [ex, ev, g1, g3, evp, evo, vws, Tm.vw, Ow.vw, Ow1.dt, im, Pr.sem, i1, h5, p5, hp]
    have s7 : ∀ a b, ex C wf (.ite (.lor (.tr (.e (.pr .lt (.cons (.v 1) (.cons (.e (.cst (.int 2))) .nil))))) (.tr (.e (.pr .gt (.cons (.v 2) (.cons (.e (.cst (.int 1))) .nil)))))) a b) [some (.rc (srcF cells' l' m t)), some (im (.int many)), some (im (.int l')), none] = exs C wf b [some (.rc (srcF cells' l' m t)), some (im (.int many)), some (im (.int l')), none] := fun a b => by
      rw [ex, ht]
    simp only [exs, s1, s7, s2, s3, s4, s5, s6]
    rfl
end
end Pd
set_option Elab.async false
set_option linter.all false
set_option maxRecDepth 100000
set_option maxHeartbeats 1000000
/-! Part 27: plain runs: rules for statements and expressions, rows of numbers, comprehensions that draw. (No law in sight.) -/
namespace Pd
open PySem
section
variable {a0 a1 a2 a3 a4 a5 a6 a7 a8 a9 a10 a11 a12 a13 : Option Ow} {l : En}
theorem gE0 : getE (a0 :: l) 0 = a0 := by cases a0 <;> rfl
theorem gE1 : getE (a0 :: a1 :: l) 1 = a1 := by cases a1 <;> rfl
theorem gE2 : getE (a0 :: a1 :: a2 :: l) 2 = a2 := by cases a2 <;> rfl
theorem gE3 : getE (a0 :: a1 :: a2 :: a3 :: l) 3 = a3 := by cases a3 <;> rfl
theorem gE4 : getE (a0 :: a1 :: a2 :: a3 :: a4 :: l) 4 = a4 := by cases a4 <;> rfl
theorem gE5 : getE (a0 :: a1 :: a2 :: a3 :: a4 :: a5 :: l) 5 = a5 := by cases a5 <;> rfl
theorem gE6 : getE (a0 :: a1 :: a2 :: a3 :: a4 :: a5 :: a6 :: l) 6 = a6 := by cases a6 <;> rfl
theorem gE7 : getE (a0 :: a1 :: a2 :: a3 :: a4 :: a5 :: a6 :: a7 :: l) 7 = a7 := by cases a7 <;> rfl
theorem gE8 : getE (a0 :: a1 :: a2 :: a3 :: a4 :: a5 :: a6 :: a7 :: a8 :: l) 8 = a8 := by cases a8 <;> rfl
theorem gE9 : getE (a0 :: a1 :: a2 :: a3 :: a4 :: a5 :: a6 :: a7 :: a8 :: a9 :: l) 9 = a9 := by cases a9 <;> rfl
theorem gE10 : getE (a0 :: a1 :: a2 :: a3 :: a4 :: a5 :: a6 :: a7 :: a8 :: a9 :: a10 :: l) 10 = a10 := by cases a10 <;> rfl
theorem gE11 : getE (a0 :: a1 :: a2 :: a3 :: a4 :: a5 :: a6 :: a7 :: a8 :: a9 :: a10 :: a11 :: l) 11 = a11 := by cases a11 <;> rfl
theorem gE12 : getE (a0 :: a1 :: a2 :: a3 :: a4 :: a5 :: a6 :: a7 :: a8 :: a9 :: a10 :: a11 :: a12 :: l) 12 = a12 := by cases a12 <;> rfl
theorem gE13 : getE (a0 :: a1 :: a2 :: a3 :: a4 :: a5 :: a6 :: a7 :: a8 :: a9 :: a10 :: a11 :: a12 :: a13 :: l) 13 = a13 := by cases a13 <;> rfl
end
/-- rows of numbers -/
def nL (l : List Nat) : List Dt := l.map fun (k : Nat) => Dt.int (k : Int)
def nT (l : List Nat) : Dt := .tup (nL l)
theorem nL_len (l : List Nat) : (nL l).length = l.length := by simp [nL]
theorem nL_get {l : List Nat} {i : Nat} (h : i < l.length) : atD (nL l) (i : Int) = some (.int ((l.getD i 0 : Nat) : Int)) := by
  unfold atD nL
  rw [if_pos (by omega), Int.toNat_natCast, List.getElem?_map, List.getElem?_eq_getElem h, List.getD_eq_getElem?_getD, List.getElem?_eq_getElem h]
  rfl
theorem dint_inj {a b : Nat} : Dt.int (a : Int) = Dt.int (b : Int) ↔ a = b := by
  rw [Dt.int.injEq]; omega
theorem nL_inj {a b : List Nat} : nL a = nL b ↔ a = b := by
  constructor
  · intro h
    revert b
    induction a with
    | nil => intro b h; cases b <;> simp [nL] at h ⊢
    | cons x a ih =>
      intro b h
      cases b with
      | nil => simp [nL] at h
      | cons y b =>
        simp only [nL, List.map_cons, List.cons.injEq] at h
        rw [dint_inj.mp h.1, ih h.2]
  · intro h; rw [h]
theorem nT_inj {a b : List Nat} : nT a = nT b ↔ a = b := by
  unfold nT
  rw [Dt.tup.injEq, nL_inj]
theorem sem_ix {l : List Nat} {i : Nat} (h : i < l.length) : Pr.sem .ix [nT l, .int (i : Int)] = some (.imm (.int ((l.getD i 0 : Nat) : Int))) := by
  unfold nT
  simp [Pr.sem, nL_get h, i1]
theorem sem_len (l : List Nat) : Pr.sem .len [nT l] = some (.imm (.int (l.length : Int))) := by
  simp [Pr.sem, nT, nL_len, i1]
theorem sem_tuple (l : List Nat) : Pr.sem .tuple [.lst (nL l)] = some (.imm (nT l)) := rfl
theorem seqD_nT (l : List Nat) : seqD (nT l) = some (nL l) := rfl
theorem rngD0 (n : Nat) : rngD 0 n = nL (List.range n) := by simp [rngD, nL]
theorem plLN : ∀ {l : List Nat}, (∀ x ∈ l, x < 10 ^ 12) → plL (nL l) = true
  | [], _ => rfl
  | x :: l, h => by
    show (pl (.int (x : Int)) && plL (nL l)) = true
    rw [plLN fun y hy => h y (List.mem_cons_of_mem _ hy), Bool.and_true]
    exact decide_eq_true (by have := h x List.mem_cons_self; omega)
theorem plT {l : List Nat} (h : ∀ x ∈ l, x < 10 ^ 12) : pl (nT l) = true := plLN h
theorem dpLN : ∀ (l : List Nat), dpL (nL l) = 0
  | [] => rfl
  | x :: l => by
    show max 0 (dpL (nL l)) = 0
    rw [dpLN l]; rfl
theorem dpT (l : List Nat) : dpD (nT l) = 1 := by show dpL (nL l) + 1 = 1; rw [dpLN]
theorem wtLN : ∀ (l : List Nat), wtL (nL l) = 42 * l.length
  | [] => rfl
  | x :: l => by
    show 41 + 1 + wtL (nL l) = _
    rw [wtLN l, List.length_cons]; omega
theorem wtT (l : List Nat) : wt (nT l) = 42 * l.length := wtLN l
theorem eqv_int (a b : Int) : eqvD (.int a) (.int b) = some (decide (a = b)) := by
  show (if (SeqAt.shaped (.int a) && SeqAt.shaped (.int b)) = true then some (PyData.eqv (.int a) (.int b)) else none) = _
  have h : ∀ a, SeqAt.shaped (.int a) = true := fun a => rfl
  rw [h, h]
  show some (a == b) = _
  congr 1
theorem eqv_bl (a b : Bool) : eqvD (.bl a) (.bl b) = some (decide (a = b)) := by
  cases a <;> cases b <;> decide +kernel
theorem eqv_nT {a b : List Nat} (ha : ∀ x ∈ a, x < 10 ^ 12) (hb : ∀ x ∈ b, x < 10 ^ 12) : eqvD (nT a) (nT b) = some (decide (a = b)) := by
  rw [eqv_pl (plT ha) (plT hb) (by rw [dpT]; omega) (by rw [dpT]; omega)]
  congr 1
  rw [decide_eq_decide]
  exact nT_inj
theorem eqv_nL {a b : List Nat} (ha : ∀ x ∈ a, x < 10 ^ 12) (hb : ∀ x ∈ b, x < 10 ^ 12) : eqvD (.lst (nL a)) (.lst (nL b)) = some (decide (a = b)) := by
  rw [eqv_pl (a := .lst (nL a)) (b := .lst (nL b)) (plLN ha) (plLN hb) (by show dpL _ + 1 ≤ 60; rw [dpLN]; omega) (by show dpL _ + 1 ≤ 60; rw [dpLN]; omega)]
  congr 1
  rw [decide_eq_decide, Dt.lst.injEq]
  exact nL_inj
theorem eqv_nil {a : List Nat} (ha : ∀ x ∈ a, x < 10 ^ 12) : eqvD (.lst (nL a)) (.lst []) = some (decide (a = [])) := eqv_nL (b := []) ha (fun _ h => (nomatch h))
theorem repr_bl (b : Bool) : Pr.repr.sem [.bl b] = some (.imm (.str (shw (.bl b)))) := by cases b <;> rfl
theorem eqv_shw {d : Dt} (h : PyData.strOk (shw d) = true) : eqvD (.str (shw d)) (.str (shw d)) = some true := by
  rw [eqv_strs h h]; simp
theorem str_bl (b : Bool) : PyData.strOk (shw (.bl b)) = true := by cases b <;> decide +kernel
/-- plain and small enough to be shown -/
structure Fit (d : Dt) : Prop where
  p : pl d = true
  dp : dpD d ≤ 60
  w : wt d ≤ 2 ^ 20
theorem Fit.r {d : Dt} (h : Fit d) : Pr.repr.sem [d] = some (.imm (.str (shw d))) := (repr_pl h.p h.dp h.w).1
theorem Fit.e {d : Dt} (h : Fit d) : eqvD (.str (shw d)) (.str (shw d)) = some true := eqv_shw (repr_pl h.p h.dp h.w).2
theorem fit_nT {l : List Nat} (h : ∀ x ∈ l, x < 10 ^ 12) (hz : l.length ≤ 10000) : Fit (nT l) := ⟨plT h, by rw [dpT]; omega, by rw [wtT]; omega⟩

/-! loops with a named step -/
def stepFor (C : Cl) (wf : Nat) (tg : Tg) (b : Sms) (d : Dt) (e : En) : Rs Fl := match tgSet tg d e with | some e3 => exs C wf b e3 | none => .no
theorem ex_for {C : Cl} {wf : Nat} {tg : Tg} {it : Ir} {b : Sms} {env e1 e2 : En} {ds : List Dt} (h1 : evi C it env = .ok ds e1) (h2 : lckI it e1 = some e2) :
    ex C wf (.fors tg it b) env = match forGo (stepFor C wf tg b) ds e2 with
        | .ok fl e3 => .ok fl (backE e1 e3 (slotI it))
        | .exc x e3 => .exc x (backE e1 e3 (slotI it))
        | .no => .no := by
  simp only [ex, h1, h2]
  rfl
/-- a comprehension over numbers that changes nothing -/
theorem lc_nat {C : Cl} {el : Ex} {it : Ir} {ifs : Tes} {k : Nat} {env : En} {xs : List Nat} (p : Nat → Bool) (G : Nat → Dt) (h1 : evi C it env = .ok (nL xs) env) (h2 : lckI it env = some env) (ho : oneSl it = true) (hz : xs.length < sizeLine)
    (hf : ∀ x ∈ xs, evf C ifs (env.set k (some (im (.int (x : Int))))) = .ok (p x) (env.set k (some (im (.int (x : Int))))))
    (hg : ∀ x ∈ xs, p x = true → ev C el (env.set k (some (im (.int (x : Int))))) = .ok (im (G x)) (env.set k (some (im (.int (x : Int)))))) :
    ev C (.lc el (.nm k) it ifs [k]) env = .ok (.p (.lst ((xs.filter p).map G))) env := by
  have e : (xs.filter p).map G = (nL xs).filterMap fun d => match d with | .int i => if p i.toNat then some (G i.toNat) else none | _ => none := by
    unfold nL
    rw [List.filterMap_map]
    simp only [Function.comp_def, Int.toNat_natCast]
    clear h1 hz hf hg
    induction xs with
    | nil => rfl
    | cons x xs ih =>
      rw [List.filterMap_cons, List.filter_cons]
      cases hp : p x <;> simp [ih, hp]
  rw [e]
  refine lc_pure _ h1 h2 ho (by rw [nL_len]; exact hz) fun d hd => ?_
  obtain ⟨x, hx, rfl⟩ := List.mem_map.mp hd
  refine ⟨env.set k (some (im (.int (x : Int)))), ?_, ?_⟩
  · unfold stepLc
    have : tgSet (.nm k) (Dt.int (x : Int)) (wipeE env [k]) = some (env.set k (some (im (.int (x : Int))))) := by
      show some ((env.set k none).set k _) = _
      rw [List.set_set]
    rw [this]
    dsimp only
    rw [hf x hx]
    cases hp : p x with
    | false => simp [hp]
    | true =>
      dsimp only
      rw [hg x hx hp]
      simp [Ow.dt?, Ow1.dt, hp]
  · show (env.set k _).set k none = env.set k none
    rw [List.set_set]

theorem filt {α : Type} (a : List α) : a.filter (fun _ => true) = a := List.filter_eq_self.mpr fun _ _ => rfl
theorem runFn_of {C : Cl} {wf : Nat} {f : Fn} {as : List Ow} {env env' : En} {o : Ow} {outs : List (Option Ow)} (hl : as.length = f.np) (he : as.map some ++ List.replicate (f.ns - f.np) none = env) (hb : exs C wf f.body env = .ok (.rt o) env') (ho : outsOf env' f.md 0 = outs) : runFn C wf f as = .ret o outs := by
  unfold runFn
  rw [if_pos hl, he, hb]
  show Cr.ret o (outsOf env' f.md 0) = _
  rw [ho]
theorem exs_next {C : Cl} {wf : Nat} {s : Sm} {ss : Sms} {e e1 : En} {r : Rs Fl} (h : ex C wf s e = .ok .nx e1) (h2 : exs C wf ss e1 = r) : exs C wf (.cons s ss) e = r := by
  rw [exs, h]; exact h2
theorem exs_last {C : Cl} {wf : Nat} {s : Sm} {ss : Sms} {e e1 : En} {o : Ow} (h : ex C wf s e = .ok (.rt o) e1) : exs C wf (.cons s ss) e = .ok (.rt o) e1 := by
  rw [exs, h]
theorem exs_nil {C : Cl} {wf : Nat} {e : En} : exs C wf .nil e = .ok .nx e := by rw [exs]
theorem ex_ret {C : Cl} {wf : Nat} {x : Ex} {e e1 : En} {o : Ow} (h : ev C x e = .ok o e1) : ex C wf (.ret x) e = .ok (.rt o) e1 := by
  rw [ex, h]
theorem ex_asg {C : Cl} {wf i : Nat} {x : Ex} {e e1 : En} {o : Ow} (h : ev C x e = .ok o e1) : ex C wf (.asg i x) e = .ok .nx (e1.set i (some o)) := by
  rw [ex, h]
theorem ex_iteF {C : Cl} {wf : Nat} {t : Te} {a b : Sms} {e e1 : En} (h : evt C t e = .ok false e1) : ex C wf (.ite t a b) e = exs C wf b e1 := by
  rw [ex, h]
theorem ex_iteT {C : Cl} {wf : Nat} {t : Te} {a b : Sms} {e e1 : En} (h : evt C t e = .ok true e1) : ex C wf (.ite t a b) e = exs C wf a e1 := by
  rw [ex, h]
/-- an operation on one value -/
theorem ev_pr1 {C : Cl} {q : Pr} {x : Ex} {e e1 : En} {o r : Ow1} (h : ev C x e = .ok (.p o) e1) (hq : q.sem [o.dt] = some r) : ev C (.pr q (.cons (.e x) .nil)) e = .ok (.p r) e1 := by
  simp [ev, evo, evp, h, vws, Tm.vw, Ow.vw, hq]
/-- an operation on two values -/
theorem ev_pr2 {C : Cl} {q : Pr} {x y : Ex} {e e1 e2 : En} {o u r : Ow1} (h : ev C x e = .ok (.p o) e1) (h2 : ev C y e1 = .ok (.p u) e2) (hq : q.sem [o.dt, u.dt] = some r) : ev C (.pr q (.cons (.e x) (.cons (.e y) .nil))) e = .ok (.p r) e2 := by
  simp [ev, evo, evp, h, h2, vws, Tm.vw, Ow.vw, hq]
theorem szl : sizeLine = 16777216 := by decide
theorem getD_mem {b : List Nat} {x : Nat} (h : x < b.length) : b.getD x 0 ∈ b := by
  rw [List.getD_eq_getElem?_getD, List.getElem?_eq_getElem h]
  exact List.getElem_mem h
theorem enum_nL : ∀ (d : List Nat) (k : Nat), enumD k (nL d) = (List.range d.length).map fun p => .tup [.int ((k + p : Nat) : Int), .int ((d.getD p 0 : Nat) : Int)]
  | [], k => rfl
  | x :: d, k => by
    show .tup [.int (k : Int), .int (x : Int)] :: enumD (k + 1) (nL d) = _
    rw [enum_nL d (k + 1), List.length_cons, List.range_succ_eq_map, List.map_cons, List.map_map]
    congr 1
    refine List.map_congr_left fun p _ => ?_
    simp only [Function.comp, List.getD_cons_succ, Nat.succ_eq_add_one]
    rw [show k + 1 + p = k + (p + 1) by omega]
theorem sem_in (p : Nat) (d : List Nat) : Pr.sem .isIn [.int (p : Int), nT d] = some (.imm (.bl (decide (p ∈ d)))) := by
  have h1 : (nL d).all flatD = true := by
    rw [List.all_eq_true]
    intro x hx
    obtain ⟨y, _, rfl⟩ := List.mem_map.mp hx
    rfl
  have h2 : ((nL d).any fun z => eqF z (.int (p : Int))) = decide (p ∈ d) := by
    rw [Bool.eq_iff_iff, List.any_eq_true, decide_eq_true_eq]
    constructor
    · rintro ⟨z, hz, e⟩
      obtain ⟨y, hy, rfl⟩ := List.mem_map.mp hz
      have : (y : Int) = (p : Int) := by simpa [eqF] using e
      have : y = p := by omega
      rwa [← this]
    · intro h
      exact ⟨.int (p : Int), List.mem_map.mpr ⟨p, h, rfl⟩, by simp [eqF]⟩
  show (if (flatD (.int (p : Int)) && (nL d).all flatD) = true then i1 (.bl ((nL d).any fun z => eqF z (.int (p : Int)))) else none) = _
  rw [h1, h2]
  rfl
theorem evi_range {C : Cl} {e : Ex} {env e1 : En} {k : Nat} (h : ev C e env = .ok (im (.int (k : Int))) e1) (hk : k ≤ 1000000) : evi C (.rng1 e) env = .ok (nL (List.range k)) e1 := by
  rw [evi, h]
  dsimp only
  rw [if_pos (by omega), Int.toNat_natCast, rngD0]
theorem sem_eqn (a b : Nat) : Pr.sem .eq [.int (a : Int), .int (b : Int)] = some (.imm (.bl (a == b))) := by
  simp only [Pr.sem, eqv_int, i1]
  congr 3
  rw [Bool.eq_iff_iff, decide_eq_true_eq, beq_iff_eq]
  omega
theorem sem_nen (a b : Nat) : Pr.sem .ne [.int (a : Int), .int (b : Int)] = some (.imm (.bl (a != b))) := by
  have h : eqvD (.int (a : Int)) (.int (b : Int)) = some (a == b) := by
    rw [eqv_int]
    congr 1
    rw [Bool.eq_iff_iff, decide_eq_true_eq, beq_iff_eq]
    omega
  simp only [Pr.sem, h, i1]
  rfl
theorem sem_ne0 {a : List Nat} (h : ∀ x ∈ a, x < 10 ^ 12) : Pr.sem .ne [.lst (nL a), .lst []] = some (.imm (.bl (!decide (a = [])))) := by
  simp only [Pr.sem, eqv_nil h, i1]
theorem sem_eq0 {a : List Nat} (h : ∀ x ∈ a, x < 10 ^ 12) : Pr.sem .eq [.lst (nL a), .lst []] = some (.imm (.bl (decide (a = [])))) := by
  simp only [Pr.sem, eqv_nil h, i1]
theorem sem_eqT {a b : List Nat} (ha : ∀ x ∈ a, x < 10 ^ 12) (hb : ∀ x ∈ b, x < 10 ^ 12) : Pr.sem .eq [nT a, nT b] = some (.imm (.bl (decide (a = b)))) := by
  simp only [Pr.sem, eqv_nT ha hb, i1]
theorem sem_neT {a b : List Nat} (ha : ∀ x ∈ a, x < 10 ^ 12) (hb : ∀ x ∈ b, x < 10 ^ 12) : Pr.sem .ne [nT a, nT b] = some (.imm (.bl (!decide (a = b)))) := by
  simp only [Pr.sem, eqv_nT ha hb, i1]
theorem sem_neB {a : Bool} : Pr.sem .ne [.bl a, .bl a] = some (.imm (.bl false)) := by
  simp only [Pr.sem, eqv_bl, i1]; simp
theorem sem_neS {d : Dt} (h : PyData.strOk (shw d) = true) : Pr.sem .ne [.str (shw d), .str (shw d)] = some (.imm (.bl false)) := by
  simp only [Pr.sem, eqv_shw h, i1]; rfl
theorem sem_eqS {d : Dt} (h : PyData.strOk (shw d) = true) : Pr.sem .eq [.str (shw d), .str (shw d)] = some (.imm (.bl true)) := by
  simp only [Pr.sem, eqv_shw h, i1]
theorem Fit.s {d : Dt} (h : Fit d) : PyData.strOk (shw d) = true := (repr_pl h.p h.dp h.w).2
section
variable {C : Cl}
theorem evt_tr {x : Ex} {b : Bool} {e e1 : En} (h : ev C x e = .ok (im (.bl b)) e1) : evt C (.tr (.e x)) e = .ok b e1 := by
  simp [evt, evp, h, Tm.vw, Ow.vw, Ow1.dt, Dt.tru]
theorem evf_tr {x : Ex} {b : Bool} {e e1 : En} (h : ev C x e = .ok (im (.bl b)) e1) : evf C (.one (.tr (.e x))) e = .ok b e1 := by
  rw [evf]; exact evt_tr h
theorem evt_orF {a b : Te} {e e1 : En} {r : Rs Bool} (h : evt C a e = .ok false e1) (h2 : evt C b e1 = r) : evt C (.lor a b) e = r := by
  rw [evt, h]; exact h2
theorem ev_landT {a b : Ex} {e e1 : En} {r : Rs Ow} (h : ev C a e = .ok (im (.bl true)) e1) (h2 : ev C b e1 = r) : ev C (.land a b) e = r := by
  rw [ev, h]; exact h2
theorem ev_lst0 {e : En} : ev C (.lst .nil) e = .ok (.p (.lst [])) e := by
  rw [ev, evs]; rfl
theorem ex_asgP {wf i : Nat} {x : Ex} {e e2 : En} {o : Ow} (h : ev C x e = .ok o e) (hs : e.set i (some o) = e2) : ex C wf (.asg i x) e = .ok .nx e2 := by
  rw [ex, h, ← hs]
theorem ev_callE {f : Nat} {x : Ex} {e e1 : En} {o : Ow1} {r : Ow} (h : ev C x e = .ok (.p o) e1) (hm : C.md f = [.sh]) (hf : C.fn f [im o.dt] = .ret r [none]) : ev C (.call f (.cons (.e x) .nil)) e = .ok r e1 := by
  simp [ev, evo, evp, h, args, hm, hf, backs]
end
theorem mem_get {d : List Nat} {q : Nat} (h : q ∈ d) : ∃ p, p < d.length ∧ d.getD p 0 = q := by
  obtain ⟨p, hp, e⟩ := List.getElem_of_mem h
  exact ⟨p, hp, by rw [List.getD_eq_getElem?_getD, List.getElem?_eq_getElem hp]; exact e⟩
theorem filter_inj {p q : Nat → Bool} {l : List Nat} : l.filter p = l.filter q ↔ ∀ x ∈ l, p x = q x := by
  constructor
  · intro e x hx
    have h1 : x ∈ l.filter p ↔ x ∈ l.filter q := by rw [e]
    rw [List.mem_filter, List.mem_filter] at h1
    cases hp : p x <;> cases hq : q x <;> simp_all
  · intro e
    exact List.filter_congr e
/-- _law_source -/
def srcB : Sms :=
  (.cons (.asg 1 (.cst (.int 11)))
  (.cons (.fors (.nm 2) (.op (.v 0)) (.cons (.asg 1 (.pr .mod (.cons (.e (.pr .int (.cons (.e (.pr .add (.cons (.e (.pr .add (.cons (.e (.pr .mul (.cons (.v 1) (.cons (.e (.cst (.int 69069))) .nil)))) (.cons (.e (.pr .mul (.cons (.v 2) (.cons (.e (.cst (.int 31))) .nil)))) .nil)))) (.cons (.e (.cst (.int 5))) .nil)))) .nil))) (.cons (.e (.cst (.int 2147483629))) .nil))))
    .nil))
  (.cons (.ret (.rcd ["cells", "left", "mixed", "turn"] (.cons (.pr .rev (.cons (.e (.lc (.pr .abs (.cons (.v 2) .nil)) (.nm 2) (.op (.v 0)) .nil [2])) .nil)) (.cons (.cst (.int 1)) (.cons (.var 1) (.cons (.cst (.int 0)) .nil))))))
  .nil)))
abbrev srcL : Sms := (.cons (.asg 1 (.pr .mod (.cons (.e (.pr .int (.cons (.e (.pr .add (.cons (.e (.pr .add (.cons (.e (.pr .mul (.cons (.v 1) (.cons (.e (.cst (.int 69069))) .nil)))) (.cons (.e (.pr .mul (.cons (.v 2) (.cons (.e (.cst (.int 31))) .nil)))) .nil)))) (.cons (.e (.cst (.int 5))) .nil)))) .nil))) (.cons (.e (.cst (.int 2147483629))) .nil))))
    .nil)
theorem src_loop {C : Cl} {wf : Nat} {ns0 : List Int} : ∀ (ns : List Int) (m : Int) (x : Option Ow), ∃ m' x', forGo (stepFor C wf (.nm 2) srcL) (ns.map .int) [some (im (.scr ns0)), some (im (.int m)), x] = .ok .nx [some (im (.scr ns0)), some (im (.int m')), x']
  | [], m, x => ⟨m, x, rfl⟩
  | c :: ns, m, x => by
    obtain ⟨m', x', h⟩ := src_loop (C := C) (ns0 := ns0) ns ((m * 69069 + c * 31 + 5) % 2147483629) (some (im (.int c)))
    refine ⟨m', x', ?_⟩
    have k1 : okMul m 69069 = true := okMul_r (by decide)
    have k2 : okMul c 31 = true := okMul_r (by decide)
    have k3 : (0 : Int) < 2147483629 := by decide
    have s1 : stepFor C wf (.nm 2) srcL (.int c) [some (im (.scr ns0)), some (im (.int m)), x] = .ok .nx [some (im (.scr ns0)), some (im (.int ((m * 69069 + c * 31 + 5) % 2147483629))), some (im (.int c))] := by
      simp only [stepFor, tgSet, exs, ex, ev, evo, evp, gE1, gE2, vws, Tm.vw, Ow.vw, Ow1.dt, Pr.sem, i1, k1, k2, k3, if_true, List.set_cons_zero, List.set_cons_succ]
    rw [List.map_cons]
    unfold forGo
    rw [s1]
    exact h
theorem source_run {C : Cl} {wf : Nat} {ns : List Int} (hz : ns.length ≤ 63) : ∃ s, Src s ∧ runFn C wf ⟨1, 3, [.sh], srcB⟩ [.p (.imm (.scr ns))] = .ret s [none] := by
  obtain ⟨m', x', hl⟩ := src_loop (C := C) (ns0 := ns) ns 11 none
  have s1 : ex C wf (.asg 1 (.cst (.int 11))) [some (im (.scr ns)), none, none] = .ok .nx [some (im (.scr ns)), some (im (.int 11)), none] := by
    simp only [ex, ev, List.set_cons_zero, List.set_cons_succ]
  have s2 : ex C wf (.fors (.nm 2) (.op (.v 0)) srcL) [some (im (.scr ns)), some (im (.int 11)), none] = .ok .nx [some (im (.scr ns)), some (im (.int m')), x'] := by
    rw [ex_for (ds := ns.map .int) (e1 := [some (im (.scr ns)), some (im (.int 11)), none]) (by simp only [evi, evp, gE0, Tm.vw, Ow.vw, Ow1.dt, seqD]) rfl, hl]
    rfl
  have hlc : ev C (.lc (.pr .abs (.cons (.v 2) .nil)) (.nm 2) (.op (.v 0)) .nil [2]) [some (im (.scr ns)), some (im (.int m')), x'] = .ok (.p (.lst ((ns.map fun i => if i < 0 then -i else i).map .int))) [some (im (.scr ns)), some (im (.int m')), x'] := by
    have e : ((ns.map fun i => if i < 0 then -i else i).map Dt.int) = (ns.map Dt.int).filterMap fun d => match d with | .int i => some (.int (if i < 0 then -i else i)) | _ => none := by
      rw [List.filterMap_map, List.map_map]
      simp [Function.comp_def]
    rw [e]
    refine lc_pure _ (by simp only [evi, evp, gE0, Tm.vw, Ow.vw, Ow1.dt, seqD]) rfl rfl (by rw [List.length_map, szl]; omega) fun d hd => ?_
    obtain ⟨i, _, rfl⟩ := List.mem_map.mp hd
    refine ⟨[some (im (.scr ns)), some (im (.int m')), some (im (.int i))], ?_, rfl⟩
    simp only [stepLc, tgSet, wipeE, evf, ev, evo, evp, gE2, vws, Tm.vw, Ow.vw, Ow1.dt, Pr.sem, i1, Ow.dt?, List.set_cons_zero, List.set_cons_succ]
  have hn : ["cells", "left", "mixed", "turn"].Nodup := by decide +kernel
  have s3 : ev C (.rcd ["cells", "left", "mixed", "turn"] (.cons (.pr .rev (.cons (.e (.lc (.pr .abs (.cons (.v 2) .nil)) (.nm 2) (.op (.v 0)) .nil [2])) .nil)) (.cons (.cst (.int 1)) (.cons (.var 1) (.cons (.cst (.int 0)) .nil))))) [some (im (.scr ns)), some (im (.int m')), x'] = .ok (.rc (srcF (ns.map fun i => if i < 0 then -i else i).reverse 1 m' 0)) [some (im (.scr ns)), some (im (.int m')), x'] := by
    rw [ev, evw, ev_pr1 (r := .lst ((ns.map fun i => if i < 0 then -i else i).map Dt.int).reverse) hlc rfl]
    simp only [evw, ev, gE1, List.length_cons, List.length_nil]
    rw [if_pos ⟨trivial, by decide +kernel, by decide⟩, ← List.map_reverse]
    rfl
  refine ⟨_, ⟨_, _, _, _, by rw [List.length_reverse, List.length_map]; exact hz, rfl⟩, runFn_of rfl rfl (exs_next s1 (exs_next s2 (exs_last (ex_ret s3)))) rfl⟩
/-- a call that draws a number -/
structure PickOk (C : Cl) (pk : Nat) : Prop where
  md : C.md pk = [.mu, .sh]
  fn : ∀ (s : Ow) (many : Nat), Src s → many < 2 ^ 62 → ∃ (k : Nat) (s' : Ow), C.fn pk [s, .p (.imm (.int (many : Int)))] = .ret (im (.int (k : Int))) [some s', none] ∧ Src s' ∧ (k < many ∨ k = 0)
theorem pick_of {C : Cl} {wf : Nat} {s : Ow} {many : Nat} (hwf : 63 < wf) (hs : Src s) (hm : many < 2 ^ 62) : ∃ (k : Nat) (s' : Ow), runFn C wf ⟨2, 4, [.mu, .sh], pickB 104729 998244353 17 2147483647 16⟩ [s, .p (.imm (.int (many : Int)))] = .ret (im (.int (k : Int))) [some s', none] ∧ Src s' ∧ (k < many ∨ k = 0) := by
  obtain ⟨k, s', h1, h2, h3, h4⟩ := pick_run (C := C) (wf := wf) (c1 := 104729) (c2 := 998244353) (c3 := 17) (c4 := 2147483647) (c5 := 16) (many := (many : Int)) hs hwf (by decide) (by decide) (by decide) (by decide) (by decide) (by decide) (by decide) (by omega)
  refine ⟨k.toNat, s', ?_, h2, by omega⟩
  rw [Int.toNat_of_nonneg h3]
  exact h1
section
variable {C : Cl} {pk : Nat}
theorem getE_cons {a : Option Ow} {l : En} {i : Nat} : getE (a :: l) (i + 1) = getE l i := rfl
theorem ev_pick (P : PickOk C pk) {x : Ex} {s s1 : Ow} {tl tl1 : En} {many : Nat} (hs : Src s1) (hx : ev C x (some s :: tl) = .ok (im (.int (many : Int))) (some s1 :: tl1)) (hm : many < 2 ^ 62) :
    ∃ (k : Nat) (s' : Ow), ev C (.call pk (.cons (.v 0) (.cons (.e x) .nil))) (some s :: tl) = .ok (im (.int (k : Int))) (some s' :: tl1) ∧ Src s' ∧ (k < many ∨ k = 0) := by
  obtain ⟨k, s', h1, h2, h3⟩ := P.fn s1 many hs hm
  refine ⟨k, s', ?_, h2, h3⟩
  obtain ⟨_, _, _, _, _, rfl⟩ := hs
  simp only [ev, evo, evp, gE0, hx, P.md, args, List.set_cons_zero, Ow1.dt, h1, backs]
theorem ev_pickV (P : PickOk C pk) {i : Nat} {s : Ow} {tl : En} {many : Nat} (hs : Src s) (hx : tl[i]? = some (some (im (.int (many : Int))))) (hm : many < 2 ^ 62) :
    ∃ (k : Nat) (s' : Ow), ev C (.call pk (.cons (.v 0) (.cons (.v (i + 1)) .nil))) (some s :: tl) = .ok (im (.int (k : Int))) (some s' :: tl) ∧ Src s' ∧ (k < many ∨ k = 0) := by
  obtain ⟨k, s', h1, h2, h3⟩ := P.fn s many hs hm
  refine ⟨k, s', ?_, h2, h3⟩
  obtain ⟨_, _, _, _, _, rfl⟩ := hs
  have hg : getE tl i = some (im (.int (many : Int))) := by unfold getE; rw [hx]
  simp only [ev, evo, evp, gE0, getE_cons, hg, P.md, args, List.set_cons_zero, List.set_cons_succ, set_same hx, Ow1.dt, h1, backs]
/-! comprehensions that draw -/
theorem lcGo_I {el : Ex} {ifs : Tes} {k : Nat} {I : List Nat → En → Prop} {P : Dt → Prop} (hI : ∀ r e x, I r e → I r (e.set k x)) (hk : ∀ r e, I r e → k < e.length)
    (hf : ∀ x r e, I (x :: r) e → e[k]? = some (some (im (.int (x : Int)))) → ∃ b e', evf C ifs e = .ok b e' ∧ (b = true → I (x :: r) e' ∧ e'[k]? = some (some (im (.int (x : Int))))) ∧ (b = false → ifs ≠ .nil ∧ I r e'))
    (hg : ∀ x r e, I (x :: r) e → e[k]? = some (some (im (.int (x : Int)))) → ∃ d e', ev C el e = .ok (im d) e' ∧ I r e' ∧ P d) : ∀ (xs : List Nat) (acc : List Dt) (e : En), I xs e → acc.length + xs.length < sizeLine →
    ∃ ys e', lcGo (stepLc C el (.nm k) ifs [k]) (nL xs) acc e = .ok (acc ++ ys) e' ∧ I [] e' ∧ (∀ y ∈ ys, P y) ∧ ys.length ≤ xs.length ∧ (ifs = .nil → ys.length = xs.length)
  | [], acc, e, h, _ => ⟨[], e, by simp [lcGo, nL], h, (fun _ h => nomatch h), Nat.le_refl _, fun _ => rfl⟩
  | x :: xs, acc, e, h, hz => by
    simp only [List.length_cons] at hz
    have hb : I (x :: xs) (e.set k (some (im (.int (x : Int))))) := hI _ _ _ h
    have hget : (e.set k (some (im (.int (x : Int)))))[k]? = some (some (im (.int (x : Int)))) := List.getElem?_set_self (hk _ _ h)
    obtain ⟨b, e1, f1, f2, f3⟩ := hf x xs _ hb hget
    have ht : tgSet (.nm k) (Dt.int (x : Int)) (wipeE e [k]) = some (e.set k (some (im (.int (x : Int))))) := by
      show some ((e.set k none).set k _) = _
      rw [List.set_set]
    show ∃ ys e', lcGo _ (Dt.int (x : Int) :: nL xs) acc e = _ ∧ _
    cases hbb : b with
    | false =>
      obtain ⟨hn, hi⟩ := f3 hbb
      obtain ⟨ys, e', q1, q2, q3, q4, q5⟩ := lcGo_I hI hk hf hg xs acc e1 hi (by omega)
      refine ⟨ys, e', ?_, q2, q3, by simp; omega, fun z => absurd z hn⟩
      unfold lcGo
      have : stepLc C el (.nm k) ifs [k] (Dt.int (x : Int)) e = .ok none e1 := by
        unfold stepLc
        rw [ht]; dsimp only
        rw [f1, hbb]
      rw [this]
      exact q1
    | true =>
      obtain ⟨hi, hg1⟩ := f2 hbb
      obtain ⟨d, e2, g1, g2, g3⟩ := hg x xs e1 hi hg1
      obtain ⟨ys, e', q1, q2, q3, q4, q5⟩ := lcGo_I hI hk hf hg xs (acc ++ [d]) e2 g2 (by simp; omega)
      refine ⟨d :: ys, e', ?_, q2, ?_, by simp; omega, fun z => by simp [q5 z]⟩
      · unfold lcGo
        have : stepLc C el (.nm k) ifs [k] (Dt.int (x : Int)) e = .ok (some d) e2 := by
          unfold stepLc
          rw [ht]; dsimp only
          rw [f1, hbb]; dsimp only
          rw [g1]
          rfl
        rw [this]
        dsimp only
        rw [if_pos (by omega), q1]
        simp
      · intro y hy
        rcases List.mem_cons.mp hy with z | z
        · rw [z]; exact g3
        · exact q3 y z
theorem lc_I {el : Ex} {it : Ir} {ifs : Tes} {k : Nat} {I : List Nat → En → Prop} {P : Dt → Prop} {env e1 : En} {xs : List Nat} (h1 : evi C it env = .ok (nL xs) e1) (h2 : lckI it e1 = some e1) (h3 : slotI it = []) (hz : xs.length < sizeLine) (h0 : I xs e1)
    (hI : ∀ r e x, I r e → I r (e.set k x)) (hk : ∀ r e, I r e → k < e.length)
    (hf : ∀ x r e, I (x :: r) e → e[k]? = some (some (im (.int (x : Int)))) → ∃ b e', evf C ifs e = .ok b e' ∧ (b = true → I (x :: r) e' ∧ e'[k]? = some (some (im (.int (x : Int))))) ∧ (b = false → ifs ≠ .nil ∧ I r e'))
    (hg : ∀ x r e, I (x :: r) e → e[k]? = some (some (im (.int (x : Int)))) → ∃ d e', ev C el e = .ok (im d) e' ∧ I r e' ∧ P d) :
    ∃ ys e', ev C (.lc el (.nm k) it ifs [k]) env = .ok (.p (.lst ys)) e' ∧ I [] e' ∧ (∀ y ∈ ys, P y) ∧ ys.length ≤ xs.length ∧ (ifs = .nil → ys.length = xs.length) := by
  obtain ⟨ys, e', q1, q2, q3, q4, q5⟩ := lcGo_I hI hk hf hg xs [] e1 h0 (by simpa using hz)
  refine ⟨ys, e'.set k (e1.getD k none), ?_, hI _ _ _ q2, q3, q4, q5⟩
  rw [ev_lc h1 h2, q1, h3]
  simp [backE]
theorem hf_nil {k : Nat} {I : List Nat → En → Prop} : ∀ x r e, I (x :: r) e → e[k]? = some (some (im (.int ((x : Nat) : Int)))) → ∃ b e', evf C .nil e = .ok b e' ∧ (b = true → I (x :: r) e' ∧ e'[k]? = some (some (im (.int (x : Int))))) ∧ (b = false → (Tes.nil : Tes) ≠ .nil ∧ I r e') :=
  fun x r e h hg => ⟨true, e, by rw [evf], fun _ => ⟨h, hg⟩, fun z => nomatch z⟩
theorem lc_I0 {el : Ex} {it : Ir} {k : Nat} {I : List Nat → En → Prop} {P : Dt → Prop} {env e1 : En} {xs : List Nat} (h1 : evi C it env = .ok (nL xs) e1) (h2 : lckI it e1 = some e1) (h3 : slotI it = []) (hz : xs.length < sizeLine) (h0 : I xs e1)
    (hI : ∀ r e x, I r e → I r (e.set k x)) (hk : ∀ r e, I r e → k < e.length)
    (hg : ∀ x r e, I (x :: r) e → e[k]? = some (some (im (.int (x : Int)))) → ∃ d e', ev C el e = .ok (im d) e' ∧ I r e' ∧ P d) :
    ∃ ys e', ev C (.lc el (.nm k) it .nil [k]) env = .ok (.p (.lst ys)) e' ∧ I [] e' ∧ (∀ y ∈ ys, P y) ∧ ys.length = xs.length := by
  obtain ⟨ys, e', a, b, c, _, d⟩ := lc_I (ifs := .nil) h1 h2 h3 hz h0 hI hk hf_nil hg
  exact ⟨ys, e', a, b, c, d rfl⟩
theorem to_nL {N : Nat} : ∀ {ys : List Dt}, (∀ y ∈ ys, ∃ j : Nat, j < N ∧ y = .int (j : Int)) → ∃ l, ys = nL l ∧ (∀ x ∈ l, x < N) ∧ l.length = ys.length
  | [], _ => ⟨[], rfl, (fun _ h => nomatch h), rfl⟩
  | y :: ys, h => by
    obtain ⟨j, hj, rfl⟩ := h y List.mem_cons_self
    obtain ⟨l, rfl, h2, h3⟩ := to_nL fun z hz => h z (List.mem_cons_of_mem _ hz)
    refine ⟨j :: l, rfl, fun x hx => ?_, by simp [nL]⟩
    rcases List.mem_cons.mp hx with z | z
    · rw [z]; exact hj
    · exact h2 x z
end
theorem nL_erase : ∀ (l : List Nat) (k : Nat), (nL l).eraseIdx k = nL (l.eraseIdx k)
  | [], k => rfl
  | x :: l, 0 => rfl
  | x :: l, k + 1 => by
    show Dt.int (x : Int) :: (nL l).eraseIdx k = Dt.int (x : Int) :: nL (l.eraseIdx k)
    rw [nL_erase l k]
theorem sem_lenL (l : List Nat) : Pr.sem .len [.lst (nL l)] = some (.imm (.int (l.length : Int))) := by
  simp only [Pr.sem, nL_len, i1]
theorem sem_inL {p : Nat} {l : List Nat} (h : ∀ x ∈ l, x < 10 ^ 12) : ∃ b, Pr.sem .isIn [.int (p : Int), .lst (nL l)] = some (.imm (.bl b)) := by
  obtain ⟨es, k⟩ := plL_ok (plLN h)
  have hs : SeqAt.shaped (.list es) = true := by
    show (PyData.canLayAll0 es && decide (PyData.depthAll es + 1 ≤ 64)) = true
    rw [k.lay, k.dep, dpLN]
    rfl
  refine ⟨es.any fun z => PyData.eqv z (.int (p : Int)), ?_⟩
  simp only [Pr.sem, inD, Dt.py, k.py]
  rw [hs]
  rfl
theorem sem_lrng {N : Nat} (h : N ≤ 16) : Pr.sem .lrng [.int (N : Int)] = some (.lst (nL (List.range N))) := by
  have h1 : (0 : Int) ≤ (N : Int) ∧ (N : Int) ≤ 16777216 := by omega
  simp only [Pr.sem, if_pos h1, Int.toNat_natCast, nL]
section
variable {C : Cl}
theorem ev_prV {q : Pr} {i : Nat} {e : En} {u r : Ow1} (hv : getE e i = some (.p u)) (hq : q.sem [u.dt] = some r) : ev C (.pr q (.cons (.v i) .nil)) e = .ok (.p r) e := by
  simp [ev, evo, evp, hv, vws, Tm.vw, Ow.vw, hq]
theorem ev_prVE {q : Pr} {i : Nat} {x : Ex} {e e1 : En} {u0 : Ow} {o u r : Ow1} (hg : getE e i = some u0) (h : ev C x e = .ok (.p o) e1) (hv : getE e1 i = some (.p u)) (hq : q.sem [u.dt, o.dt] = some r) : ev C (.pr q (.cons (.v i) (.cons (.e x) .nil))) e = .ok (.p r) e1 := by
  simp [ev, evo, evp, hg, h, hv, vws, Tm.vw, Ow.vw, hq]
theorem ev_prEV {q : Pr} {i : Nat} {x : Ex} {e e1 : En} {o u r : Ow1} (h : ev C x e = .ok (.p o) e1) (hv : getE e1 i = some (.p u)) (hq : q.sem [o.dt, u.dt] = some r) : ev C (.pr q (.cons (.e x) (.cons (.v i) .nil))) e = .ok (.p r) e1 := by
  simp [ev, evo, evp, h, hv, vws, Tm.vw, Ow.vw, hq]
theorem ev_prVV {q : Pr} {i j : Nat} {e : En} {o u r : Ow1} (h : getE e i = some (.p o)) (hv : getE e j = some (.p u)) (hq : q.sem [o.dt, u.dt] = some r) : ev C (.pr q (.cons (.v i) (.cons (.v j) .nil))) e = .ok (.p r) e := by
  simp [ev, evo, evp, h, hv, vws, Tm.vw, Ow.vw, hq]
theorem ev_cst {d : Dt} {e : En} : ev C (.cst d) e = .ok (im d) e := by rw [ev]
theorem ev_muE {f : Nat} {x : Ex} {s s1 : Ow} {tl tl1 : En} {o : Ow1} {r : Ow} {s' : Option Ow} (hm : C.md f = [.mu, .sh]) (hs : Src s1) (hx : ev C x (some s :: tl) = .ok (.p o) (some s1 :: tl1)) (hf : C.fn f [s1, .p (.imm o.dt)] = .ret r [s', none]) :
    ev C (.call f (.cons (.v 0) (.cons (.e x) .nil))) (some s :: tl) = .ok r (s' :: tl1) := by
  obtain ⟨_, _, _, _, _, rfl⟩ := hs
  simp only [ev, evo, evp, gE0, hx, hm, args, List.set_cons_zero, hf, backs]
theorem ev_muV {f i : Nat} {s : Ow} {tl : En} {o : Ow1} {r : Ow} {s' : Option Ow} (hm : C.md f = [.mu, .sh]) (hs : Src s) (hx : getE tl i = some (.p o)) (hf : C.fn f [s, .p (.imm o.dt)] = .ret r [s', none]) :
    ev C (.call f (.cons (.v 0) (.cons (.v (i + 1)) .nil))) (some s :: tl) = .ok r (s' :: tl.set i (some (im o.dt))) := by
  obtain ⟨_, _, _, _, _, rfl⟩ := hs
  simp only [ev, evo, evp, gE0, getE_cons, hx, hm, args, List.set_cons_zero, List.set_cons_succ, hf, backs]
end
theorem sortI_mem : ∀ {l : List Int} {y : Int}, y ∈ sortI l → y ∈ l
  | [], _, h => h
  | x :: l, y, h => by
    have ins : ∀ (l : List Int), y ∈ insI x l → y = x ∨ y ∈ l := by
      intro l
      induction l with
      | nil => intro h; exact .inl (by simpa [insI] using h)
      | cons z l ih =>
        intro h
        unfold insI at h
        split at h
        · rcases List.mem_cons.mp h with e | e
          · exact .inl e
          · exact .inr e
        · rcases List.mem_cons.mp h with e | e
          · exact .inr (by rw [e]; exact List.mem_cons_self)
          · rcases ih e with e | e
            · exact .inl e
            · exact .inr (List.mem_cons_of_mem _ e)
    rcases ins _ h with e | e
    · rw [e]; exact List.mem_cons_self
    · exact List.mem_cons_of_mem _ (sortI_mem e)
theorem insI_len (x : Int) : ∀ (l : List Int), (insI x l).length = l.length + 1
  | [] => rfl
  | z :: l => by
    unfold insI
    split
    · rfl
    · simp [insI_len x l]
theorem sortI_len : ∀ (l : List Int), (sortI l).length = l.length
  | [] => rfl
  | x :: l => by
    show (insI x (sortI l)).length = _
    rw [insI_len, sortI_len l]; rfl
theorem toInts_nL : ∀ (l : List Nat), toInts (nL l) = some (l.map fun (k : Nat) => (k : Int))
  | [] => rfl
  | x :: l => by
    show (match toInts (nL l) with | some is => some ((x : Int) :: is) | none => none) = _
    rw [toInts_nL l]
    rfl
theorem sem_sorted {N : Nat} {l : List Nat} (h : ∀ x ∈ l, x < N) : ∃ r, Pr.sem .sorted [.lst (nL l)] = some (.lst (nL r)) ∧ r.length = l.length ∧ ∀ x ∈ r, x < N := by
  have h1 : Pr.sem .sorted [.lst (nL l)] = some (.lst ((sortI (l.map fun (k : Nat) => (k : Int))).map .int)) := by
    simp only [Pr.sem, toInts_nL]
  obtain ⟨r, e, h2, h3⟩ := to_nL (N := N) (ys := (sortI (l.map fun (k : Nat) => (k : Int))).map .int) (fun y hy => by
    obtain ⟨i, hi, rfl⟩ := List.mem_map.mp hy
    obtain ⟨k, hk, rfl⟩ := List.mem_map.mp (sortI_mem hi)
    exact ⟨k, h k hk, rfl⟩)
  refine ⟨r, by rw [h1, e], ?_, h2⟩
  rw [h3, List.length_map, sortI_len, List.length_map]
theorem rep_nL (k : Nat) : ∀ (N : Nat), (List.replicate N (nL [k])).flatten = nL (List.replicate N k)
  | 0 => rfl
  | N + 1 => by
    rw [List.replicate_succ, List.flatten_cons, rep_nL k N, List.replicate_succ]
    rfl
theorem sem_mulT {N k : Nat} (h : N ≤ 16) : Pr.sem .mul [nT [k], .int (N : Int)] = some (.imm (nT (List.replicate N k))) := by
  have hc : -(2 ^ 63) ≤ (N : Int) ∧ (N : Int) < 2 ^ 63 ∧ (nL [k]).length * (N : Int).toNat ≤ sizeLine := ⟨by omega, by omega, by rw [szl, nL_len, Int.toNat_natCast]; simp; omega⟩
  unfold nT
  simp only [Pr.sem]
  rw [if_pos hc, Int.toNat_natCast, rep_nL]
  rfl
theorem sem_addT {a b : List Nat} (h : a.length + b.length ≤ 100) : Pr.sem .add [nT a, nT b] = some (.imm (nT (a ++ b))) := by
  unfold nT
  simp only [Pr.sem]
  rw [if_pos (by rw [nL_len, nL_len, szl]; omega)]
  simp [nL, i1]
theorem nodup_le : ∀ {l m : List Nat}, l.Nodup → (∀ x ∈ l, x ∈ m) → l.length ≤ m.length
  | [], m, _, _ => Nat.zero_le _
  | x :: l, m, hn, h => by
    have hx := h x List.mem_cons_self
    have hn' := List.nodup_cons.mp hn
    have : l.length ≤ (m.erase x).length := nodup_le hn'.2 fun y hy => by
      have hne : y ≠ x := fun e => hn'.1 (by rw [← e]; exact hy)
      exact (List.mem_erase_of_ne hne).mpr (h y (List.mem_cons_of_mem _ hy))
    rw [List.length_erase_of_mem hx] at this
    have := List.length_pos_of_mem hx
    simp only [List.length_cons]
    omega
theorem sem_takeT {l : List Nat} {k : Nat} (h : k ≤ l.length) : Pr.sem (.cut false true) [nT l, .int (k : Int)] = some (.imm (nT (l.take k))) := by
  unfold nT
  simp only [Pr.sem, cutD, cutN, nL_len, i1]
  rw [if_neg (by omega), Int.toNat_natCast, Nat.min_eq_left h]
  simp [nL]
theorem sem_dropT {l : List Nat} {k : Nat} (h : k ≤ l.length) : Pr.sem (.cut true false) [nT l, .int (k : Int)] = some (.imm (nT (l.drop k))) := by
  unfold nT
  simp only [Pr.sem, cutD, cutN, nL_len, i1]
  rw [if_neg (by omega), Int.toNat_natCast, Nat.min_eq_left h]
  simp [nL]
  rw [List.take_of_length_le (by simp)]
section
variable {C : Cl}
theorem evt_notT {t : Te} {e e1 : En} (h : evt C t e = .ok true e1) : evt C (.lnot t) e = .ok false e1 := by
  rw [evt, h]; rfl
end
theorem eqv_same {d : Dt} (h : pl d = true) (hd : dpD d ≤ 60) : eqvD d d = some true := by
  rw [eqv_pl h h hd hd]; simp
/-- the numbers of a row -/
def unN : Dt → List Nat
  | .tup xs => xs.filterMap fun d => match d with | .int i => some i.toNat | _ => none
  | _ => []
theorem unN_nT (l : List Nat) : unN (nT l) = l := by
  show (nL l).filterMap _ = l
  unfold nL
  rw [List.filterMap_map]
  simp [Function.comp_def]
section
variable {C : Cl} {pk : Nat}
theorem ev_pick1 (P : PickOk C pk) {x : Ex} {s s1 : Ow} {a a1 : Option Ow} {tl tl1 : En} {many : Nat} (hs : Src s1) (hx : ev C x (a :: some s :: tl) = .ok (im (.int (many : Int))) (a1 :: some s1 :: tl1)) (hm : many < 2 ^ 62) :
    ∃ (k : Nat) (s' : Ow), ev C (.call pk (.cons (.v 1) (.cons (.e x) .nil))) (a :: some s :: tl) = .ok (im (.int (k : Int))) (a1 :: some s' :: tl1) ∧ Src s' ∧ (k < many ∨ k = 0) := by
  obtain ⟨k, s', h1, h2, h3⟩ := P.fn s1 many hs hm
  refine ⟨k, s', ?_, h2, h3⟩
  obtain ⟨_, _, _, _, _, rfl⟩ := hs
  simp only [ev, evo, evp, gE1, hx, P.md, args, List.set_cons_zero, List.set_cons_succ, Ow1.dt, h1, backs]
end
end Pd
set_option Elab.async false
set_option linter.all false
set_option maxRecDepth 100000
set_option maxHeartbeats 1000000
/-! Part 28: plain runs: loops by invariants, dicts with numbers as keys. -/
namespace Pd
open PySem
theorem whGo_inv {t : En → Rs Bool} {st : En → Rs Fl} {I : Nat → En → Prop} {J : Fl → En → Prop}
    (h : ∀ m e, I m e → ∃ b e1, t e = .ok b e1 ∧ (b = false → J .nx e1) ∧ (b = true → ∃ fl e2, st e1 = .ok fl e2 ∧ ((fl = .nx ∧ ∃ m', m' < m ∧ I m' e2) ∨ ∃ o, fl = .rt o ∧ J fl e2))) :
    ∀ (wf m : Nat) (e : En), I m e → m < wf → ∃ fl e', whGo t st wf e = .ok fl e' ∧ J fl e'
  | 0, m, e, _, hm => absurd hm (Nat.not_lt_zero _)
  | wf + 1, m, e, hi, hm => by
    obtain ⟨b, e1, h1, h2, h3⟩ := h m e hi
    unfold whGo
    rw [h1]
    cases b with
    | false => exact ⟨.nx, e1, rfl, h2 rfl⟩
    | true =>
      obtain ⟨fl, e2, q1, q2⟩ := h3 rfl
      dsimp only
      rw [q1]
      rcases q2 with ⟨rfl, m', hlt, hi'⟩ | ⟨o, rfl, hj⟩
      · exact whGo_inv h wf m' e2 hi' (by omega)
      · exact ⟨_, e2, rfl, hj⟩
theorem forGo_inv {st : Dt → En → Rs Fl} {I : List Dt → En → Prop} {J : Fl → En → Prop}
    (h : ∀ d r e, I (d :: r) e → ∃ fl e', st d e = .ok fl e' ∧ ((fl = .nx ∧ I r e') ∨ ∃ o, fl = .rt o ∧ J fl e')) (h0 : ∀ e, I [] e → J .nx e) :
    ∀ (ds : List Dt) (e : En), I ds e → ∃ fl e', forGo st ds e = .ok fl e' ∧ J fl e'
  | [], e, hi => ⟨.nx, e, rfl, h0 e hi⟩
  | d :: ds, e, hi => by
    obtain ⟨fl, e', q1, q2⟩ := h d ds e hi
    unfold forGo
    rw [q1]
    rcases q2 with ⟨rfl, hi'⟩ | ⟨o, rfl, hj⟩
    · exact forGo_inv h h0 ds e' hi'
    · exact ⟨_, e', rfl, hj⟩
theorem ex_whl {C : Cl} {wf : Nat} {t : Te} {b : Sms} {env : En} : ex C wf (.whl t b) env = whGo (fun e => evt C t e) (fun e => exs C wf b e) wf env := by rw [ex]
/-! dicts with numbers as keys -/
def nD (l : List (Nat × Dt)) : List (Dt × Dt) := l.map fun p => (Dt.int (p.1 : Int), p.2)
theorem nD_find (k : Nat) : ∀ (l : List (Nat × Dt)), findK (.inl (.inl (k : Int))) (nD l) = l.lookup k
  | [] => rfl
  | (a, d) :: l => by
    show (if (Dt.int (a : Int)).key = some (.inl (.inl (k : Int))) then some d else findK _ (nD l)) = _
    rw [List.lookup_cons, nD_find k l]
    by_cases e : k = a
    · subst e
      rw [if_pos (show (Dt.int (k : Int)).key = some (.inl (.inl (k : Int))) from rfl)]
      simp
    · rw [if_neg (by simp only [Dt.key, Option.some.injEq, Sum.inl.injEq]; omega)]
      have : (k == a) = false := by simpa using e
      rw [this]
theorem nD_ok (k : Sum Int Str) : ∀ (l : List (Nat × Dt)), kOk (.inl k) (nD l) = true
  | [] => rfl
  | (a, d) :: l => rfl
theorem sem_notInD (x : Nat) (l : List (Nat × Dt)) : Pr.sem .notIn [.int (x : Int), .dic (nD l)] = some (.imm (.bl (!(l.lookup x).isSome))) := by
  simp only [Pr.sem, Dt.key, nD_ok, if_true, nD_find, i1]
theorem sem_inD' (x : Nat) (l : List (Nat × Dt)) : Pr.sem .isIn [.int (x : Int), .dic (nD l)] = some (.imm (.bl (l.lookup x).isSome)) := by
  simp only [Pr.sem, Dt.key, nD_ok, if_true, nD_find, i1]
theorem sem_ixD {x : Nat} {l : List (Nat × Dt)} {d : Dt} (h : l.lookup x = some d) : Pr.sem .ix [.dic (nD l), .int (x : Int)] = some (.imm d) := by
  simp only [Pr.sem, Dt.key, nD_ok, if_true, nD_find, h, i1]
theorem nD_any (x : Nat) : ∀ (l : List (Nat × Dt)), (nD l).any (fun p => decide (p.1.key = some (.inl (.inl (x : Int))))) = (l.lookup x).isSome
  | [] => rfl
  | (a, d) :: l => by
    show (decide ((Dt.int (a : Int)).key = some (.inl (.inl (x : Int)))) || (nD l).any _) = _
    rw [List.lookup_cons, nD_any x l]
    by_cases e : x = a
    · subst e
      simp [Dt.key]
    · have : (x == a) = false := by simpa using e
      rw [this, decide_eq_false (by simp only [Dt.key, Option.some.injEq, Sum.inl.injEq]; omega)]
      rfl
theorem nD_put {x : Nat} {l : List (Nat × Dt)} (v : Dt) (h : l.lookup x = none) : putD (.inl (.inl (x : Int))) (.int (x : Int)) v (nD l) = nD (l ++ [(x, v)]) := by
  unfold putD
  rw [nD_any, h]
  simp [nD]
section
variable {C : Cl}
/-- a new pair in a slot's dict -/
theorem ex_putD {wf i x : Nat} {k y : Ex} {l : List (Nat × Dt)} {o : Ow1} {e e3 : En} (he : ev C y e = .ok (.p o) e) (hk : ev C k e = .ok (im (.int (x : Int))) e) (hg : getE e i = some (.p (.dic (nD l)))) (hn : l.lookup x = none) (hz : l.length < 1000) (h3 : e.set i (some (.p (.dic (nD (l ++ [(x, o.dt)]))))) = e3) :
    ex C wf (.setI i k y) e = .ok .nx e3 := by
  have hl : (nD l).length < sizeLine ∧ kOk (.inl (.inl (x : Int))) (nD l) = true := ⟨by rw [szl]; simp [nD]; omega, nD_ok _ _⟩
  rw [ex, he]
  dsimp only
  rw [hg]
  dsimp only [Option.isNone]
  rw [if_neg (by decide), hk]
  dsimp only [Ow.dt?]
  rw [hg]
  dsimp only [Dt.key]
  rw [if_pos hl, nD_put _ hn, h3]
end
/-- the keys in order -/
theorem sem_sortedD {l : List (Nat × Dt)} (h0 : 0 < l.length) (hz : l.length < 63) : Pr.sem .sorted [.dic (nD l)] = some (.lst ((sortI ((l.map (·.1)).map fun (k : Nat) => (k : Int))).map .int)) := by
  have e : toInts ((nD l).map (·.1)) = some ((l.map (·.1)).map fun (k : Nat) => (k : Int)) := by
    have : (nD l).map (·.1) = nL (l.map (·.1)) := by simp [nD, nL, Function.comp_def]
    rw [this, toInts_nL]
  cases l with
  | nil => simp at h0
  | cons p l =>
    simp only [List.map_cons] at e ⊢
    simp only [Pr.sem, nD, List.map_cons] at e ⊢
    rw [e]
    dsimp only
    rw [if_pos (by simp at hz ⊢; omega)]
end Pd
set_option Elab.async false
set_option linter.all false
set_option maxRecDepth 100000
set_option maxHeartbeats 1000000
/-! Part 29: books: what they are, their places, what is reached. -/
namespace Pd
open PySem
def bookD (N : Nat) (ds : List (List Nat)) : Dt := .tup [.int (N : Int), .tup (ds.map nT)]
structure DeedOk (N : Nat) (d : List Nat) : Prop where
  l : d.length = N
  b : ∀ x ∈ d, x < N
structure BookOk (N : Nat) (ds : List (List Nat)) : Prop where
  n : N ≤ 16
  g : ds.length ≤ 16
  d : ∀ d ∈ ds, DeedOk N d
theorem ds_get {ds : List (List Nat)} {i : Nat} (h : i < ds.length) : atD (ds.map nT) (i : Int) = some (nT (ds.getD i [])) := by
  unfold atD
  rw [if_pos (by omega), Int.toNat_natCast, List.getElem?_map, List.getElem?_eq_getElem h, List.getD_eq_getElem?_getD, List.getElem?_eq_getElem h]
  rfl
theorem ds_mem {ds : List (List Nat)} {i : Nat} (h : i < ds.length) : ds.getD i [] ∈ ds := by
  rw [List.getD_eq_getElem?_getD, List.getElem?_eq_getElem h]
  exact List.getElem_mem h
theorem sem_bk0 (N : Nat) (ds : List (List Nat)) : Pr.sem .ix [bookD N ds, .int 0] = some (.imm (.int (N : Int))) := rfl
theorem sem_bk1 (N : Nat) (ds : List (List Nat)) : Pr.sem .ix [bookD N ds, .int 1] = some (.imm (.tup (ds.map nT))) := rfl
theorem sem_dix {ds : List (List Nat)} {i : Nat} (h : i < ds.length) : Pr.sem .ix [.tup (ds.map nT), .int (i : Int)] = some (.imm (nT (ds.getD i []))) := by
  simp [Pr.sem, ds_get h, i1]
theorem big {N : Nat} {d : List Nat} (h : DeedOk N d) (hN : N ≤ 16) : ∀ x ∈ d, x < 10 ^ 12 := fun x hx => by have := h.b x hx; omega
theorem big' {N : Nat} {l : List Nat} (hN : N ≤ 16) (h : ∀ x ∈ l, x < N) : ∀ x ∈ l, x < 10 ^ 12 := fun x hx => by have := h x hx; omega
/-- what is come to -/
inductive Rch (ds : List (List Nat)) (p : Nat) : Nat → Prop
  | refl : Rch ds p p
  | step {q : Nat} {d : List Nat} : Rch ds p q → d ∈ ds → Rch ds p (d.getD q 0)
theorem Rch.trans {ds : List (List Nat)} {p q r : Nat} (h : Rch ds p q) (k : Rch ds q r) : Rch ds p r := by
  induction k with
  | refl => exact h
  | step _ hd ih => exact .step ih hd
theorem Rch.lt {N : Nat} {ds : List (List Nat)} {p q : Nat} (h : Rch ds p q) (hd : ∀ d ∈ ds, DeedOk N d) (hp : p < N) : q < N := by
  induction h with
  | refl => exact hp
  | step _ hm ih => exact (hd _ hm).b _ (getD_mem (by rw [(hd _ hm).l]; exact ih))
open Classical in
noncomputable def comeN (N : Nat) (ds : List (List Nat)) (p : Nat) : List Nat := (List.range N).filter fun q => decide (Rch ds p q)
open Classical in
theorem mem_come {N : Nat} {ds : List (List Nat)} {p q : Nat} : q ∈ comeN N ds p ↔ q < N ∧ Rch ds p q := by
  unfold comeN
  rw [List.mem_filter, List.mem_range, decide_eq_true_eq]
theorem come_nodup (N : Nat) (ds : List (List Nat)) (p : Nat) : (comeN N ds p).Nodup := List.Pairwise.filter _ List.nodup_range
theorem come_sorted (N : Nat) (ds : List (List Nat)) (p : Nat) : (comeN N ds p).Pairwise (· < ·) := List.Pairwise.filter _ List.pairwise_lt_range
/-- a list without doubles, in order -/
theorem sort_is {ks l : List Nat} (hk : ks.Nodup) (hl : l.Pairwise (· < ·)) (h : ∀ q, q ∈ ks ↔ q ∈ l) : (sortI (ks.map fun (k : Nat) => (k : Int))).map Dt.int = nL l := by
  have hn : l.Nodup := hl.imp fun h e => by omega
  have e : sortI (ks.map fun (k : Nat) => (k : Int)) = l.map fun (k : Nat) => (k : Int) := by
    refine PySem.W.ksm_same ((sortI_perm _).trans (((List.perm_ext_iff_of_nodup hk hn).mpr h).map _)) (sortI_sort _) ?_
    rw [List.pairwise_map]
    exact hl.imp fun h => by omega
  rw [e]
  simp [nL, Function.comp_def]
/-- what is closed and reached is what is come to -/
theorem closed_come {N : Nat} {ds : List (List Nat)} {p : Nat} {ks : List Nat} (hd : ∀ d ∈ ds, DeedOk N d) (hp : p < N) (h0 : p ∈ ks) (hr : ∀ q ∈ ks, Rch ds p q) (hc : ∀ q ∈ ks, ∀ d ∈ ds, d.getD q 0 ∈ ks) : ∀ q, q ∈ ks ↔ q ∈ comeN N ds p := by
  intro q
  rw [mem_come]
  constructor
  · intro h; exact ⟨(hr q h).lt hd hp, hr q h⟩
  · intro h
    replace h := h.2
    induction h with
    | refl => exact h0
    | step h hm ih => exact hc _ ih _ hm
end Pd
set_option Elab.async false
set_option linter.all false
set_option maxRecDepth 100000
set_option maxHeartbeats 1000000
/-! Ty1: what is known of the slots (patterns), rules by it. -/
namespace Pd
open PySem
/-- what is known of a slot: nothing; shared data; an own list or dict; data, shared or not; data, locked or not; a record -/
inductive Pt where
  | any | im (d : Dt) | own (o : Ow1) | sn (d : Dt) | lk (d : Dt) | rc (fs : List (Str × Ow1))
abbrev Ps := List Pt
def Sr : Pt → Option Ow → Prop
  | .any, _ => True
  | .im d, s => s = some (Pd.im d)
  | .own o, s => s = some (.p o)
  | .sn d, s => ∃ o, s = some (.p o) ∧ o.dt = d
  | .lk d, s => ∃ o, s = some o ∧ o.vw = some d
  | .rc fs, s => s = some (.rc fs)
/-- the slots hold what the pattern tells -/
def Mt : Ps → En → Prop
  | [], [] => True
  | p :: ps, s :: ss => Sr p s ∧ Mt ps ss
  | _, _ => False
/-- a pattern that tells less -/
def Le (p q : Ps) : Prop := ∀ e, Mt q e → Mt p e
theorem Le.refl (p : Ps) : Le p p := fun _ h => h
theorem Le.z : Le [] [] := Le.refl _
theorem Le.c {p q : Pt} {ps qs : Ps} (h : ∀ s, Sr q s → Sr p s) (t : Le ps qs) : Le (p :: ps) (q :: qs) := fun e he => match e, he with
  | s :: ss, ⟨h1, h2⟩ => ⟨h s h1, t ss h2⟩
  | [], he => he.elim
theorem Le.n {q : Pt} {ps qs : Ps} (t : Le ps qs) : Le (.any :: ps) (q :: qs) := Le.c (fun _ _ => trivial) t
theorem Le.s {q : Pt} {ps qs : Ps} (t : Le ps qs) : Le (q :: ps) (q :: qs) := Le.c (fun _ h => h) t
theorem Le.o {o : Ow1} {d : Dt} {ps qs : Ps} (e : o.dt = d) (t : Le ps qs) : Le (.sn d :: ps) (.own o :: qs) := Le.c (fun s h => ⟨o, h, e⟩) t
theorem Le.i {d : Dt} {ps qs : Ps} (t : Le ps qs) : Le (.sn d :: ps) (.im d :: qs) := Le.c (fun s h => ⟨.imm d, h, rfl⟩) t
theorem Le.ol {o : Ow1} {d : Dt} {ps qs : Ps} (e : o.dt = d) (t : Le ps qs) : Le (.lk d :: ps) (.own o :: qs) := Le.c (fun s h => ⟨_, h, by rw [← e]; rfl⟩) t
theorem Le.il {d : Dt} {ps qs : Ps} (t : Le ps qs) : Le (.lk d :: ps) (.im d :: qs) := Le.c (fun s h => ⟨_, h, rfl⟩) t
theorem Le.sl {d : Dt} {ps qs : Ps} (t : Le ps qs) : Le (.lk d :: ps) (.sn d :: qs) := Le.c (fun s ⟨o, h, e⟩ => ⟨_, h, by rw [← e]; rfl⟩) t
/-- all slots known, all held so -/
def toP : Option Ow → Pt
  | none => .any
  | some (.p (.imm d)) => .im d
  | some (.p o) => .own o
  | some (.lk d) => .lk d
  | some (.rc fs) => .rc fs
theorem toP_ok : ∀ (s : Option Ow), Sr (toP s) s
  | none => trivial
  | some (.p (.imm d)) => rfl
  | some (.p (.lst d)) => rfl
  | some (.p (.dic d)) => rfl
  | some (.lk d) => ⟨_, rfl, rfl⟩
  | some (.rc fs) => rfl
theorem Mt.toP : ∀ (e : En), Mt (e.map toP) e
  | [] => trivial
  | s :: e => ⟨toP_ok s, Mt.toP e⟩
def getP (ps : Ps) (i : Nat) : Pt := ps.getD i .any
theorem Mt.at : ∀ {a : Ps} {b : En} {i : Nat}, Mt a b → Sr (getP a i) (b.getD i none)
  | [], [], _, _ => trivial
  | [], _ :: _, _, h => h.elim
  | _ :: _, [], _, h => h.elim
  | p :: ps, s :: ss, 0, h => h.1
  | p :: ps, s :: ss, i + 1, h => by
    have := h.2.at (i := i)
    simpa [getP, List.getD_cons_succ] using this
theorem getE_D {e : En} {i : Nat} {x : Ow} (h : e.getD i none = some x) : getE e i = some x := by
  unfold getE
  rw [List.getD_eq_getElem?_getD] at h
  cases k : e[i]? with
  | none => rw [k] at h; cases h
  | some o => rw [k] at h; simp at h; subst h; rfl
theorem Mt.im {a : Ps} {b : En} {i : Nat} {d : Dt} (h : Mt a b) (e : getP a i = .im d) : getE b i = some (Pd.im d) := by
  have := h.at (i := i); rw [e] at this; exact getE_D this
theorem Mt.own {a : Ps} {b : En} {i : Nat} {o : Ow1} (h : Mt a b) (e : getP a i = .own o) : getE b i = some (.p o) := by
  have := h.at (i := i); rw [e] at this; exact getE_D this
theorem Mt.sn {a : Ps} {b : En} {i : Nat} {d : Dt} (h : Mt a b) (e : getP a i = .sn d) : ∃ o, getE b i = some (.p o) ∧ o.dt = d := by
  have := h.at (i := i); rw [e] at this
  obtain ⟨o, h1, h2⟩ := this
  exact ⟨o, getE_D h1, h2⟩
theorem Mt.rc {a : Ps} {b : En} {i : Nat} {fs} (h : Mt a b) (e : getP a i = .rc fs) : getE b i = some (.rc fs) := by
  have := h.at (i := i); rw [e] at this; exact getE_D this
/-- the data that is seen in a slot -/
def Pt.vw : Pt → Option Dt
  | .im d => some d
  | .own o => some o.dt
  | .sn d => some d
  | .lk d => some d
  | _ => none
theorem Sr.vw {p : Pt} {s : Option Ow} {d : Dt} (h : Sr p s) (e : p.vw = some d) : ∃ o, s = some o ∧ o.vw = some d := by
  cases p with
  | any => cases e
  | im x => cases e; exact ⟨_, h, rfl⟩
  | own x => cases e; exact ⟨_, h, rfl⟩
  | sn x => cases e; obtain ⟨o, h1, h2⟩ := h; exact ⟨_, h1, by rw [← h2]; rfl⟩
  | lk x => cases e; exact h
  | rc x => cases e
theorem Mt.see {a : Ps} {b : En} {i : Nat} {d : Dt} (h : Mt a b) (e : (getP a i).vw = some d) : ∃ o, getE b i = some o ∧ o.vw = some d := by
  obtain ⟨o, h1, h2⟩ := (h.at (i := i)).vw e
  exact ⟨o, getE_D h1, h2⟩
theorem Mt.set : ∀ {a : Ps} {b : En} {i : Nat} {p : Pt} {x : Option Ow}, Mt a b → Sr p x → Mt (a.set i p) (b.set i x)
  | [], [], _, _, _, _, _ => trivial
  | [], _ :: _, _, _, _, h, _ => h.elim
  | _ :: _, [], _, _, _, h, _ => h.elim
  | p :: ps, s :: ss, 0, _, x, h, e => ⟨e, h.2⟩
  | p :: ps, s :: ss, i + 1, _, x, h, e => ⟨h.1, h.2.set e⟩
/-! terms: a slot's object, or a value -/
def Tm.vp (ps : Ps) : Tm → Option Dt
  | .inl i => (getP ps i).vw
  | .inr o => o.vw
def vwp (ps : Ps) : List Tm → Option (List Dt)
  | [] => some []
  | t :: ts => match Tm.vp ps t with
    | some d => match vwp ps ts with | some ds => some (d :: ds) | none => none
    | none => none
theorem Mt.vw {a : Ps} {b : En} {t : Tm} {d : Dt} (h : Mt a b) (e : Tm.vp a t = some d) : Tm.vw b t = some d := by
  cases t with
  | inl i =>
    obtain ⟨o, h1, h2⟩ := h.see e
    show (match getE b i with | some o => o.vw | none => none) = some d
    rw [h1]; exact h2
  | inr o => exact e
theorem Mt.vws {a : Ps} {b : En} : ∀ {ts : List Tm} {ds : List Dt}, Mt a b → vwp a ts = some ds → Pd.vws b ts = some ds
  | [], _, _, e => e
  | t :: ts, ds, h, e => by
    unfold vwp at e
    unfold Pd.vws
    split at e
    · next d hd =>
      split at e
      · next r hr => rw [h.vw hd]; dsimp only; rw [h.vws hr]; exact e
      · cases e
    · cases e
/-- the arguments, by what is known -/
def argsP : List Md → List Tm → Ps → Option (List Ow × Ps)
  | [], [], ps => some ([], ps)
  | .mu :: ms, .inl i :: ts, ps => match getP ps i with
    | .rc fs => match argsP ms ts (ps.set i .any) with | some (as, e) => some (.rc fs :: as, e) | none => none
    | .own o => match argsP ms ts (ps.set i .any) with | some (as, e) => some (.p o :: as, e) | none => none
    | _ => none
  | .sh :: ms, .inl i :: ts, ps => match getP ps i with
    | .im d => match argsP ms ts (ps.set i (.im d)) with | some (as, e) => some (Pd.im d :: as, e) | none => none
    | .own o => match argsP ms ts (ps.set i (.im o.dt)) with | some (as, e) => some (Pd.im o.dt :: as, e) | none => none
    | .sn d => match argsP ms ts (ps.set i (.im d)) with | some (as, e) => some (Pd.im d :: as, e) | none => none
    | _ => none
  | .sh :: ms, .inr (.p o) :: ts, ps => match argsP ms ts ps with | some (as, e) => some (Pd.im o.dt :: as, e) | none => none
  | .mu :: ms, .inr (.p o) :: ts, ps => match argsP ms ts ps with | some (as, e) => some (.p o :: as, e) | none => none
  | .mu :: ms, .inr (.rc o) :: ts, ps => match argsP ms ts ps with | some (as, e) => some (.rc o :: as, e) | none => none
  | _, _, _ => none
theorem Mt.args : ∀ {ms : List Md} {ts : List Tm} {a : Ps} {b : En} {a2 : Ps} {as : List Ow}, Mt a b → argsP ms ts a = some (as, a2) → ∃ b2, Pd.args ms ts b = some (as, b2) ∧ Mt a2 b2
  | [], [], a, b, a2, as, h, e => by
    simp only [argsP, Option.some.injEq, Prod.mk.injEq] at e
    obtain ⟨rfl, rfl⟩ := e
    exact ⟨b, rfl, h⟩
  | .mu :: ms, .inl i :: ts, a, b, a2, as, h, e => by
    unfold argsP at e
    split at e
    · next fs hp =>
      split at e
      · next as' e' ha =>
        obtain ⟨b2, h1, h2⟩ := Mt.args (h.set (i := i) (p := .any) (x := none) trivial) ha
        cases e
        exact ⟨b2, by unfold Pd.args; rw [h.rc hp]; simp only [h1], h2⟩
      · cases e
    · next o hp =>
      split at e
      · next as' e' ha =>
        obtain ⟨b2, h1, h2⟩ := Mt.args (h.set (i := i) (p := .any) (x := none) trivial) ha
        cases e
        exact ⟨b2, by unfold Pd.args; rw [h.own hp]; simp only [h1], h2⟩
      · cases e
    · cases e
  | .sh :: ms, .inl i :: ts, a, b, a2, as, h, e => by
    unfold argsP at e
    split at e
    · next d hp =>
      split at e
      · next as' e' ha =>
        obtain ⟨b2, h1, h2⟩ := Mt.args (h.set (i := i) (p := .im d) (x := some (Pd.im d)) rfl) ha
        cases e
        exact ⟨b2, by unfold Pd.args; rw [h.im hp]; dsimp only [Ow1.dt]; rw [h1], h2⟩
      · cases e
    · next o hp =>
      split at e
      · next as' e' ha =>
        obtain ⟨b2, h1, h2⟩ := Mt.args (h.set (i := i) (p := .im o.dt) (x := some (Pd.im o.dt)) rfl) ha
        cases e
        exact ⟨b2, by unfold Pd.args; rw [h.own hp]; simp only [h1], h2⟩
      · cases e
    · next d hp =>
      split at e
      · next as' e' ha =>
        obtain ⟨o, ho, hd⟩ := h.sn hp
        obtain ⟨b2, h1, h2⟩ := Mt.args (h.set (i := i) (p := .im d) (x := some (Pd.im o.dt)) (by rw [hd]; rfl)) ha
        cases e
        exact ⟨b2, by unfold Pd.args; rw [ho]; dsimp only; rw [h1, hd], h2⟩
      · cases e
    · cases e
  | .mu :: ms, .inr o :: ts, a, b, a2, as, h, e => by
    cases o with
    | lk d => simp [argsP] at e
    | p o =>
      unfold argsP at e
      split at e
      · next as' e' ha =>
        obtain ⟨b2, h1, h2⟩ := Mt.args h ha
        cases e
        exact ⟨b2, by unfold Pd.args; simp only [h1], h2⟩
      · cases e
    | rc fs =>
      unfold argsP at e
      split at e
      · next as' e' ha =>
        obtain ⟨b2, h1, h2⟩ := Mt.args h ha
        cases e
        exact ⟨b2, by unfold Pd.args; simp only [h1], h2⟩
      · cases e
  | .sh :: ms, .inr o :: ts, a, b, a2, as, h, e => by
    cases o with
    | lk d => simp [argsP] at e
    | rc d => simp [argsP] at e
    | p o =>
      unfold argsP at e
      split at e
      · next as' e' ha =>
        obtain ⟨b2, h1, h2⟩ := Mt.args h ha
        cases e
        exact ⟨b2, by unfold Pd.args; simp only [h1], h2⟩
      · cases e
  | [], _ :: _, a, b, a2, as, h, e => by simp [argsP] at e
  | .mu :: _, [], a, b, a2, as, h, e => by simp [argsP] at e
  | .sh :: _, [], a, b, a2, as, h, e => by simp [argsP] at e
/-- behind a call: what is known of the lent slots -/
def backsP : List Md → List Tm → List (Option Ow) → Ps → Ps
  | .mu :: ms, .inl i :: ts, o :: os, ps => backsP ms ts os (ps.set i (toP o))
  | _ :: ms, _ :: ts, _ :: os, ps => backsP ms ts os ps
  | _, _, _, ps => ps
theorem Mt.backs : ∀ {ms : List Md} {ts : List Tm} {os : List (Option Ow)} {a : Ps} {b : En}, Mt a b → Mt (backsP ms ts os a) (Pd.backs ms ts os b)
  | [], ts, os, a, b, h => by simpa [backsP, Pd.backs] using h
  | .mu :: ms, .inl i :: ts, o :: os, a, b, h => by
    simp only [backsP, Pd.backs]
    exact Mt.backs (h.set (toP_ok o))
  | .mu :: ms, .inr i :: ts, o :: os, a, b, h => by
    simp only [backsP, Pd.backs]
    exact Mt.backs h
  | .sh :: ms, t :: ts, o :: os, a, b, h => by
    simp only [backsP, Pd.backs]
    exact Mt.backs h
  | .mu :: ms, [], os, a, b, h => by simpa [backsP, Pd.backs] using h
  | .sh :: ms, [], os, a, b, h => by simpa [backsP, Pd.backs] using h
  | .mu :: ms, .inl i :: ts, [], a, b, h => by simpa [backsP, Pd.backs] using h
  | .mu :: ms, .inr i :: ts, [], a, b, h => by simpa [backsP, Pd.backs] using h
  | .sh :: ms, t :: ts, [], a, b, h => by simpa [backsP, Pd.backs] using h
def tgGo : List Nat → List Dt → Ps → Ps
  | i :: is, d :: ds, ps => tgGo is ds (ps.set i (.im d))
  | _, _, ps => ps
theorem Mt.tgGo : ∀ {is : List Nat} {ds : List Dt} {a : Ps} {b : En}, Mt a b → Mt (Pd.tgGo is ds a) (Pd.tgSet.go is ds b)
  | [], _, _, _, h => by simpa [Pd.tgGo, Pd.tgSet.go] using h
  | _ :: _, [], _, _, h => by simpa [Pd.tgGo, Pd.tgSet.go] using h
  | i :: is, d :: ds, a, b, h => by
    simp only [Pd.tgGo, Pd.tgSet.go]
    exact Mt.tgGo (h.set rfl)
def tgP : Tg → Dt → Ps → Option Ps
  | .nm i, d, ps => some (ps.set i (.im d))
  | .tp is, .tup ds, ps => if is.length = ds.length then some (tgGo is ds ps) else none
  | _, _, _ => none
theorem Mt.tg {tg : Tg} {d : Dt} {a q : Ps} {b : En} (h : Mt a b) (e : tgP tg d a = some q) : ∃ q', tgSet tg d b = some q' ∧ Mt q q' := by
  cases tg with
  | nm i =>
    simp only [tgP, Option.some.injEq] at e
    subst e
    exact ⟨_, rfl, h.set rfl⟩
  | tp is =>
    cases d with
    | tup ds =>
      simp only [tgP] at e
      simp only [tgSet]
      split at e
      · next hl => cases e; rw [if_pos hl]; exact ⟨_, rfl, h.tgGo⟩
      · cases e
    | _ => simp [tgP] at e
def lockP (ps : Ps) : Op → Option Ps
  | .v i => match getP ps i with
    | .own o => some (ps.set i (.lk o.dt))
    | .sn d => some (ps.set i (.lk d))
    | .im _ => some ps
    | .lk _ => some ps
    | _ => none
  | .e _ => some ps
theorem Mt.lock {o : Op} {a q : Ps} {b : En} (h : Mt a b) (e : lockP a o = some q) : ∃ q', lockE b o = some q' ∧ Mt q q' := by
  cases o with
  | e x => simp only [lockP, lockE, Option.some.injEq] at e ⊢; subst e; exact ⟨b, rfl, h⟩
  | v i =>
    have key : ∀ o : Ow, getE b i = some o → ∀ d, o.vw = some d → ∃ q', lockE b (.v i) = some q' ∧ Mt (a.set i (.lk d)) q' := by
      intro o ho d hd
      have hs : b.set i (some o) = b := by
        refine set_same ?_
        unfold getE at ho
        split at ho
        · next o' h' => cases ho; exact h'
        · cases ho
      have keep : Mt (a.set i (.lk d)) b := by
        have := h.set (i := i) (p := .lk d) (x := some o) ⟨o, rfl, hd⟩
        rwa [hs] at this
      simp only [lockE, ho]
      rcases o with (x | xs | xs) | x | x
      · exact ⟨b, rfl, keep⟩
      · exact ⟨_, rfl, h.set ⟨_, rfl, hd⟩⟩
      · exact ⟨_, rfl, h.set ⟨_, rfl, hd⟩⟩
      · exact ⟨b, rfl, keep⟩
      · exact ⟨b, rfl, keep⟩
    simp only [lockP] at e
    split at e
    · next o hp => cases e; exact key _ (h.own hp) _ rfl
    · next d hp => cases e; obtain ⟨o, h1, h2⟩ := h.sn hp; exact key _ h1 _ (by rw [← h2]; rfl)
    · next d hp =>
      cases e
      simp only [lockE, h.im hp]
      exact ⟨b, rfl, h⟩
    · next d hp =>
      cases e
      obtain ⟨o, h1, h2⟩ := h.see (d := d) (by rw [hp]; rfl)
      obtain ⟨q', k1, k2⟩ := key o h1 d h2
      refine ⟨q', k1, ?_⟩
      have : a.set i (.lk d) = a := by
        refine set_same ?_
        unfold getP at hp
        rw [List.getD_eq_getElem?_getD] at hp
        cases z : a[i]? with
        | none => rw [z] at hp; cases hp
        | some x => rw [z] at hp; simp at hp; rw [hp]
      rwa [this] at k2
    · cases e
def lckP : Ir → Ps → Option Ps
  | .op o, ps => lockP ps o
  | .enum o, ps => lockP ps o
  | .zip a b, ps => match lockP ps a with | some e1 => lockP e1 b | none => none
  | _, ps => some ps
theorem Mt.lck {it : Ir} {a q : Ps} {b : En} (h : Mt a b) (e : lckP it a = some q) : ∃ q', lckI it b = some q' ∧ Mt q q' := by
  cases it with
  | op o => exact h.lock e
  | enum o => exact h.lock e
  | rng1 x => simp only [lckP, lckI, Option.some.injEq] at e ⊢; subst e; exact ⟨b, rfl, h⟩
  | rng2 x y => simp only [lckP, lckI, Option.some.injEq] at e ⊢; subst e; exact ⟨b, rfl, h⟩
  | zip x y =>
    simp only [lckP] at e
    simp only [lckI]
    split at e
    · next e1 h1 =>
      obtain ⟨q1, k1, k2⟩ := h.lock h1
      obtain ⟨q2, k3, k4⟩ := k2.lock e
      exact ⟨q2, by rw [k1]; exact k3, k4⟩
    · cases e
def wipeP (ps : Ps) : List Nat → Ps
  | [] => ps
  | v :: vs => (wipeP ps vs).set v .any
theorem Mt.wipe {a : Ps} {b : En} : ∀ (vs : List Nat), Mt a b → Mt (wipeP a vs) (wipeE b vs)
  | [], h => h
  | v :: vs, h => (Mt.wipe vs h).set trivial
def backP (p0 ps : Ps) : List Nat → Ps
  | [] => ps
  | v :: vs => (backP p0 ps vs).set v (getP p0 v)
theorem Mt.back {a a0 : Ps} {b b0 : En} (h0 : Mt a0 b0) (h : Mt a b) : ∀ (vs : List Nat), Mt (backP a0 a vs) (backE b0 b vs)
  | [] => h
  | v :: vs => (Mt.back h0 h vs).set h0.at

/-! ### judgements -/
section
variable (C : Cl)
def E (x : Ex) (ps : Ps) (o : Ow) (qs : Ps) : Prop := ∀ e, Mt ps e → ∃ e', ev C x e = .ok o e' ∧ Mt qs e'
def Es (x : Exs) (ps : Ps) (ds : List Dt) (qs : Ps) : Prop := ∀ e, Mt ps e → ∃ e', evs C x e = .ok ds e' ∧ Mt qs e'
def Ew (x : Exs) (ps : Ps) (ds : List Ow1) (qs : Ps) : Prop := ∀ e, Mt ps e → ∃ e', evw C x e = .ok ds e' ∧ Mt qs e'
def Ep (x : Op) (ps : Ps) (t : Tm) (qs : Ps) : Prop := ∀ e, Mt ps e → ∃ e', evp C x e = .ok t e' ∧ Mt qs e'
def Eo (x : Ops) (ps : Ps) (ts : List Tm) (qs : Ps) : Prop := ∀ e, Mt ps e → ∃ e', evo C x e = .ok ts e' ∧ Mt qs e'
def Et (x : Te) (ps : Ps) (b : Bool) (qs : Ps) : Prop := ∀ e, Mt ps e → ∃ e', evt C x e = .ok b e' ∧ Mt qs e'
def Ef (x : Tes) (ps : Ps) (b : Bool) (qs : Ps) : Prop := ∀ e, Mt ps e → ∃ e', evf C x e = .ok b e' ∧ Mt qs e'
def Ei (x : Ir) (ps : Ps) (ds : List Dt) (qs : Ps) : Prop := ∀ e, Mt ps e → ∃ e', evi C x e = .ok ds e' ∧ Mt qs e'
def X (wf : Nat) (x : Sm) (ps : Ps) (fl : Fl) (qs : Ps) : Prop := ∀ e, Mt ps e → ∃ e', ex C wf x e = .ok fl e' ∧ Mt qs e'
/-- the lists of statements one behind the other -/
def exK (wf : Nat) : List Sms → En → Rs Fl
  | [], e => .ok .nx e
  | ss :: k, e => match exs C wf ss e with
    | .ok .nx e1 => exK wf k e1
    | r => r
def K (wf : Nat) (k : List Sms) (ps : Ps) (fl : Fl) (qs : Ps) : Prop := ∀ e, Mt ps e → ∃ e', exK C wf k e = .ok fl e' ∧ Mt qs e'
end
section
variable {C : Cl} {ps p1 p2 p3 qs : Ps}
theorem E.cst {d : Dt} : E C (.cst d) ps (im d) ps := fun e h => ⟨e, by rw [ev], h⟩
theorem getE_put {b : En} {i : Nat} {o : Ow} (ho : getE b i = some o) : b.set i (some o) = b := by
  refine set_same ?_
  unfold getE at ho
  split at ho
  · next o' h' => cases ho; exact h'
  · cases ho
theorem E.var {i : Nat} {d : Dt} (hg : getP ps i = .im d) : E C (.var i) ps (im d) ps := fun e h => ⟨e, by rw [ev, h.im hg], h⟩
theorem E.varO {i : Nat} {o : Ow1} (hg : getP ps i = .own o) : E C (.var i) ps (im o.dt) (ps.set i (.im o.dt)) := fun e h => by
  have q := h.own hg
  cases o with
  | imm d => exact ⟨e, by rw [ev, q]; rfl, by have := h.set (i := i) (p := .im d) (x := some (im d)) rfl; rwa [getE_put q] at this⟩
  | lst xs => exact ⟨_, by rw [ev, q], h.set rfl⟩
  | dic xs => exact ⟨_, by rw [ev, q], h.set rfl⟩
theorem E.varS {i : Nat} {d : Dt} (hg : getP ps i = .sn d) : E C (.var i) ps (im d) (ps.set i (.im d)) := fun e h => by
  obtain ⟨o, q, rfl⟩ := h.sn hg
  cases o with
  | imm d => exact ⟨e, by rw [ev, q]; rfl, by have := h.set (i := i) (p := .im d) (x := some (im d)) rfl; rwa [getE_put q] at this⟩
  | lst xs => exact ⟨_, by rw [ev, q], h.set rfl⟩
  | dic xs => exact ⟨_, by rw [ev, q], h.set rfl⟩
theorem E.weak {x : Ex} {o : Ow} (h : E C x ps o qs) (hw : Le p1 qs) : E C x ps o p1 := fun e he => let ⟨e', a, b⟩ := h e he; ⟨e', a, hw _ b⟩
theorem E.tup {es : Exs} {ds : List Dt} (h : Es C es ps ds qs) (hz : ds.length ≤ sizeLine) : E C (.tup es) ps (im (.tup ds)) qs := fun e he => by
  obtain ⟨e', a, b⟩ := h e he
  exact ⟨e', by rw [ev, a]; dsimp only; rw [if_pos hz], b⟩
theorem E.lst {es : Exs} {ds : List Dt} (h : Es C es ps ds qs) (hz : ds.length ≤ sizeLine) : E C (.lst es) ps (.p (.lst ds)) qs := fun e he => by
  obtain ⟨e', a, b⟩ := h e he
  exact ⟨e', by rw [ev, a]; dsimp only; rw [if_pos hz], b⟩
theorem Es.nil : Es C .nil ps [] ps := fun e h => ⟨e, by rw [evs], h⟩
theorem Es.cons {x : Ex} {es : Exs} {o : Ow1} {ds : List Dt} (h : E C x ps (.p o) p1) (h2 : Es C es p1 ds p2) : Es C (.cons x es) ps (o.dt :: ds) p2 := fun e he => by
  obtain ⟨e1, a1, b1⟩ := h e he
  obtain ⟨e2, a2, b2⟩ := h2 e1 b1
  exact ⟨e2, by rw [evs, a1]; dsimp only [Ow.dt?]; rw [a2], b2⟩
theorem Es.star {o : Op} {es : Exs} {t : Tm} {d : Dt} {d1 ds : List Dt} (h : Ep C o ps t p1) (hv : Tm.vp p1 t = some d) (hs : seqD d = some d1) (h2 : Es C es p1 ds p2) : Es C (.star o es) ps (d1 ++ ds) p2 := fun e he => by
  obtain ⟨e1, a1, b1⟩ := h e he
  obtain ⟨e2, a2, b2⟩ := h2 e1 b1
  exact ⟨e2, by rw [evs, a1]; dsimp only; rw [b1.vw hv]; dsimp only; rw [hs]; dsimp only; rw [a2], b2⟩
theorem Ew.nil : Ew C .nil ps [] ps := fun e h => ⟨e, by rw [evw], h⟩
theorem Ew.cons {x : Ex} {es : Exs} {o : Ow1} {ds : List Ow1} (h : E C x ps (.p o) p1) (h2 : Ew C es p1 ds p2) : Ew C (.cons x es) ps (o :: ds) p2 := fun e he => by
  obtain ⟨e1, a1, b1⟩ := h e he
  obtain ⟨e2, a2, b2⟩ := h2 e1 b1
  exact ⟨e2, by rw [evw, a1]; dsimp only; rw [a2], b2⟩
/-- something is in the slot -/
def Pt.has : Pt → Bool
  | .any => false
  | _ => true
theorem Mt.has {a : Ps} {b : En} {i : Nat} (h : Mt a b) (e : (getP a i).has = true) : ∃ o, getE b i = some o := by
  have := h.at (i := i)
  cases hp : getP a i with
  | any => rw [hp] at e; cases e
  | im d => exact ⟨_, h.im hp⟩
  | own o => exact ⟨_, h.own hp⟩
  | sn d => obtain ⟨o, q, _⟩ := h.sn hp; exact ⟨_, q⟩
  | lk d => obtain ⟨o, q, _⟩ := h.see (d := d) (by rw [hp]; rfl); exact ⟨_, q⟩
  | rc fs => exact ⟨_, h.rc hp⟩
theorem Ep.v {i : Nat} (hg : (getP ps i).has = true) : Ep C (.v i) ps (.inl i) ps := fun e h => by
  obtain ⟨o, q⟩ := h.has hg
  exact ⟨e, by rw [evp, q], h⟩
theorem Ep.e {x : Ex} {o : Ow} (h : E C x ps o qs) : Ep C (.e x) ps (.inr o) qs := fun e he => by
  obtain ⟨e', a, b⟩ := h e he
  exact ⟨e', by rw [evp, a], b⟩
theorem Eo.nil : Eo C .nil ps [] ps := fun e h => ⟨e, by rw [evo], h⟩
theorem Eo.cons {x : Op} {os : Ops} {t : Tm} {ts : List Tm} (h : Ep C x ps t p1) (h2 : Eo C os p1 ts p2) : Eo C (.cons x os) ps (t :: ts) p2 := fun e he => by
  obtain ⟨e1, a1, b1⟩ := h e he
  obtain ⟨e2, a2, b2⟩ := h2 e1 b1
  exact ⟨e2, by rw [evo, a1]; dsimp only; rw [a2], b2⟩
theorem Eo.v {i : Nat} {os : Ops} {ts : List Tm} (hg : (getP ps i).has = true) (h2 : Eo C os ps ts p2) : Eo C (.cons (.v i) os) ps (.inl i :: ts) p2 := Eo.cons (Ep.v hg) h2
theorem Eo.e {x : Ex} {o : Ow} {os : Ops} {ts : List Tm} (h : E C x ps o p1) (h2 : Eo C os p1 ts p2) : Eo C (.cons (.e x) os) ps (.inr o :: ts) p2 := Eo.cons (Ep.e h) h2
theorem E.pr {q : Pr} {os : Ops} {ts : List Tm} {ds : List Dt} {o : Ow1} (h : Eo C os ps ts qs) (hv : vwp qs ts = some ds) (hq : q.sem ds = some o) : E C (.pr q os) ps (.p o) qs := fun e he => by
  obtain ⟨e', a, b⟩ := h e he
  exact ⟨e', by rw [ev, a]; dsimp only; rw [b.vws hv]; dsimp only; rw [hq], b⟩
theorem E.pop {i : Nat} {xs : List Dt} {d : Dt} (hg : getP ps i = .own (.lst xs)) (hl : xs.getLast? = some d) : E C (.pop i) ps (im d) (ps.set i (.own (.lst xs.dropLast))) := fun e h => ⟨_, by rw [ev, h.own hg]; dsimp only; rw [hl], h.set rfl⟩
theorem isLst_own {b : En} {i : Nat} {xs : List Dt} (h : getE b i = some (.p (.lst xs))) : isLst (getE b i) = true := by rw [h]; rfl
theorem E.popAt {i k : Nat} {x : Ex} {ys xs : List Dt} {d : Dt} (hg0 : getP ps i = .own (.lst ys)) (h : E C x ps (im (.int (k : Int))) qs) (hg : getP qs i = .own (.lst xs)) (hk : k < 2 ^ 63) (hx : xs[k]? = some d) : E C (.popAt i x) ps (im d) (qs.set i (.own (.lst (xs.eraseIdx k)))) := fun e he => by
  obtain ⟨e', a, b⟩ := h e he
  refine ⟨_, ?_, b.set rfl⟩
  rw [ev, if_pos (isLst_own (he.own hg0)), a]
  dsimp only
  rw [b.own hg]
  dsimp only
  rw [if_pos (by omega), Int.toNat_natCast, hx]
theorem E.app {i : Nat} {x : Ex} {ys xs : List Dt} {o : Ow1} (hg0 : getP ps i = .own (.lst ys)) (h : E C x ps (.p o) qs) (hg : getP qs i = .own (.lst xs)) (hz : xs.length < sizeLine) : E C (.app i x) ps (im .non) (qs.set i (.own (.lst (xs ++ [o.dt])))) := fun e he => by
  obtain ⟨e', a, b⟩ := h e he
  refine ⟨_, ?_, b.set rfl⟩
  rw [ev, if_pos (isLst_own (he.own hg0)), a]
  dsimp only [Ow.dt?]
  rw [b.own hg]
  dsimp only
  rw [if_pos hz]
def lstP (ps : Ps) (i : Nat) : Option (List Dt) := match getP ps i with
  | .own (.lst ds) => some ds
  | .im (.lst ds) => some ds
  | .sn (.lst ds) => some ds
  | _ => none
theorem Mt.lstOf {a : Ps} {b : En} {i : Nat} {ds : List Dt} (h : Mt a b) (e : lstP a i = some ds) : Pd.lstOf b i = some ds := by
  unfold lstP at e
  unfold Pd.lstOf
  split at e
  · next hp => cases e; rw [h.own hp]; rfl
  · next hp => cases e; rw [h.im hp]; rfl
  · next hp => cases e; obtain ⟨o, q, r⟩ := h.sn hp; rw [q]; dsimp only; rw [r]
  · cases e
theorem E.idx {i j : Nat} {x : Ex} {y0 ds : List Dt} {o : Ow1} (hg0 : lstP ps i = some y0) (h : E C x ps (.p o) qs) (hg : lstP qs i = some ds) (hf : (flatD o.dt && ds.all flatD) = true) (hp : posD o.dt ds = some j) : E C (.idx i x) ps (im (.int (j : Int))) qs := fun e he => by
  obtain ⟨e', a, b⟩ := h e he
  refine ⟨e', ?_, b⟩
  rw [ev, he.lstOf hg0]
  dsimp only
  rw [a]
  dsimp only [Ow.dt?]
  rw [b.lstOf hg]
  dsimp only
  rw [if_pos hf, hp]
theorem E.call {f : Nat} {os : Ops} {ts : List Tm} {ms : List Md} {as : List Ow} {o : Ow} {outs : List (Option Ow)} (h : Eo C os ps ts p1) (hm : C.md f = ms) (ha : argsP ms ts p1 = some (as, p2)) (hf : C.fn f as = .ret o outs) : E C (.call f os) ps o (backsP ms ts outs p2) := fun e he => by
  obtain ⟨e1, a, b⟩ := h e he
  obtain ⟨e2, a2, b2⟩ := b.args ha
  exact ⟨_, by rw [ev, a]; dsimp only; rw [hm, a2]; dsimp only; rw [hf], b2.backs⟩
theorem E.condT {t : Te} {x y : Ex} {o : Ow} {b : Bool} (ht : Et C t ps b p1) (hb : b = true) (h : E C x p1 o p2) : E C (.cond t x y) ps o p2 := fun e he => by
  obtain ⟨e1, a1, b1⟩ := ht e he
  obtain ⟨e2, a2, b2⟩ := h e1 b1
  subst hb
  exact ⟨e2, by rw [ev, a1]; exact a2, b2⟩
theorem E.condF {t : Te} {x y : Ex} {o : Ow} {b : Bool} (ht : Et C t ps b p1) (hb : b = false) (h : E C y p1 o p2) : E C (.cond t x y) ps o p2 := fun e he => by
  obtain ⟨e1, a1, b1⟩ := ht e he
  obtain ⟨e2, a2, b2⟩ := h e1 b1
  subst hb
  exact ⟨e2, by rw [ev, a1]; exact a2, b2⟩
theorem E.land {x y : Ex} {a b : Bool} (hx : E C x ps (im (.bl a)) p1) (hy : a = true → E C y p1 (im (.bl b)) p1) : E C (.land x y) ps (im (.bl (a && b))) p1 := fun e he => by
  obtain ⟨e1, a1, b1⟩ := hx e he
  cases a with
  | false => exact ⟨e1, by rw [ev, a1]; rfl, b1⟩
  | true =>
    obtain ⟨e2, a2, b2⟩ := hy rfl e1 b1
    exact ⟨e2, by rw [ev, a1]; exact a2, b2⟩
theorem E.lor {x y : Ex} {a b : Bool} (hx : E C x ps (im (.bl a)) p1) (hy : a = false → E C y p1 (im (.bl b)) p1) : E C (.lor x y) ps (im (.bl (a || b))) p1 := fun e he => by
  obtain ⟨e1, a1, b1⟩ := hx e he
  cases a with
  | true => exact ⟨e1, by rw [ev, a1]; rfl, b1⟩
  | false =>
    obtain ⟨e2, a2, b2⟩ := hy rfl e1 b1
    exact ⟨e2, by rw [ev, a1]; exact a2, b2⟩
theorem E.landT {x y : Ex} {o : Ow} {a : Bool} (hx : E C x ps (im (.bl a)) p1) (ha : a = true) (hy : E C y p1 o p2) : E C (.land x y) ps o p2 := fun e he => by
  obtain ⟨e1, a1, b1⟩ := hx e he
  subst ha
  obtain ⟨e2, a2, b2⟩ := hy e1 b1
  exact ⟨e2, by rw [ev, a1]; exact a2, b2⟩
theorem E.landF {x y : Ex} {a : Bool} (hx : E C x ps (im (.bl a)) p1) (ha : a = false) : E C (.land x y) ps (im (.bl false)) p1 := fun e he => by
  obtain ⟨e1, a1, b1⟩ := hx e he
  subst ha
  exact ⟨e1, by rw [ev, a1], b1⟩
theorem E.lorT {x y : Ex} {a : Bool} (hx : E C x ps (im (.bl a)) p1) (ha : a = true) : E C (.lor x y) ps (im (.bl true)) p1 := fun e he => by
  obtain ⟨e1, a1, b1⟩ := hx e he
  subst ha
  exact ⟨e1, by rw [ev, a1], b1⟩
theorem E.lorF {x y : Ex} {o : Ow} {a : Bool} (hx : E C x ps (im (.bl a)) p1) (ha : a = false) (hy : E C y p1 o p2) : E C (.lor x y) ps o p2 := fun e he => by
  obtain ⟨e1, a1, b1⟩ := hx e he
  subst ha
  obtain ⟨e2, a2, b2⟩ := hy e1 b1
  exact ⟨e2, by rw [ev, a1]; exact a2, b2⟩
theorem E.lnot {x : Op} {t : Tm} {d : Dt} {b : Bool} (h : Ep C x ps t qs) (hv : Tm.vp qs t = some d) (hd : d.tru = some b) : E C (.lnot x) ps (im (.bl (!b))) qs := fun e he => by
  obtain ⟨e', a, k⟩ := h e he
  exact ⟨e', by rw [ev, a]; dsimp only; rw [k.vw hv]; dsimp only; rw [hd], k⟩
theorem E.dnew : E C .dnew ps (.p (.dic [])) ps := fun e h => ⟨e, by rw [ev], h⟩
theorem E.dmk {es : Exs} {ds : List Dt} {kvs : List (Dt × Dt)} (h : Es C es ps ds qs) (hk : mkD ds [] = some kvs) (hz : ds.length ≤ 30) : E C (.dmk es) ps (.p (.dic kvs)) qs := fun e he => by
  obtain ⟨e', a, b⟩ := h e he
  exact ⟨e', by rw [ev, a]; dsimp only; rw [hk]; dsimp only; rw [if_pos hz], b⟩
theorem Et.tr {x : Op} {t : Tm} {d : Dt} {b : Bool} (h : Ep C x ps t qs) (hv : Tm.vp qs t = some d) (hd : d.tru = some b) : Et C (.tr x) ps b qs := fun e he => by
  obtain ⟨e', a, k⟩ := h e he
  exact ⟨e', by rw [evt, a]; dsimp only; rw [k.vw hv]; dsimp only; rw [hd], k⟩
theorem Et.trB {x : Ex} {b : Bool} (h : E C x ps (im (.bl b)) qs) : Et C (.tr (.e x)) ps b qs := Et.tr (Ep.e h) rfl rfl
theorem Et.land {x y : Te} {a b : Bool} (hx : Et C x ps a p1) (hy : a = true → Et C y p1 b p1) : Et C (.land x y) ps (a && b) p1 := fun e he => by
  obtain ⟨e1, a1, b1⟩ := hx e he
  cases a with
  | false => exact ⟨e1, by rw [evt, a1]; rfl, b1⟩
  | true =>
    obtain ⟨e2, a2, b2⟩ := hy rfl e1 b1
    exact ⟨e2, by rw [evt, a1]; exact a2, b2⟩
theorem Et.lor {x y : Te} {a b : Bool} (hx : Et C x ps a p1) (hy : a = false → Et C y p1 b p1) : Et C (.lor x y) ps (a || b) p1 := fun e he => by
  obtain ⟨e1, a1, b1⟩ := hx e he
  cases a with
  | true => exact ⟨e1, by rw [evt, a1]; rfl, b1⟩
  | false =>
    obtain ⟨e2, a2, b2⟩ := hy rfl e1 b1
    exact ⟨e2, by rw [evt, a1]; exact a2, b2⟩
theorem Et.landT {x y : Te} {a b : Bool} (hx : Et C x ps a p1) (ha : a = true) (hy : Et C y p1 b p2) : Et C (.land x y) ps b p2 := fun e he => by
  obtain ⟨e1, a1, b1⟩ := hx e he
  subst ha
  obtain ⟨e2, a2, b2⟩ := hy e1 b1
  exact ⟨e2, by rw [evt, a1]; exact a2, b2⟩
theorem Et.landF {x y : Te} {a : Bool} (hx : Et C x ps a p1) (ha : a = false) : Et C (.land x y) ps false p1 := fun e he => by
  obtain ⟨e1, a1, b1⟩ := hx e he
  subst ha
  exact ⟨e1, by rw [evt, a1], b1⟩
theorem Et.lorT {x y : Te} {a : Bool} (hx : Et C x ps a p1) (ha : a = true) : Et C (.lor x y) ps true p1 := fun e he => by
  obtain ⟨e1, a1, b1⟩ := hx e he
  subst ha
  exact ⟨e1, by rw [evt, a1], b1⟩
theorem Et.lorF {x y : Te} {a b : Bool} (hx : Et C x ps a p1) (ha : a = false) (hy : Et C y p1 b p2) : Et C (.lor x y) ps b p2 := fun e he => by
  obtain ⟨e1, a1, b1⟩ := hx e he
  subst ha
  obtain ⟨e2, a2, b2⟩ := hy e1 b1
  exact ⟨e2, by rw [evt, a1]; exact a2, b2⟩
theorem Et.lnot {x : Te} {a : Bool} (hx : Et C x ps a p1) : Et C (.lnot x) ps (!a) p1 := fun e he => by
  obtain ⟨e1, a1, b1⟩ := hx e he
  exact ⟨e1, by rw [evt, a1], b1⟩
theorem Et.weak {x : Te} {b : Bool} (h : Et C x ps b qs) (hw : Le p1 qs) : Et C x ps b p1 := fun e he => let ⟨e', a, b⟩ := h e he; ⟨e', a, hw _ b⟩
theorem Ef.nil : Ef C .nil ps true ps := fun e h => ⟨e, by rw [evf], h⟩
theorem Ef.one {t : Te} {b : Bool} (h : Et C t ps b qs) : Ef C (.one t) ps b qs := fun e he => by
  obtain ⟨e', a, k⟩ := h e he
  exact ⟨e', by rw [evf, a], k⟩
theorem Ei.op {x : Op} {t : Tm} {d : Dt} {ds : List Dt} (h : Ep C x ps t qs) (hv : Tm.vp qs t = some d) (hd : seqD d = some ds) : Ei C (.op x) ps ds qs := fun e he => by
  obtain ⟨e', a, k⟩ := h e he
  exact ⟨e', by rw [evi, a]; dsimp only; rw [k.vw hv]; dsimp only; rw [hd], k⟩
theorem Ei.enum {x : Op} {t : Tm} {d : Dt} {ds : List Dt} (h : Ep C x ps t qs) (hv : Tm.vp qs t = some d) (hd : seqD d = some ds) : Ei C (.enum x) ps (enumD 0 ds) qs := fun e he => by
  obtain ⟨e', a, k⟩ := h e he
  exact ⟨e', by rw [evi, a]; dsimp only; rw [k.vw hv]; dsimp only; rw [hd], k⟩
theorem Ei.rng1 {x : Ex} {n : Nat} (h : E C x ps (im (.int (n : Int))) qs) (hn : n < 2 ^ 62) : Ei C (.rng1 x) ps ((List.range n).map fun (k : Nat) => Dt.int (k : Int)) qs := fun e he => by
  obtain ⟨e', a, k⟩ := h e he
  exact ⟨e', by rw [evi, a]; dsimp only; rw [if_pos (by omega), Int.toNat_natCast, rngD0]; rfl, k⟩
theorem Ei.rng1Z {x : Ex} {n : Int} (h : E C x ps (im (.int n)) qs) (hn : -(2 ^ 62) ≤ n ∧ n < 2 ^ 62) : Ei C (.rng1 x) ps ((List.range n.toNat).map fun (k : Nat) => Dt.int (k : Int)) qs := fun e he => by
  obtain ⟨e', a, k⟩ := h e he
  exact ⟨e', by rw [evi, a]; dsimp only; rw [if_pos hn, rngD0]; rfl, k⟩
theorem Ei.rng2 {x y : Ex} {m n : Int} (hx : E C x ps (im (.int m)) p1) (hy : E C y p1 (im (.int n)) p2) (hn : -(2 ^ 62) ≤ m ∧ m < 2 ^ 62 ∧ -(2 ^ 62) ≤ n ∧ n < 2 ^ 62) : Ei C (.rng2 x y) ps (rngD m (n - m).toNat) p2 := fun e he => by
  obtain ⟨e1, a1, k1⟩ := hx e he
  obtain ⟨e2, a2, k2⟩ := hy e1 k1
  exact ⟨e2, by rw [evi, a1]; dsimp only; rw [a2]; dsimp only; rw [if_pos hn], k2⟩
theorem Ei.zip {x y : Op} {t u : Tm} {d c : Dt} {ds cs : List Dt} (h : Ep C x ps t p1) (h2 : Ep C y p1 u p2) (hv : Tm.vp p2 t = some d) (hw : Tm.vp p2 u = some c) (hd : seqD d = some ds) (hc : seqD c = some cs) : Ei C (.zip x y) ps (zipD ds cs) p2 := fun e he => by
  obtain ⟨e1, a1, k1⟩ := h e he
  obtain ⟨e2, a2, k2⟩ := h2 e1 k1
  exact ⟨e2, by rw [evi, a1]; dsimp only; rw [a2]; dsimp only; rw [k2.vw hv, k2.vw hw]; dsimp only; rw [hd, hc], k2⟩

/-! ### statements -/
variable {wf : Nat}
theorem X.weak {x : Sm} {fl : Fl} (h : X C wf x ps fl qs) (hw : Le p1 qs) : X C wf x ps fl p1 := fun e he => let ⟨e', a, b⟩ := h e he; ⟨e', a, hw _ b⟩
theorem X.asg {i : Nat} {x : Ex} {o : Ow} (h : E C x ps o qs) : X C wf (.asg i x) ps .nx (qs.set i (toP (some o))) := fun e he => by
  obtain ⟨e', a, b⟩ := h e he
  exact ⟨_, by rw [ex, a], b.set (toP_ok _)⟩
def setAllP : List Nat → List Ow1 → Ps → Ps
  | i :: is, o :: os, ps => setAllP is os (ps.set i (toP (some (.p o))))
  | _, _, ps => ps
theorem Mt.setAll : ∀ {is : List Nat} {os : List Ow1} {a : Ps} {b : En}, Mt a b → Mt (setAllP is os a) (Pd.setAll is os b)
  | [], _, _, _, h => by simpa [Pd.setAll, setAllP] using h
  | _ :: _, [], _, _, h => by simpa [Pd.setAll, setAllP] using h
  | i :: is, d :: ds, a, b, h => by
    simp only [Pd.setAll, setAllP]
    exact Mt.setAll (h.set (toP_ok _))
theorem X.asgT {is : List Nat} {es : Exs} {os : List Ow1} (h : Ew C es ps os qs) (hl : is.length = os.length) : X C wf (.asgT is es) ps .nx (setAllP is os qs) := fun e he => by
  obtain ⟨e', a, b⟩ := h e he
  exact ⟨_, by rw [ex, a]; dsimp only; rw [if_pos hl], b.setAll⟩
theorem X.unp {is : List Nat} {o : Op} {t : Tm} {d : Dt} (h : Ep C o ps t p1) (hv : Tm.vp p1 t = some d) (ht : tgP (.tp is) d p1 = some p2) : X C wf (.unp is o) ps .nx p2 := fun e he => by
  obtain ⟨e', a, b⟩ := h e he
  obtain ⟨q', c, g⟩ := b.tg ht
  exact ⟨q', by rw [ex, a]; dsimp only; rw [b.vw hv]; dsimp only; rw [c], g⟩
theorem isNone_of {e : En} {i : Nat} {o : Ow} (h : getE e i = some o) : (getE e i).isNone = false := by rw [h]; rfl
theorem X.setL {i : Nat} {x k : Ex} {o : Ow1} {j : Nat} {xs : List Dt} (h : E C x ps (.p o) p1) (hg0 : (getP p1 i).has = true) (hk : E C k p1 (im (.int (j : Int))) p2) (hg : getP p2 i = .own (.lst xs)) (hj : j < xs.length) : X C wf (.setI i k x) ps .nx (p2.set i (.own (.lst (xs.set j o.dt)))) := fun e he => by
  obtain ⟨e1, a1, b1⟩ := h e he
  obtain ⟨e2, a2, b2⟩ := hk e1 b1
  obtain ⟨w, hw⟩ := b1.has hg0
  refine ⟨_, ?_, b2.set rfl⟩
  rw [ex, a1]
  dsimp only
  rw [isNone_of hw, if_neg (by decide), a2]
  dsimp only [Ow.dt?]
  rw [b2.own hg]
  dsimp only
  rw [if_pos (by omega), Int.toNat_natCast]
theorem X.setD {i : Nat} {x k : Ex} {o : Ow1} {kd : Dt} {q : Sum (Sum Int Str) (List (Sum Int Str))} {kvs : List (Dt × Dt)} (h : E C x ps (.p o) p1) (hg0 : (getP p1 i).has = true) (hk : E C k p1 (im kd) p2) (hg : getP p2 i = .own (.dic kvs)) (hq : kd.key = some q) (hz : kvs.length < sizeLine) (ho : kOk q kvs = true) : X C wf (.setI i k x) ps .nx (p2.set i (.own (.dic (putD q kd o.dt kvs)))) := fun e he => by
  obtain ⟨e1, a1, b1⟩ := h e he
  obtain ⟨e2, a2, b2⟩ := hk e1 b1
  obtain ⟨w, hw⟩ := b1.has hg0
  refine ⟨_, ?_, b2.set rfl⟩
  rw [ex, a1]
  dsimp only
  rw [isNone_of hw, if_neg (by decide), a2]
  dsimp only [Ow.dt?]
  rw [b2.own hg]
  dsimp only
  rw [hq]
  dsimp only
  rw [if_pos ⟨hz, ho⟩]
theorem X.asgS {i j u v : Nat} {k l x : Ex} {a b : Dt} {xs ys : List Dt} (h : E C x ps (im (.tup [a, b])) p1) (hg0 : (getP p1 i).has = true) (hk : E C k p1 (im (.int (u : Int))) p2) (hg : getP p2 i = .own (.lst xs)) (hu : u < xs.length)
    (hg1 : (getP (p2.set i (.own (.lst (xs.set u a)))) j).has = true) (hl : E C l (p2.set i (.own (.lst (xs.set u a)))) (im (.int (v : Int))) p3) (hg2 : getP p3 j = .own (.lst ys)) (hv : v < ys.length) :
    X C wf (.asgS i k j l x) ps .nx (p3.set j (.own (.lst (ys.set v b)))) := fun e he => by
  obtain ⟨e1, a1, b1⟩ := h e he
  obtain ⟨e2, a2, b2⟩ := hk e1 b1
  have b2' : Mt (p2.set i (.own (.lst (xs.set u a)))) (e2.set i (some (.p (.lst (xs.set u a))))) := b2.set rfl
  obtain ⟨e3, a3, b3⟩ := hl _ b2'
  obtain ⟨w, hw⟩ := b1.has hg0
  obtain ⟨w1, hw1⟩ := b2'.has hg1
  refine ⟨_, ?_, b3.set rfl⟩
  rw [ex, a1]
  dsimp only
  rw [isNone_of hw, if_neg (by decide), a2]
  dsimp only
  have q1 : putL e2 i (u : Int) a = some (e2.set i (some (.p (.lst (xs.set u a))))) := by
    unfold putL
    rw [b2.own hg]
    dsimp only
    rw [if_pos (by omega), Int.toNat_natCast]
  rw [q1]
  dsimp only
  rw [isNone_of hw1, if_neg (by decide), a3]
  dsimp only
  have q2 : putL e3 j (v : Int) b = some (e3.set j (some (.p (.lst (ys.set v b))))) := by
    unfold putL
    rw [b3.own hg2]
    dsimp only
    rw [if_pos (by omega), Int.toNat_natCast]
  rw [q2]
theorem X.aug {i : Nat} {q : Pr} {x : Ex} {a b c : Int} (hg : getP ps i = .im (.int a)) (h : E C x ps (im (.int b)) p1) (hq : q.sem [.int a, .int b] = some (.imm (.int c))) : X C wf (.aug i q x) ps .nx (p1.set i (.im (.int c))) := fun e he => by
  obtain ⟨e1, a1, b1⟩ := h e he
  refine ⟨_, ?_, b1.set rfl⟩
  rw [ex, he.im hg]
  dsimp only
  rw [a1]
  dsimp only
  rw [hq]
theorem X.expr {x : Ex} {o : Ow} (h : E C x ps o qs) : X C wf (.expr x) ps .nx qs := fun e he => by
  obtain ⟨e', a, b⟩ := h e he
  exact ⟨e', by rw [ex, a], b⟩
theorem X.ret {x : Ex} {o : Ow} (h : E C x ps o qs) : X C wf (.ret x) ps (.rt o) qs := fun e he => by
  obtain ⟨e', a, b⟩ := h e he
  exact ⟨e', by rw [ex, a], b⟩
theorem X.retI {i : Nat} {d : Dt} (hg : getP ps i = .im d) : X C wf (.retV i) ps (.rt (im d)) (ps.set i .any) := fun e he =>
  ⟨_, by rw [ex, he.im hg], he.set trivial⟩
theorem X.retP {i : Nat} {o : Ow1} (hg : getP ps i = .own o) : X C wf (.retV i) ps (.rt (.p o)) (ps.set i .any) := fun e he =>
  ⟨_, by rw [ex, he.own hg], he.set trivial⟩
theorem X.retR {i : Nat} {o : List (Str × Ow1)} (hg : getP ps i = .rc o) : X C wf (.retV i) ps (.rt (.rc o)) (ps.set i .any) := fun e he =>
  ⟨_, by rw [ex, he.rc hg], he.set trivial⟩
theorem X.retN : X C wf .retN ps (.rt (im .non)) ps := fun e he => ⟨e, by rw [ex], he⟩
theorem exs_cons {s : Sm} {ss : Sms} {e : En} : exs C wf (.cons s ss) e = match ex C wf s e with | .ok .nx e1 => exs C wf ss e1 | r => r := by
  rw [exs]
  all_goals (rcases ex C wf s e with ⟨f, e1⟩ | _ | _ <;> first | rfl | (cases f <;> rfl))
theorem K.done (hw : Le qs ps) : K C wf [] ps .nx qs := fun e he => ⟨e, rfl, hw _ he⟩
theorem K.nil {k : List Sms} {fl : Fl} (h : K C wf k ps fl qs) : K C wf (.nil :: k) ps fl qs := fun e he => by
  obtain ⟨e', a, b⟩ := h e he
  exact ⟨e', by rw [exK, exs]; exact a, b⟩
theorem K.next {s : Sm} {ss : Sms} {k : List Sms} {fl : Fl} (h : X C wf s ps .nx p1) (h2 : K C wf (ss :: k) p1 fl qs) : K C wf (.cons s ss :: k) ps fl qs := fun e he => by
  obtain ⟨e1, a1, b1⟩ := h e he
  obtain ⟨e2, a2, b2⟩ := h2 e1 b1
  refine ⟨e2, ?_, b2⟩
  rw [exK] at a2 ⊢
  rw [exs_cons, a1]
  exact a2
theorem K.rt {s : Sm} {ss : Sms} {k : List Sms} {o : Ow} (h : X C wf s ps (.rt o) p1) (hw : Le qs p1) : K C wf (.cons s ss :: k) ps (.rt o) qs := fun e he => by
  obtain ⟨e1, a1, b1⟩ := h e he
  refine ⟨e1, ?_, hw _ b1⟩
  rw [exK, exs_cons, a1]
theorem K.iteT {t : Te} {a b : Sms} {ss : Sms} {k : List Sms} {fl : Fl} {c : Bool} (ht : Et C t ps c p1) (hc : c = true) (h : K C wf (a :: ss :: k) p1 fl qs) : K C wf (.cons (.ite t a b) ss :: k) ps fl qs := fun e he => by
  obtain ⟨e1, a1, b1⟩ := ht e he
  obtain ⟨e2, a2, b2⟩ := h e1 b1
  refine ⟨e2, ?_, b2⟩
  subst hc
  rw [exK, exs_cons, ex, a1]
  rw [exK] at a2
  dsimp only at a2 ⊢
  revert a2
  cases exs C wf a e1 with
  | ok f e3 => cases f <;> exact id
  | exc x e3 => intro z; cases z
  | no => intro z; cases z
theorem K.iteF {t : Te} {a b : Sms} {ss : Sms} {k : List Sms} {fl : Fl} {c : Bool} (ht : Et C t ps c p1) (hc : c = false) (h : K C wf (b :: ss :: k) p1 fl qs) : K C wf (.cons (.ite t a b) ss :: k) ps fl qs := fun e he => by
  obtain ⟨e1, a1, b1⟩ := ht e he
  obtain ⟨e2, a2, b2⟩ := h e1 b1
  refine ⟨e2, ?_, b2⟩
  subst hc
  rw [exK, exs_cons, ex, a1]
  rw [exK] at a2
  dsimp only at a2 ⊢
  revert a2
  cases exs C wf b e1 with
  | ok f e3 => cases f <;> exact id
  | exc x e3 => intro z; cases z
  | no => intro z; cases z
theorem exK1 {ss : Sms} {e e' : En} {fl : Fl} (h : exK C wf [ss] e = .ok fl e') : exs C wf ss e = .ok fl e' := by
  rw [exK] at h
  revert h
  cases exs C wf ss e with
  | ok f e3 => cases f <;> exact id
  | exc x e3 => intro z; cases z
  | no => intro z; cases z
theorem X.ite {t : Te} {a b : Sms} {c : Bool} {fl : Fl} (ht : Et C t ps c p1) (h1 : c = true → K C wf [a] p1 fl qs) (h2 : c = false → K C wf [b] p1 fl qs) : X C wf (.ite t a b) ps fl qs := fun e he => by
  obtain ⟨e1, a1, b1⟩ := ht e he
  cases c with
  | true =>
    obtain ⟨e2, a2, b2⟩ := h1 rfl e1 b1
    exact ⟨e2, by rw [ex, a1]; exact exK1 a2, b2⟩
  | false =>
    obtain ⟨e2, a2, b2⟩ := h2 rfl e1 b1
    exact ⟨e2, by rw [ex, a1]; exact exK1 a2, b2⟩
end

/-! ### typed loops -/
def bnd {α β : Type} (m : Option α) (f : α → Option β) : Option β := match m with | some a => f a | none => none
theorem bnd_some {α β : Type} {m : Option α} {f : α → Option β} {r : β} (h : bnd m f = some r) : ∃ a, m = some a ∧ f a = some r := by
  cases m with
  | none => cases h
  | some a => exact ⟨a, rfl, h⟩
theorem bnd_pure {α β : Type} {a : α} {f : α → Option β} : bnd (some a) f = f a := rfl
theorem bnd_of {α β : Type} {m : Option α} {a : α} {f : α → Option β} (h : m = some a) : bnd m f = f a := by rw [h]; rfl
theorem if_some {β : Type} {c : Bool} {a b : Option β} {r : β} (h : (if c = true then a else b) = some r) : (c = true ∧ a = some r) ∨ (c = false ∧ b = some r) := by
  cases c
  · exact .inr ⟨rfl, by simpa using h⟩
  · exact .inl ⟨rfl, by simpa using h⟩
def grd {α : Type} (p : Prop) [Decidable p] (k : Option α) : Option α := if p then k else none
theorem grd_some {α : Type} {p : Prop} [Decidable p] {k : Option α} {r : α} (h : grd p k = some r) : p ∧ k = some r := by
  unfold grd at h
  by_cases q : p
  · rw [if_pos q] at h; exact ⟨q, h⟩
  · rw [if_neg q] at h; cases h
theorem grd_pos {α : Type} {p : Prop} [Decidable p] {k : Option α} (h : p) : grd p k = k := if_pos h
def forT {α σ : Type} (f : α → σ → Option σ) : List α → σ → Option σ
  | [], s => some s
  | x :: xs, s => bnd (f x s) (forT f xs)
def forR {α σ ρ : Type} (f : α → σ → Option (Sum ρ σ)) : List α → σ → Option (Sum ρ σ)
  | [], s => some (.inr s)
  | x :: xs, s => bnd (f x s) fun r => match r with | .inl r => some (.inl r) | .inr s => forR f xs s
def whT {σ : Type} (c : σ → Option Bool) (f : σ → Option σ) : Nat → σ → Option σ
  | 0, _ => none
  | n + 1, s => bnd (c s) fun b => if b = true then bnd (f s) (whT c f n) else some s
def whR {σ ρ : Type} (c : σ → Option Bool) (f : σ → Option (Sum ρ σ)) : Nat → σ → Option (Sum ρ σ)
  | 0, _ => none
  | n + 1, s => bnd (c s) fun b => if b = true then bnd (f s) (fun r => match r with | .inl r => some (.inl r) | .inr s => whR c f n s) else some (.inr s)
/-- a comprehension: each item gives one, or none -/
def lcT {α β σ : Type} (f : α → σ → Option (Option β × σ)) : List α → σ → Option (List β × σ)
  | [], s => some ([], s)
  | x :: xs, s => bnd (f x s) fun r => bnd (lcT f xs r.2) fun q => some (match r.1 with | some y => (y :: q.1, q.2) | none => q)
def lcP {α β : Type} (f : α → Option (Option β)) : List α → Option (List β)
  | [] => some []
  | x :: xs => bnd (f x) fun r => bnd (lcP f xs) fun q => some (match r with | some y => y :: q | none => q)
section
variable {C : Cl} {ps p1 p2 p3 qs : Ps} {wf : Nat}
theorem stepFor_of {tg : Tg} {b : Sms} {d : Dt} {p q : Ps} {e : En} {fl : Fl} (h : tgP tg d p = some q) (k : K C wf [b] q fl qs) (he : Mt p e) : ∃ e', stepFor C wf tg b d e = .ok fl e' ∧ Mt qs e' := by
  obtain ⟨q', c, g⟩ := he.tg h
  obtain ⟨e2, a2, b2⟩ := k q' g
  exact ⟨e2, by unfold stepFor; rw [c]; exact exK1 a2, b2⟩
theorem forGo_T {α σ : Type} {en : α → Dt} {P : σ → Ps} {f : α → σ → Option σ} {tg : Tg} {b : Sms} (hb : ∀ x s s', f x s = some s' → ∃ q, tgP tg (en x) (P s) = some q ∧ K C wf [b] q .nx (P s')) :
    ∀ {xs : List α} {s s' : σ} {e : En}, forT f xs s = some s' → Mt (P s) e → ∃ e', forGo (stepFor C wf tg b) (xs.map en) e = .ok .nx e' ∧ Mt (P s') e'
  | [], s, s', e, h, he => by cases h; exact ⟨e, rfl, he⟩
  | x :: xs, s, s', e, h, he => by
    obtain ⟨s1, h1, h2⟩ := bnd_some h
    obtain ⟨q, t1, t2⟩ := hb x s s1 h1
    obtain ⟨e1, a1, b1⟩ := stepFor_of t1 t2 he
    obtain ⟨e2, a2, b2⟩ := forGo_T hb h2 b1
    exact ⟨e2, by rw [List.map_cons, forGo, a1]; exact a2, b2⟩
theorem X.for {α σ : Type} {en : α → Dt} {P : σ → Ps} {f : α → σ → Option σ} {tg : Tg} {it : Ir} {b : Sms} {xs : List α} {s s' : σ} (hi : Ei C it ps (xs.map en) p1) (hl : lckP it p1 = some p2) (hw : Le (P s) p2) (h : forT f xs s = some s')
    (hb : ∀ x s s', f x s = some s' → ∃ q, tgP tg (en x) (P s) = some q ∧ K C wf [b] q .nx (P s')) : X C wf (.fors tg it b) ps .nx (backP p1 (P s') (slotI it)) := fun e he => by
  obtain ⟨e1, a1, b1⟩ := hi e he
  obtain ⟨e2, a2, b2⟩ := b1.lck hl
  obtain ⟨e3, a3, b3⟩ := forGo_T hb h (hw _ b2)
  exact ⟨_, by rw [ex_for a1 a2, a3], b1.back b3 _⟩
/-- how a typed loop with returns ends -/
def rFl {ρ σ : Type} (o : ρ → Ow) : Sum ρ σ → Fl
  | .inl r => .rt (o r)
  | .inr _ => .nx
def rPt {ρ σ : Type} (Q : ρ → Ps) (P : σ → Ps) : Sum ρ σ → Ps
  | .inl r => Q r
  | .inr s => P s
theorem forGo_R {α σ ρ : Type} {en : α → Dt} {P : σ → Ps} {Q : ρ → Ps} {o : ρ → Ow} {f : α → σ → Option (Sum ρ σ)} {tg : Tg} {b : Sms} (hb : ∀ x s r, f x s = some r → ∃ q, tgP tg (en x) (P s) = some q ∧ K C wf [b] q (rFl o r) (rPt Q P r)) :
    ∀ {xs : List α} {s : σ} {r : Sum ρ σ} {e : En}, forR f xs s = some r → Mt (P s) e → ∃ e', forGo (stepFor C wf tg b) (xs.map en) e = .ok (rFl o r) e' ∧ Mt (rPt Q P r) e'
  | [], s, r, e, h, he => by cases h; exact ⟨e, rfl, he⟩
  | x :: xs, s, r, e, h, he => by
    obtain ⟨s1, h1, h2⟩ := bnd_some h
    obtain ⟨q, t1, t2⟩ := hb x s s1 h1
    obtain ⟨e1, a1, b1⟩ := stepFor_of t1 t2 he
    cases s1 with
    | inl r1 =>
      cases h2
      exact ⟨e1, by rw [List.map_cons, forGo, a1]; rfl, b1⟩
    | inr s1 =>
      obtain ⟨e2, a2, b2⟩ := forGo_R hb h2 b1
      exact ⟨e2, by rw [List.map_cons, forGo, a1]; exact a2, b2⟩
theorem X.forR {α σ ρ : Type} {en : α → Dt} {P : σ → Ps} {Q : ρ → Ps} {o : ρ → Ow} {f : α → σ → Option (Sum ρ σ)} {tg : Tg} {it : Ir} {b : Sms} {xs : List α} {s : σ} {r : Sum ρ σ} (hi : Ei C it ps (xs.map en) p1) (hl : lckP it p1 = some p2) (hw : Le (P s) p2) (h : Pd.forR f xs s = some r)
    (hb : ∀ x s r, f x s = some r → ∃ q, tgP tg (en x) (P s) = some q ∧ K C wf [b] q (rFl o r) (rPt Q P r)) : X C wf (.fors tg it b) ps (rFl o r) (backP p1 (rPt Q P r) (slotI it)) := fun e he => by
  obtain ⟨e1, a1, b1⟩ := hi e he
  obtain ⟨e2, a2, b2⟩ := b1.lck hl
  obtain ⟨e3, a3, b3⟩ := forGo_R hb h (hw _ b2)
  exact ⟨_, by rw [ex_for a1 a2, a3], b1.back b3 _⟩
theorem whGo_T {σ : Type} {P : σ → Ps} {c : σ → Option Bool} {f : σ → Option σ} {t : Te} {b : Sms} (hc : ∀ s b, c s = some b → Et C t (P s) b (P s)) (hb : ∀ s s', f s = some s' → K C wf [b] (P s) .nx (P s')) :
    ∀ {n : Nat} {s s' : σ} {e : En}, whT c f n s = some s' → Mt (P s) e → ∃ e', whGo (fun e => evt C t e) (fun e => exs C wf b e) n e = .ok .nx e' ∧ Mt (P s') e'
  | 0, s, s', e, h, he => by cases h
  | n + 1, s, s', e, h, he => by
    obtain ⟨v, h1, h2⟩ := bnd_some h
    obtain ⟨e1, a1, b1⟩ := hc s v h1 e he
    rcases if_some h2 with ⟨rfl, h3⟩ | ⟨rfl, h3⟩
    · obtain ⟨s1, h4, h5⟩ := bnd_some h3
      obtain ⟨e2, a2, b2⟩ := hb s s1 h4 e1 b1
      obtain ⟨e3, a3, b3⟩ := whGo_T hc hb h5 b2
      exact ⟨e3, by rw [whGo, a1]; dsimp only; rw [exK1 a2]; exact a3, b3⟩
    · cases h3
      exact ⟨e1, by rw [whGo, a1], b1⟩
theorem X.whl {σ : Type} {P : σ → Ps} {c : σ → Option Bool} {f : σ → Option σ} {t : Te} {b : Sms} {s s' : σ} (hw : Le (P s) ps) (h : whT c f wf s = some s') (hc : ∀ s b, c s = some b → Et C t (P s) b (P s)) (hb : ∀ s s', f s = some s' → K C wf [b] (P s) .nx (P s')) : X C wf (.whl t b) ps .nx (P s') := fun e he => by
  obtain ⟨e3, a3, b3⟩ := whGo_T hc hb h (hw _ he)
  exact ⟨_, by rw [ex_whl, a3], b3⟩
theorem whGo_R {σ ρ : Type} {P : σ → Ps} {Q : ρ → Ps} {o : ρ → Ow} {c : σ → Option Bool} {f : σ → Option (Sum ρ σ)} {t : Te} {b : Sms} (hc : ∀ s b, c s = some b → Et C t (P s) b (P s)) (hb : ∀ s r, f s = some r → K C wf [b] (P s) (rFl o r) (rPt Q P r)) :
    ∀ {n : Nat} {s : σ} {r : Sum ρ σ} {e : En}, whR c f n s = some r → Mt (P s) e → ∃ e', whGo (fun e => evt C t e) (fun e => exs C wf b e) n e = .ok (rFl o r) e' ∧ Mt (rPt Q P r) e'
  | 0, s, s', e, h, he => by cases h
  | n + 1, s, r, e, h, he => by
    obtain ⟨v, h1, h2⟩ := bnd_some h
    obtain ⟨e1, a1, b1⟩ := hc s v h1 e he
    rcases if_some h2 with ⟨rfl, h3⟩ | ⟨rfl, h3⟩
    · obtain ⟨s1, h4, h5⟩ := bnd_some h3
      obtain ⟨e2, a2, b2⟩ := hb s s1 h4 e1 b1
      cases s1 with
      | inl r1 =>
        cases h5
        exact ⟨e2, by rw [whGo, a1]; dsimp only; rw [exK1 a2]; rfl, b2⟩
      | inr s1 =>
        obtain ⟨e3, a3, b3⟩ := whGo_R hc hb h5 b2
        exact ⟨e3, by rw [whGo, a1]; dsimp only; rw [exK1 a2]; exact a3, b3⟩
    · cases h3
      exact ⟨e1, by rw [whGo, a1]; rfl, b1⟩
theorem X.whR {σ ρ : Type} {P : σ → Ps} {Q : ρ → Ps} {o : ρ → Ow} {c : σ → Option Bool} {f : σ → Option (Sum ρ σ)} {t : Te} {b : Sms} {s : σ} {r : Sum ρ σ} (hw : Le (P s) ps) (h : Pd.whR c f wf s = some r) (hc : ∀ s b, c s = some b → Et C t (P s) b (P s)) (hb : ∀ s r, f s = some r → K C wf [b] (P s) (rFl o r) (rPt Q P r)) : X C wf (.whl t b) ps (rFl o r) (rPt Q P r) := fun e he => by
  obtain ⟨e3, a3, b3⟩ := whGo_R hc hb h (hw _ he)
  exact ⟨_, by rw [ex_whl, a3], b3⟩
/-- one turn of a comprehension, the target set -/
def Lb (C : Cl) (el : Ex) (ifs : Tes) (ps : Ps) (y : Option Dt) (qs : Ps) : Prop := ∀ e, Mt ps e → ∃ e', ((match evf C ifs e with
              | .ok true e4 => match ev C el e4 with
                | .ok o e5 => match o.dt? with | some y => .ok (some y) e5 | none => .no
                | .exc x e5 => .exc x e5
                | .no => .no
              | .ok false e4 => .ok none e4
              | .exc x e4 => .exc x e4
              | .no => .no) : Rs (Option Dt)) = .ok y e' ∧ Mt qs e'
theorem Lb.nil {el : Ex} {o : Ow1} (h : E C el ps (.p o) qs) : Lb C el .nil ps (some o.dt) qs := fun e he => by
  obtain ⟨e1, a1, b1⟩ := h e he
  exact ⟨e1, by rw [evf]; dsimp only; rw [a1]; rfl, b1⟩
theorem Lb.yes {el : Ex} {t : Te} {c : Bool} {o : Ow1} (ht : Et C t ps c p1) (hc : c = true) (h : E C el p1 (.p o) qs) : Lb C el (.one t) ps (some o.dt) qs := fun e he => by
  obtain ⟨e0, a0, b0⟩ := ht e he
  obtain ⟨e1, a1, b1⟩ := h e0 b0
  subst hc
  exact ⟨e1, by rw [evf, a0]; dsimp only; rw [a1]; rfl, b1⟩
theorem Lb.not {el : Ex} {t : Te} {c : Bool} (ht : Et C t ps c qs) (hc : c = false) : Lb C el (.one t) ps none qs := fun e he => by
  obtain ⟨e0, a0, b0⟩ := ht e he
  subst hc
  exact ⟨e0, by rw [evf, a0], b0⟩
theorem Lb.weak {el : Ex} {t : Tes} {y : Option Dt} (h : Lb C el t ps y qs) (hw : Le p1 qs) : Lb C el t ps y p1 := fun e he => let ⟨e', a, b⟩ := h e he; ⟨e', a, hw _ b⟩
theorem lcGo_T {α β σ : Type} {en : α → Dt} {em : β → Dt} {P : σ → Ps} {f : α → σ → Option (Option β × σ)} {el : Ex} {tg : Tg} {ifs : Tes} {own : List Nat}
    (hb : ∀ x s r, f x s = some r → ∃ q, tgP tg (en x) (wipeP (P s) own) = some q ∧ Lb C el ifs q (r.1.map em) (P r.2)) :
    ∀ {xs : List α} {s : σ} {r : List β × σ} {e : En} {acc : List Dt}, lcT f xs s = some r → Mt (P s) e → acc.length + xs.length ≤ sizeLine → ∃ e', lcGo (stepLc C el tg ifs own) (xs.map en) acc e = .ok (acc ++ r.1.map em) e' ∧ Mt (P r.2) e'
  | [], s, r, e, acc, h, he, hz => by cases h; exact ⟨e, by simp [lcGo], he⟩
  | x :: xs, s, r, e, acc, h, he, hz => by
    simp only [List.length_cons] at hz
    obtain ⟨s1, h1, h2⟩ := bnd_some h
    obtain ⟨q, t1, t2⟩ := hb x s s1 h1
    obtain ⟨r2, h3, h4⟩ := bnd_some h2
    obtain ⟨q', c, g⟩ := (he.wipe own).tg t1
    obtain ⟨e1, a1, b1⟩ := t2 q' g
    have st : stepLc C el tg ifs own (en x) e = .ok (s1.1.map em) e1 := by
      unfold stepLc
      rw [c]
      exact a1
    cases hs : s1.1 with
    | none =>
      obtain ⟨e2, a2, b2⟩ := lcGo_T hb (acc := acc) h3 b1 (by omega)
      rw [hs] at h4 st
      cases h4
      exact ⟨e2, by rw [List.map_cons, lcGo, st]; exact a2, b2⟩
    | some y =>
      obtain ⟨e2, a2, b2⟩ := lcGo_T hb (acc := acc ++ [em y]) h3 b1 (by simp; omega)
      rw [hs] at h4 st
      cases h4
      refine ⟨e2, ?_, b2⟩
      rw [List.map_cons, lcGo, st]
      dsimp only [Option.map]
      rw [if_pos (by omega), a2]
      simp
theorem E.lc {α β σ : Type} {en : α → Dt} {em : β → Dt} {P : σ → Ps} {f : α → σ → Option (Option β × σ)} {el : Ex} {tg : Tg} {it : Ir} {ifs : Tes} {own : List Nat} {xs : List α} {s : σ} {r : List β × σ}
    (hi : Ei C it ps (xs.map en) p1) (hl : lckP it p1 = some p2) (hw : Le (P s) p2) (hz : xs.length ≤ sizeLine) (h : lcT f xs s = some r)
    (hb : ∀ x s r, f x s = some r → ∃ q, tgP tg (en x) (wipeP (P s) own) = some q ∧ Lb C el ifs q (r.1.map em) (P r.2)) :
    E C (.lc el tg it ifs own) ps (.p (.lst (r.1.map em))) (backP p1 (backP p2 (P r.2) own) (slotI it)) := fun e he => by
  obtain ⟨e1, a1, b1⟩ := hi e he
  obtain ⟨e2, a2, b2⟩ := b1.lck hl
  obtain ⟨e3, a3, b3⟩ := lcGo_T hb (acc := []) h (hw _ b2) (by simpa using hz)
  refine ⟨_, ?_, b1.back (b2.back b3 own) _⟩
  rw [ev_lc a1 a2, a3]
  rfl
theorem lcP_T {α β : Type} {f : α → Option (Option β)} : ∀ {xs : List α} {r : List β}, lcP f xs = some r → lcT (fun x (u : Unit) => bnd (f x) fun y => some (y, u)) xs () = some (r, ())
  | [], r, h => by cases h; rfl
  | x :: xs, r, h => by
    obtain ⟨s1, h1, h2⟩ := bnd_some h
    obtain ⟨r2, h3, h4⟩ := bnd_some h2
    have h5 := lcP_T h3
    simp only [bnd] at h5
    cases s1 <;> · cases h4; simp only [lcT, bnd, h1, h5]
/-- what changes nothing -/
theorem E.lcP {α β : Type} {en : α → Dt} {em : β → Dt} {P : Ps} {f : α → Option (Option β)} {el : Ex} {tg : Tg} {it : Ir} {ifs : Tes} {own : List Nat} {xs : List α} {r : List β}
    (hi : Ei C it ps (xs.map en) p1) (hl : lckP it p1 = some p2) (hw : Le P p2) (hz : xs.length ≤ sizeLine) (h : lcP f xs = some r)
    (hb : ∀ x r, f x = some r → ∃ q, tgP tg (en x) (wipeP P own) = some q ∧ Lb C el ifs q (r.map em) P) :
    E C (.lc el tg it ifs own) ps (.p (.lst (r.map em))) (backP p1 (backP p2 P own) (slotI it)) :=
  E.lc (P := fun _ => P) hi hl hw hz (lcP_T h) fun x s r hr => by
    obtain ⟨y, h1, h2⟩ := bnd_some hr
    cases h2
    exact hb x y h1
theorem lcP_pure {α β : Type} {p : α → Bool} {g : α → β} : ∀ (xs : List α), lcP (fun x => some (if p x = true then some (g x) else none)) xs = some ((xs.filter p).map g)
  | [] => rfl
  | x :: xs => by
    unfold lcP
    rw [lcP_pure xs]
    cases hp : p x <;> simp [bnd, hp]
/-- what fails nowhere -/
theorem E.lcM {α β : Type} {en : α → Dt} {em : β → Dt} {P : Ps} {g : α → β} {el : Ex} {tg : Tg} {it : Ir} {own : List Nat} {xs : List α}
    (hi : Ei C it ps (xs.map en) p1) (hl : lckP it p1 = some p2) (hw : Le P p2) (hz : xs.length ≤ sizeLine)
    (hb : ∀ x, ∃ q, tgP tg (en x) (wipeP P own) = some q ∧ Lb C el .nil q (some (em (g x))) P) :
    E C (.lc el tg it .nil own) ps (.p (.lst ((xs.map g).map em))) (backP p1 (backP p2 P own) (slotI it)) := by
  have := E.lcP (C := C) (em := em) (f := fun x => some (if (fun _ => true) x = true then some (g x) else none)) hi hl hw hz (lcP_pure xs) fun x r hr => by
    simp at hr
    subst hr
    exact hb x
  rwa [filt] at this
theorem E.lcF {α β : Type} {en : α → Dt} {em : β → Dt} {P : Ps} {p : α → Bool} {g : α → β} {el : Ex} {tg : Tg} {it : Ir} {t : Te} {own : List Nat} {xs : List α}
    (hi : Ei C it ps (xs.map en) p1) (hl : lckP it p1 = some p2) (hw : Le P p2) (hz : xs.length ≤ sizeLine)
    (hb : ∀ x, ∃ q, tgP tg (en x) (wipeP P own) = some q ∧ Et C t q (p x) p3 ∧ E C el p3 (im (em (g x))) P ∧ Le P p3) :
    E C (.lc el tg it (.one t) own) ps (.p (.lst (((xs.filter p).map g).map em))) (backP p1 (backP p2 P own) (slotI it)) :=
  E.lcP (C := C) (em := em) (f := fun x => some (if p x = true then some (g x) else none)) hi hl hw hz (lcP_pure xs) fun x r hr => by
    obtain ⟨q, h1, h2, h3, h4⟩ := hb x
    refine ⟨q, h1, ?_⟩
    cases hp : p x with
    | true =>
      simp [hp] at hr
      subst hr
      exact Lb.yes h2 hp h3
    | false =>
      simp [hp] at hr
      subst hr
      exact (Lb.not h2 hp).weak h4
/-! ### defs -/
/-- how a def's body ends, and what it answers -/
inductive FlO : Fl → Ow → Prop
  | nx : FlO .nx (im .non)
  | rt {o : Ow} : FlO (.rt o) o
def Pt.ow? : Pt → Option Ow
  | .im d => some (Pd.im d)
  | .own o => some (.p o)
  | .rc fs => some (.rc fs)
  | _ => none
theorem Sr.ow {p : Pt} {s : Option Ow} {x : Ow} (h : Sr p s) (e : p.ow? = some x) : s = some x := by
  cases p with
  | any => cases e
  | im d => cases e; exact h
  | own d => cases e; exact h
  | sn d => cases e
  | lk d => cases e
  | rc d => cases e; exact h
def outsP (ps : Ps) : List Md → Nat → List (Option Ow) → Prop
  | [], _, os => os = []
  | .mu :: ms, i, o :: os => (∃ x, o = some x ∧ (getP ps i).ow? = some x) ∧ outsP ps ms (i + 1) os
  | .sh :: ms, i, o :: os => o = none ∧ outsP ps ms (i + 1) os
  | _ :: _, _, [] => False
theorem outsP_of {a : Ps} {b : En} (h : Mt a b) : ∀ {ms : List Md} {i : Nat} {os : List (Option Ow)}, outsP a ms i os → outsOf b ms i = os
  | [], i, os, k => by cases k; rfl
  | .mu :: ms, i, [], k => k.elim
  | .sh :: ms, i, [], k => k.elim
  | .mu :: ms, i, o :: os, ⟨⟨x, h1, h2⟩, k⟩ => by
    subst h1
    have : b.getD i none = some x := h.at.ow h2
    show b.getD i none :: outsOf b ms (i + 1) = _
    rw [this, outsP_of h k]
  | .sh :: ms, i, o :: os, ⟨h1, k⟩ => by
    subst h1
    show none :: outsOf b ms (i + 1) = _
    rw [outsP_of h k]
theorem run_of {f : Fn} {as : List Ow} {o : Ow} {outs : List (Option Ow)} {fl : Fl} (hl : as.length = f.np) (hp : (as.map some ++ List.replicate (f.ns - f.np) none).map toP = ps) (hb : K C wf [f.body] ps fl qs) (hf : FlO fl o) (ho : outsP qs f.md 0 outs) : runFn C wf f as = .ret o outs := by
  obtain ⟨e', a, b⟩ := hb (as.map some ++ List.replicate (f.ns - f.np) none) (by rw [← hp]; exact Mt.toP _)
  unfold runFn
  rw [if_pos hl, exK1 a]
  cases hf with
  | nx => dsimp only; rw [outsP_of b ho]
  | rt => dsimp only; rw [outsP_of b ho]
end
end Pd
set_option Elab.async false
set_option linter.all false
set_option maxRecDepth 100000
set_option maxHeartbeats 1000000
/-! Ty2: typed values as data, what operations do with them. -/
namespace Pd
open PySem
/-! ### as data -/
abbrev eN (n : Nat) : Dt := .int (n : Int)
abbrev eZ (i : Int) : Dt := .int i
abbrev eB (b : Bool) : Dt := .bl b
abbrev eS (x : Str) : Dt := .str x
abbrev eU (_ : Unit) : Dt := .non
abbrev eX (d : Dt) : Dt := d
/-- what is shown of data -/
abbrev eR (d : Dt) : Dt := .str (shw d)
abbrev eT {α : Type} (e : α → Dt) (xs : List α) : Dt := .tup (xs.map e)
abbrev eL {α : Type} (e : α → Dt) (xs : List α) : Dt := .lst (xs.map e)
abbrev eP2 {α β : Type} (e : α → Dt) (f : β → Dt) (p : α × β) : Dt := .tup [e p.1, f p.2]
abbrev eP3 {α β γ : Type} (e : α → Dt) (f : β → Dt) (g : γ → Dt) (p : α × β × γ) : Dt := .tup [e p.1, f p.2.1, g p.2.2]
abbrev eP4 {α β γ δ : Type} (e : α → Dt) (f : β → Dt) (g : γ → Dt) (h : δ → Dt) (p : α × β × γ × δ) : Dt := .tup [e p.1, f p.2.1, g p.2.2.1, h p.2.2.2]
def eO {α : Type} (e : α → Dt) : Option α → Dt
  | none => .non
  | some x => e x
def eD {κ τ : Type} (k : κ → Dt) (e : τ → Dt) (l : List (κ × τ)) : List (Dt × Dt) := l.map fun p => (k p.1, e p.2)

def isIn {α : Type} [DecidableEq α] (x : α) (xs : List α) : Bool := decide (x ∈ xs)
theorem isIn_iff {α : Type} [DecidableEq α] {x : α} {xs : List α} : isIn x xs = true ↔ x ∈ xs := decide_eq_true_iff
theorem isIn_not {α : Type} [DecidableEq α] {x : α} {xs : List α} : isIn x xs = false ↔ x ∉ xs := decide_eq_false_iff_not
/-! ### equality -/
structure Ed {α : Type} (e : α → Dt) (k : Nat) : Prop where
  ok : ∀ a, ∃ x, (e a).py = some x ∧ x.canLay0 = true ∧ x.depth ≤ k
  eqv : ∀ a b x y, (e a).py = some x → (e b).py = some y → (PyData.eqv x y = true ↔ a = b)
theorem Ed.mono {α : Type} {e : α → Dt} {k l : Nat} (h : Ed e k) (hl : k ≤ l) : Ed e l := ⟨fun a => let ⟨x, h1, h2, h3⟩ := h.ok a; ⟨x, h1, h2, Nat.le_trans h3 hl⟩, h.eqv⟩
theorem Ed.Z : Ed eZ 0 := ⟨fun a => ⟨.int a, rfl, rfl, Nat.le_refl _⟩, fun a b x y h1 h2 => by
  cases h1; cases h2
  show (a == b) = true ↔ _
  rw [beq_iff_eq]⟩
theorem Ed.N : Ed eN 0 := ⟨fun a => ⟨.int a, rfl, rfl, Nat.le_refl _⟩, fun a b x y h1 h2 => by
  cases h1; cases h2
  show ((a : Int) == (b : Int)) = true ↔ _
  rw [beq_iff_eq]; omega⟩
theorem Ed.B : Ed eB 0 := ⟨fun a => ⟨.bool a, rfl, rfl, Nat.le_refl _⟩, fun a b x y h1 h2 => by
  cases h1; cases h2
  show (a == b) = true ↔ _
  rw [beq_iff_eq]⟩
theorem Ed.U : Ed eU 0 := ⟨fun a => ⟨.none, rfl, rfl, Nat.le_refl _⟩, fun a b x y h1 h2 => by
  cases h1; cases h2
  exact ⟨fun _ => rfl, fun _ => rfl⟩⟩
theorem Ed.map {α : Type} {e : α → Dt} {k : Nat} (h : Ed e k) : ∀ (xs : List α), ∃ ys, pyL (xs.map e) = some ys ∧ PyData.canLayAll0 ys = true ∧ PyData.depthAll ys ≤ k
  | [] => ⟨[], rfl, rfl, Nat.zero_le _⟩
  | x :: xs => by
    obtain ⟨y, a1, a2, a3⟩ := h.ok x
    obtain ⟨ys, b1, b2, b3⟩ := h.map xs
    refine ⟨y :: ys, by simp only [List.map_cons, pyL, a1, b1], ?_, ?_⟩
    · show (y.canLay0 && PyData.canLayAll0 ys) = true
      rw [a2, b2]; rfl
    · show max _ _ ≤ k
      omega
theorem Ed.eqvL {α : Type} {e : α → Dt} {k : Nat} (h : Ed e k) : ∀ (a b : List α) (x y : List PyData), pyL (a.map e) = some x → pyL (b.map e) = some y → (PyData.eqvAll x y = true ↔ a = b)
  | [], [], x, y, h1, h2 => by cases h1; cases h2; exact ⟨fun _ => rfl, fun _ => rfl⟩
  | [], b :: bs, x, y, h1, h2 => by
    obtain ⟨z, c1, c2, c3⟩ := h.ok b
    obtain ⟨zs, d1, d2, d3⟩ := h.map bs
    cases h1
    simp only [List.map_cons, pyL, c1, d1] at h2
    cases h2
    exact ⟨fun z => (by cases z), fun z => (by cases z)⟩
  | a :: as, [], x, y, h1, h2 => by
    obtain ⟨z, c1, c2, c3⟩ := h.ok a
    obtain ⟨zs, d1, d2, d3⟩ := h.map as
    cases h2
    simp only [List.map_cons, pyL, c1, d1] at h1
    cases h1
    exact ⟨fun z => (by cases z), fun z => (by cases z)⟩
  | a :: as, b :: bs, x, y, h1, h2 => by
    obtain ⟨z, c1, c2, c3⟩ := h.ok a
    obtain ⟨zs, d1, d2, d3⟩ := h.map as
    obtain ⟨u, k1, k2, k3⟩ := h.ok b
    obtain ⟨us, l1, l2, l3⟩ := h.map bs
    simp only [List.map_cons, pyL, c1, d1] at h1
    simp only [List.map_cons, pyL, k1, l1] at h2
    cases h1
    cases h2
    show (PyData.eqv z u && PyData.eqvAll zs us) = true ↔ _
    rw [Bool.and_eq_true, h.eqv a b z u c1 k1, h.eqvL as bs zs us d1 l1, List.cons.injEq]
theorem Ed.T {α : Type} {e : α → Dt} {k : Nat} (h : Ed e k) : Ed (eT e) (k + 1) := ⟨fun a => by
    obtain ⟨ys, b1, b2, b3⟩ := h.map a
    exact ⟨.tuple ys, by simp only [Dt.py, b1], b2, Nat.succ_le_succ b3⟩, fun a b x y h1 h2 => by
    obtain ⟨xs, b1, b2, b3⟩ := h.map a
    obtain ⟨ys, c1, c2, c3⟩ := h.map b
    simp only [Dt.py, b1] at h1
    simp only [Dt.py, c1] at h2
    cases h1
    cases h2
    exact h.eqvL a b xs ys b1 c1⟩
theorem Ed.L {α : Type} {e : α → Dt} {k : Nat} (h : Ed e k) : Ed (eL e) (k + 1) := ⟨fun a => by
    obtain ⟨ys, b1, b2, b3⟩ := h.map a
    exact ⟨.list ys, by simp only [Dt.py, b1], b2, Nat.succ_le_succ b3⟩, fun a b x y h1 h2 => by
    obtain ⟨xs, b1, b2, b3⟩ := h.map a
    obtain ⟨ys, c1, c2, c3⟩ := h.map b
    simp only [Dt.py, b1] at h1
    simp only [Dt.py, c1] at h2
    cases h1
    cases h2
    exact h.eqvL a b xs ys b1 c1⟩
theorem Ed.P2 {α β : Type} {e : α → Dt} {f : β → Dt} {k l : Nat} (h : Ed e k) (g : Ed f l) : Ed (eP2 e f) (max k l + 1) := ⟨fun p => by
    obtain ⟨x, a1, a2, a3⟩ := h.ok p.1
    obtain ⟨y, b1, b2, b3⟩ := g.ok p.2
    refine ⟨.tuple [x, y], by simp only [Dt.py, pyL, a1, b1], ?_, ?_⟩
    · show (x.canLay0 && (y.canLay0 && true)) = true
      rw [a2, b2]; rfl
    · show max x.depth (max y.depth 0) + 1 ≤ _
      omega, fun p q x y h1 h2 => by
    obtain ⟨x1, a1, a2, a3⟩ := h.ok p.1
    obtain ⟨x2, b1, b2, b3⟩ := g.ok p.2
    obtain ⟨y1, c1, c2, c3⟩ := h.ok q.1
    obtain ⟨y2, d1, d2, d3⟩ := g.ok q.2
    simp only [Dt.py, pyL, a1, b1] at h1
    simp only [Dt.py, pyL, c1, d1] at h2
    cases h1
    cases h2
    show (PyData.eqv x1 y1 && (PyData.eqv x2 y2 && true)) = true ↔ _
    rw [Bool.and_true, Bool.and_eq_true, h.eqv _ _ _ _ a1 c1, g.eqv _ _ _ _ b1 d1]
    exact ⟨fun z => Prod.ext z.1 z.2, fun z => by rw [z]; exact ⟨rfl, rfl⟩⟩⟩
theorem Ed.P3 {α β γ : Type} {e : α → Dt} {f : β → Dt} {g : γ → Dt} {k l m : Nat} (h : Ed e k) (h2 : Ed f l) (h3 : Ed g m) : Ed (eP3 e f g) (max k (max l m) + 1) := ⟨fun p => by
    obtain ⟨x, a1, a2, a3⟩ := h.ok p.1
    obtain ⟨y, b1, b2, b3⟩ := h2.ok p.2.1
    obtain ⟨z, c1, c2, c3⟩ := h3.ok p.2.2
    refine ⟨.tuple [x, y, z], by simp only [Dt.py, pyL, a1, b1, c1], ?_, ?_⟩
    · show (x.canLay0 && (y.canLay0 && (z.canLay0 && true))) = true
      rw [a2, b2, c2]; rfl
    · show max x.depth (max y.depth (max z.depth 0)) + 1 ≤ _
      omega, fun p q x y h1 h4 => by
    obtain ⟨x1, a1, a2, a3⟩ := h.ok p.1
    obtain ⟨x2, b1, b2, b3⟩ := h2.ok p.2.1
    obtain ⟨x3, e1, e2, e3⟩ := h3.ok p.2.2
    obtain ⟨y1, c1, c2, c3⟩ := h.ok q.1
    obtain ⟨y2, d1, d2, d3⟩ := h2.ok q.2.1
    obtain ⟨y3, f1, f2, f3⟩ := h3.ok q.2.2
    simp only [Dt.py, pyL, a1, b1, e1] at h1
    simp only [Dt.py, pyL, c1, d1, f1] at h4
    cases h1
    cases h4
    show (PyData.eqv x1 y1 && (PyData.eqv x2 y2 && (PyData.eqv x3 y3 && true))) = true ↔ _
    rw [Bool.and_true, Bool.and_eq_true, Bool.and_eq_true, h.eqv _ _ _ _ a1 c1, h2.eqv _ _ _ _ b1 d1, h3.eqv _ _ _ _ e1 f1]
    exact ⟨fun z => Prod.ext z.1 (Prod.ext z.2.1 z.2.2), fun z => by rw [z]; exact ⟨rfl, rfl, rfl⟩⟩⟩
/-- data that is never None -/
def Nn {α : Type} (e : α → Dt) : Prop := ∀ a x, (e a).py = some x → PyData.eqv .none x = false ∧ PyData.eqv x .none = false
theorem Nn.Z : Nn eZ := fun a x h => by cases h; exact ⟨rfl, rfl⟩
theorem Nn.N : Nn eN := fun a x h => by cases h; exact ⟨rfl, rfl⟩
theorem Nn.B : Nn eB := fun a x h => by cases h; exact ⟨rfl, rfl⟩
theorem Nn.tup {α : Type} {e : α → Dt} (h : ∀ a, ∃ xs, e a = .tup xs) : Nn e := fun a x k => by
  obtain ⟨xs, e1⟩ := h a
  rw [e1] at k
  simp only [Dt.py] at k
  split at k
  · cases k; exact ⟨rfl, rfl⟩
  · cases k
theorem Nn.lst {α : Type} {e : α → Dt} (h : ∀ a, ∃ xs, e a = .lst xs) : Nn e := fun a x k => by
  obtain ⟨xs, e1⟩ := h a
  rw [e1] at k
  simp only [Dt.py] at k
  split at k
  · cases k; exact ⟨rfl, rfl⟩
  · cases k
theorem Ed.O {α : Type} {e : α → Dt} {k : Nat} (h : Ed e k) (n : Nn e) : Ed (eO e) k := ⟨fun a => by
    cases a with
    | none => exact ⟨.none, rfl, rfl, Nat.zero_le _⟩
    | some a => exact h.ok a, fun a b x y h1 h2 => by
    cases a with
    | none =>
      cases b with
      | none => cases h1; cases h2; exact ⟨fun _ => rfl, fun _ => rfl⟩
      | some b =>
        cases h1
        rw [(n b y h2).1]
        exact ⟨fun z => (by cases z), fun z => (by cases z)⟩
    | some a =>
      cases b with
      | none =>
        cases h2
        rw [(n a x h1).2]
        exact ⟨fun z => (by cases z), fun z => (by cases z)⟩
      | some b => rw [h.eqv a b x y h1 h2, Option.some.injEq]⟩
theorem Ed.is {α : Type} {e : α → Dt} {k : Nat} (h : Ed e k) (hk : k ≤ 64) [DecidableEq α] (a b : α) : eqvD (e a) (e b) = some (decide (a = b)) := by
  obtain ⟨x, a1, a2, a3⟩ := h.ok a
  obtain ⟨y, b1, b2, b3⟩ := h.ok b
  unfold eqvD
  rw [a1, b1]
  dsimp only
  have s1 : SeqAt.shaped x = true := by
    show (x.canLay0 && decide (x.depth ≤ 64)) = true
    rw [a2, decide_eq_true (by omega)]; rfl
  have s2 : SeqAt.shaped y = true := by
    show (y.canLay0 && decide (y.depth ≤ 64)) = true
    rw [b2, decide_eq_true (by omega)]; rfl
  rw [s1, s2]
  simp only [Bool.and_self, if_true, Option.some.injEq]
  rw [Bool.eq_iff_iff, h.eqv a b x y a1 b1, decide_eq_true_eq]
namespace S
section
variable {α β γ δ κ τ : Type} {e : α → Dt} {k : Nat}
theorem eq [DecidableEq α] (h : Ed e k) (hk : k ≤ 64) (a b : α) : Pr.sem .eq [e a, e b] = some (.imm (eB (decide (a = b)))) := by
  simp only [Pr.sem, h.is hk, i1]
theorem ne [DecidableEq α] (h : Ed e k) (hk : k ≤ 64) (a b : α) : Pr.sem .ne [e a, e b] = some (.imm (eB (decide (a ≠ b)))) := by
  simp only [Pr.sem, h.is hk, i1, decide_not]
/-- two shown texts, where they are the same -/
theorem eqR {a b : Dt} (hs : PyData.strOk (shw a) = true) (h : a = b) : Pr.sem .eq [eR a, eR b] = some (.imm (eB true)) := by
  subst h
  simp only [Pr.sem, eqv_shw hs, i1]
theorem neR {a b : Dt} (hs : PyData.strOk (shw a) = true) (h : a = b) : Pr.sem .ne [eR a, eR b] = some (.imm (eB false)) := by
  subst h
  simp only [Pr.sem, eqv_shw hs, i1]; rfl
theorem addN (a b : Nat) : Pr.sem .add [eN a, eN b] = some (.imm (eN (a + b))) := rfl
theorem addZ (a b : Int) : Pr.sem .add [eZ a, eZ b] = some (.imm (eZ (a + b))) := rfl
theorem subZ (a b : Int) : Pr.sem .sub [eZ a, eZ b] = some (.imm (eZ (a - b))) := rfl
theorem negZ (a : Int) : Pr.sem .neg [eZ a] = some (.imm (eZ (-a))) := rfl
theorem mulZ {a b : Int} (h : okMul a b = true) : Pr.sem .mul [eZ a, eZ b] = some (.imm (eZ (a * b))) := by
  simp only [Pr.sem, h, if_true, i1]
theorem mulN {a b : Nat} (h : okMul (a : Int) (b : Int) = true) : Pr.sem .mul [eN a, eN b] = some (.imm (eN (a * b))) := by
  have := mulZ h
  rw [this]
  simp only [eZ, eN, Int.natCast_mul]
theorem fdivN {a b : Nat} (h : 0 < b ∧ b.log2 < 9000) : Pr.sem .fdiv [eN a, eN b] = some (.imm (eN (a / b))) := by
  simp only [Pr.sem]
  rw [if_pos (show (0 : Int) < (b : Int) ∧ (b : Int).natAbs.log2 < 9000 from ⟨by omega, by simpa using h.2⟩)]
  simp only [i1, eN, Int.natCast_ediv]
theorem fdivZ {a b : Int} (h : 0 < b ∧ b.natAbs.log2 < 9000) : Pr.sem .fdiv [eZ a, eZ b] = some (.imm (eZ (a / b))) := by
  simp only [Pr.sem]
  rw [if_pos h]; rfl
theorem modN {a b : Nat} (h : 0 < b) : Pr.sem .mod [eN a, eN b] = some (.imm (eN (a % b))) := by
  simp only [Pr.sem]
  rw [if_pos (show (0 : Int) < (b : Int) by omega)]
  simp only [i1, eN, Int.natCast_emod]
theorem modZ {a b : Int} (h : 0 < b) : Pr.sem .mod [eZ a, eZ b] = some (.imm (eZ (a % b))) := by
  simp only [Pr.sem]
  rw [if_pos h]; rfl
theorem ltN (a b : Nat) : Pr.sem .lt [eN a, eN b] = some (.imm (eB (decide (a < b)))) := by
  simp only [Pr.sem, i1, Int.ofNat_lt]
theorem leN (a b : Nat) : Pr.sem .le [eN a, eN b] = some (.imm (eB (decide (a ≤ b)))) := by
  simp only [Pr.sem, i1, Int.ofNat_le]
theorem gtN (a b : Nat) : Pr.sem .gt [eN a, eN b] = some (.imm (eB (decide (b < a)))) := by
  simp only [Pr.sem, i1, Int.ofNat_lt]
theorem geN (a b : Nat) : Pr.sem .ge [eN a, eN b] = some (.imm (eB (decide (b ≤ a)))) := by
  simp only [Pr.sem, i1, Int.ofNat_le]
theorem ltZ (a b : Int) : Pr.sem .lt [eZ a, eZ b] = some (.imm (eB (decide (a < b)))) := rfl
theorem leZ (a b : Int) : Pr.sem .le [eZ a, eZ b] = some (.imm (eB (decide (a ≤ b)))) := rfl
theorem gtZ (a b : Int) : Pr.sem .gt [eZ a, eZ b] = some (.imm (eB (decide (b < a)))) := rfl
theorem geZ (a b : Int) : Pr.sem .ge [eZ a, eZ b] = some (.imm (eB (decide (b ≤ a)))) := rfl
theorem isNO (h : ∀ a, (e a).isN = false) (a : Option α) : Pr.sem .isN [eO e a] = some (.imm (eB a.isNone)) := by
  cases a with
  | none => rfl
  | some a => show i1 (.bl (e a).isN) = _; rw [h]; rfl
theorem notNO (h : ∀ a, (e a).isN = false) (a : Option α) : Pr.sem .notN [eO e a] = some (.imm (eB a.isSome)) := by
  cases a with
  | none => rfl
  | some a => show i1 (.bl (!(e a).isN)) = _; rw [h]; rfl
theorem isB (b c : Bool) : Pr.sem (.isB b) [eB c] = some (.imm (eB (c == b))) := rfl
theorem inD_ [DecidableEq α] (h : Ed e k) (hk : k ≤ 63) (x : α) (xs : List α) : inD (e x) (xs.map e) = some (decide (x ∈ xs)) := by
  obtain ⟨y, a1, a2, a3⟩ := h.ok x
  obtain ⟨ys, b1, b2, b3⟩ := h.map xs
  unfold inD
  rw [a1, b1]
  dsimp only
  have s1 : SeqAt.shaped y = true := by
    show (y.canLay0 && decide (y.depth ≤ 64)) = true
    rw [a2, decide_eq_true (by omega)]; rfl
  have s2 : SeqAt.shaped (.list ys) = true := by
    show (PyData.canLayAll0 ys && decide (PyData.depthAll ys + 1 ≤ 64)) = true
    rw [b2, decide_eq_true (by omega)]; rfl
  rw [s1, s2]
  simp only [Bool.and_self, if_true, Option.some.injEq]
  rw [Bool.eq_iff_iff, decide_eq_true_eq, List.any_eq_true]
  clear s2 b2 b3
  induction xs generalizing ys with
  | nil => cases b1; simp
  | cons z zs ih =>
    obtain ⟨u, c1, c2, c3⟩ := h.ok z
    obtain ⟨us, d1, d2, d3⟩ := h.map zs
    simp only [List.map_cons, pyL, c1, d1] at b1
    cases b1
    have := ih us d1
    simp only [List.mem_cons, exists_eq_or_imp, h.eqv z x u y c1 a1, this]
    exact ⟨fun q => q.elim (fun q => .inl q.symm) .inr, fun q => q.elim (fun q => .inl q.symm) .inr⟩
theorem inL [DecidableEq α] (h : Ed e k) (hk : k ≤ 63) (x : α) (xs : List α) : Pr.sem .isIn [e x, eL e xs] = some (.imm (eB (isIn x xs))) := by
  simp only [Pr.sem, inD_ h hk, i1, isIn]
theorem notInL [DecidableEq α] (h : Ed e k) (hk : k ≤ 63) (x : α) (xs : List α) : Pr.sem .notIn [e x, eL e xs] = some (.imm (eB (!isIn x xs))) := by
  simp only [Pr.sem, inD_ h hk, i1, isIn]
theorem inT (x : Nat) (xs : List Nat) : Pr.sem .isIn [eN x, eT eN xs] = some (.imm (eB (isIn x xs))) := sem_in x xs
theorem notInT (x : Nat) (xs : List Nat) : Pr.sem .notIn [eN x, eT eN xs] = some (.imm (eB (!isIn x xs))) := by
  have h : (if (flatD (eN x) && (List.map eN xs).all flatD) = true then i1 (.bl ((List.map eN xs).any fun z => eqF z (eN x))) else none) = some (.imm (.bl (decide (x ∈ xs)))) := sem_in x xs
  show (if (flatD (eN x) && (List.map eN xs).all flatD) = true then i1 (.bl (!(List.map eN xs).any fun z => eqF z (eN x))) else none) = _
  by_cases hc : (flatD (eN x) && (List.map eN xs).all flatD) = true
  · rw [if_pos hc] at h ⊢
    have h2 : ((List.map eN xs).any fun z => eqF z (eN x)) = decide (x ∈ xs) := by simpa only [i1, Option.some.injEq, Ow1.imm.injEq, Dt.bl.injEq] using h
    rw [h2]; rfl
  · rw [if_neg hc] at h; cases h
theorem lenL (xs : List α) : Pr.sem .len [eL e xs] = some (.imm (eN xs.length)) := by simp [Pr.sem, i1]
theorem lenT (xs : List α) : Pr.sem .len [eT e xs] = some (.imm (eN xs.length)) := by simp [Pr.sem, i1]
theorem lenD {ek : κ → Dt} {ev : τ → Dt} (l : List (κ × τ)) : Pr.sem .len [.dic (eD ek ev l)] = some (.imm (eN l.length)) := by simp [Pr.sem, i1, eD]
theorem atD_N {xs : List α} {i : Nat} {x : α} (h : xs[i]? = some x) : atD (xs.map e) (i : Int) = some (e x) := by
  unfold atD
  rw [if_pos (by omega), Int.toNat_natCast, List.getElem?_map, h]; rfl
theorem ixL {xs : List α} {i : Nat} {x : α} (h : xs[i]? = some x) : Pr.sem .ix [eL e xs, eN i] = some (.imm (e x)) := by
  simp only [Pr.sem, atD_N h, i1]
theorem ixT {xs : List α} {i : Nat} {x : α} (h : xs[i]? = some x) : Pr.sem .ix [eT e xs, eN i] = some (.imm (e x)) := by
  simp only [Pr.sem, atD_N h, i1]
end
end S
/-- a place, also from the end -/
def atZ {α : Type} (xs : List α) (i : Int) : Option α := if 0 ≤ i then xs[i.toNat]? else if -(xs.length : Int) ≤ i then xs[(i + xs.length).toNat]? else none
def toN (i : Int) : Option Nat := if 0 ≤ i then some i.toNat else none
theorem toN_some {i : Int} {n : Nat} (h : toN i = some n) : i = (n : Int) := by
  unfold toN at h
  by_cases z : 0 ≤ i
  · rw [if_pos z] at h; cases h; exact (Int.toNat_of_nonneg z).symm
  · rw [if_neg z] at h; cases h
def lkp {κ τ : Type} [DecidableEq κ] (x : κ) : List (κ × τ) → Option τ
  | [] => none
  | (a, v) :: r => if a = x then some v else lkp x r
def putT {κ τ : Type} [DecidableEq κ] (x : κ) (v : τ) (l : List (κ × τ)) : List (κ × τ) :=
  if (lkp x l).isSome then l.map (fun p => if p.1 = x then (p.1, v) else p) else l ++ [(x, v)]
def sortN (l : List Nat) : List Nat := (sortI (l.map fun (k : Nat) => (k : Int))).map Int.toNat
def mostN : List Nat → Option Nat
  | [] => none
  | x :: xs => some (xs.foldl max x)
def leastN : List Nat → Option Nat
  | [] => none
  | x :: xs => some (xs.foldl min x)
def mostZ : List Int → Option Int
  | [] => none
  | x :: xs => some (mostL x xs)
def leastZ : List Int → Option Int
  | [] => none
  | x :: xs => some (leastL x xs)
def enumT {α : Type} : Nat → List α → List (Nat × α)
  | _, [] => []
  | k, x :: xs => (k, x) :: enumT (k + 1) xs
def rngT (lo hi : Nat) : List Nat := List.range' lo (hi - lo)
def rngZ (lo hi : Int) : List Int := (List.range (hi - lo).toNat).map fun (k : Nat) => lo + (k : Int)
open Classical in
/-- what is shown: plain and small -/
noncomputable def shwG (d : Dt) : Option Dt := if Fit d then some d else none
theorem shwG_some {d r : Dt} (h : shwG d = some r) : Fit d ∧ r = d := by
  unfold shwG at h
  by_cases q : Fit d
  · rw [if_pos q] at h; cases h; exact ⟨q, rfl⟩
  · rw [if_neg q] at h; cases h
theorem shwG_fit {d : Dt} (h : Fit d) : shwG d = some d := by unfold shwG; rw [if_pos h]
open Classical in
/-- two shown ones are compared only where they are the same and plain -/
noncomputable def sameR (a b : Dt) : Option Bool := if a = b ∧ PyData.strOk (shw a) = true then some true else none
theorem sameR_some {a b : Dt} {r : Bool} (h : sameR a b = some r) : a = b ∧ PyData.strOk (shw a) = true ∧ r = true := by
  unfold sameR at h
  by_cases q : a = b ∧ PyData.strOk (shw a) = true
  · rw [if_pos q] at h; cases h; exact ⟨q.1, q.2, rfl⟩
  · rw [if_neg q] at h; cases h
theorem sameR_fit {a : Dt} (h : Fit a) : sameR a a = some true := by unfold sameR; rw [if_pos ⟨rfl, h.s⟩]
/-- keys: ints, texts, or rows of them, told apart -/
structure Ke {κ : Type} (ek : κ → Dt) : Prop where
  get : ∀ a, ∃ k, (ek a).key = some k
  inj : ∀ a b, (ek a).key = (ek b).key → a = b
  like : ∀ a b k v r, (ek b).key = some k → kOk k ((ek a, v) :: r) = true
theorem Ke.N : Ke eN := ⟨fun a => ⟨_, rfl⟩, fun a b h => by simp only [Dt.key, Option.some.injEq, Sum.inl.injEq] at h; omega, fun a b k v r h => by cases h; rfl⟩
theorem Ke.Z : Ke eZ := ⟨fun a => ⟨_, rfl⟩, fun a b h => by simpa [Dt.key] using h, fun a b k v r h => by cases h; rfl⟩
theorem Ke.S : Ke eS := ⟨fun a => ⟨_, rfl⟩, fun a b h => by simpa [Dt.key] using h, fun a b k v r h => by cases h; rfl⟩
theorem key_goZ : ∀ (l : List Int), Dt.key.go (l.map .int) = some (l.map .inl)
  | [] => rfl
  | x :: l => by simp only [List.map_cons, Dt.key.go, key_goZ l]
theorem key_goN : ∀ (l : List Nat), Dt.key.go (l.map eN) = some (l.map fun (k : Nat) => .inl (k : Int))
  | [] => rfl
  | x :: l => by simp only [List.map_cons, Dt.key.go, key_goN l]
theorem Ke.TN : Ke (eT eN) := ⟨fun a => ⟨_, by simp only [Dt.key, key_goN]; rfl⟩, fun a b h => by
    simp only [Dt.key, key_goN, Option.map_some, Option.some.injEq, Sum.inr.injEq] at h
    have : ∀ (a b : List Nat), (a.map fun (k : Nat) => (Sum.inl (k : Int) : Sum Int Str)) = (b.map fun (k : Nat) => Sum.inl (k : Int)) → a = b := by
      intro a
      induction a with
      | nil => intro b h; cases b <;> simp at h ⊢
      | cons x a ih =>
        intro b h
        cases b with
        | nil => simp at h
        | cons y b =>
          simp only [List.map_cons, List.cons.injEq, Sum.inl.injEq] at h
          rw [ih b h.2, show x = y by omega]
    exact this a b h, fun a b k v r h => by
    simp only [Dt.key, key_goN, Option.map_some, Option.some.injEq] at h
    subst h
    simp only [kOk, Dt.key, key_goN, Option.map_some]⟩
theorem Ke.P2N : Ke (eP2 eN eN) := ⟨fun a => ⟨_, rfl⟩, fun a b h => by
    simp only [Dt.key, Dt.key.go, Option.map_some, Option.some.injEq, Sum.inr.injEq, List.cons.injEq, Sum.inl.injEq] at h
    exact Prod.ext (by omega) (by omega), fun a b k v r h => by cases h; rfl⟩
theorem Ke.P3N : Ke (eP3 eN eN eN) := ⟨fun a => ⟨_, rfl⟩, fun a b h => by
    simp only [Dt.key, Dt.key.go, Option.map_some, Option.some.injEq, Sum.inr.injEq, List.cons.injEq, Sum.inl.injEq] at h
    exact Prod.ext (by omega) (Prod.ext (by omega) (by omega)), fun a b k v r h => by cases h; rfl⟩
namespace S
section
variable {α β γ δ κ τ : Type} {e : α → Dt} {k : Nat}
theorem atD_Z {xs : List α} {i : Int} {x : α} (h : atZ xs i = some x) : atD (xs.map e) i = some (e x) := by
  unfold atZ at h
  unfold atD
  by_cases z : 0 ≤ i
  · rw [if_pos z] at h ⊢
    rw [List.getElem?_map, h]; rfl
  · rw [if_neg z] at h ⊢
    rw [List.length_map]
    by_cases y : -(xs.length : Int) ≤ i
    · rw [if_pos y] at h ⊢
      rw [List.getElem?_map, h]; rfl
    · rw [if_neg y] at h; cases h
theorem ixLZ {xs : List α} {i : Int} {x : α} (h : atZ xs i = some x) : Pr.sem .ix [eL e xs, eZ i] = some (.imm (e x)) := by
  simp only [Pr.sem, atD_Z h, i1]
theorem ixTZ {xs : List α} {i : Int} {x : α} (h : atZ xs i = some x) : Pr.sem .ix [eT e xs, eZ i] = some (.imm (e x)) := by
  simp only [Pr.sem, atD_Z h, i1]
section
variable [DecidableEq κ] {ek : κ → Dt} {ev : τ → Dt}
theorem find {x : κ} {k} (K : Ke ek) (hk : (ek x).key = some k) : ∀ (l : List (κ × τ)), findK k (eD ek ev l) = (lkp x l).map ev
  | [] => rfl
  | (a, v) :: l => by
    show (if (ek a).key = some k then some (ev v) else findK k (eD ek ev l)) = _
    unfold lkp
    by_cases z : a = x
    · rw [if_pos z, if_pos (by rw [z]; exact hk)]; rfl
    · rw [if_neg z, if_neg (fun h => z (K.inj a x (h.trans hk.symm))), find K hk l]
theorem kok {x : κ} {k} (K : Ke ek) (hk : (ek x).key = some k) : ∀ (l : List (κ × τ)), kOk k (eD ek ev l) = true
  | [] => rfl
  | (a, v) :: l => K.like a x k _ _ hk
theorem inD (K : Ke ek) (x : κ) (l : List (κ × τ)) : Pr.sem .isIn [ek x, .dic (eD ek ev l)] = some (.imm (eB (lkp x l).isSome)) := by
  obtain ⟨k, hk⟩ := K.get x
  simp only [Pr.sem, hk, kok K hk, if_true, find K hk, Option.isSome_map, i1]
theorem notInD (K : Ke ek) (x : κ) (l : List (κ × τ)) : Pr.sem .notIn [ek x, .dic (eD ek ev l)] = some (.imm (eB (lkp x l).isNone)) := by
  obtain ⟨k, hk⟩ := K.get x
  simp only [Pr.sem, hk, kok K hk, if_true, find K hk, Option.isSome_map, i1]
  cases lkp x l <;> rfl
theorem ixD (K : Ke ek) {x : κ} {l : List (κ × τ)} {v : τ} (h : lkp x l = some v) : Pr.sem .ix [.dic (eD ek ev l), ek x] = some (.imm (ev v)) := by
  obtain ⟨k, hk⟩ := K.get x
  simp only [Pr.sem, hk, kok K hk, if_true, find K hk, h, Option.map_some, i1]
theorem any_key {x : κ} {k} (K : Ke ek) (hk : (ek x).key = some k) : ∀ (l : List (κ × τ)), (eD ek ev l).any (fun p => decide (p.1.key = some k)) = (lkp x l).isSome
  | [] => rfl
  | (a, v) :: l => by
    show (decide ((ek a).key = some k) || (eD ek ev l).any _) = _
    unfold lkp
    rw [any_key K hk l]
    by_cases z : a = x
    · rw [if_pos z, decide_eq_true (by rw [z]; exact hk)]; rfl
    · rw [if_neg z, decide_eq_false (fun h => z (K.inj a x (h.trans hk.symm)))]; rfl
theorem put {x : κ} {k} (K : Ke ek) (hk : (ek x).key = some k) (v : τ) (l : List (κ × τ)) : putD k (ek x) (ev v) (eD ek ev l) = eD ek ev (putT x v l) := by
  unfold putD putT
  rw [any_key K hk]
  by_cases z : (lkp x l).isSome = true
  · rw [if_pos z, if_pos z]
    unfold eD
    rw [List.map_map, List.map_map]
    refine List.map_congr_left fun p _ => ?_
    simp only [Function.comp]
    by_cases y : p.1 = x
    · rw [if_pos y, if_pos (by rw [y]; exact hk)]
    · rw [if_neg y, if_neg (fun h => y (K.inj p.1 x (h.trans hk.symm)))]
  · rw [if_neg z, if_neg z]
    simp [eD]
end
theorem addL {a b : List α} (h : a.length + b.length ≤ sizeLine) : Pr.sem .add [eL e a, eL e b] = some (.lst ((a ++ b).map e)) := by
  simp only [Pr.sem, List.length_map, if_pos h, List.map_append]
theorem addT {a b : List α} (h : a.length + b.length ≤ sizeLine) : Pr.sem .add [eT e a, eT e b] = some (.imm (eT e (a ++ b))) := by
  simp only [Pr.sem, List.length_map, if_pos h, i1, eT, List.map_append]
theorem addS {a b : Str} (h : a.length + b.length ≤ sizeLine) : Pr.sem .add [eS a, eS b] = some (.imm (eS (a ++ b))) := by
  show (if a.length + b.length ≤ sizeLine then i1 (.str (a ++ b)) else none) = _
  rw [if_pos h]; rfl
theorem rep_map (a : List α) (n : Nat) : (List.replicate n (a.map e)).flatten = ((List.replicate n a).flatten).map e := by
  induction n with
  | zero => rfl
  | succ n ih => rw [List.replicate_succ, List.flatten_cons, ih, List.replicate_succ, List.flatten_cons, List.map_append]
theorem mulL {a : List α} {n : Nat} (h : n < 2 ^ 63 ∧ a.length * n ≤ sizeLine) : Pr.sem .mul [eL e a, eN n] = some (.lst (((List.replicate n a).flatten).map e)) := by
  simp only [Pr.sem, List.length_map]
  rw [if_pos ⟨by omega, by omega, by rw [Int.toNat_natCast]; exact h.2⟩, Int.toNat_natCast, rep_map]
theorem mulT {a : List α} {n : Nat} (h : n < 2 ^ 63 ∧ a.length * n ≤ sizeLine) : Pr.sem .mul [eT e a, eN n] = some (.imm (eT e ((List.replicate n a).flatten))) := by
  simp only [Pr.sem, List.length_map]
  rw [if_pos ⟨by omega, by omega, by rw [Int.toNat_natCast]; exact h.2⟩, Int.toNat_natCast, rep_map]; rfl
theorem cutD_take (xs : List α) (n : Nat) : cutD (xs.map e) none (some (n : Int)) = (xs.take n).map e := by
  unfold cutD cutN
  simp only [List.drop_zero, Nat.sub_zero]
  rw [if_neg (by omega), Int.toNat_natCast, List.length_map, List.map_take]
  by_cases h : n ≤ xs.length
  · rw [Nat.min_eq_left h]
  · rw [Nat.min_eq_right (by omega), List.take_of_length_le (by simp), List.take_of_length_le (by simp; omega)]
theorem cutD_drop (xs : List α) (n : Nat) : cutD (xs.map e) (some (n : Int)) none = (xs.drop n).map e := by
  unfold cutD cutN
  simp only
  rw [if_neg (by omega), Int.toNat_natCast, List.length_map, List.take_of_length_le (by simp), List.map_drop]
  by_cases h : n ≤ xs.length
  · rw [Nat.min_eq_left h]
  · rw [Nat.min_eq_right (by omega), List.drop_of_length_le (by simp), List.drop_of_length_le (by simp; omega)]
theorem cutD_mid (xs : List α) (m n : Nat) : cutD (xs.map e) (some (m : Int)) (some (n : Int)) = ((xs.drop m).take (n - m)).map e := by
  unfold cutD cutN
  simp only
  rw [if_neg (by omega), if_neg (by omega), Int.toNat_natCast, Int.toNat_natCast, List.length_map, List.map_take, List.map_drop]
  by_cases h : m ≤ xs.length
  · rw [Nat.min_eq_left h]
    by_cases h2 : n ≤ xs.length
    · rw [Nat.min_eq_left h2]
    · rw [Nat.min_eq_right (by omega), List.take_of_length_le (by simp), List.take_of_length_le (by simp; omega)]
  · rw [List.drop_of_length_le (by simp; omega), List.drop_of_length_le (by simp; omega)]
    simp
theorem takeL (xs : List α) (n : Nat) : Pr.sem (.cut false true) [eL e xs, eN n] = some (.lst ((xs.take n).map e)) := by simp only [Pr.sem, cutD_take]
theorem takeT (xs : List α) (n : Nat) : Pr.sem (.cut false true) [eT e xs, eN n] = some (.imm (eT e (xs.take n))) := by simp only [Pr.sem, cutD_take, i1]
theorem dropL (xs : List α) (n : Nat) : Pr.sem (.cut true false) [eL e xs, eN n] = some (.lst ((xs.drop n).map e)) := by simp only [Pr.sem, cutD_drop]
theorem dropT (xs : List α) (n : Nat) : Pr.sem (.cut true false) [eT e xs, eN n] = some (.imm (eT e (xs.drop n))) := by simp only [Pr.sem, cutD_drop, i1]
theorem midL (xs : List α) (m n : Nat) : Pr.sem (.cut true true) [eL e xs, eN m, eN n] = some (.lst (((xs.drop m).take (n - m)).map e)) := by simp only [Pr.sem, cutD_mid]
theorem midT (xs : List α) (m n : Nat) : Pr.sem (.cut true true) [eT e xs, eN m, eN n] = some (.imm (eT e ((xs.drop m).take (n - m)))) := by simp only [Pr.sem, cutD_mid, i1]
theorem copyL (xs : List α) : Pr.sem (.cut false false) [eL e xs] = some (.lst (xs.map e)) := rfl
theorem revL (xs : List α) : Pr.sem .rev [eL e xs] = some (.lst (xs.reverse.map e)) := by simp only [Pr.sem, List.map_reverse]
theorem absZ (a : Int) : Pr.sem .abs [eZ a] = some (.imm (eN a.natAbs)) := by
  simp only [Pr.sem, i1]
  congr 2
  rw [Dt.int.injEq]
  split <;> omega
theorem maxN (a b : Nat) : Pr.sem .max2 [eN a, eN b] = some (.imm (eN (max a b))) := by
  simp only [Pr.sem, i1]
  congr 2
  rw [Dt.int.injEq]
  split <;> omega
theorem minN (a b : Nat) : Pr.sem .min2 [eN a, eN b] = some (.imm (eN (min a b))) := by
  simp only [Pr.sem, i1]
  congr 2
  rw [Dt.int.injEq]
  split <;> omega
theorem maxZ (a b : Int) : Pr.sem .max2 [eZ a, eZ b] = some (.imm (eZ (max a b))) := by
  simp only [Pr.sem, i1]
  congr 2
  rw [Dt.int.injEq]
  split <;> omega
theorem minZ (a b : Int) : Pr.sem .min2 [eZ a, eZ b] = some (.imm (eZ (min a b))) := by
  simp only [Pr.sem, i1]
  congr 2
  rw [Dt.int.injEq]
  split <;> omega
theorem intZ (a : Int) : Pr.sem .int [eZ a] = some (.imm (eZ a)) := rfl
theorem intB (b : Bool) : Pr.sem .int [eB b] = some (.imm (eN b.toNat)) := by cases b <;> rfl
theorem repr {d r : Dt} (h : shwG d = some r) : Pr.sem .repr [d] = some (.imm (eR r)) := by
  obtain ⟨q, rfl⟩ := shwG_some h
  exact q.r
theorem tupleL (xs : List α) : Pr.sem .tuple [eL e xs] = some (.imm (eT e xs)) := rfl
theorem tupleT (xs : List α) : Pr.sem .tuple [eT e xs] = some (.imm (eT e xs)) := rfl
theorem listL (xs : List α) : Pr.sem .list [eL e xs] = some (.lst (xs.map e)) := rfl
theorem listT (xs : List α) : Pr.sem .list [eT e xs] = some (.lst (xs.map e)) := rfl
theorem lrng {n : Nat} (h : n ≤ 16777216) : Pr.sem .lrng [eN n] = some (.lst ((List.range n).map eN)) := by
  simp only [Pr.sem]
  rw [if_pos (by omega), Int.toNat_natCast]
theorem toInts_Z : ∀ (l : List Int), toInts (l.map eZ) = some l
  | [] => rfl
  | x :: l => by
    show (match toInts (l.map eZ) with | some is => some (x :: is) | none => none) = _
    rw [toInts_Z l]
theorem sortI_nn : ∀ {l : List Nat}, ((sortI (l.map fun (k : Nat) => (k : Int))).map Int.toNat).map (fun (k : Nat) => (k : Int)) = sortI (l.map fun (k : Nat) => (k : Int)) := by
  intro l
  rw [List.map_map]
  conv => rhs; rw [← List.map_id (sortI (l.map fun (k : Nat) => (k : Int)))]
  refine List.map_congr_left fun x hx => ?_
  obtain ⟨k, _, rfl⟩ := List.mem_map.mp (sortI_mem hx)
  rfl
theorem sortedN (l : List Nat) : Pr.sem .sorted [eL eN l] = some (.lst ((sortN l).map eN)) := by
  have h : toInts (l.map eN) = some (l.map fun (k : Nat) => (k : Int)) := toInts_nL l
  simp only [Pr.sem, h]
  congr 2
  unfold sortN
  have := sortI_nn (l := l)
  conv => lhs; rw [← this]
  simp [List.map_map, Function.comp_def]
theorem sortedZ (l : List Int) : Pr.sem .sorted [eL eZ l] = some (.lst ((sortI l).map eZ)) := by
  simp only [Pr.sem, toInts_Z]
theorem sortedDN {ev : τ → Dt} {l : List (Nat × τ)} (h : 0 < l.length ∧ l.length < 63) : Pr.sem .sorted [.dic (eD eN ev l)] = some (.lst ((sortN (l.map (·.1))).map eN)) := by
  have e1 : eD eN ev l = nD (l.map fun p => (p.1, ev p.2)) := by simp [eD, nD]
  rw [e1, sem_sortedD (by simpa using h.1) (by simpa using h.2)]
  congr 2
  unfold sortN
  have := sortI_nn (l := l.map (·.1))
  have e2 : ((l.map fun p => (p.1, ev p.2)).map fun x => x.1) = l.map fun x => x.1 := by rw [List.map_map]; rfl
  rw [e2]
  conv => lhs; rw [← this]
  simp [List.map_map, Function.comp_def]
theorem sumN (l : List Nat) : Pr.sem .sum [eL eN l] = some (.imm (eN l.sum)) := by
  have h : toInts (l.map eN) = some (l.map fun (k : Nat) => (k : Int)) := toInts_nL l
  simp only [Pr.sem, h, i1]
  congr 2
  rw [Dt.int.injEq]
  induction l with
  | nil => rfl
  | cons x l ih => simp only [List.map_cons, List.sum_cons, ih (toInts_nL l)]; omega
theorem sumZ (l : List Int) : Pr.sem .sum [eL eZ l] = some (.imm (eZ l.sum)) := by
  simp only [Pr.sem, toInts_Z, i1]
theorem mostL_N : ∀ (l : List Nat) (x : Nat), mostL (x : Int) (l.map fun (k : Nat) => (k : Int)) = ((l.foldl max x : Nat) : Int)
  | [], x => rfl
  | y :: l, x => by
    simp only [List.map_cons, mostL, List.foldl_cons]
    rw [← mostL_N l (max x y)]
    congr 1
    split <;> omega
theorem leastL_N : ∀ (l : List Nat) (x : Nat), leastL (x : Int) (l.map fun (k : Nat) => (k : Int)) = ((l.foldl min x : Nat) : Int)
  | [], x => rfl
  | y :: l, x => by
    simp only [List.map_cons, leastL, List.foldl_cons]
    rw [← leastL_N l (min x y)]
    congr 1
    split <;> omega
theorem maxLN {l : List Nat} {m : Nat} (h : mostN l = some m) : Pr.sem .maxL [eL eN l] = some (.imm (eN m)) := by
  cases l with
  | nil => cases h
  | cons x l =>
    cases h
    have h : toInts ((x :: l).map eN) = some ((x : Int) :: l.map fun (k : Nat) => (k : Int)) := toInts_nL _
    simp only [Pr.sem, h, i1, mostL_N]
theorem minLN {l : List Nat} {m : Nat} (h : leastN l = some m) : Pr.sem .minL [eL eN l] = some (.imm (eN m)) := by
  cases l with
  | nil => cases h
  | cons x l =>
    cases h
    have h : toInts ((x :: l).map eN) = some ((x : Int) :: l.map fun (k : Nat) => (k : Int)) := toInts_nL _
    simp only [Pr.sem, h, i1, leastL_N]
theorem maxLZ {l : List Int} {m : Int} (h : mostZ l = some m) : Pr.sem .maxL [eL eZ l] = some (.imm (eZ m)) := by
  cases l with
  | nil => cases h
  | cons x l =>
    cases h
    have h := toInts_Z (x :: l)
    simp only [Pr.sem, h, i1]
theorem minLZ {l : List Int} {m : Int} (h : leastZ l = some m) : Pr.sem .minL [eL eZ l] = some (.imm (eZ m)) := by
  cases l with
  | nil => cases h
  | cons x l =>
    cases h
    have h := toInts_Z (x :: l)
    simp only [Pr.sem, h, i1]
theorem toBls_B : ∀ (l : List Bool), toBls (l.map eB) = some l
  | [] => rfl
  | x :: l => by
    show (match toBls (l.map eB) with | some is => some (x :: is) | none => none) = _
    rw [toBls_B l]
theorem anyB (l : List Bool) : Pr.sem .any [eL eB l] = some (.imm (eB (l.any id))) := by simp only [Pr.sem, toBls_B, i1]
theorem allB (l : List Bool) : Pr.sem .all [eL eB l] = some (.imm (eB (l.all id))) := by simp only [Pr.sem, toBls_B, i1]
/-! truth -/
theorem truL (xs : List α) : (eL e xs).tru = some (!xs.isEmpty) := by cases xs <;> rfl
theorem truT (xs : List α) : (eT e xs).tru = some (!xs.isEmpty) := by cases xs <;> rfl
theorem truN (n : Nat) : (eN n).tru = some (decide (n ≠ 0)) := by
  show some ((n : Int) != 0) = _
  congr 1
  rw [Bool.eq_iff_iff]
  simp
theorem truZ (n : Int) : (eZ n).tru = some (decide (n ≠ 0)) := by
  show some (n != 0) = _
  congr 1
  rw [Bool.eq_iff_iff]
  simp
/-! rows that are gone through -/
theorem enum : ∀ (xs : List α) (k : Nat), enumD k (xs.map e) = (enumT k xs).map (eP2 eN e)
  | [], k => rfl
  | x :: xs, k => by simp only [List.map_cons, enumD, enumT, enum xs (k + 1)]
theorem zip {f : β → Dt} : ∀ (xs : List α) (ys : List β), zipD (xs.map e) (ys.map f) = (xs.zip ys).map (eP2 e f)
  | [], _ => rfl
  | _ :: _, [] => rfl
  | x :: xs, y :: ys => by simp only [List.map_cons, zipD, List.zip_cons_cons, zip xs ys]
theorem rngN (m n : Nat) : rngD (m : Int) ((n : Int) - (m : Int)).toNat = (rngT m n).map eN := by
  have h : ((n : Int) - (m : Int)).toNat = n - m := by omega
  rw [h]
  unfold rngD rngT
  rw [List.range'_eq_map_range, List.map_map]
  refine List.map_congr_left fun k _ => ?_
  simp
theorem rngZ_ (m n : Int) : rngD m (n - m).toNat = (rngZ m n).map eZ := by
  unfold rngD rngZ
  rw [List.map_map]
  rfl
/-! own lists -/
theorem setMap (xs : List α) (j : Nat) (x : α) : (xs.map e).set j (e x) = (xs.set j x).map e := by rw [List.map_set]
theorem last {xs : List α} {x : α} (h : xs.getLast? = some x) : (xs.map e).getLast? = some (e x) := by rw [List.getLast?_map, h]; rfl
theorem dropL_ (xs : List α) : (xs.map e).dropLast = xs.dropLast.map e := by rw [List.map_dropLast]
theorem eras : ∀ (xs : List α) (k : Nat), (xs.map e).eraseIdx k = (xs.eraseIdx k).map e
  | [], k => rfl
  | x :: xs, 0 => rfl
  | x :: xs, k + 1 => by simp only [List.map_cons, List.eraseIdx_cons_succ, eras xs k]
theorem getE? {xs : List α} {k : Nat} {x : α} (h : xs[k]? = some x) : (xs.map e)[k]? = some (e x) := by rw [List.getElem?_map, h]; rfl
theorem snoc (xs : List α) (x : α) : xs.map e ++ [e x] = (xs ++ [x]).map e := by simp
end
end S
/-- the first place of a number in a row -/
def posN (x : Nat) : List Nat → Option Nat
  | [] => none
  | z :: r => if z = x then some 0 else (posN x r).map (· + 1)
theorem posD_N (x : Nat) : ∀ (xs : List Nat), posD (eN x) (xs.map eN) = posN x xs
  | [] => rfl
  | z :: xs => by
    show (if eqF (eN z) (eN x) then some 0 else match posD (eN x) (xs.map eN) with | some j => some (j + 1) | none => none) = _
    unfold posN
    rw [posD_N x xs]
    by_cases h : z = x
    · rw [if_pos h, if_pos (by subst h; simp [eqF])]
    · rw [if_neg h, if_neg (by simp [eqF]; omega)]
      cases posN x xs <;> rfl
theorem flatN (x : Nat) (xs : List Nat) : (flatD (eN x) && (xs.map eN).all flatD) = true := by
  rw [Bool.and_eq_true]
  refine ⟨rfl, ?_⟩
  rw [List.all_eq_true]
  intro d hd
  obtain ⟨y, _, rfl⟩ := List.mem_map.mp hd
  rfl
end Pd
set_option Elab.async false
set_option linter.all false
set_option maxRecDepth 100000
set_option maxHeartbeats 1000000
/-! Ty3: drawn numbers. -/
namespace Pd
open PySem
theorem pick_loopA {m t many : Int} {x y : Option Ow} : ∀ (k : Nat) (cells : List Int) (l : Int) (wf : Nat), cells.length = k → k < wf → ∃ cells' l', cells'.length ≤ k ∧
    ∀ (C : Cl) (wf0 : Nat), whGo (fun e => evt C (.land (.tr (.e (.pr .gt (.cons (.v 1) (.cons (.e (.cst (.int 1))) .nil))))) (.land (.tr (.e (.pr .lt (.cons (.e (.fld 0 "left")) (.cons (.e (.cst (.int 2))) .nil))))) (.tr (.e (.pr .gt (.cons (.e (.lenF 0 "cells")) (.cons (.e (.cst (.int 0))) .nil))))))) e) (fun e => exs C wf0 (.cons (.setF 0 "left" (.popF 0 "cells")) .nil) e) wf
      [some (.rc (srcF cells l m t)), some (im (.int many)), x, y] = .ok .nx [some (.rc (srcF cells' l' m t)), some (im (.int many)), x, y]
  | k, cells, l, 0, hk, hw => by omega
  | k, cells, l, wf + 1, hk, hw => by
    cases hb : (decide (1 < many) && (decide (l < 2) && decide (0 < (cells.length : Int)))) with
    | false => exact ⟨cells, l, by omega, fun C wf0 => by unfold whGo; rw [pick_test, hb]⟩
    | true =>
      simp only [Bool.and_eq_true, decide_eq_true_eq] at hb
      have hn : cells ≠ [] := fun e => by rw [e] at hb; simp at hb
      have hc : cells.getLast? = some (cells.getLast hn) := List.getLast?_eq_some_getLast hn
      obtain ⟨cells', l', h1, h2⟩ := pick_loopA (m := m) (t := t) (many := many) (x := x) (y := y) (k - 1) cells.dropLast (cells.getLast hn) wf (by rw [List.length_dropLast, hk]) (by omega)
      refine ⟨cells', l', by omega, fun C wf0 => ?_⟩
      have hb2 : (decide (1 < many) && (decide (l < 2) && decide (0 < (cells.length : Int)))) = true := by simp only [Bool.and_eq_true, decide_eq_true_eq]; exact hb
      unfold whGo
      rw [pick_test, hb2]
      dsimp only
      rw [pick_body hc]
      exact h2 C wf0
theorem pick_runA {wf : Nat} {c1 c2 c3 c4 c5 many : Int} {s : Ow} (hs : Src s) (hwf : 63 < wf) (h1 : c1.natAbs < 2 ^ 64) (h2 : 0 < c2) (h2' : c2 < 2 ^ 62) (h3 : c3.natAbs < 2 ^ 64) (h4 : 0 < c4) (h5 : 0 < c5) (h5' : c5 < 2 ^ 62) (hm : many < 2 ^ 62) :
    ∃ k s', (∀ C : Cl, runFn C wf ⟨2, 4, [.mu, .sh], pickB c1 c2 c3 c4 c5⟩ [s, im (.int many)] = .ret (im (.int k)) [some s', none]) ∧ Src s' ∧ 0 ≤ k ∧ (k < many ∨ k = 0) := by
  obtain ⟨cells, l, m, t, hz, rfl⟩ := hs
  obtain ⟨cells', l', hz', hloop⟩ := pick_loopA (m := m) (t := t) (many := many) (x := none) (y := none) cells.length cells l wf rfl (by omega)
  have g0 : ∀ (a u v : Option Ow), getE [a, some (im (.int many)), u, v] 0 = a := fun a u v => by cases a <;> rfl
  have g1 : ∀ (a u v : Option Ow), getE [a, some (im (.int many)), u, v] 1 = some (im (.int many)) := fun a u v => rfl
  have g2 : ∀ (a u v : Option Ow), getE [a, some (im (.int many)), u, v] 2 = u := fun a u v => by cases u <;> rfl
  have g3 : ∀ (a u v : Option Ow), getE [a, some (im (.int many)), u, v] 3 = v := fun a u v => by cases v <;> rfl
  have pm : (0 : Int) < (if many > 1 then many else 1) := max2_pos
  have pl : (if many > 1 then many else 1).natAbs.log2 < 9000 := log_small pm (by split <;> omega)
  by_cases hb : many < 2 ∨ 1 < l'
  · refine ⟨l' % (if many > 1 then many else 1), .rc (srcF cells' (l' / (if many > 1 then many else 1)) m t), ?_, ⟨cells', _, m, t, by omega, rfl⟩, Int.emod_nonneg _ (by omega), ?_⟩
    · intro C
      unfold runFn
      simp only [List.length_cons, List.length_nil, List.map_cons, List.map_nil, if_true, pickB, List.replicate, List.cons_append, List.nil_append, Nat.reduceAdd, Nat.reduceSub]
      rw [exs]
      rw [show ex C wf (Sm.whl _ _) _ = _ from hloop C wf]
      dsimp only
      have ht : evt C (.lor (.tr (.e (.pr .lt (.cons (.v 1) (.cons (.e (.cst (.int 2))) .nil))))) (.tr (.e (.pr .gt (.cons (.v 2) (.cons (.e (.cst (.int 1))) .nil)))))) [some (.rc (srcF cells' l' m t)), some (im (.int many)), some (im (.int l')), none] = .ok true [some (.rc (srcF cells' l' m t)), some (im (.int many)), some (im (.int l')), none] := by
        simp only [evt, evp, ev, evo, vws, Tm.vw, Ow.vw, Ow1.dt, im, Pr.sem, i1, Dt.tru, g1, g2]
        by_cases h : many < 2
        · simp [h]
        · have h' : 1 < l' := hb.resolve_left h
          simp [h, h', g1, g2, evt, evp, ev, evo, vws, Tm.vw, Ow.vw, Ow1.dt, im, Pr.sem, i1, Dt.tru]
      have s1 : ex C wf (.asg 2 (.fld 0 "left")) [some (.rc (srcF cells' l' m t)), some (im (.int many)), none, none] = .ok .nx [some (.rc (srcF cells' l' m t)), some (im (.int many)), some (im (.int l')), none] := by
        simp [ex, ev, g0, lk_l]
      have s2 : ex C wf (.setF 0 "left" (.pr .fdiv (.cons (.v 2) (.cons (.e (.pr .max2 (.cons (.e (.cst (.int 1))) (.cons (.v 1) .nil)))) .nil)))) [some (.rc (srcF cells' l' m t)), some (im (.int many)), some (im (.int l')), none] = .ok .nx [some (.rc (srcF cells' (l' / (if many > 1 then many else 1)) m t)), some (im (.int many)), some (im (.int l')), none] := by
        simp only [ex, ev, g0, g1, g2, lk_l, evp, evo, vws, Tm.vw, Ow.vw, Ow1.dt, im, Pr.sem, i1, pm, pl, and_self, if_true, src_len, st_l, List.set_cons_zero]
        simp
      have s3 : ex C wf (.ret (.pr .mod (.cons (.e (.pr .int (.cons (.v 2) .nil))) (.cons (.e (.pr .max2 (.cons (.e (.cst (.int 1))) (.cons (.v 1) .nil)))) .nil)))) [some (.rc (srcF cells' (l' / (if many > 1 then many else 1)) m t)), some (im (.int many)), some (im (.int l')), none] = .ok (.rt (im (.int (l' % (if many > 1 then many else 1))))) [some (.rc (srcF cells' (l' / (if many > 1 then many else 1)) m t)), some (im (.int many)), some (im (.int l')), none] := by
        simp only [ex, ev, g0, g1, g2, evp, evo, vws, Tm.vw, Ow.vw, Ow1.dt, im, Pr.sem, i1, pm, if_true]
      have s7 : ∀ a b, ex C wf (.ite (.lor (.tr (.e (.pr .lt (.cons (.v 1) (.cons (.e (.cst (.int 2))) .nil))))) (.tr (.e (.pr .gt (.cons (.v 2) (.cons (.e (.cst (.int 1))) .nil)))))) a b) [some (.rc (srcF cells' l' m t)), some (im (.int many)), some (im (.int l')), none] = exs C wf a [some (.rc (srcF cells' l' m t)), some (im (.int many)), some (im (.int l')), none] := fun a b => by
        rw [ex, ht]
      simp only [exs, s1, s7, s2, s3]
      rfl
    · have := Int.emod_lt_of_pos l' pm
      by_cases h : many > 1
      · rw [if_pos h] at this; exact .inl (by rw [if_pos h]; exact this)
      · rw [if_neg h] at this ⊢; omega
  · have hm2 : ¬ many < 2 := fun h => hb (.inl h)
    have hl2 : ¬ 1 < l' := fun h => hb (.inr h)
    have k1 : ∀ a : Int, okMul a c1 = true := fun a => okMul_r h1
    have k3 : ∀ a : Int, okMul a c3 = true := fun a => okMul_r h3
    let u := (m + (t + 1) * c1) % c2
    have hu : okMul u u = true := okMul_r (by
      have h0 := Int.emod_nonneg (m + (t + 1) * c1) (show c2 ≠ 0 by omega)
      have h9 := Int.emod_lt_of_pos (m + (t + 1) * c1) h2
      show ((m + (t + 1) * c1) % c2).natAbs < 2 ^ 64
      omega)
    let z := (u * u + (t + 1) * c3) % c4
    have p5 : c5.natAbs.log2 < 9000 := log_small h5 h5'
    have hp : (0 : Int) < many := by omega
    refine ⟨(z / c5) % many, .rc (srcF cells' l' z (t + 1)), ?_, ⟨cells', _, _, _, by omega, rfl⟩, Int.emod_nonneg _ (by omega), .inl (Int.emod_lt_of_pos _ hp)⟩
    intro C
    unfold runFn
    simp only [List.length_cons, List.length_nil, List.map_cons, List.map_nil, if_true, pickB, List.replicate, List.cons_append, List.nil_append, Nat.reduceAdd, Nat.reduceSub]
    rw [exs]
    rw [show ex C wf (Sm.whl _ _) _ = _ from hloop C wf]
    dsimp only
    have ht : evt C (.lor (.tr (.e (.pr .lt (.cons (.v 1) (.cons (.e (.cst (.int 2))) .nil))))) (.tr (.e (.pr .gt (.cons (.v 2) (.cons (.e (.cst (.int 1))) .nil)))))) [some (.rc (srcF cells' l' m t)), some (im (.int many)), some (im (.int l')), none] = .ok false [some (.rc (srcF cells' l' m t)), some (im (.int many)), some (im (.int l')), none] := by
      simp [hm2, hl2, g1, g2, evt, evp, ev, evo, vws, Tm.vw, Ow.vw, Ow1.dt, im, Pr.sem, i1, Dt.tru]
    have s1 : ex C wf (.asg 2 (.fld 0 "left")) [some (.rc (srcF cells' l' m t)), some (im (.int many)), none, none] = .ok .nx [some (.rc (srcF cells' l' m t)), some (im (.int many)), some (im (.int l')), none] := by
      simp [ex, ev, g0, lk_l]
    have s2 : ex C wf (.setF 0 "turn" (.pr .add (.cons (.e (.fld 0 "turn")) (.cons (.e (.cst (.int 1))) .nil)))) [some (.rc (srcF cells' l' m t)), some (im (.int many)), some (im (.int l')), none] = .ok .nx [some (.rc (srcF cells' l' m (t + 1))), some (im (.int many)), some (im (.int l')), none] := by
      simp [ex, ev, g0, lk_t, evp, evo, vws, Tm.vw, Ow.vw, Ow1.dt, im, Pr.sem, i1, src_len, st_t]
    have s3 : ex C wf (.asg 3 (.pr .mod (.cons (.e (.pr .int (.cons (.e (.pr .add (.cons (.e (.fld 0 "mixed")) (.cons (.e (.pr .mul (.cons (.e (.fld 0 "turn")) (.cons (.e (.cst (.int c1))) .nil)))) .nil)))) .nil))) (.cons (.e (.cst (.int c2))) .nil)))) [some (.rc (srcF cells' l' m (t + 1))), some (im (.int many)), some (im (.int l')), none] = .ok .nx [some (.rc (srcF cells' l' m (t + 1))), some (im (.int many)), some (im (.int l')), some (im (.int u))] := by
      simp [ex, ev, g0, lk_t, lk_m, evp, evo, vws, Tm.vw, Ow.vw, Ow1.dt, im, Pr.sem, i1, k1, h2, u]
    have s4 : ex C wf (.asg 3 (.pr .mod (.cons (.e (.pr .int (.cons (.e (.pr .add (.cons (.e (.pr .mul (.cons (.v 3) (.cons (.v 3) .nil)))) (.cons (.e (.pr .mul (.cons (.e (.fld 0 "turn")) (.cons (.e (.cst (.int c3))) .nil)))) .nil)))) .nil))) (.cons (.e (.cst (.int c4))) .nil)))) [some (.rc (srcF cells' l' m (t + 1))), some (im (.int many)), some (im (.int l')), some (im (.int u))] = .ok .nx [some (.rc (srcF cells' l' m (t + 1))), some (im (.int many)), some (im (.int l')), some (im (.int z))] := by
      simp [ex, ev, g0, g3, lk_t, evp, evo, vws, Tm.vw, Ow.vw, Ow1.dt, im, Pr.sem, i1, k3, hu, h4, z]
    have s5 : ex C wf (.setF 0 "mixed" (.var 3)) [some (.rc (srcF cells' l' m (t + 1))), some (im (.int many)), some (im (.int l')), some (im (.int z))] = .ok .nx [some (.rc (srcF cells' l' z (t + 1))), some (im (.int many)), some (im (.int l')), some (im (.int z))] := by
      simp [ex, ev, g0, g3, Ow1.dt, im, lk_m, src_len, st_m]
    have s6 : ex C wf (.ret (.pr .mod (.cons (.e (.pr .int (.cons (.e (.pr .fdiv (.cons (.v 3) (.cons (.e (.cst (.int c5))) .nil)))) .nil))) (.cons (.v 1) .nil)))) [some (.rc (srcF cells' l' z (t + 1))), some (im (.int many)), some (im (.int l')), some (im (.int z))] = .ok (.rt (im (.int ((z / c5) % many)))) [some (.rc (srcF cells' l' z (t + 1))), some (im (.int many)), some (im (.int l')), some (im (.int z))] := by
      simp [ex, ev, g1, g3, evp, evo, vws, Tm.vw, Ow.vw, Ow1.dt, im, Pr.sem, i1, h5, p5, hp]
    have s7 : ∀ a b, ex C wf (.ite (.lor (.tr (.e (.pr .lt (.cons (.v 1) (.cons (.e (.cst (.int 2))) .nil))))) (.tr (.e (.pr .gt (.cons (.v 2) (.cons (.e (.cst (.int 1))) .nil)))))) a b) [some (.rc (srcF cells' l' m t)), some (im (.int many)), some (im (.int l')), none] = exs C wf b [some (.rc (srcF cells' l' m t)), some (im (.int many)), some (im (.int l')), none] := fun a b => by
      rw [ex, ht]
    simp only [exs, s1, s7, s2, s3, s4, s5, s6]
    rfl

/-- a source of drawn numbers -/
structure SrcT where
  cells : List Int
  l : Int
  m : Int
  t : Int
  ok : cells.length ≤ 63
def SrcT.fs (s : SrcT) : List (Str × Ow1) := srcF s.cells s.l s.m s.t
abbrev eSrc (s : SrcT) : Ow := .rc s.fs
theorem src_of {o : Ow} (h : Src o) : ∃ s : SrcT, o = eSrc s := by
  obtain ⟨c, l, m, t, h1, rfl⟩ := h
  exact ⟨⟨c, l, m, t, h1⟩, rfl⟩
theorem SrcT.src (s : SrcT) : Src (eSrc s) := ⟨_, _, _, _, s.ok, rfl⟩
/-- the drawing of a number -/
def pickF : Fn := ⟨2, 4, [.mu, .sh], pickB 104729 998244353 17 2147483647 16⟩
theorem pick_all (s : SrcT) (many : Nat) (hm : many < 2 ^ 62) : ∃ r : Nat × SrcT, (∀ C : Cl, runFn C 100000 pickF [eSrc s, im (.int (many : Int))] = .ret (im (.int (r.1 : Int))) [some (eSrc r.2), none]) ∧ (r.1 < many ∨ r.1 = 0) := by
  obtain ⟨k, s', h1, h2, h3, h4⟩ := pick_runA (wf := 100000) (c1 := 104729) (c2 := 998244353) (c3 := 17) (c4 := 2147483647) (c5 := 16) (many := (many : Int)) s.src (by decide) (by decide) (by decide) (by decide) (by decide) (by decide) (by decide) (by decide) (by omega)
  obtain ⟨s2, rfl⟩ := src_of h2
  refine ⟨(k.toNat, s2), fun C => ?_, by dsimp only; omega⟩
  rw [Int.toNat_of_nonneg h3]
  exact h1 C
/-- a drawn number below many (0 if many is 0), and the source behind it -/
noncomputable def pickT (s : SrcT) (many : Nat) : Option (Nat × SrcT) := if h : many < 2 ^ 62 then some (pick_all s many h).choose else none
theorem pickT_ok (s : SrcT) {many : Nat} (h : many < 2 ^ 62) : ∃ r, pickT s many = some r ∧ (r.1 < many ∨ r.1 = 0) := by
  unfold pickT
  rw [dif_pos h]
  exact ⟨_, rfl, (pick_all s many h).choose_spec.2⟩
theorem pickT_run {s : SrcT} {many : Nat} {r : Nat × SrcT} (h : pickT s many = some r) (C : Cl) : runFn C 100000 pickF [eSrc s, im (.int (many : Int))] = .ret (im (.int (r.1 : Int))) [some (eSrc r.2), none] := by
  unfold pickT at h
  split at h
  · next hm => cases h; exact (pick_all s many hm).choose_spec.1 C
  · cases h
theorem source_runT {C : Cl} {wf : Nat} {ns : List Int} (hz : ns.length ≤ 63) : ∃ s : SrcT, runFn C wf ⟨1, 3, [.sh], srcB⟩ [.p (.imm (.scr ns))] = .ret (eSrc s) [none] := by
  obtain ⟨s, h1, h2⟩ := source_run (C := C) (wf := wf) hz
  obtain ⟨s2, rfl⟩ := src_of h1
  exact ⟨s2, h2⟩
end Pd
set_option Elab.async false
set_option linter.all false
set_option maxRecDepth 100000
set_option maxHeartbeats 1000000
/-! Ty4: the rules by typed values; rules for whole defs. -/
namespace Pd
open PySem
abbrev WFn : Nat := 100000
abbrev eDD {κ τ : Type} (k : κ → Dt) (e : τ → Dt) (l : List (κ × τ)) : Dt := .dic (eD k e l)
section
variable {C : Cl} {ps p1 p2 p3 qs : Ps} {wf : Nat}
theorem Es.nilT {α : Type} {e : α → Dt} : Es C .nil ps (([] : List α).map e) ps := Es.nil
theorem Es.consT {α : Type} {e : α → Dt} {x : Ex} {es : Exs} {o : Ow1} {a : α} {xs : List α} (h : E C x ps (.p o) p1) (ho : o.dt = e a) (h2 : Es C es p1 (xs.map e) p2) : Es C (.cons x es) ps ((a :: xs).map e) p2 := by
  have := Es.cons h h2
  rwa [ho] at this
theorem Es.starT {α : Type} {e : α → Dt} {o : Op} {es : Exs} {t : Tm} {d : Dt} {xs ys : List α} (h : Ep C o ps t p1) (hv : Tm.vp p1 t = some d) (hs : seqD d = some (ys.map e)) (h2 : Es C es p1 (xs.map e) p2) : Es C (.star o es) ps ((ys ++ xs).map e) p2 := by
  have := Es.star h hv hs h2
  rwa [← List.map_append] at this
theorem E.tupT {α : Type} {e : α → Dt} {es : Exs} {xs : List α} (h : Es C es ps (xs.map e) qs) (hz : xs.length ≤ sizeLine) : E C (.tup es) ps (im (eT e xs)) qs := E.tup h (by rw [List.length_map]; exact hz)
theorem E.lstT {α : Type} {e : α → Dt} {es : Exs} {xs : List α} (h : Es C es ps (xs.map e) qs) (hz : xs.length ≤ sizeLine) : E C (.lst es) ps (.p (.lst (xs.map e))) qs := E.lst h (by rw [List.length_map]; exact hz)
theorem E.popT {α : Type} {e : α → Dt} {i : Nat} {xs : List α} {x : α} (hg : getP ps i = .own (.lst (xs.map e))) (hl : xs.getLast? = some x) : E C (.pop i) ps (im (e x)) (ps.set i (.own (.lst (xs.dropLast.map e)))) := by
  have := E.pop (C := C) hg (S.last hl)
  rwa [S.dropL_] at this
theorem E.popAtT {α : Type} {e : α → Dt} {i k : Nat} {y : Ex} {ys : List Dt} {xs : List α} {x : α} (hg0 : getP ps i = .own (.lst ys)) (h : E C y ps (im (eN k)) qs) (hg : getP qs i = .own (.lst (xs.map e))) (hk : k < 2 ^ 63) (hx : xs[k]? = some x) : E C (.popAt i y) ps (im (e x)) (qs.set i (.own (.lst ((xs.eraseIdx k).map e)))) := by
  have := E.popAt hg0 h hg hk (S.getE? hx)
  rwa [S.eras] at this
theorem E.appT {α : Type} {e : α → Dt} {i : Nat} {y : Ex} {ys : List Dt} {xs : List α} {o : Ow1} {x : α} (hg0 : getP ps i = .own (.lst ys)) (h : E C y ps (.p o) qs) (ho : o.dt = e x) (hg : getP qs i = .own (.lst (xs.map e))) (hz : xs.length < sizeLine) : E C (.app i y) ps (im .non) (qs.set i (.own (.lst ((xs ++ [x]).map e)))) := by
  have := E.app hg0 h hg (by rw [List.length_map]; exact hz)
  rw [ho, S.snoc] at this
  exact this
theorem E.idxN {i j : Nat} {y : Ex} {y0 : List Dt} {xs : List Nat} {x : Nat} (hg0 : lstP ps i = some y0) (h : E C y ps (im (eN x)) qs) (hg : lstP qs i = some (xs.map eN)) (hp : posN x xs = some j) : E C (.idx i y) ps (im (eN j)) qs :=
  E.idx hg0 h hg (flatN x xs) ((posD_N x xs).trans hp)
theorem E.condI {α : Type} {o : α → Ow} {t : Te} {x y : Ex} {c : Bool} {a b : α} (ht : Et C t ps c p1) (h1 : c = true → E C x p1 (o a) p2) (h2 : c = false → E C y p1 (o b) p2) : E C (.cond t x y) ps (o (if c = true then a else b)) p2 := by
  cases c with
  | true => exact E.condT ht rfl (h1 rfl)
  | false => exact E.condF ht rfl (h2 rfl)
theorem X.setLT {α : Type} {e : α → Dt} {i : Nat} {y k : Ex} {o : Ow1} {j : Nat} {xs : List α} {x : α} (h : E C y ps (.p o) p1) (ho : o.dt = e x) (hg0 : (getP p1 i).has = true) (hk : E C k p1 (im (eN j)) p2) (hg : getP p2 i = .own (.lst (xs.map e))) (hj : j < xs.length) : X C wf (.setI i k y) ps .nx (p2.set i (.own (.lst ((xs.set j x).map e)))) := by
  have := X.setL (wf := wf) h hg0 hk hg (by rw [List.length_map]; exact hj)
  rw [ho, S.setMap] at this
  exact this
theorem X.setDT {κ τ : Type} [DecidableEq κ] {ek : κ → Dt} {ev : τ → Dt} (Kk : Ke ek) {i : Nat} {y k : Ex} {o : Ow1} {l : List (κ × τ)} {x : κ} {v : τ} (h : E C y ps (.p o) p1) (ho : o.dt = ev v) (hg0 : (getP p1 i).has = true) (hk : E C k p1 (im (ek x)) p2) (hg : getP p2 i = .own (.dic (eD ek ev l))) (hz : l.length < sizeLine) : X C wf (.setI i k y) ps .nx (p2.set i (.own (.dic (eD ek ev (putT x v l))))) := by
  obtain ⟨q, hq⟩ := Kk.get x
  have := X.setD (wf := wf) h hg0 hk hg hq (by simpa [eD] using hz) (S.kok Kk hq l)
  rw [ho, S.put Kk hq] at this
  exact this
theorem X.asgST {α β : Type} {e : α → Dt} {f : β → Dt} {i j u v : Nat} {k l x : Ex} {a : α} {b : β} {xs : List α} {ys : List β} (h : E C x ps (im (.tup [e a, f b])) p1) (hg0 : (getP p1 i).has = true) (hk : E C k p1 (im (eN u)) p2) (hg : getP p2 i = .own (.lst (xs.map e))) (hu : u < xs.length)
    (hg1 : (getP (p2.set i (.own (.lst ((xs.set u a).map e)))) j).has = true) (hl : E C l (p2.set i (.own (.lst ((xs.set u a).map e)))) (im (eN v)) p3) (hg2 : getP p3 j = .own (.lst (ys.map f))) (hv : v < ys.length) :
    X C wf (.asgS i k j l x) ps .nx (p3.set j (.own (.lst ((ys.set v b).map f)))) := by
  have := X.asgS (wf := wf) (C := C) (l := l) (j := j) (v := v) (p3 := p3) h hg0 hk hg (by rw [List.length_map]; exact hu) (by rw [S.setMap]; exact hg1) (by rw [S.setMap]; exact hl) hg2 (by rw [List.length_map]; exact hv)
  rw [S.setMap] at this
  exact this
theorem E.toN {x : Ex} {z : Int} {n : Nat} (h : toN z = some n) (pf : E C x ps (im (eZ z)) qs) : E C x ps (im (eN n)) qs := by
  have := toN_some h
  subst this
  exact pf
theorem E.nm {α : Type} {o : α → Ow} {a b : α} {x : Ex} (h : some a = some b) (pf : E C x ps (o a) qs) : E C x ps (o b) qs := by
  cases h; exact pf
theorem E.at {x : Ex} {o : Ow} (h : E C x ps o qs) : E C x ps o qs := h
theorem Et.at {x : Te} {b : Bool} (h : Et C x ps b p1) : Et C x ps b p1 := h
theorem Lb.iff {α : Type} {e : α → Dt} {a : α} {el : Ex} {t : Te} {c : Bool} {o : Ow1} (ho : o.dt = e a) (ht : Et C t ps c p1) (hv : c = true → E C el p1 (.p o) p2) (w1 : Le qs p2) (w2 : Le qs p1) : Lb C el (.one t) ps ((if c = true then some a else none).map e) qs := by
  cases c with
  | true =>
    have := Lb.weak (Lb.yes ht rfl (hv rfl)) w1
    rw [ho] at this
    exact this
  | false => exact Lb.weak (Lb.not ht rfl) w2
theorem okMul_l {a b : Int} (h : a.natAbs < 2 ^ 64) : okMul a b = true := by
  unfold okMul
  simp [h]
/-! loops with returns, and what is behind them -/
theorem K.forR {α σ ρ : Type} {en : α → Dt} {P : σ → Ps} {Q : ρ → Ps} {o : ρ → Ow} {f : α → σ → Option (Sum ρ σ)} {tg : Tg} {it : Ir} {b ss : Sms} {k : List Sms} {fl : Fl} {xs : List α} {s : σ} {r : Sum ρ σ} (hi : Ei C it ps (xs.map en) p1) (hl : lckP it p1 = some p2) (hw : Le (P s) p2) (h : Pd.forR f xs s = some r)
    (hb : ∀ x s r, f x s = some r → ∃ q, tgP tg (en x) (P s) = some q ∧ K C wf [b] q (rFl o r) (rPt Q P r))
    (h1 : ∀ v, r = .inl v → fl = .rt (o v) ∧ Le qs (backP p1 (Q v) (slotI it))) (h2 : ∀ m, r = .inr m → K C wf (ss :: k) (backP p1 (P m) (slotI it)) fl qs) : K C wf (.cons (.fors tg it b) ss :: k) ps fl qs := by
  have hx := X.forR (C := C) (wf := wf) hi hl hw h hb
  cases r with
  | inl v =>
    obtain ⟨rfl, q⟩ := h1 v rfl
    exact K.rt hx q
  | inr m => exact K.next hx (h2 m rfl)
theorem K.whR {σ ρ : Type} {P : σ → Ps} {Q : ρ → Ps} {o : ρ → Ow} {c : σ → Option Bool} {f : σ → Option (Sum ρ σ)} {t : Te} {b ss : Sms} {k : List Sms} {fl : Fl} {s : σ} {r : Sum ρ σ} (hw : Le (P s) ps) (h : Pd.whR c f wf s = some r) (hc : ∀ s b, c s = some b → Et C t (P s) b (P s)) (hb : ∀ s r, f s = some r → K C wf [b] (P s) (rFl o r) (rPt Q P r))
    (h1 : ∀ v, r = .inl v → fl = .rt (o v) ∧ Le qs (Q v)) (h2 : ∀ m, r = .inr m → K C wf (ss :: k) (P m) fl qs) : K C wf (.cons (.whl t b) ss :: k) ps fl qs := by
  have hx := X.whR (C := C) hw h hc hb
  cases r with
  | inl v =>
    obtain ⟨rfl, q⟩ := h1 v rfl
    exact K.rt hx q
  | inr m => exact K.next hx (h2 m rfl)
/-! whole bodies -/
def Fb (C : Cl) (wf : Nat) (k : List Sms) (ps : Ps) (o : Ow) (qs : Ps) : Prop := ∃ fl, K C wf k ps fl qs ∧ FlO fl o
theorem Fb.done (hw : Le qs ps) : Fb C wf [] ps (im .non) qs := ⟨.nx, K.done hw, .nx⟩
theorem Fb.nil {k : List Sms} {o : Ow} (h : Fb C wf k ps o qs) : Fb C wf (.nil :: k) ps o qs := let ⟨fl, a, b⟩ := h; ⟨fl, K.nil a, b⟩
theorem Fb.next {s : Sm} {ss : Sms} {k : List Sms} {o : Ow} (h : X C wf s ps .nx p1) (h2 : Fb C wf (ss :: k) p1 o qs) : Fb C wf (.cons s ss :: k) ps o qs := let ⟨fl, a, b⟩ := h2; ⟨fl, K.next h a, b⟩
theorem Fb.rt {s : Sm} {ss : Sms} {k : List Sms} {o : Ow} (h : X C wf s ps (.rt o) p1) (hw : Le qs p1) : Fb C wf (.cons s ss :: k) ps o qs := ⟨_, K.rt h hw, .rt⟩
theorem Fb.iteT {t : Te} {a b : Sms} {ss : Sms} {k : List Sms} {o : Ow} {c : Bool} (ht : Et C t ps c p1) (hc : c = true) (h : Fb C wf (a :: ss :: k) p1 o qs) : Fb C wf (.cons (.ite t a b) ss :: k) ps o qs := let ⟨fl, a, b⟩ := h; ⟨fl, K.iteT ht hc a, b⟩
theorem Fb.iteF {t : Te} {a b : Sms} {ss : Sms} {k : List Sms} {o : Ow} {c : Bool} (ht : Et C t ps c p1) (hc : c = false) (h : Fb C wf (b :: ss :: k) p1 o qs) : Fb C wf (.cons (.ite t a b) ss :: k) ps o qs := let ⟨fl, a, b⟩ := h; ⟨fl, K.iteF ht hc a, b⟩
theorem Fb.forR {α σ ρ : Type} {en : α → Dt} {P : σ → Ps} {Q : ρ → Ps} {o : ρ → Ow} {f : α → σ → Option (Sum ρ σ)} {tg : Tg} {it : Ir} {b ss : Sms} {k : List Sms} {w : Ow} {xs : List α} {s : σ} {r : Sum ρ σ} (hi : Ei C it ps (xs.map en) p1) (hl : lckP it p1 = some p2) (hw : Le (P s) p2) (h : Pd.forR f xs s = some r)
    (hb : ∀ x s r, f x s = some r → ∃ q, tgP tg (en x) (P s) = some q ∧ K C wf [b] q (rFl o r) (rPt Q P r))
    (h1 : ∀ v, r = .inl v → w = o v ∧ Le qs (backP p1 (Q v) (slotI it))) (h2 : ∀ m, r = .inr m → Fb C wf (ss :: k) (backP p1 (P m) (slotI it)) w qs) : Fb C wf (.cons (.fors tg it b) ss :: k) ps w qs := by
  have hx := X.forR (C := C) (wf := wf) hi hl hw h hb
  cases r with
  | inl v =>
    obtain ⟨rfl, q⟩ := h1 v rfl
    exact Fb.rt hx q
  | inr m => exact Fb.next hx (h2 m rfl)
theorem Fb.whR {σ ρ : Type} {P : σ → Ps} {Q : ρ → Ps} {o : ρ → Ow} {c : σ → Option Bool} {f : σ → Option (Sum ρ σ)} {t : Te} {b ss : Sms} {k : List Sms} {w : Ow} {s : σ} {r : Sum ρ σ} (hw : Le (P s) ps) (h : Pd.whR c f wf s = some r) (hc : ∀ s b, c s = some b → Et C t (P s) b (P s)) (hb : ∀ s r, f s = some r → K C wf [b] (P s) (rFl o r) (rPt Q P r))
    (h1 : ∀ v, r = .inl v → w = o v ∧ Le qs (Q v)) (h2 : ∀ m, r = .inr m → Fb C wf (ss :: k) (P m) w qs) : Fb C wf (.cons (.whl t b) ss :: k) ps w qs := by
  have hx := X.whR (C := C) hw h hc hb
  cases r with
  | inl v =>
    obtain ⟨rfl, q⟩ := h1 v rfl
    exact Fb.rt hx q
  | inr m => exact Fb.next hx (h2 m rfl)
theorem run_ofF {f : Fn} {as : List Ow} {o : Ow} {outs : List (Option Ow)} (hl : as.length = f.np) (hp : (as.map some ++ List.replicate (f.ns - f.np) none).map toP = ps) (hb : Fb C wf [f.body] ps o qs) (ho : outsP qs f.md 0 outs) : runFn C wf f as = .ret o outs :=
  let ⟨_, a, b⟩ := hb; run_of hl hp a b ho
theorem outs0 : outsP ps [] 0 [] := rfl
theorem outsS {ms : List Md} {i : Nat} {os : List (Option Ow)} (h : outsP ps ms (i + 1) os) : outsP ps (.sh :: ms) i (none :: os) := ⟨rfl, h⟩
theorem outsM {ms : List Md} {i : Nat} {x : Ow} {os : List (Option Ow)} (hx : (getP ps i).ow? = some x) (h : outsP ps ms (i + 1) os) : outsP ps (.mu :: ms) i (some x :: os) := ⟨⟨x, rfl, hx⟩, h⟩
theorem outsN {i : Nat} : outsP ps [] i [] := rfl
end
/-! sorted rows -/
def srtE {α : Type} (e : α → Dt) (xs : List α) : List α := xs.mergeSort fun a b => PySem.W.dataLe false encD (e a) (e b)
def srtG {α : Type} (e : α → Dt) (xs : List α) : Bool := xs.isEmpty || (toInts (xs.map e)).isNone && match pyL (xs.map e) with | some es => sortB es | none => false
theorem mergeSort_map {α β : Type} (f : α → β) (le : β → β → Bool) : ∀ (n : Nat) (xs : List α), xs.length ≤ n → (xs.map f).mergeSort le = (xs.mergeSort fun a b => le (f a) (f b)).map f := by
  intro n xs _
  exact (List.map_mergeSort (r := fun a b => le (f a) (f b)) (s := le) (f := f) (fun _ _ _ _ => rfl)).symm
theorem S.sortedE {α : Type} {e : α → Dt} {xs : List α} (h : srtG e xs = true) : Pr.sem .sorted [eL e xs] = some (.lst ((srtE e xs).map e)) := by
  unfold srtG at h
  cases xs with
  | nil => unfold srtE; simp [Pr.sem, toInts, sortI]
  | cons x0 xs0 =>
  generalize hxs : x0 :: xs0 = xs at h ⊢
  have he : xs.isEmpty = false := by rw [← hxs]; rfl
  rw [he, Bool.false_or, Bool.and_eq_true] at h
  obtain ⟨h1, h2⟩ := h
  cases hp : pyL (xs.map e) with
  | none => rw [hp] at h2; cases h2
  | some es =>
    rw [hp] at h2
    cases ht : toInts (xs.map e) with
    | some is => rw [ht] at h1; cases h1
    | none =>
      simp only [Pr.sem, ht, hp, h2, if_true]
      unfold sortD srtE
      rw [mergeSort_map e _ xs.length xs (Nat.le_refl _)]
theorem S.cutD_last {α : Type} {e : α → Dt} (xs : List α) : cutD (xs.map e) none (some (-1)) = xs.dropLast.map e := by
  unfold cutD cutN
  simp only [List.drop_zero, Nat.sub_zero, List.length_map]
  rw [if_pos (by decide), List.dropLast_eq_take, List.map_take]
  congr 1
  omega
theorem S.cutlastL {α : Type} {e : α → Dt} (xs : List α) : Pr.sem (.cut false true) [eL e xs, eZ (-1)] = some (.lst (xs.dropLast.map e)) := by simp only [Pr.sem, S.cutD_last]
theorem S.cutlastT {α : Type} {e : α → Dt} (xs : List α) : Pr.sem (.cut false true) [eT e xs, eZ (-1)] = some (.imm (eT e xs.dropLast)) := by simp only [Pr.sem, S.cutD_last, i1]
/-! typed triples: it answers, and so -/
def Ok {α : Type} (m : Option α) (Q : α → Prop) : Prop := ∃ a, m = some a ∧ Q a
section
variable {α β σ ρ : Type}
theorem Ok.pure {a : α} {Q : α → Prop} (h : Q a) : Ok (some a) Q := ⟨a, rfl, h⟩
theorem Ok.bnd {m : Option α} {f : α → Option β} {P : α → Prop} {Q : β → Prop} (h : Ok m P) (k : ∀ a, P a → Ok (f a) Q) : Ok (bnd m f) Q := by
  obtain ⟨a, h1, h2⟩ := h
  rw [h1]
  exact k a h2
theorem Ok.grd {p : Prop} [Decidable p] {m : Option α} {Q : α → Prop} (h : p) (k : Ok m Q) : Ok (grd p m) Q := by
  rw [grd_pos h]; exact k
theorem Ok.mono {m : Option α} {P Q : α → Prop} (h : Ok m P) (k : ∀ a, P a → Q a) : Ok m Q := let ⟨a, h1, h2⟩ := h; ⟨a, h1, k a h2⟩
theorem Ok.ite {c : Bool} {m n : Option α} {Q : α → Prop} (h1 : c = true → Ok m Q) (h2 : c = false → Ok n Q) : Ok (if c = true then m else n) Q := by
  cases c with
  | true => exact h1 rfl
  | false => exact h2 rfl
theorem Ok.some_of {o : Option α} {a : α} {Q : α → Prop} (h : o = some a) (k : Q a) : Ok o Q := ⟨a, h, k⟩
theorem Ok.forT {f : α → σ → Option σ} {I : List α → σ → Prop} (h : ∀ x r s, I (x :: r) s → Ok (f x s) (I r)) : ∀ (xs : List α) (s : σ), I xs s → Ok (forT f xs s) (I [])
  | [], s, hi => ⟨s, rfl, hi⟩
  | x :: xs, s, hi => Ok.bnd (h x xs s hi) fun s1 h1 => Ok.forT h xs s1 h1
theorem Ok.forR {f : α → σ → Option (Sum ρ σ)} {I : List α → σ → Prop} {J : ρ → Prop} (h : ∀ x r s, I (x :: r) s → Ok (f x s) (fun q => match q with | .inl v => J v | .inr s' => I r s')) : ∀ (xs : List α) (s : σ), I xs s → Ok (forR f xs s) (fun q => match q with | .inl v => J v | .inr s' => I [] s')
  | [], s, hi => ⟨.inr s, rfl, hi⟩
  | x :: xs, s, hi => Ok.bnd (h x xs s hi) fun q h1 => match q, h1 with
    | .inl v, h1 => ⟨.inl v, rfl, h1⟩
    | .inr s1, h1 => Ok.forR h xs s1 h1
theorem Ok.whT {c : σ → Option Bool} {f : σ → Option σ} {I : Nat → σ → Prop} {J : σ → Prop} (h : ∀ m s, I m s → Ok (c s) fun b => (b = false → J s) ∧ (b = true → Ok (f s) fun s' => ∃ m', m' < m ∧ I m' s')) : ∀ (n m : Nat) (s : σ), I m s → m < n → Ok (whT c f n s) J
  | 0, m, s, _, hm => absurd hm (Nat.not_lt_zero _)
  | n + 1, m, s, hi, hm => Ok.bnd (h m s hi) fun b hb => Ok.ite (fun z => Ok.bnd (hb.2 z) fun s' ⟨m', h1, h2⟩ => Ok.whT h n m' s' h2 (by omega)) fun z => ⟨s, rfl, hb.1 z⟩
theorem Ok.whR {c : σ → Option Bool} {f : σ → Option (Sum ρ σ)} {I : Nat → σ → Prop} {J : Sum ρ σ → Prop} (h : ∀ m s, I m s → Ok (c s) fun b => (b = false → J (.inr s)) ∧ (b = true → Ok (f s) fun q => match q with | .inl v => J (.inl v) | .inr s' => ∃ m', m' < m ∧ I m' s')) : ∀ (n m : Nat) (s : σ), I m s → m < n → Ok (whR c f n s) J
  | 0, m, s, _, hm => absurd hm (Nat.not_lt_zero _)
  | n + 1, m, s, hi, hm => Ok.bnd (h m s hi) fun b hb => Ok.ite (fun z => Ok.bnd (hb.2 z) fun q hq => match q, hq with
    | .inl v, hq => ⟨.inl v, rfl, hq⟩
    | .inr s', ⟨m', h1, h2⟩ => Ok.whR h n m' s' h2 (by omega)) fun z => ⟨.inr s, rfl, hb.1 z⟩
/-- a comprehension that draws: each item is good, there are as many -/
theorem Ok.lcT {f : α → σ → Option (Option β × σ)} {I : List α → List β → σ → Prop} (h : ∀ x r acc s, I (x :: r) acc s → Ok (f x s) fun q => I r (acc ++ q.1.toList) q.2) : ∀ (xs : List α) (acc : List β) (s : σ), I xs acc s → Ok (lcT f xs s) fun q => I [] (acc ++ q.1) q.2
  | [], acc, s, hi => ⟨([], s), rfl, by simpa using hi⟩
  | x :: xs, acc, s, hi => Ok.bnd (h x xs acc s hi) fun q hq => Ok.bnd (Ok.lcT h xs _ q.2 hq) fun t ht => by
    refine ⟨_, rfl, ?_⟩
    cases hq1 : q.1 with
    | none => rw [hq1] at ht; simpa using ht
    | some y => rw [hq1] at ht; simpa using ht
theorem Ok.lcE {f : α → σ → Option (Option β × σ)} {P : β → Prop} (h : ∀ x s, Ok (f x s) fun q => ∃ y, q.1 = some y ∧ P y) (xs : List α) (s : σ) : Ok (Pd.lcT f xs s) fun q => q.1.length = xs.length ∧ ∀ y ∈ q.1, P y := by
  have := Ok.lcT (f := f) (I := fun r acc _ => acc.length + r.length = xs.length ∧ ∀ y ∈ acc, P y) (fun x r acc s hi => (h x s).mono fun q ⟨y, hy, py⟩ => by
    rw [hy]
    refine ⟨by have := hi.1; simp at this ⊢; omega, fun z hz => ?_⟩
    simp at hz
    rcases hz with z1 | z1
    · exact hi.2 z z1
    · rw [z1]; exact py) xs [] s ⟨by simp, fun _ h => nomatch h⟩
  exact this.mono fun q hq => by simpa using hq
theorem Ok.lcE' {f : α → σ → Option (Option β × σ)} {P : β → Prop} (xs : List α) (h : ∀ x ∈ xs, ∀ s, Ok (f x s) fun q => ∃ y, q.1 = some y ∧ P y) (s : σ) : Ok (Pd.lcT f xs s) fun q => q.1.length = xs.length ∧ ∀ y ∈ q.1, P y := by
  have := Ok.lcT (f := f) (I := fun r acc _ => (∀ x ∈ r, x ∈ xs) ∧ acc.length + r.length = xs.length ∧ ∀ y ∈ acc, P y) (fun x r acc s hi => (h x (hi.1 x List.mem_cons_self) s).mono fun q ⟨y, hy, py⟩ => by
    rw [hy]
    refine ⟨fun z hz => hi.1 z (List.mem_cons_of_mem _ hz), by have := hi.2.1; simp at this ⊢; omega, fun z hz => ?_⟩
    simp at hz
    rcases hz with z1 | z1
    · exact hi.2.2 z z1
    · rw [z1]; exact py) xs [] s ⟨fun _ h => h, by simp, fun _ h => nomatch h⟩
  exact this.mono fun q hq => by simpa using hq.2
theorem Ok.eq {m : Option α} {a : α} (h : Ok m (· = a)) : m = some a := let ⟨b, h1, h2⟩ := h; by rw [h1, h2]
theorem Ok.lcP {f : α → Option (Option β)} {P : β → Prop} (xs : List α) (h : ∀ x ∈ xs, Ok (f x) fun q => ∃ y, q = some y ∧ P y) : Ok (lcP f xs) fun q => q.length = xs.length ∧ ∀ y ∈ q, P y := by
  induction xs with
  | nil => exact ⟨[], rfl, rfl, fun _ h => nomatch h⟩
  | cons x xs ih =>
    refine Ok.bnd (h x List.mem_cons_self) fun q ⟨y, hy, py⟩ => Ok.bnd (ih fun z hz => h z (List.mem_cons_of_mem _ hz)) fun t ht => ?_
    subst hy
    exact ⟨_, rfl, by simp [ht.1], fun z hz => by
      rcases List.mem_cons.mp hz with z1 | z1
      · rw [z1]; exact py
      · exact ht.2 z z1⟩
theorem lcP_map {f : α → Option (Option β)} {g : α → β} : ∀ (xs : List α), (∀ x ∈ xs, f x = some (some (g x))) → lcP f xs = some (xs.map g)
  | [], _ => rfl
  | x :: xs, h => by
    unfold Pd.lcP
    rw [h x List.mem_cons_self, lcP_map xs fun z hz => h z (List.mem_cons_of_mem _ hz)]
    rfl
theorem lcP_fm {f : α → Option (Option β)} {g : α → Option β} : ∀ (xs : List α), (∀ x ∈ xs, f x = some (g x)) → lcP f xs = some (xs.filterMap g)
  | [], _ => rfl
  | x :: xs, h => by
    unfold Pd.lcP
    rw [h x List.mem_cons_self, lcP_fm xs fun z hz => h z (List.mem_cons_of_mem _ hz), List.filterMap_cons]
    cases g x <;> rfl
end
end Pd
set_option Elab.async false
set_option linter.all false
set_option maxRecDepth 100000
set_option maxHeartbeats 1000000
/-! Ty5: drawn things: one of some, some in a drawn order; helpers for typed defs. -/
namespace Pd
open PySem
noncomputable def l_of {α : Type} (source : SrcT) (some_ : (List α)) : Option (α × SrcT) :=
  bnd (pickT source some_.length) fun r_ =>
  bnd (some_[r_.1]?) fun v =>
  some (v, r_.2)
noncomputable def l_mixed_c1 {α : Type}  (lap : Nat) (s_ : (SrcT × (List α))) : Option (Option α × (SrcT × (List α))) :=
  bnd (pickT s_.1 s_.2.length) fun r_ =>
  grd (r_.1 < 2 ^ 63) <|
  bnd (s_.2[r_.1]?) fun x_ =>
  some (some x_, (r_.2, s_.2.eraseIdx r_.1))
noncomputable def l_mixed {α : Type} (source : SrcT) (things : (List α)) : Option ((List α) × SrcT) :=
  grd (things.length < 2 ^ 62) <|
  grd ((List.range things.length).length ≤ sizeLine) <|
  bnd (lcT (l_mixed_c1) (List.range things.length) (source, things)) fun lc =>
  some (lc.1, lc.2.1)
theorem Ok.pick (s : SrcT) {n : Nat} (h : n < 2 ^ 62) : Ok (pickT s n) fun r => r.1 < n ∨ r.1 = 0 := pickT_ok s h
theorem Ok.pick1 (s : SrcT) {n : Nat} (h : n < 2 ^ 62) (h0 : 0 < n) : Ok (pickT s n) fun r => r.1 < n := (pickT_ok s h).elim fun r h => ⟨r, h.1, by rcases h.2 with z | z <;> omega⟩
theorem Ok.of {α : Type} (s : SrcT) {xs : List α} (h0 : xs ≠ []) (h : xs.length < 2 ^ 62) : Ok (l_of s xs) fun r => r.1 ∈ xs := by
  have hp : 0 < xs.length := List.length_pos_iff.mpr h0
  refine Ok.bnd (Ok.pick1 s h hp) fun r hr => ?_
  refine Ok.bnd (P := fun v => v ∈ xs) ⟨xs[r.1], List.getElem?_eq_getElem hr, List.getElem_mem hr⟩ fun v hv => ⟨_, rfl, hv⟩
theorem eras_perm {α : Type} : ∀ {l : List α} {i : Nat} (h : i < l.length), (l[i] :: l.eraseIdx i).Perm l
  | [], _, h => absurd h (Nat.not_lt_zero _)
  | x :: l, 0, _ => .refl _
  | x :: l, i + 1, h => by
    have := eras_perm (l := l) (i := i) (by simpa using h)
    simp only [List.getElem_cons_succ, List.eraseIdx_cons_succ]
    exact (List.Perm.swap x _ _).trans (this.cons x)
theorem Ok.mixed {α : Type} (s : SrcT) (xs : List α) (h : xs.length ≤ 16777216) : Ok (l_mixed s xs) fun r => r.1.Perm xs := by
  unfold l_mixed
  refine Ok.grd (by omega) (Ok.grd (by rw [List.length_range, szl]; exact h) ?_)
  refine Ok.bnd (Ok.lcT (I := fun r acc (q : SrcT × List α) => q.2.length = r.length ∧ (acc ++ q.2).Perm xs) (fun x r acc q hi => ?_) (List.range xs.length) [] (s, xs) ⟨by simp, by simp⟩) fun q hq => ?_
  · have hl : q.2.length = r.length + 1 := by rw [hi.1]; simp
    have hb : q.2.length ≤ xs.length := by have := hi.2.length_eq; simp at this; omega
    refine Ok.bnd (Ok.pick1 q.1 (n := q.2.length) (by omega) (by omega)) fun k hk => ?_
    refine Ok.grd (by omega) (Ok.bnd (P := fun v => q.2[k.1]? = some v) ⟨q.2[k.1], List.getElem?_eq_getElem hk, List.getElem?_eq_getElem hk⟩ fun v hv => ?_)
    refine ⟨_, rfl, ?_, ?_⟩
    · show (q.2.eraseIdx k.1).length = r.length
      rw [List.length_eraseIdx_of_lt hk]; omega
    · have hx : (q.2[k.1] :: q.2.eraseIdx k.1).Perm q.2 := eras_perm hk
      have hvv : v = q.2[k.1] := by rw [List.getElem?_eq_getElem hk] at hv; exact (Option.some.inj hv).symm
      refine List.Perm.trans ?_ hi.2
      show ((acc ++ [v]) ++ q.2.eraseIdx k.1).Perm (acc ++ q.2)
      rw [List.append_assoc]
      refine List.Perm.append_left acc ?_
      rw [hvv]
      exact hx
  · refine ⟨_, rfl, ?_⟩
    have h1 : q.2.2 = [] := by
      have := hq.1
      exact List.eq_nil_of_length_eq_zero (by simpa using this)
    have := hq.2
    rw [h1] at this
    simpa using this
theorem posN_some {x : Nat} : ∀ {xs : List Nat}, x ∈ xs → ∃ j, posN x xs = some j ∧ xs[j]? = some x
  | [], h => nomatch h
  | z :: xs, h => by
    unfold posN
    by_cases e : z = x
    · rw [if_pos e]; exact ⟨0, rfl, by rw [e]; rfl⟩
    · rw [if_neg e]
      obtain ⟨j, h1, h2⟩ := posN_some ((List.mem_cons.mp h).resolve_left fun q => e q.symm)
      exact ⟨j + 1, by rw [h1]; rfl, by simpa using h2⟩
theorem get_some {α : Type} {xs : List α} {i : Nat} (h : i < xs.length) : ∃ x, xs[i]? = some x ∧ x ∈ xs := ⟨xs[i], List.getElem?_eq_getElem h, List.getElem_mem h⟩
theorem Ok.get {α : Type} {xs : List α} {i : Nat} (h : i < xs.length) : Ok xs[i]? fun x => xs[i]? = some x ∧ x ∈ xs := let ⟨x, a, b⟩ := get_some h; ⟨x, a, a, b⟩
theorem getD_some {xs : List Nat} {i x : Nat} (h : xs[i]? = some x) : xs.getD i 0 = x := by rw [List.getD_eq_getElem?_getD, h]; rfl
theorem get_of_getD {xs : List Nat} {i : Nat} (h : i < xs.length) : xs[i]? = some (xs.getD i 0) := by rw [List.getD_eq_getElem?_getD, List.getElem?_eq_getElem h]; rfl
theorem toN_ok {i : Int} (h : 0 ≤ i) : toN i = some i.toNat := if_pos h
theorem mem_enumT {α : Type} : ∀ {xs : List α} {k j : Nat} {x : α}, (j, x) ∈ enumT k xs → x ∈ xs ∧ k ≤ j ∧ xs[j - k]? = some x
  | [], _, _, _, h => nomatch h
  | y :: xs, k, j, x, h => by
    rcases List.mem_cons.mp (show (j, x) ∈ (k, y) :: enumT (k + 1) xs from h) with e | e
    · cases e; exact ⟨List.mem_cons_self, Nat.le_refl _, by simp⟩
    · obtain ⟨h1, h2, h3⟩ := mem_enumT e
      refine ⟨List.mem_cons_of_mem _ h1, by omega, ?_⟩
      have : j - k = (j - (k + 1)) + 1 := by omega
      rw [this]; simpa using h3
theorem range_len (n : Nat) (h : n ≤ 16777216) : (List.range n).length ≤ sizeLine := by rw [List.length_range, szl]; exact h
end Pd
set_option Elab.async false
set_option linter.all false
set_option maxRecDepth 100000
set_option maxHeartbeats 1000000
/-! Ty6: sorted rows of numbers and of pairs; dicts as rows of pairs. -/
namespace Pd
open PySem PySem.W
theorem natInt_lt : ∀ {a b : List Nat}, (a.map fun (k : Nat) => (k : Int)) < (b.map fun (k : Nat) => (k : Int)) ↔ a < b
  | [], [] => by simp
  | [], y :: b => by simp
  | x :: a, [] => by simp
  | x :: a, y :: b => by
    simp only [List.map_cons, List.cons_lt_cons_iff, natInt_lt (a := a) (b := b), Int.ofNat_lt, Int.natCast_inj]
theorem pyL_N : ∀ (a : List Nat), pyL (a.map eN) = some (a.map fun (k : Nat) => PyData.int (k : Int))
  | [] => rfl
  | x :: a => by simp only [List.map_cons, pyL, Dt.py, pyL_N a]
theorem encD_T (a : List Nat) : encD (eT eN a) = .tuple (a.map fun (k : Nat) => PyData.int (k : Int)) := by
  simp only [encD, Dt.py, pyL_N]
theorem dataLt_T (a b : List Nat) : dataLt (encD (eT eN a)) (encD (eT eN b)) = decide (a < b) := by
  rw [encD_T, encD_T, dataLt_tuple]
  show rowLt _ _ = _
  have h : ∀ l : List Nat, (l.map fun (k : Nat) => PyData.int (k : Int)) = (l.map fun (k : Nat) => (k : Int)).map PyData.int := fun l => by rw [List.map_map]; rfl
  rw [h, h, dataLt_ints]
  congr 1
  exact propext natInt_lt
theorem le_T (a b : List Nat) : dataLe false encD (eT eN a) (eT eN b) = !decide (b < a) := by
  show (!dataLt (encD (eT eN b)) (encD (eT eN a))) = _
  rw [dataLt_T]
theorem alike_ints : ∀ (a b : List Nat), alikeAll (a.map fun (k : Nat) => PyData.int (k : Int)) (b.map fun (k : Nat) => PyData.int (k : Int)) = true
  | [], [] => by simp [alikeAll]
  | [], _ :: _ => by simp [alikeAll]
  | _ :: _, [] => by simp [alikeAll]
  | x :: a, y :: b => by simp only [List.map_cons, alikeAll, alike, alike_ints a b, Bool.and_self]
theorem alike_T (a b : List Nat) : alike (encD (eT eN a)) (encD (eT eN b)) = true := by
  rw [encD_T, encD_T]
  simp only [alike, alike_ints]
theorem encD_P (p : Nat × List Nat) : encD (eP2 eN (eT eN) p) = .tuple [.int (p.1 : Int), encD (eT eN p.2)] := by
  rw [encD_T]
  simp only [encD, Dt.py, pyL, pyL_N]
theorem eqv_T (a b : List Nat) : PyData.eqv (encD (eT eN a)) (encD (eT eN b)) = true ↔ a = b := by
  refine (Ed.T Ed.N).eqv a b _ _ ?_ ?_
  · rw [encD_T]; simp only [Dt.py, pyL_N]
  · rw [encD_T]; simp only [Dt.py, pyL_N]
theorem dataLt_P (p q : Nat × List Nat) : dataLt (encD (eP2 eN (eT eN) p)) (encD (eP2 eN (eT eN) q)) = true ↔ p.1 < q.1 ∨ (p.1 = q.1 ∧ p.2 < q.2) := by
  rw [encD_P, encD_P, dataLt_pair (by simp [alike]) (alike_T _ _), dataLt_int, dataLt_T]
  have e1 : PyData.eqv (.int (p.1 : Int)) (.int (q.1 : Int)) = true ↔ p.1 = q.1 := by
    show ((p.1 : Int) == (q.1 : Int)) = true ↔ _
    rw [beq_iff_eq]; omega
  by_cases h : p.1 = q.1
  · rw [if_pos (e1.mpr h)]
    by_cases h2 : p.2 = q.2
    · rw [if_pos ((eqv_T _ _).mpr h2)]
      constructor
      · intro z; cases z
      · intro z
        rcases z with z | ⟨_, z⟩
        · omega
        · rw [h2] at z; exact absurd z (List.lt_irrefl _)
    · rw [if_neg (fun z => h2 ((eqv_T _ _).mp z)), decide_eq_true_eq]
      constructor
      · intro z; exact .inr ⟨h, z⟩
      · intro z
        rcases z with z | ⟨_, z⟩
        · omega
        · exact z
  · rw [if_neg (fun z => h (e1.mp z)), decide_eq_true_eq]
    omega
theorem le_P (p q : Nat × List Nat) : dataLe false encD (eP2 eN (eT eN) p) (eP2 eN (eT eN) q) = true ↔ ¬ (q.1 < p.1 ∨ (q.1 = p.1 ∧ q.2 < p.2)) := by
  show (!dataLt (encD (eP2 eN (eT eN) q)) (encD (eP2 eN (eT eN) p))) = true ↔ _
  rw [Bool.not_eq_true', ← dataLt_P]
  cases dataLt (encD (eP2 eN (eT eN) q)) (encD (eP2 eN (eT eN) p)) <;> simp
theorem srt_sorted {α : Type} {e : α → Dt} {xs : List α} (h : xs.Pairwise fun a b => dataLe false encD (e a) (e b) = true) : srtE e xs = xs := List.mergeSort_of_pairwise h
theorem srt_perm {α : Type} (e : α → Dt) (xs : List α) : (srtE e xs).Perm xs := List.mergeSort_perm _ _
theorem nle_trans {a b c : List Nat} (h : ¬ b < a) (k : ¬ c < b) : ¬ c < a := fun z => by
  have h' : a ≤ b := h
  have k' : b ≤ c := k
  exact absurd z (List.not_lt.mpr (List.le_trans h' k'))
theorem le_P_trans (p q r : Nat × List Nat) (h : dataLe false encD (eP2 eN (eT eN) p) (eP2 eN (eT eN) q) = true) (k : dataLe false encD (eP2 eN (eT eN) q) (eP2 eN (eT eN) r) = true) : dataLe false encD (eP2 eN (eT eN) p) (eP2 eN (eT eN) r) = true := by
  rw [le_P] at *
  intro z
  by_cases e1 : q.1 = p.1
  · by_cases e2 : r.1 = q.1
    · have h1 : ¬ q.2 < p.2 := fun y => h (.inr ⟨e1, y⟩)
      have h2 : ¬ r.2 < q.2 := fun y => k (.inr ⟨e2, y⟩)
      rcases z with z | ⟨_, z⟩
      · omega
      · exact nle_trans h1 h2 z
    · have : ¬ r.1 < q.1 := fun y => k (.inl y)
      rcases z with z | ⟨z, _⟩ <;> omega
  · have : ¬ q.1 < p.1 := fun y => h (.inl y)
    have : ¬ r.1 < q.1 := fun y => k (.inl y)
    rcases z with z | ⟨z, _⟩ <;> omega
theorem le_P_total (p q : Nat × List Nat) : (dataLe false encD (eP2 eN (eT eN) p) (eP2 eN (eT eN) q) || dataLe false encD (eP2 eN (eT eN) q) (eP2 eN (eT eN) p)) = true := by
  rw [Bool.or_eq_true, le_P, le_P]
  by_cases h : q.1 < p.1 ∨ (q.1 = p.1 ∧ q.2 < p.2)
  · refine .inr fun z => ?_
    rcases h with h | ⟨h, h'⟩ <;> rcases z with z | ⟨z, z'⟩
    · omega
    · omega
    · omega
    · exact absurd (List.lt_trans h' z') (List.lt_irrefl _)
  · exact .inl h
/-- the first of the sorted pairs is the least -/
theorem srtP_head {xs : List (Nat × List Nat)} {m : Nat × List Nat} (hm : m ∈ xs) (h : ∀ y ∈ xs, y = m ∨ (m.1 < y.1 ∨ (m.1 = y.1 ∧ m.2 < y.2))) : (srtE (eP2 eN (eT eN)) xs)[0]? = some m := by
  have hs : (srtE (eP2 eN (eT eN)) xs).Pairwise fun a b => dataLe false encD (eP2 eN (eT eN) a) (eP2 eN (eT eN) b) = true := List.pairwise_mergeSort le_P_trans le_P_total xs
  have hp := srt_perm (eP2 eN (eT eN)) xs
  cases hl : srtE (eP2 eN (eT eN)) xs with
  | nil => rw [hl] at hp; have := hp.mem_iff.mpr hm; cases this
  | cons a l =>
    rw [hl] at hs hp
    have ha : a ∈ xs := hp.mem_iff.mp List.mem_cons_self
    have hm2 : m ∈ a :: l := hp.mem_iff.mpr hm
    rcases h a ha with e | e
    · rw [e]; rfl
    · rcases List.mem_cons.mp hm2 with z | z
      · rw [z]; rfl
      · have := (List.pairwise_cons.mp hs).1 m z
        rw [le_P] at this
        exact absurd e this
theorem sortB_of {es : List PyData} (h1 : ∀ x ∈ es, ∀ y ∈ es, alike x y = true) (h2 : ∀ x ∈ es, ∃ z zs, x = .tuple (z :: zs)) (h3 : PyData.depthAll es ≤ 60) : sortB es = true := by
  unfold sortB
  rw [Bool.and_eq_true, Bool.and_eq_true, List.all_eq_true, List.all_eq_true, decide_eq_true_eq]
  refine ⟨⟨fun x hx => List.all_eq_true.mpr fun y hy => h1 x hx y hy, fun x hx => ?_⟩, h3⟩
  obtain ⟨z, zs, rfl⟩ := h2 x hx
  rfl
theorem pyL_map {α : Type} {e : α → Dt} {k : Nat} (h : Ed e k) : ∀ (xs : List α), pyL (xs.map e) = some (xs.map fun a => encD (e a))
  | [] => rfl
  | x :: xs => by
    obtain ⟨y, a1, _, _⟩ := h.ok x
    simp only [List.map_cons, pyL, a1, pyL_map h xs, encD]
theorem srtG_of {α : Type} {e : α → Dt} {k : Nat} (h : Ed e k) (hk : k ≤ 60) {xs : List α} (h0 : ∀ x ∈ xs, toInts [e x] = none) (h1 : ∀ x ∈ xs, ∀ y ∈ xs, alike (encD (e x)) (encD (e y)) = true) (h2 : ∀ x ∈ xs, ∃ z zs, encD (e x) = .tuple (z :: zs)) : srtG e xs = true := by
  cases xs with
  | nil => rfl
  | cons x xs =>
    unfold srtG
    rw [Bool.or_eq_true, Bool.and_eq_true]
    refine .inr ⟨?_, ?_⟩
    · have := h0 x List.mem_cons_self
      simp only [List.map_cons]
      cases hx : e x with
      | int i => rw [hx] at this; cases this
      | _ => rfl
    · rw [pyL_map h]
      refine sortB_of (fun a ha b hb => ?_) (fun a ha => ?_) ?_
      · obtain ⟨a', m1, rfl⟩ := List.mem_map.mp ha
        obtain ⟨b', m2, rfl⟩ := List.mem_map.mp hb
        exact h1 a' m1 b' m2
      · obtain ⟨a', m1, rfl⟩ := List.mem_map.mp ha
        exact h2 a' m1
      · obtain ⟨ys, b1, b2, b3⟩ := h.map (x :: xs)
        rw [pyL_map h] at b1
        cases b1
        exact Nat.le_trans b3 hk
theorem srtG_T {xs : List (List Nat)} (h : ∀ x ∈ xs, x ≠ []) : srtG (eT eN) xs = true := srtG_of (Ed.T Ed.N) (by decide) (fun _ _ => rfl) (fun a _ b _ => alike_T a b) fun a ha => by
  cases a with
  | nil => exact absurd rfl (h _ ha)
  | cons x a => rw [encD_T]; exact ⟨_, _, rfl⟩
theorem alike_P (p q : Nat × List Nat) : alike (encD (eP2 eN (eT eN) p)) (encD (eP2 eN (eT eN) q)) = true := by
  rw [encD_P, encD_P]
  simp only [alike, alikeAll, alike_T, Bool.and_self]
theorem srtG_P (xs : List (Nat × List Nat)) : srtG (eP2 eN (eT eN)) xs = true := srtG_of (Ed.P2 Ed.N (Ed.T Ed.N)) (by decide) (fun _ _ => rfl) (fun a _ b _ => alike_P a b) fun a _ => by rw [encD_P]; exact ⟨_, _, rfl⟩
/-! sorted numbers -/
theorem sortN_is {ks l : List Nat} (hk : ks.Nodup) (hl : l.Pairwise (· < ·)) (h : ∀ q, q ∈ ks ↔ q ∈ l) : sortN ks = l := by
  have h1 := sort_is hk hl h
  unfold sortN
  have h2 : sortI (ks.map fun (k : Nat) => (k : Int)) = l.map fun (k : Nat) => (k : Int) := by
    have : (sortI (ks.map fun (k : Nat) => (k : Int))).map Dt.int = (l.map fun (k : Nat) => (k : Int)).map Dt.int := by rw [h1]; simp [nL, Function.comp_def]
    have inj : ∀ a b : List Int, a.map Dt.int = b.map Dt.int → a = b := fun a => by
      induction a with
      | nil => intro b h; cases b <;> simp at h ⊢
      | cons x a ih =>
        intro b h
        cases b with
        | nil => simp at h
        | cons y b =>
          simp only [List.map_cons, List.cons.injEq, Dt.int.injEq] at h
          rw [h.1, ih b h.2]
    exact inj _ _ this
  rw [h2, List.map_map]
  conv => rhs; rw [← List.map_id l]
  exact List.map_congr_left fun x _ => by simp
theorem sortN_perm (l : List Nat) : (sortN l).Perm l := by
  unfold sortN
  have h := (sortI_perm (l.map fun (k : Nat) => (k : Int))).map Int.toNat
  rw [List.map_map] at h
  have : l.map (Int.toNat ∘ fun (k : Nat) => (k : Int)) = l := by
    conv => rhs; rw [← List.map_id l]
    exact List.map_congr_left fun x _ => by simp
  rwa [this] at h
theorem sortN_len (l : List Nat) : (sortN l).length = l.length := (sortN_perm l).length_eq
/-! dicts as rows of pairs -/
section
variable {κ τ : Type} [DecidableEq κ]
theorem lkp_none {x : κ} : ∀ {l : List (κ × τ)}, lkp x l = none ↔ x ∉ l.map (·.1)
  | [] => by simp [lkp]
  | (a, v) :: l => by
    unfold lkp
    by_cases h : a = x
    · rw [if_pos h]; simp [h]
    · rw [if_neg h, lkp_none (l := l), List.map_cons, List.mem_cons, not_or]
      exact ⟨fun z => ⟨fun e => h e.symm, z⟩, fun z => z.2⟩
theorem lkp_mem {x : κ} {v : τ} : ∀ {l : List (κ × τ)}, lkp x l = some v → (x, v) ∈ l
  | [], h => by cases h
  | (a, w) :: l, h => by
    unfold lkp at h
    by_cases e : a = x
    · rw [if_pos e] at h; cases h; subst e; exact List.mem_cons_self
    · rw [if_neg e] at h; exact List.mem_cons_of_mem _ (lkp_mem h)
theorem lkp_of {x : κ} {v : τ} : ∀ {l : List (κ × τ)}, (l.map (·.1)).Nodup → (x, v) ∈ l → lkp x l = some v
  | (a, w) :: l, hn, h => by
    rw [List.map_cons] at hn
    have hn' := List.nodup_cons.mp hn
    unfold lkp
    rcases List.mem_cons.mp h with e | e
    · cases e; rw [if_pos rfl]
    · rw [if_neg fun z => hn'.1 (by rw [z]; exact List.mem_map.mpr ⟨_, e, rfl⟩), lkp_of hn'.2 e]
theorem lkp_isSome {x : κ} {l : List (κ × τ)} : (lkp x l).isSome = true ↔ x ∈ l.map (·.1) := by
  cases h : lkp x l with
  | none => simpa using lkp_none.mp h
  | some v => simp; exact ⟨v, lkp_mem h⟩
theorem lkp_isNone {x : κ} {l : List (κ × τ)} : (lkp x l).isNone = true ↔ x ∉ l.map (·.1) := by
  rw [← lkp_none]; cases lkp x l <;> simp
theorem putT_new {x : κ} {v : τ} {l : List (κ × τ)} (h : x ∉ l.map (·.1)) : putT x v l = l ++ [(x, v)] := by
  unfold putT
  rw [if_neg (fun z => h (lkp_isSome.mp z))]
end
/-! what can be shown -/
structure Fw (d : Dt) (k w : Nat) : Prop where
  p : pl d = true
  dp : dpD d ≤ k
  w : wt d ≤ w
theorem Fw.fit {d : Dt} {k w : Nat} (h : Fw d k w) (hk : k ≤ 60) (hw : w ≤ 2 ^ 20) : Fit d := ⟨h.p, Nat.le_trans h.dp hk, Nat.le_trans h.w hw⟩
theorem Fw.N {n : Nat} (h : n < 10 ^ 12) : Fw (eN n) 0 41 := ⟨decide_eq_true (by omega), Nat.le_refl _, Nat.le_refl _⟩
theorem Fw.Z {n : Int} (h : n.natAbs < 10 ^ 12) : Fw (eZ n) 0 41 := ⟨decide_eq_true h, Nat.le_refl _, Nat.le_refl _⟩
theorem Fw.U : Fw .non 0 0 := ⟨rfl, Nat.le_refl _, Nat.le_refl _⟩
theorem Fw.mono {d : Dt} {k w k' w' : Nat} (h : Fw d k w) (hk : k ≤ k') (hw : w ≤ w') : Fw d k' w' := ⟨h.p, Nat.le_trans h.dp hk, Nat.le_trans h.w hw⟩
theorem Fw.row {α : Type} {e : α → Dt} {k w : Nat} : ∀ {xs : List α}, (∀ x ∈ xs, Fw (e x) k w) → plL (xs.map e) = true ∧ dpL (xs.map e) ≤ k ∧ wtL (xs.map e) ≤ xs.length * (w + 1)
  | [], _ => ⟨rfl, Nat.zero_le _, Nat.zero_le _⟩
  | x :: xs, h => by
    have a := h x List.mem_cons_self
    obtain ⟨b1, b2, b3⟩ := Fw.row (xs := xs) fun y hy => h y (List.mem_cons_of_mem _ hy)
    refine ⟨?_, ?_, ?_⟩
    · show (pl (e x) && plL (xs.map e)) = true
      rw [a.p, b1]; rfl
    · show max (dpD (e x)) (dpL (xs.map e)) ≤ k
      have := a.dp
      omega
    · show wt (e x) + 1 + wtL (xs.map e) ≤ _
      have := a.w
      rw [List.length_cons, Nat.succ_mul]
      omega
theorem Fw.T {α : Type} {e : α → Dt} {k w : Nat} {xs : List α} (h : ∀ x ∈ xs, Fw (e x) k w) : Fw (eT e xs) (k + 1) (xs.length * (w + 1)) := by
  obtain ⟨a, b, c⟩ := Fw.row h
  exact ⟨a, Nat.succ_le_succ b, c⟩
theorem Fw.L {α : Type} {e : α → Dt} {k w : Nat} {xs : List α} (h : ∀ x ∈ xs, Fw (e x) k w) : Fw (eL e xs) (k + 1) (xs.length * (w + 1)) := by
  obtain ⟨a, b, c⟩ := Fw.row h
  exact ⟨a, Nat.succ_le_succ b, c⟩
theorem Fw.P2 {α β : Type} {e : α → Dt} {f : β → Dt} {p : α × β} {k w l v : Nat} (h : Fw (e p.1) k w) (g : Fw (f p.2) l v) : Fw (eP2 e f p) (max k l + 1) (w + v + 2) := by
  refine ⟨?_, ?_, ?_⟩
  · show (pl (e p.1) && (pl (f p.2) && true)) = true
    rw [h.p, g.p]; rfl
  · show max (dpD (e p.1)) (max (dpD (f p.2)) 0) + 1 ≤ _
    have := h.dp
    have := g.dp
    omega
  · show wt (e p.1) + 1 + (wt (f p.2) + 1 + 0) ≤ _
    have := h.w
    have := g.w
    omega
theorem Fw.O {α : Type} {e : α → Dt} {k w : Nat} {o : Option α} (h : ∀ x, o = some x → Fw (e x) k w) : Fw (eO e o) k w := by
  cases o with
  | none => exact Fw.U.mono (Nat.zero_le _) (Nat.zero_le _)
  | some x => exact h x rfl
theorem Fw.TN {xs : List Nat} {b : Nat} (h : ∀ x ∈ xs, x < b) (hb : b ≤ 10 ^ 12) : Fw (eT eN xs) 1 (42 * xs.length) := (Fw.T (e := eN) fun x hx => Fw.N (by have := h x hx; omega)).mono (Nat.le_refl _) (by omega)
end Pd
set_option Elab.async false
set_option linter.all false
set_option maxRecDepth 100000
set_option maxHeartbeats 1000000
/-! TyE: what the end of a law's proof needs. -/
namespace Pd
open PySem PySem.Spec PyProof.Rows L2
inductive FnsOk (K : PySem.W.Frag) (mg : Str → Option Value) : List Df → Prop
  | nil : FnsOk K mg []
  | cons {d : Df} {r : List Df} : (∃ a fd, mg d.nm = some (.ref a) ∧ Fun K d.nm d.nm d.st a fd ∧ Binds K fd d.ps []) → FnsOk K mg r → FnsOk K mg (d :: r)
theorem FnsOk.get {K : PySem.W.Frag} {mg : Str → Option Value} : ∀ {dfs : List Df}, FnsOk K mg dfs → ∀ (f : Nat) (d : Df), dfs[f]? = some d → ∃ a fd, mg d.nm = some (.ref a) ∧ Fun K d.nm d.nm d.st a fd ∧ Binds K fd d.ps []
  | _, .nil, f, d, h => by simp at h
  | _, .cons h _, 0, d, e => by simp at e; subst e; exact h
  | _, .cons _ t, f + 1, d, e => t.get f d (by simpa using e)
def xv0 : Xv := fun _ _ _ _ _ _ => False
end Pd
set_option Elab.async false
set_option linter.all false
set_option maxRecDepth 100000
set_option maxHeartbeats 4000000
namespace Pd
open PySem PySem.Spec PyProof.Rows L2
def topS (i : Nat) : Stmt := PySem.Challenge.pw_drawndeeds_k55_whole_ends.main.body.getD i (.Pass ⟨0, 0, 0, 0⟩)
def dfs : List Df := [
  ⟨"comes_to", topS 1, ["book", "p", "found", "waiting", "here", "deed"], ["book", "p"], [.sh, .sh], []⟩,
  ⟨"way_into", topS 2, ["book", "p", "lot", "words", "line", "at", "here", "letter", "deed"], ["book", "p", "lot"], [.sh, .sh, .sh], []⟩,
  ⟨"ends", topS 3, ["book", "found", "p", "here", "q"], ["book"], [.sh], []⟩,
  ⟨"_law_source", topS 5, ["script", "mixed", "cell"], ["script"], [.sh], []⟩,
  ⟨"_law_pick", topS 6, ["source", "many", "left", "mixed"], ["source", "many"], [.mu, .sh], [0]⟩,
  ⟨"_law_of", topS 7, ["source", "some"], ["source", "some"], [.mu, .sh], [0]⟩,
  ⟨"_law_mixed", topS 8, ["source", "things", "rest", "lap"], ["source", "things"], [.mu, .sh], [0]⟩,
  ⟨"_law_any_book", topS 9, ["source", "n", "g", "p", "lap"], ["source"], [.mu], [0]⟩,
  ⟨"_law_blocks_book", topS 10, ["source", "sizes", "out", "n", "deeds", "lap", "deed", "first", "size", "p"], ["source"], [.mu], [0]⟩,
  ⟨"_law_rings_book", topS 11, ["source", "sizes", "lap", "n", "deeds", "out", "deed", "first", "k", "size", "late", "start", "p"], ["source"], [.mu], [0]⟩,
  ⟨"_law_line_book", topS 12, ["source", "n", "up", "down", "p", "k", "deeds"], ["source"], [.mu], [0]⟩,
  ⟨"_law_draw_book", topS 13, ["source", "road", "n", "deeds", "to", "back", "p", "deed"], ["source"], [.mu], [0]⟩,
  ⟨"_law_words_from", topS 14, ["book", "p", "words", "line", "late", "here", "letter", "deed"], ["book", "p"], [.sh, .sh], []⟩,
  ⟨"_law_come", topS 15, ["book", "p"], ["book", "p"], [.sh, .sh], []⟩,
  ⟨"_law_ends", topS 16, ["book", "found", "p", "lot", "q"], ["book"], [.sh], []⟩,
  ⟨"law", topS 17, ["script", "source", "lap", "book", "p", "words", "lot", "some", "q", "n"], ["script"], [.sh], [1]⟩]

/-- "comes_to" -/
def bcomes_to : Sms :=
  (.cons (.asgT [2, 3] (.cons (.dmk (.cons (.var 1) (.cons (.cst (.bl true)) .nil))) (.cons (.lst (.cons (.var 1) .nil)) .nil)))
  (.cons (.whl (.tr (.e (.pr .ne (.cons (.v 3) (.cons (.e (.lst .nil)) .nil))))) (.cons (.asg 4 (.pop 3))
    (.cons (.fors (.nm 5) (.op (.e (.pr .ix (.cons (.v 0) (.cons (.e (.cst (.int 1))) .nil))))) (.cons (.ite (.tr (.e (.pr .notIn (.cons (.e (.pr .ix (.cons (.v 5) (.cons (.v 4) .nil)))) (.cons (.v 2) .nil))))) (.cons (.setI 2 (.pr .ix (.cons (.v 5) (.cons (.v 4) .nil))) (.cst (.bl true)))
        (.cons (.expr (.app 3 (.pr .ix (.cons (.v 5) (.cons (.v 4) .nil)))))
        .nil)) .nil)
      .nil))
    .nil)))
  (.cons (.ret (.pr .tuple (.cons (.e (.pr .sorted (.cons (.v 2) .nil))) .nil)))
  .nil)))
def fcomes_to : Fn := ⟨2, 6, [.sh, .sh], bcomes_to⟩
/-- "way_into" -/
def bway_into : Sms :=
  (.cons (.asgT [3, 4, 5] (.cons (.dmk (.cons (.var 1) (.cons (.tup .nil) .nil))) (.cons (.lst (.cons (.var 1) .nil)) (.cons (.cst (.int 0)) .nil))))
  (.cons (.whl (.tr (.e (.pr .lt (.cons (.v 5) (.cons (.e (.pr .len (.cons (.v 4) .nil))) .nil))))) (.cons (.asg 6 (.pr .ix (.cons (.v 4) (.cons (.v 5) .nil))))
    (.cons (.ite (.tr (.e (.pr .isIn (.cons (.v 6) (.cons (.v 2) .nil))))) (.cons (.ret (.pr .ix (.cons (.v 3) (.cons (.v 6) .nil))))
      .nil) .nil)
    (.cons (.fors (.tp [7, 8]) (.enum (.e (.pr .ix (.cons (.v 0) (.cons (.e (.cst (.int 1))) .nil))))) (.cons (.ite (.tr (.e (.pr .notIn (.cons (.e (.pr .ix (.cons (.v 8) (.cons (.v 6) .nil)))) (.cons (.v 3) .nil))))) (.cons (.setI 3 (.pr .ix (.cons (.v 8) (.cons (.v 6) .nil))) (.tup (.star (.e (.pr .ix (.cons (.v 3) (.cons (.v 6) .nil)))) (.cons (.var 7) .nil))))
        (.cons (.expr (.app 4 (.pr .ix (.cons (.v 8) (.cons (.v 6) .nil)))))
        .nil)) .nil)
      .nil))
    (.cons (.asg 5 (.pr .add (.cons (.v 5) (.cons (.e (.cst (.int 1))) .nil))))
    .nil)))))
  (.cons (.ret (.cst .non))
  .nil)))
def fway_into : Fn := ⟨3, 9, [.sh, .sh, .sh], bway_into⟩
/-- "ends" -/
def bends : Sms :=
  (.cons (.asg 1 (.lst .nil))
  (.cons (.fors (.nm 2) (.rng1 (.pr .ix (.cons (.v 0) (.cons (.e (.cst (.int 0))) .nil)))) (.cons (.asg 3 (.call 0 (.cons (.v 0) (.cons (.v 2) .nil))))
    (.cons (.ite (.land (.tr (.e (.pr .eq (.cons (.e (.pr .ix (.cons (.v 3) (.cons (.e (.cst (.int 0))) .nil)))) (.cons (.v 2) .nil))))) (.tr (.e (.pr .all (.cons (.e (.lc (.pr .isIn (.cons (.v 2) (.cons (.e (.call 0 (.cons (.v 0) (.cons (.v 4) .nil)))) .nil))) (.nm 4) (.op (.v 3)) .nil [4])) .nil))))) (.cons (.expr (.app 1 (.var 3)))
      .nil) .nil)
    .nil)))
  (.cons (.ret (.pr .tuple (.cons (.v 1) .nil)))
  .nil)))
def fends : Fn := ⟨1, 5, [.sh], bends⟩
/-- "_law_source" -/
def b_law_source : Sms :=
  (.cons (.asg 1 (.cst (.int 11)))
  (.cons (.fors (.nm 2) (.op (.v 0)) (.cons (.asg 1 (.pr .mod (.cons (.e (.pr .int (.cons (.e (.pr .add (.cons (.e (.pr .add (.cons (.e (.pr .mul (.cons (.v 1) (.cons (.e (.cst (.int 69069))) .nil)))) (.cons (.e (.pr .mul (.cons (.v 2) (.cons (.e (.cst (.int 31))) .nil)))) .nil)))) (.cons (.e (.cst (.int 5))) .nil)))) .nil))) (.cons (.e (.cst (.int 2147483629))) .nil))))
    .nil))
  (.cons (.ret (.rcd ["cells", "left", "mixed", "turn"] (.cons (.pr .rev (.cons (.e (.lc (.pr .abs (.cons (.v 2) .nil)) (.nm 2) (.op (.v 0)) .nil [2])) .nil)) (.cons (.cst (.int 1)) (.cons (.var 1) (.cons (.cst (.int 0)) .nil))))))
  .nil)))
def f_law_source : Fn := ⟨1, 3, [.sh], b_law_source⟩
/-- "_law_pick" -/
def b_law_pick : Sms :=
  (.cons (.whl (.land (.tr (.e (.pr .gt (.cons (.v 1) (.cons (.e (.cst (.int 1))) .nil))))) (.land (.tr (.e (.pr .lt (.cons (.e (.fld 0 "left")) (.cons (.e (.cst (.int 2))) .nil))))) (.tr (.e (.pr .gt (.cons (.e (.lenF 0 "cells")) (.cons (.e (.cst (.int 0))) .nil))))))) (.cons (.setF 0 "left" (.popF 0 "cells"))
    .nil))
  (.cons (.asg 2 (.fld 0 "left"))
  (.cons (.ite (.lor (.tr (.e (.pr .lt (.cons (.v 1) (.cons (.e (.cst (.int 2))) .nil))))) (.tr (.e (.pr .gt (.cons (.v 2) (.cons (.e (.cst (.int 1))) .nil)))))) (.cons (.setF 0 "left" (.pr .fdiv (.cons (.v 2) (.cons (.e (.pr .max2 (.cons (.e (.cst (.int 1))) (.cons (.v 1) .nil)))) .nil))))
    (.cons (.ret (.pr .mod (.cons (.e (.pr .int (.cons (.v 2) .nil))) (.cons (.e (.pr .max2 (.cons (.e (.cst (.int 1))) (.cons (.v 1) .nil)))) .nil))))
    .nil)) .nil)
  (.cons (.setF 0 "turn" (.pr .add (.cons (.e (.fld 0 "turn")) (.cons (.e (.cst (.int 1))) .nil))))
  (.cons (.asg 3 (.pr .mod (.cons (.e (.pr .int (.cons (.e (.pr .add (.cons (.e (.fld 0 "mixed")) (.cons (.e (.pr .mul (.cons (.e (.fld 0 "turn")) (.cons (.e (.cst (.int 104729))) .nil)))) .nil)))) .nil))) (.cons (.e (.cst (.int 998244353))) .nil))))
  (.cons (.asg 3 (.pr .mod (.cons (.e (.pr .int (.cons (.e (.pr .add (.cons (.e (.pr .mul (.cons (.v 3) (.cons (.v 3) .nil)))) (.cons (.e (.pr .mul (.cons (.e (.fld 0 "turn")) (.cons (.e (.cst (.int 17))) .nil)))) .nil)))) .nil))) (.cons (.e (.cst (.int 2147483647))) .nil))))
  (.cons (.setF 0 "mixed" (.var 3))
  (.cons (.ret (.pr .mod (.cons (.e (.pr .int (.cons (.e (.pr .fdiv (.cons (.v 3) (.cons (.e (.cst (.int 16))) .nil)))) .nil))) (.cons (.v 1) .nil))))
  .nil))))))))
def f_law_pick : Fn := ⟨2, 4, [.mu, .sh], b_law_pick⟩
/-- "_law_of" -/
def b_law_of : Sms :=
  (.cons (.ret (.pr .ix (.cons (.v 1) (.cons (.e (.call 4 (.cons (.v 0) (.cons (.e (.pr .len (.cons (.v 1) .nil))) .nil)))) .nil))))
  .nil)
def f_law_of : Fn := ⟨2, 2, [.mu, .sh], b_law_of⟩
/-- "_law_mixed" -/
def b_law_mixed : Sms :=
  (.cons (.asg 2 (.pr .list (.cons (.v 1) .nil)))
  (.cons (.ret (.lc (.popAt 2 (.call 4 (.cons (.v 0) (.cons (.e (.pr .len (.cons (.v 2) .nil))) .nil)))) (.nm 3) (.rng1 (.pr .len (.cons (.v 2) .nil))) .nil [3]))
  .nil))
def f_law_mixed : Fn := ⟨2, 4, [.mu, .sh], b_law_mixed⟩
/-- "_law_any_book" -/
def b_law_any_book : Sms :=
  (.cons (.asgT [1, 2] (.cons (.pr .add (.cons (.e (.cst (.int 1))) (.cons (.e (.call 4 (.cons (.v 0) (.cons (.e (.cst (.int 8))) .nil)))) .nil))) (.cons (.call 5 (.cons (.v 0) (.cons (.e (.lst (.cons (.cst (.int 1)) (.cons (.cst (.int 2)) (.cons (.cst (.int 2)) (.cons (.cst (.int 3)) (.cons (.cst (.int 4)) (.cons (.cst (.int 5)) (.cons (.cst (.int 6)) .nil))))))))) .nil))) .nil)))
  (.cons (.ret (.tup (.cons (.var 1) (.cons (.pr .tuple (.cons (.e (.lc (.pr .tuple (.cons (.e (.lc (.call 4 (.cons (.v 0) (.cons (.v 1) .nil))) (.nm 3) (.rng1 (.var 1)) .nil [3])) .nil)) (.nm 4) (.rng1 (.var 2)) .nil [4])) .nil)) .nil))))
  .nil))
def f_law_any_book : Fn := ⟨1, 5, [.mu], b_law_any_book⟩
/-- "_law_blocks_book" -/
def b_law_blocks_book : Sms :=
  (.cons (.asgT [1, 2] (.cons (.pr .add (.cons (.e (.lst (.cons (.pr .add (.cons (.e (.cst (.int 1))) (.cons (.e (.call 4 (.cons (.v 0) (.cons (.e (.cst (.int 3))) .nil)))) .nil))) (.cons (.pr .add (.cons (.e (.cst (.int 1))) (.cons (.e (.call 4 (.cons (.v 0) (.cons (.e (.cst (.int 2))) .nil)))) .nil))) .nil)))) (.cons (.e (.pr .mul (.cons (.e (.lst (.cons (.cst (.int 1)) .nil))) (.cons (.e (.call 4 (.cons (.v 0) (.cons (.e (.cst (.int 2))) .nil)))) .nil)))) .nil))) (.cons (.call 4 (.cons (.v 0) (.cons (.e (.cst (.int 3))) .nil))) .nil)))
  (.cons (.asgT [3, 4] (.cons (.pr .add (.cons (.e (.pr .sum (.cons (.v 1) .nil))) (.cons (.v 2) .nil))) (.cons (.lst .nil) .nil)))
  (.cons (.fors (.nm 5) (.rng1 (.pr .add (.cons (.e (.cst (.int 1))) (.cons (.e (.call 4 (.cons (.v 0) (.cons (.e (.cst (.int 3))) .nil)))) .nil)))) (.cons (.asgT [6, 7] (.cons (.lst .nil) (.cons (.cst (.int 0)) .nil)))
    (.cons (.fors (.nm 8) (.op (.v 1)) (.cons (.asg 6 (.pr .add (.cons (.v 6) (.cons (.e (.lc (.pr .add (.cons (.v 7) (.cons (.e (.call 4 (.cons (.v 0) (.cons (.v 8) .nil)))) .nil))) (.nm 9) (.rng1 (.var 8)) .nil [9])) .nil))))
      (.cons (.asg 7 (.pr .add (.cons (.v 7) (.cons (.v 8) .nil))))
      .nil)))
    (.cons (.expr (.app 4 (.pr .tuple (.cons (.e (.pr .add (.cons (.v 6) (.cons (.e (.lc (.call 4 (.cons (.v 0) (.cons (.v 3) .nil))) (.nm 9) (.rng1 (.var 2)) .nil [9])) .nil)))) .nil))))
    .nil))))
  (.cons (.ret (.tup (.cons (.var 3) (.cons (.pr .tuple (.cons (.v 4) .nil)) .nil))))
  .nil))))
def f_law_blocks_book : Fn := ⟨1, 10, [.mu], b_law_blocks_book⟩
/-- "_law_rings_book" -/
def b_law_rings_book : Sms :=
  (.cons (.asg 1 (.lc (.pr .add (.cons (.e (.cst (.int 1))) (.cons (.e (.call 4 (.cons (.v 0) (.cons (.e (.cst (.int 2))) .nil)))) .nil))) (.nm 2) (.rng1 (.pr .add (.cons (.e (.cst (.int 2))) (.cons (.e (.call 4 (.cons (.v 0) (.cons (.e (.cst (.int 2))) .nil)))) .nil)))) .nil [2]))
  (.cons (.asgT [3, 4, 5] (.cons (.pr .sum (.cons (.v 1) .nil)) (.cons (.lst .nil) (.cons (.call 4 (.cons (.v 0) (.cons (.e (.cst (.int 2))) .nil))) .nil))))
  (.cons (.fors (.nm 2) (.rng1 (.pr .add (.cons (.e (.cst (.int 1))) (.cons (.e (.call 4 (.cons (.v 0) (.cons (.e (.cst (.int 3))) .nil)))) .nil)))) (.cons (.asgT [6, 7] (.cons (.lst .nil) (.cons (.cst (.int 0)) .nil)))
    (.cons (.fors (.tp [8, 9]) (.enum (.v 1)) (.cons (.asg 7 (.pr .add (.cons (.v 7) (.cons (.v 9) .nil))))
      (.cons (.asg 10 (.pr .ix (.cons (.v 1) (.cons (.e (.pr .sub (.cons (.e (.pr .add (.cons (.v 8) (.cons (.e (.cst (.int 1))) .nil)))) (.cons (.e (.pr .len (.cons (.v 1) .nil))) .nil)))) .nil))))
      (.cons (.asg 11 (.cond (.tr (.e (.pr .lt (.cons (.e (.pr .add (.cons (.v 8) (.cons (.e (.cst (.int 1))) .nil)))) (.cons (.e (.pr .len (.cons (.v 1) .nil))) .nil))))) (.var 7) (.cst (.int 0))))
      (.cons (.asg 6 (.pr .add (.cons (.v 6) (.cons (.e (.lc (.pr .add (.cons (.v 11) (.cons (.e (.call 4 (.cons (.v 0) (.cons (.v 10) .nil)))) .nil))) (.nm 12) (.rng1 (.var 9)) .nil [12])) .nil))))
      .nil)))))
    (.cons (.expr (.app 4 (.pr .tuple (.cons (.e (.pr .add (.cons (.v 6) (.cons (.e (.lc (.call 4 (.cons (.v 0) (.cons (.v 3) .nil))) (.nm 12) (.rng1 (.var 5)) .nil [12])) .nil)))) .nil))))
    .nil))))
  (.cons (.ret (.tup (.cons (.pr .add (.cons (.v 3) (.cons (.v 5) .nil))) (.cons (.pr .tuple (.cons (.v 4) .nil)) .nil))))
  .nil))))
def f_law_rings_book : Fn := ⟨1, 13, [.mu], b_law_rings_book⟩
/-- "_law_line_book" -/
def b_law_line_book : Sms :=
  (.cons (.asg 1 (.pr .add (.cons (.e (.cst (.int 3))) (.cons (.e (.call 4 (.cons (.v 0) (.cons (.e (.cst (.int 4))) .nil)))) .nil))))
  (.cons (.asgT [2, 3] (.cons (.lc (.pr .min2 (.cons (.e (.pr .add (.cons (.v 4) (.cons (.e (.cst (.int 1))) .nil)))) (.cons (.e (.pr .sub (.cons (.v 1) (.cons (.e (.cst (.int 1))) .nil)))) .nil))) (.nm 4) (.rng1 (.var 1)) .nil [4]) (.cons (.lc (.pr .max2 (.cons (.e (.pr .sub (.cons (.v 4) (.cons (.e (.cst (.int 1))) .nil)))) (.cons (.e (.cst (.int 0))) .nil))) (.nm 4) (.rng1 (.var 1)) .nil [4]) .nil)))
  (.cons (.fors (.nm 5) (.op (.e (.pr .ix (.cons (.e (.lst (.cons (.lst .nil) (.cons (.lst (.cons (.cst (.int 0)) .nil)) (.cons (.lst (.cons (.pr .sub (.cons (.v 1) (.cons (.e (.cst (.int 1))) .nil))) .nil)) (.cons (.lst (.cons (.cst (.int 0)) (.cons (.pr .sub (.cons (.v 1) (.cons (.e (.cst (.int 1))) .nil))) .nil))) .nil)))))) (.cons (.e (.call 4 (.cons (.v 0) (.cons (.e (.cst (.int 4))) .nil)))) .nil))))) (.cons (.asgS 2 (.var 5) 3 (.var 5) (.tup (.cons (.var 5) (.cons (.var 5) .nil))))
    .nil))
  (.cons (.asg 6 (.lst (.cons (.pr .tuple (.cons (.v 2) .nil)) (.cons (.pr .tuple (.cons (.v 3) .nil)) .nil))))
  (.cons (.ite (.tr (.e (.pr .eq (.cons (.e (.call 4 (.cons (.v 0) (.cons (.e (.cst (.int 3))) .nil)))) (.cons (.e (.cst (.int 0))) .nil))))) (.cons (.expr (.app 6 (.pr .tuple (.cons (.e (.lc (.call 5 (.cons (.v 0) (.cons (.e (.lst (.cons (.var 4) (.cons (.pr .ix (.cons (.v 2) (.cons (.v 4) .nil))) (.cons (.pr .ix (.cons (.v 3) (.cons (.v 4) .nil))) .nil))))) .nil))) (.nm 4) (.rng1 (.var 1)) .nil [4])) .nil))))
    .nil) .nil)
  (.cons (.ret (.tup (.cons (.var 1) (.cons (.pr .tuple (.cons (.v 6) .nil)) .nil))))
  .nil))))))
def f_law_line_book : Fn := ⟨1, 7, [.mu], b_law_line_book⟩
/-- "_law_draw_book" -/
def b_law_draw_book : Sms :=
  (.cons (.asg 1 (.call 4 (.cons (.v 0) (.cons (.e (.cst (.int 6))) .nil))))
  (.cons (.ite (.tr (.e (.pr .eq (.cons (.v 1) (.cons (.e (.cst (.int 0))) .nil))))) (.cons (.unp [2, 3] (.e (.call 7 (.cons (.v 0) .nil))))
    .nil) (.cons (.ite (.tr (.e (.pr .lt (.cons (.v 1) (.cons (.e (.cst (.int 3))) .nil))))) (.cons (.unp [2, 3] (.e (.call 8 (.cons (.v 0) .nil))))
      .nil) (.cons (.ite (.tr (.e (.pr .lt (.cons (.v 1) (.cons (.e (.cst (.int 5))) .nil))))) (.cons (.unp [2, 3] (.e (.call 9 (.cons (.v 0) .nil))))
        .nil) (.cons (.unp [2, 3] (.e (.call 10 (.cons (.v 0) .nil))))
        .nil))
      .nil))
    .nil))
  (.cons (.asg 4 (.call 6 (.cons (.v 0) (.cons (.e (.pr .lrng (.cons (.v 2) .nil))) .nil))))
  (.cons (.asg 5 (.lc (.idx 4 (.var 6)) (.nm 6) (.rng1 (.var 2)) .nil [6]))
  (.cons (.ret (.tup (.cons (.var 2) (.cons (.pr .tuple (.cons (.e (.lc (.pr .tuple (.cons (.e (.lc (.pr .ix (.cons (.v 4) (.cons (.e (.pr .ix (.cons (.v 7) (.cons (.e (.pr .ix (.cons (.v 5) (.cons (.v 6) .nil)))) .nil)))) .nil))) (.nm 6) (.rng1 (.var 2)) .nil [6])) .nil)) (.nm 7) (.op (.v 3)) .nil [7])) .nil)) .nil))))
  .nil)))))
def f_law_draw_book : Fn := ⟨1, 8, [.mu], b_law_draw_book⟩
/-- "_law_words_from" -/
def b_law_words_from : Sms :=
  (.cons (.asgT [2, 3] (.cons (.dmk (.cons (.var 1) (.cons (.tup .nil) .nil))) (.cons (.lst (.cons (.var 1) .nil)) .nil)))
  (.cons (.whl (.tr (.e (.pr .ne (.cons (.v 3) (.cons (.e (.lst .nil)) .nil))))) (.cons (.asg 4 (.lst .nil))
    (.cons (.fors (.nm 5) (.op (.v 3)) (.cons (.fors (.tp [6, 7]) (.enum (.e (.pr .ix (.cons (.v 0) (.cons (.e (.cst (.int 1))) .nil))))) (.cons (.ite (.tr (.e (.pr .notIn (.cons (.e (.pr .ix (.cons (.v 7) (.cons (.v 5) .nil)))) (.cons (.v 2) .nil))))) (.cons (.setI 2 (.pr .ix (.cons (.v 7) (.cons (.v 5) .nil))) (.pr .add (.cons (.e (.pr .ix (.cons (.v 2) (.cons (.v 5) .nil)))) (.cons (.e (.tup (.cons (.var 6) .nil))) .nil))))
          (.cons (.expr (.app 4 (.pr .ix (.cons (.v 7) (.cons (.v 5) .nil)))))
          .nil)) .nil)
        .nil))
      .nil))
    (.cons (.asg 3 (.var 4))
    .nil))))
  (.cons (.retV 2)
  .nil)))
def f_law_words_from : Fn := ⟨2, 8, [.sh, .sh], b_law_words_from⟩
/-- "_law_come" -/
def b_law_come : Sms :=
  (.cons (.ret (.pr .tuple (.cons (.e (.pr .sorted (.cons (.e (.call 12 (.cons (.v 0) (.cons (.v 1) .nil)))) .nil))) .nil)))
  .nil)
def f_law_come : Fn := ⟨2, 2, [.sh, .sh], b_law_come⟩
/-- "_law_ends" -/
def b_law_ends : Sms :=
  (.cons (.asg 1 (.lst .nil))
  (.cons (.fors (.nm 2) (.rng1 (.pr .ix (.cons (.v 0) (.cons (.e (.cst (.int 0))) .nil)))) (.cons (.asg 3 (.call 13 (.cons (.v 0) (.cons (.v 2) .nil))))
    (.cons (.ite (.land (.tr (.e (.pr .notIn (.cons (.v 3) (.cons (.v 1) .nil))))) (.tr (.e (.pr .eq (.cons (.e (.lc (.var 4) (.nm 4) (.op (.v 3)) (.one (.tr (.e (.pr .ne (.cons (.e (.call 13 (.cons (.v 0) (.cons (.v 4) .nil)))) (.cons (.v 3) .nil)))))) [4])) (.cons (.e (.lst .nil)) .nil)))))) (.cons (.expr (.app 1 (.var 3)))
      .nil) .nil)
    .nil)))
  (.cons (.ret (.pr .tuple (.cons (.e (.pr .sorted (.cons (.v 1) .nil))) .nil)))
  .nil)))
def f_law_ends : Fn := ⟨1, 5, [.sh], b_law_ends⟩
/-- "law" -/
def blaw : Sms :=
  (.cons (.asg 1 (.call 3 (.cons (.v 0) .nil)))
  (.cons (.fors (.nm 2) (.rng1 (.cst (.int 8))) (.cons (.asg 3 (.call 11 (.cons (.v 1) .nil)))
    (.cons (.ite (.lor (.tr (.e (.pr .ne (.cons (.e (.pr .repr (.cons (.e (.call 2 (.cons (.v 3) .nil))) .nil))) (.cons (.e (.pr .repr (.cons (.e (.call 14 (.cons (.v 3) .nil))) .nil))) .nil))))) (.tr (.e (.pr .ne (.cons (.e (.call 2 (.cons (.v 3) .nil))) (.cons (.e (.call 2 (.cons (.v 3) .nil))) .nil)))))) (.cons (.ret (.cst (.bl false)))
      .nil) .nil)
    (.cons (.fors (.nm 4) (.rng1 (.pr .ix (.cons (.v 3) (.cons (.e (.cst (.int 0))) .nil)))) (.cons (.asg 5 (.call 12 (.cons (.v 3) (.cons (.v 4) .nil))))
      (.cons (.ite (.tr (.e (.pr .ne (.cons (.e (.pr .repr (.cons (.e (.call 0 (.cons (.v 3) (.cons (.v 4) .nil)))) .nil))) (.cons (.e (.pr .repr (.cons (.e (.pr .tuple (.cons (.e (.pr .sorted (.cons (.v 5) .nil))) .nil))) .nil))) .nil))))) (.cons (.ret (.cst (.bl false)))
        .nil) .nil)
      (.cons (.asg 6 (.pr .tuple (.cons (.e (.pr .sorted (.cons (.e (.pr (.cut false true) (.cons (.e (.call 6 (.cons (.v 1) (.cons (.e (.pr .lrng (.cons (.e (.pr .ix (.cons (.v 3) (.cons (.e (.cst (.int 0))) .nil)))) .nil))) .nil)))) (.cons (.e (.call 5 (.cons (.v 1) (.cons (.e (.lst (.cons (.cst (.int 0)) (.cons (.cst (.int 1)) (.cons (.cst (.int 1)) (.cons (.cst (.int 2)) (.cons (.cst (.int 2)) (.cons (.cst (.int 3)) (.cons (.cst (.int 5)) .nil))))))))) .nil)))) .nil)))) .nil))) .nil)))
      (.cons (.asg 7 (.pr .sorted (.cons (.e (.lc (.tup (.cons (.pr .len (.cons (.e (.pr .ix (.cons (.v 5) (.cons (.v 8) .nil)))) .nil)) (.cons (.pr .ix (.cons (.v 5) (.cons (.v 8) .nil))) .nil))) (.nm 8) (.op (.v 6)) (.one (.tr (.e (.pr .isIn (.cons (.v 8) (.cons (.v 5) .nil)))))) [8])) .nil)))
      (.cons (.ite (.tr (.e (.pr .ne (.cons (.e (.pr .repr (.cons (.e (.call 1 (.cons (.v 3) (.cons (.v 4) (.cons (.v 6) .nil))))) .nil))) (.cons (.e (.pr .repr (.cons (.e (.cond (.tr (.e (.pr .ne (.cons (.v 7) (.cons (.e (.lst .nil)) .nil))))) (.pr .ix (.cons (.e (.pr .ix (.cons (.v 7) (.cons (.e (.cst (.int 0))) .nil)))) (.cons (.e (.cst (.int 1))) .nil))) (.cst .non))) .nil))) .nil))))) (.cons (.ret (.cst (.bl false)))
        .nil) .nil)
      .nil))))))
    .nil))))
  (.cons (.asg 9 (.pr .add (.cons (.e (.cst (.int 1))) (.cons (.e (.call 4 (.cons (.v 1) (.cons (.e (.cst (.int 8))) .nil)))) .nil))))
  (.cons (.ite (.lor (.tr (.e (.pr .ne (.cons (.e (.call 2 (.cons (.e (.tup (.cons (.var 9) (.cons (.tup .nil) .nil)))) .nil))) (.cons (.e (.pr .tuple (.cons (.e (.lc (.tup (.cons (.var 4) .nil)) (.nm 4) (.rng1 (.var 9)) .nil [4])) .nil))) .nil))))) (.tr (.e (.pr .ne (.cons (.e (.call 0 (.cons (.e (.tup (.cons (.var 9) (.cons (.tup .nil) .nil)))) (.cons (.e (.pr .sub (.cons (.v 9) (.cons (.e (.cst (.int 1))) .nil)))) .nil)))) (.cons (.e (.tup (.cons (.pr .sub (.cons (.v 9) (.cons (.e (.cst (.int 1))) .nil))) .nil))) .nil)))))) (.cons (.ret (.cst (.bl false)))
    .nil) .nil)
  (.cons (.ite (.tr (.e (.pr .notN (.cons (.e (.call 1 (.cons (.e (.tup (.cons (.var 9) (.cons (.tup .nil) .nil)))) (.cons (.e (.cst (.int 0))) (.cons (.e (.tup .nil)) .nil))))) .nil)))) (.cons (.ret (.cst (.bl false)))
    .nil) .nil)
  (.cons (.ret (.land (.pr .eq (.cons (.e (.call 1 (.cons (.e (.tup (.cons (.var 9) (.cons (.tup .nil) .nil)))) (.cons (.e (.cst (.int 0))) (.cons (.e (.tup (.cons (.cst (.int 0)) .nil))) .nil))))) (.cons (.e (.tup .nil)) .nil))) (.pr .isN (.cons (.e (.call 1 (.cons (.e (.tup (.cons (.cst (.int 2)) (.cons (.tup .nil) .nil)))) (.cons (.e (.cst (.int 0))) (.cons (.e (.tup (.cons (.cst (.int 1)) .nil))) .nil))))) .nil))))
  .nil))))))
def flaw : Fn := ⟨1, 10, [.sh], blaw⟩
def T : List Fn := [fcomes_to, fway_into, fends, f_law_source, f_law_pick, f_law_of, f_law_mixed, f_law_any_book, f_law_blocks_book, f_law_rings_book, f_law_line_book, f_law_draw_book, f_law_words_from, f_law_come, f_law_ends, flaw]
theorem T_read : readAll 60 14 dfs [] dfs = some T := by kernel_rfl
theorem T_ok : progOk dfs T = true := by decide +kernel
end Pd
set_option Elab.async false
set_option linter.all false
set_option maxRecDepth 100000
set_option maxHeartbeats 1000000
namespace Pd
open PySem
noncomputable def ecomes_to_b1 (x_ : Nat) (deed : (List Nat)) (s_1 : ((List (Nat × Bool)) × (List Nat))) : Option ((List (Nat × Bool)) × (List Nat)) :=
  bnd (deed[x_]?) fun v =>
  bnd (if (lkp v s_1.1).isNone = true then (
  bnd (deed[x_]?) fun v1 =>
  grd (s_1.1.length < sizeLine) <|
  bnd (deed[x_]?) fun v2 =>
  grd (s_1.2.length < sizeLine) <|
  some (putT v1 true s_1.1, s_1.2 ++ [v2]))
  else (
  some (s_1.1, s_1.2))) fun j =>
  some (j.1, j.2)
noncomputable def ecomes_to_w2 (book : (Nat × (List (List Nat)))) (s_ : ((List (Nat × Bool)) × (List Nat))) : Option ((List (Nat × Bool)) × (List Nat)) :=
  bnd (s_.2.getLast?) fun x_ =>
  bnd (forT (ecomes_to_b1 x_) book.2 (s_.1, s_.2.dropLast)) fun m_ =>
  some (m_.1, m_.2)
noncomputable def ecomes_to_t3  (s_ : ((List (Nat × Bool)) × (List Nat))) : Option Bool :=
  some (decide (s_.2 ≠ []))
noncomputable def ecomes_to (book : (Nat × (List (List Nat)))) (p : Nat) : Option (List Nat) :=
  bnd (some [(p, true)]) fun found =>
  bnd (whT (ecomes_to_t3) (ecomes_to_w2 book) WFn (found, [p])) fun m_1 =>
  grd (0 < m_1.1.length ∧ m_1.1.length < 63) <|
  some (sortN (m_1.1.map (·.1)))
noncomputable def eway_into_b1 (v : Nat) (letter_deed : (Nat × (List Nat))) (s_1 : ((List (Nat × (List Nat))) × (List Nat))) : Option ((List (Nat × (List Nat))) × (List Nat)) :=
  bnd (letter_deed.2[v]?) fun v2 =>
  bnd (if (lkp v2 s_1.1).isNone = true then (
  bnd (lkp v s_1.1) fun v3 =>
  grd ((v3 ++ [letter_deed.1]).length ≤ sizeLine) <|
  bnd (letter_deed.2[v]?) fun v4 =>
  grd (s_1.1.length < sizeLine) <|
  bnd (letter_deed.2[v]?) fun v5 =>
  grd (s_1.2.length < sizeLine) <|
  some (putT v4 (v3 ++ [letter_deed.1]) s_1.1, s_1.2 ++ [v5]))
  else (
  some (s_1.1, s_1.2))) fun j =>
  some (j.1, j.2)
noncomputable def eway_into_w2 (book : (Nat × (List (List Nat)))) (lot : (List Nat)) (s_ : ((List (Nat × (List Nat))) × (List Nat) × Nat)) : Option (Sum (Option (List Nat)) ((List (Nat × (List Nat))) × (List Nat) × Nat)) :=
  bnd (s_.2.1[s_.2.2]?) fun v =>
  if (isIn v lot) = true then (
  bnd (lkp v s_.1) fun v1 =>
  some (.inl (some v1)))
  else (
  bnd (forT (eway_into_b1 v) (enumT 0 book.2) (s_.1, s_.2.1)) fun m_ =>
  bnd (some (s_.2.2 + 1)) fun at_ =>
  some (.inr (m_.1, m_.2, at_)))
noncomputable def eway_into_t3  (s_ : ((List (Nat × (List Nat))) × (List Nat) × Nat)) : Option Bool :=
  some (decide (s_.2.2 < s_.2.1.length))
noncomputable def eway_into (book : (Nat × (List (List Nat)))) (p : Nat) (lot : (List Nat)) : Option (Option (List Nat)) :=
  bnd (some [(p, [])]) fun words =>
  bnd (whR (eway_into_t3) (eway_into_w2 book lot) WFn (words, [p], 0)) fun res => match res with
  | .inl vr => some vr
  | .inr m_1 =>
  some none
noncomputable def eends_b1 (book : (Nat × (List (List Nat)))) (p : Nat) (found : ((List (List Nat)))) : Option ((List (List Nat))) :=
  bnd (ecomes_to book p) fun r_ =>
  bnd (r_[0]?) fun v =>
  bnd (if (decide (v = p)) = true then grd (r_.length ≤ sizeLine) <|
  bnd (lcP (fun (q_ : Nat) => bnd (ecomes_to book q_) fun r_1 =>
  some (some (isIn p r_1))) r_) fun ys =>
  some (ys.all id) else some false) fun b =>
  bnd (if b = true then (
  grd (found.length < sizeLine) <|
  some (found ++ [r_]))
  else (
  some found)) fun found1 =>
  some found1
noncomputable def eends (book : (Nat × (List (List Nat)))) : Option (List (List Nat)) :=
  grd (book.1 < 2 ^ 62) <|
  bnd (forT (eends_b1 book) (List.range book.1) []) fun found2 =>
  some found2
noncomputable def el_any_book_c1 (n_ : Nat) (p : Nat) (source2 : (SrcT)) : Option (Option Nat × (SrcT)) :=
  bnd (pickT source2 n_) fun r_2 =>
  some (some r_2.1, r_2.2)
noncomputable def el_any_book_c2 (n_ : Nat) (lap : Nat) (source1 : (SrcT)) : Option (Option (List Nat) × (SrcT)) :=
  grd (n_ < 2 ^ 62) <|
  grd ((List.range n_).length ≤ sizeLine) <|
  bnd (lcT (el_any_book_c1 n_) (List.range n_) source1) fun lc =>
  some (some lc.1, lc.2)
noncomputable def el_any_book (source : SrcT) : Option ((Nat × (List (List Nat))) × SrcT) :=
  bnd (pickT source 8) fun r_ =>
  bnd (some (1 + r_.1)) fun n_ =>
  bnd (l_of r_.2 [1, 2, 2, 3, 4, 5, 6]) fun r_1 =>
  grd (r_1.1 < 2 ^ 62) <|
  grd ((List.range r_1.1).length ≤ sizeLine) <|
  bnd (lcT (el_any_book_c2 n_) (List.range r_1.1) r_1.2) fun lc1 =>
  some ((n_, lc1.1), lc1.2)
noncomputable def el_blocks_book_c1 (size : Nat) (s_1 : (SrcT × (List Nat) × Nat)) (p : Nat) (source1 : (SrcT)) : Option (Option Nat × (SrcT)) :=
  bnd (pickT source1 size) fun r_5 =>
  some (some (s_1.2.2 + r_5.1), r_5.2)
noncomputable def el_blocks_book_b2  (size : Nat) (s_1 : (SrcT × (List Nat) × Nat)) : Option (SrcT × (List Nat) × Nat) :=
  grd (size < 2 ^ 62) <|
  grd ((List.range size).length ≤ sizeLine) <|
  bnd (lcT (el_blocks_book_c1 size s_1) (List.range size) s_1.1) fun lc =>
  grd (s_1.2.1.length + lc.1.length ≤ sizeLine) <|
  bnd (some (s_1.2.1 ++ lc.1)) fun deed =>
  bnd (some (s_1.2.2 + size)) fun first =>
  some (lc.2, deed, first)
noncomputable def el_blocks_book_c3 (n_ : Nat) (p1 : Nat) (source2 : (SrcT)) : Option (Option Nat × (SrcT)) :=
  bnd (pickT source2 n_) fun r_6 =>
  some (some r_6.1, r_6.2)
noncomputable def el_blocks_book_b4 (sizes : (List Nat)) (r_3 : (Nat × SrcT)) (n_ : Nat) (lap : Nat) (s_ : (SrcT × (List (List Nat)))) : Option (SrcT × (List (List Nat))) :=
  bnd (forT (el_blocks_book_b2) sizes (s_.1, [], 0)) fun m_ =>
  grd (r_3.1 < 2 ^ 62) <|
  grd ((List.range r_3.1).length ≤ sizeLine) <|
  bnd (lcT (el_blocks_book_c3 n_) (List.range r_3.1) m_.1) fun lc1 =>
  grd (m_.2.1.length + lc1.1.length ≤ sizeLine) <|
  grd (s_.2.length < sizeLine) <|
  some (lc1.2, s_.2 ++ [(m_.2.1 ++ lc1.1)])
noncomputable def el_blocks_book (source : SrcT) : Option ((Nat × (List (List Nat))) × SrcT) :=
  bnd (pickT source 3) fun r_ =>
  bnd (pickT r_.2 2) fun r_1 =>
  bnd (pickT r_1.2 2) fun r_2 =>
  grd (r_2.1 < 2 ^ 63 ∧ [1].length * r_2.1 ≤ sizeLine) <|
  grd ([(1 + r_.1), (1 + r_1.1)].length + ((List.replicate r_2.1 [1]).flatten).length ≤ sizeLine) <|
  bnd (some ([(1 + r_.1), (1 + r_1.1)] ++ ((List.replicate r_2.1 [1]).flatten))) fun sizes =>
  bnd (pickT r_2.2 3) fun r_3 =>
  bnd (some (sizes.sum + r_3.1)) fun n_ =>
  bnd (pickT r_3.2 3) fun r_4 =>
  grd ((1 + r_4.1) < 2 ^ 62) <|
  bnd (forT (el_blocks_book_b4 sizes r_3 n_) (List.range (1 + r_4.1)) (r_4.2, [])) fun m_1 =>
  some ((n_, m_1.2), m_1.1)
noncomputable def el_rings_book_c1  (lap : Nat) (source1 : (SrcT)) : Option (Option Nat × (SrcT)) :=
  bnd (pickT source1 2) fun r_1 =>
  some (some (1 + r_1.1), r_1.2)
noncomputable def el_rings_book_c2 (v : Nat) (start : Nat) (p : Nat) (source2 : (SrcT)) : Option (Option Nat × (SrcT)) :=
  bnd (pickT source2 v) fun r_4 =>
  some (some (start + r_4.1), r_4.2)
noncomputable def el_rings_book_b3 (lc : ((List Nat) × (SrcT))) (k_size : (Nat × Nat)) (s_1 : (SrcT × (List Nat) × Nat)) : Option (SrcT × (List Nat) × Nat) :=
  bnd (some (s_1.2.2 + k_size.2)) fun first =>
  bnd (atZ lc.1 ((((k_size.1 + 1) : Nat) : Int) - ((lc.1.length : Nat) : Int))) fun v =>
  bnd (some (if (decide ((k_size.1 + 1) < lc.1.length)) = true then first else 0)) fun start =>
  grd (k_size.2 < 2 ^ 62) <|
  grd ((List.range k_size.2).length ≤ sizeLine) <|
  bnd (lcT (el_rings_book_c2 v start) (List.range k_size.2) s_1.1) fun lc1 =>
  grd (s_1.2.1.length + lc1.1.length ≤ sizeLine) <|
  bnd (some (s_1.2.1 ++ lc1.1)) fun deed =>
  some (lc1.2, deed, first)
noncomputable def el_rings_book_c4 (n_ : Nat) (p1 : Nat) (source3 : (SrcT)) : Option (Option Nat × (SrcT)) :=
  bnd (pickT source3 n_) fun r_5 =>
  some (some r_5.1, r_5.2)
noncomputable def el_rings_book_b5 (lc : ((List Nat) × (SrcT))) (n_ : Nat) (r_2 : (Nat × SrcT)) (lap1 : Nat) (s_ : (SrcT × (List (List Nat)))) : Option (SrcT × (List (List Nat))) :=
  bnd (forT (el_rings_book_b3 lc) (enumT 0 lc.1) (s_.1, [], 0)) fun m_ =>
  grd (r_2.1 < 2 ^ 62) <|
  grd ((List.range r_2.1).length ≤ sizeLine) <|
  bnd (lcT (el_rings_book_c4 n_) (List.range r_2.1) m_.1) fun lc2 =>
  grd (m_.2.1.length + lc2.1.length ≤ sizeLine) <|
  grd (s_.2.length < sizeLine) <|
  some (lc2.2, s_.2 ++ [(m_.2.1 ++ lc2.1)])
noncomputable def el_rings_book (source : SrcT) : Option ((Nat × (List (List Nat))) × SrcT) :=
  bnd (pickT source 2) fun r_ =>
  grd ((2 + r_.1) < 2 ^ 62) <|
  grd ((List.range (2 + r_.1)).length ≤ sizeLine) <|
  bnd (lcT (el_rings_book_c1) (List.range (2 + r_.1)) r_.2) fun lc =>
  bnd (some lc.1.sum) fun n_ =>
  bnd (pickT lc.2 2) fun r_2 =>
  bnd (pickT r_2.2 3) fun r_3 =>
  grd ((1 + r_3.1) < 2 ^ 62) <|
  bnd (forT (el_rings_book_b5 lc n_ r_2) (List.range (1 + r_3.1)) (r_3.2, [])) fun m_1 =>
  some (((n_ + r_2.1), m_1.2), m_1.1)
noncomputable def el_line_book_b1  (k4 : Nat) (s_ : ((List Nat) × (List Nat))) : Option ((List Nat) × (List Nat)) :=
  grd (k4 < s_.1.length) <|
  grd (k4 < s_.2.length) <|
  some (s_.1.set k4 k4, s_.2.set k4 k4)
noncomputable def el_line_book_c2 (m_ : ((List Nat) × (List Nat))) (p2 : Nat) (source1 : (SrcT)) : Option (Option Nat × (SrcT)) :=
  bnd (m_.1[p2]?) fun v1 =>
  bnd (m_.2[p2]?) fun v2 =>
  bnd (l_of source1 [p2, v1, v2]) fun r_3 =>
  some (some r_3.1, r_3.2)
noncomputable def el_line_book (source : SrcT) : Option ((Nat × (List (List Nat))) × SrcT) :=
  bnd (pickT source 4) fun r_ =>
  bnd (some (3 + r_.1)) fun n_ =>
  grd (n_ < 2 ^ 62) <|
  grd ((List.range n_).length ≤ sizeLine) <|
  bnd (lcP (fun (p : Nat) => bnd (toN (min (((p + 1) : Nat) : Int) (((n_ : Nat) : Int) - (1 : Int)))) fun k =>
  some (some k)) (List.range n_)) fun ys =>
  grd (n_ < 2 ^ 62) <|
  grd ((List.range n_).length ≤ sizeLine) <|
  bnd (lcP (fun (p1 : Nat) => bnd (toN (max (((p1 : Nat) : Int) - (1 : Int)) (0 : Int))) fun k1 =>
  some (some k1)) (List.range n_)) fun ys1 =>
  bnd (toN (((n_ : Nat) : Int) - (1 : Int))) fun k2 =>
  bnd (toN (((n_ : Nat) : Int) - (1 : Int))) fun k3 =>
  bnd (pickT r_.2 4) fun r_1 =>
  bnd ([[], [0], [k2], [0, k3]][r_1.1]?) fun v =>
  bnd (forT (el_line_book_b1) v (ys, ys1)) fun m_ =>
  bnd (some [m_.1, m_.2]) fun deeds =>
  bnd (pickT r_1.2 3) fun r_2 =>
  bnd (if (decide (r_2.1 = 0)) = true then (
  grd (n_ < 2 ^ 62) <|
  grd ((List.range n_).length ≤ sizeLine) <|
  bnd (lcT (el_line_book_c2 m_) (List.range n_) r_2.2) fun lc =>
  grd (deeds.length < sizeLine) <|
  some (lc.2, deeds ++ [lc.1]))
  else (
  some (r_2.2, deeds))) fun j =>
  some ((n_, j.2), j.1)
noncomputable def el_draw_book (source : SrcT) : Option ((Nat × (List (List Nat))) × SrcT) :=
  bnd (pickT source 6) fun r_ =>
  bnd (if (decide (r_.1 = 0)) = true then (
  bnd (el_any_book r_.2) fun r_1 =>
  some (r_1.2, r_1.1.1, r_1.1.2))
  else (
  bnd (if (decide (r_.1 < 3)) = true then (
  bnd (el_blocks_book r_.2) fun r_2 =>
  some (r_2.2, r_2.1.1, r_2.1.2))
  else (
  bnd (if (decide (r_.1 < 5)) = true then (
  bnd (el_rings_book r_.2) fun r_3 =>
  some (r_3.2, r_3.1.1, r_3.1.2))
  else (
  bnd (el_line_book r_.2) fun r_4 =>
  some (r_4.2, r_4.1.1, r_4.1.2))) fun j2 =>
  some (j2.1, j2.2.1, j2.2.2))) fun j1 =>
  some (j1.1, j1.2.1, j1.2.2))) fun j =>
  grd (j.2.1 ≤ 16777216) <|
  bnd (l_mixed j.1 (List.range j.2.1)) fun r_5 =>
  grd (j.2.1 < 2 ^ 62) <|
  grd ((List.range j.2.1).length ≤ sizeLine) <|
  bnd (lcP (fun (p : Nat) => bnd (posN p r_5.1) fun j3 =>
  some (some j3)) (List.range j.2.1)) fun ys =>
  grd (j.2.2.length ≤ sizeLine) <|
  bnd (lcP (fun (deed : (List Nat)) => grd (j.2.1 < 2 ^ 62) <|
  grd ((List.range j.2.1).length ≤ sizeLine) <|
  bnd (lcP (fun (p1 : Nat) => bnd (ys[p1]?) fun v =>
  bnd (deed[v]?) fun v1 =>
  bnd (r_5.1[v1]?) fun v2 =>
  some (some v2)) (List.range j.2.1)) fun ys1 =>
  some (some ys1)) j.2.2) fun ys2 =>
  some ((j.2.1, ys2), r_5.2)
noncomputable def el_words_from_b1 (here : Nat) (letter_deed : (Nat × (List Nat))) (s_2 : ((List (Nat × (List Nat))) × (List Nat))) : Option ((List (Nat × (List Nat))) × (List Nat)) :=
  bnd (letter_deed.2[here]?) fun v =>
  bnd (if (lkp v s_2.1).isNone = true then (
  bnd (lkp here s_2.1) fun v1 =>
  grd (v1.length + [letter_deed.1].length ≤ sizeLine) <|
  bnd (letter_deed.2[here]?) fun v2 =>
  grd (s_2.1.length < sizeLine) <|
  bnd (letter_deed.2[here]?) fun v3 =>
  grd (s_2.2.length < sizeLine) <|
  some (putT v2 (v1 ++ [letter_deed.1]) s_2.1, s_2.2 ++ [v3]))
  else (
  some (s_2.1, s_2.2))) fun j =>
  some (j.1, j.2)
noncomputable def el_words_from_b2 (book : (Nat × (List (List Nat)))) (here : Nat) (s_1 : ((List (Nat × (List Nat))) × (List Nat))) : Option ((List (Nat × (List Nat))) × (List Nat)) :=
  bnd (forT (el_words_from_b1 here) (enumT 0 book.2) (s_1.1, s_1.2)) fun m_ =>
  some (m_.1, m_.2)
noncomputable def el_words_from_w3 (book : (Nat × (List (List Nat)))) (s_ : ((List (Nat × (List Nat))) × (List Nat))) : Option ((List (Nat × (List Nat))) × (List Nat)) :=
  bnd (forT (el_words_from_b2 book) s_.2 (s_.1, [])) fun m_1 =>
  some (m_1.1, m_1.2)
noncomputable def el_words_from_t4  (s_ : ((List (Nat × (List Nat))) × (List Nat))) : Option Bool :=
  some (decide (s_.2 ≠ []))
noncomputable def el_words_from (book : (Nat × (List (List Nat)))) (p : Nat) : Option (List (Nat × (List Nat))) :=
  bnd (some [(p, [])]) fun words =>
  bnd (whT (el_words_from_t4) (el_words_from_w3 book) WFn (words, [p])) fun m_2 =>
  some m_2.1
noncomputable def el_come (book : (Nat × (List (List Nat)))) (p : Nat) : Option (List Nat) :=
  bnd (el_words_from book p) fun r_ =>
  grd (0 < r_.length ∧ r_.length < 63) <|
  some (sortN (r_.map (·.1)))
noncomputable def el_ends_b1 (book : (Nat × (List (List Nat)))) (p : Nat) (found : ((List (List Nat)))) : Option ((List (List Nat))) :=
  bnd (el_come book p) fun r_ =>
  bnd (if (!isIn r_ found) = true then grd (r_.length ≤ sizeLine) <|
  bnd (lcP (fun (q_ : Nat) => bnd (el_come book q_) fun r_1 =>
  if (decide (r_1 ≠ r_)) = true then some (some q_) else some none) r_) fun ys =>
  some (decide (ys = [])) else some false) fun b =>
  bnd (if b = true then (
  grd (found.length < sizeLine) <|
  some (found ++ [r_]))
  else (
  some found)) fun found1 =>
  some found1
noncomputable def el_ends (book : (Nat × (List (List Nat)))) : Option (List (List Nat)) :=
  grd (book.1 < 2 ^ 62) <|
  bnd (forT (el_ends_b1 book) (List.range book.1) []) fun found2 =>
  grd (srtG (eT eN) found2) <|
  some (srtE (eT eN) found2)
noncomputable def elaw_b1 (r_ : ((Nat × (List (List Nat))) × SrcT)) (p : Nat) (source1 : (SrcT)) : Option (Sum Bool (SrcT)) :=
  bnd (el_words_from r_.1 p) fun r_5 =>
  bnd (ecomes_to r_.1 p) fun r_6 =>
  bnd (shwG ((eT eN) r_6)) fun d2 =>
  grd (0 < r_5.length ∧ r_5.length < 63) <|
  bnd (shwG ((eT eN) (sortN (r_5.map (·.1))))) fun d3 =>
  bnd (sameR d2 d3) fun b2 =>
  if (!b2) = true then (
  some (.inl false))
  else (
  grd (r_.1.1 ≤ 16777216) <|
  bnd (l_mixed source1 (List.range r_.1.1)) fun r_7 =>
  bnd (l_of r_7.2 [0, 1, 1, 2, 2, 3, 5]) fun r_8 =>
  bnd (some (sortN (r_7.1.take r_8.1))) fun lot =>
  grd (lot.length ≤ sizeLine) <|
  bnd (lcP (fun (q_ : Nat) => if (lkp q_ r_5).isSome = true then bnd (lkp q_ r_5) fun v =>
  bnd (lkp q_ r_5) fun v1 =>
  some (some (v.length, v1)) else some none) lot) fun ys =>
  grd (srtG (eP2 eN (eT eN)) ys) <|
  bnd (some (srtE (eP2 eN (eT eN)) ys)) fun some_ =>
  bnd (eway_into r_.1 p lot) fun r_9 =>
  bnd (shwG ((eO (eT eN)) r_9)) fun d4 =>
  bnd (if (decide (some_ ≠ [])) = true then bnd (some_[0]?) fun v3 =>
  some (some v3.2) else some none) fun c =>
  bnd (shwG ((eO (eT eN)) c)) fun d5 =>
  bnd (sameR d4 d5) fun b3 =>
  if (!b3) = true then (
  some (.inl false))
  else (
  some (.inr r_8.2)))
noncomputable def elaw_b2  (lap : Nat) (source : (SrcT)) : Option (Sum Bool (SrcT)) :=
  bnd (el_draw_book source) fun r_ =>
  bnd (eends r_.1) fun r_1 =>
  bnd (shwG ((eT (eT eN)) r_1)) fun d =>
  bnd (el_ends r_.1) fun r_2 =>
  bnd (shwG ((eT (eT eN)) r_2)) fun d1 =>
  bnd (sameR d d1) fun b =>
  bnd (if (!b) = true then some true else bnd (eends r_.1) fun r_3 =>
  bnd (eends r_.1) fun r_4 =>
  some (decide (r_3 ≠ r_4))) fun b1 =>
  if b1 = true then (
  some (.inl false))
  else (
  grd (r_.1.1 < 2 ^ 62) <|
  bnd (forR (elaw_b1 r_) (List.range r_.1.1) r_.2) fun res => match res with
  | .inl vr => some (.inl vr)
  | .inr m_ =>
  some (.inr m_))
noncomputable def elaw (src0 : SrcT) : Option Bool :=
  bnd (forR (elaw_b2) (List.range 8) src0) fun res1 => match res1 with
  | .inl vr => some vr
  | .inr m_1 =>
  bnd (pickT m_1 8) fun r_10 =>
  bnd (some (1 + r_10.1)) fun n_ =>
  bnd (eends (n_, [])) fun r_11 =>
  grd (n_ < 2 ^ 62) <|
  grd ((List.range n_).length ≤ sizeLine) <|
  bnd (if (decide (r_11 ≠ ((List.range n_).map fun (p1 : Nat) => [p1]))) = true then some true else bnd (toN (((n_ : Nat) : Int) - (1 : Int))) fun k =>
  bnd (ecomes_to (n_, []) k) fun r_12 =>
  bnd (toN (((n_ : Nat) : Int) - (1 : Int))) fun k1 =>
  some (decide (r_12 ≠ [k1]))) fun b4 =>
  if b4 = true then (
  some false)
  else (
  bnd (eway_into (n_, []) 0 []) fun r_13 =>
  if r_13.isSome = true then (
  some false)
  else (
  bnd (eway_into (n_, []) 0 [0]) fun r_14 =>
  bnd (if (decide (r_14 = (some []))) = true then bnd (eway_into (2, []) 0 [1]) fun r_15 =>
  some r_15.isNone else some false) fun b5 =>
  some b5))
end Pd
set_option Elab.async false
set_option linter.all false
set_option maxRecDepth 100000
set_option maxHeartbeats 1000000
/-! M55a: what is drawn is a book. -/
namespace Pd
open PySem
abbrev BkT := Nat × List (List Nat)
/-- a drawn book of 1 to 10 places and at most 9 letters -/
structure DrB (b : BkT) : Prop where
  n0 : 0 < b.1
  n : b.1 ≤ 10
  g : b.2.length ≤ 9
  d : ∀ d ∈ b.2, DeedOk b.1 d
theorem DrB.ok {b : BkT} (h : DrB b) : BookOk b.1 b.2 := ⟨by have := h.n; omega, by have := h.g; omega, h.d⟩
theorem any_ok (s : SrcT) : Ok (el_any_book s) fun r => DrB r.1 := by
  refine Ok.bnd (Ok.pick1 s (n := 8) (by decide) (by decide)) fun r hr => ?_
  rw [bnd_pure]
  refine Ok.bnd (Ok.of r.2 (xs := [1, 2, 2, 3, 4, 5, 6]) (by decide) (by decide)) fun q hq => ?_
  have hq6 : q.1 ≤ 6 := by
    have := hq
    simp at this
    omega
  refine Ok.grd (by omega) (Ok.grd (range_len _ (by omega)) ?_)
  refine Ok.bnd (Ok.lcE (P := fun d => DeedOk (1 + r.1) d) (fun x s => ?_) (List.range q.1) q.2) fun t ht => ?_
  · refine Ok.grd (by omega) (Ok.grd (range_len _ (by omega)) ?_)
    refine Ok.bnd (Ok.lcE (P := fun k => k < 1 + r.1) (fun x s => ?_) (List.range (1 + r.1)) s) fun t ht => ?_
    · refine Ok.bnd (Ok.pick1 s (n := 1 + r.1) (by omega) (by omega)) fun k hk => ?_
      exact ⟨_, rfl, _, rfl, hk⟩
    · exact ⟨_, rfl, _, rfl, by rw [ht.1, List.length_range], ht.2⟩
  · exact ⟨_, rfl, by show 0 < 1 + r.1; omega, by show 1 + r.1 ≤ 10; omega, by show t.1.length ≤ 9; rw [ht.1, List.length_range]; omega, ht.2⟩
theorem sum_ge {l : List Nat} (h : ∀ x ∈ l, 1 ≤ x) : l.length ≤ l.sum := by
  induction l with
  | nil => simp
  | cons x l ih =>
    have := ih fun y hy => h y (List.mem_cons_of_mem _ hy)
    have := h x List.mem_cons_self
    simp only [List.length_cons, List.sum_cons]
    omega
theorem sum_ones : ∀ (k : Nat), (List.replicate k 1).sum = k
  | 0 => rfl
  | k + 1 => by rw [List.replicate_succ, List.sum_cons, sum_ones k]; omega
/-- one letter of a blocks book: the sizes' places -/
theorem blocks_deed {n : Nat} {sizes : List Nat} (hs : ∀ x ∈ sizes, 1 ≤ x) (hn : sizes.sum ≤ n) (h100 : n ≤ 100) (s : SrcT) : Ok (forT el_blocks_book_b2 sizes (s, [], 0)) fun q => q.2.1.length = sizes.sum ∧ ∀ x ∈ q.2.1, x < n := by
  refine (Ok.forT (I := fun r (q : SrcT × List Nat × Nat) => q.2.1.length = q.2.2 ∧ q.2.2 + r.sum = sizes.sum ∧ (∀ x ∈ r, 1 ≤ x) ∧ ∀ x ∈ q.2.1, x < n) (fun size r q hi => ?_) sizes (s, [], 0) ⟨rfl, by simp, hs, fun _ h => nomatch h⟩).mono fun q hq => ⟨?_, hq.2.2.2⟩
  · have h1 : 1 ≤ size := hi.2.2.1 size List.mem_cons_self
    have h2 := hi.2.1
    simp only [List.sum_cons] at h2
    refine Ok.grd (by omega) (Ok.grd (range_len _ (by omega)) ?_)
    refine Ok.bnd (Ok.lcE (P := fun k => k < n) (fun x s => ?_) (List.range size) q.1) fun t ht => ?_
    · refine Ok.bnd (Ok.pick1 s (n := size) (by omega) (by omega)) fun k hk => ?_
      exact ⟨_, rfl, _, rfl, by omega⟩
    · have h3 := hi.1
      have h4 := ht.1
      rw [List.length_range] at h4
      refine Ok.grd (by rw [szl]; omega) ?_
      refine ⟨_, rfl, ?_, ?_, fun x hx => hi.2.2.1 x (List.mem_cons_of_mem _ hx), fun x hx => ?_⟩
      · show (q.2.1 ++ t.1).length = q.2.2 + size
        rw [List.length_append]; omega
      · show q.2.2 + size + r.sum = sizes.sum
        omega
      · rcases List.mem_append.mp hx with z | z
        · exact hi.2.2.2 x z
        · exact ht.2 x z
  · have := hq.1
    have h2 := hq.2.1
    simp at h2
    omega
theorem blocks_ok (s : SrcT) : Ok (el_blocks_book s) fun r => DrB r.1 := by
  refine Ok.bnd (Ok.pick1 s (n := 3) (by decide) (by decide)) fun r0 h0 => ?_
  refine Ok.bnd (Ok.pick1 r0.2 (n := 2) (by decide) (by decide)) fun r1 h1 => ?_
  refine Ok.bnd (Ok.pick1 r1.2 (n := 2) (by decide) (by decide)) fun r2 h2 => ?_
  have hrep : (List.replicate r2.1 [1]).flatten = List.replicate r2.1 1 := by
    clear h2
    induction r2.1 with
    | zero => rfl
    | succ k ih => rw [List.replicate_succ, List.flatten_cons, ih, List.replicate_succ]; rfl
  refine Ok.grd ⟨by omega, by rw [szl]; simp; omega⟩ (Ok.grd (by rw [hrep, szl]; simp; omega) ?_)
  rw [bnd_pure, hrep]
  have hsum : ([1 + r0.1, 1 + r1.1] ++ List.replicate r2.1 1).sum = 2 + r0.1 + r1.1 + r2.1 := by
    rw [List.sum_append, sum_ones]; simp; omega
  have hge : ∀ x ∈ [1 + r0.1, 1 + r1.1] ++ List.replicate r2.1 1, 1 ≤ x := by
    intro x hx
    simp at hx
    omega
  refine Ok.bnd (Ok.pick1 r2.2 (n := 3) (by decide) (by decide)) fun r3 h3 => ?_
  rw [bnd_pure]
  refine Ok.bnd (Ok.pick1 r3.2 (n := 3) (by decide) (by decide)) fun r4 h4 => ?_
  refine Ok.grd (by omega) ?_
  generalize hsz : [1 + r0.1, 1 + r1.1] ++ List.replicate r2.1 1 = sizes at *
  refine Ok.bnd (Ok.forT (I := fun r (q : SrcT × List (List Nat)) => q.2.length + r.length = 1 + r4.1 ∧ ∀ d ∈ q.2, DeedOk (sizes.sum + r3.1) d) (fun x r q hi => ?_) (List.range (1 + r4.1)) (r4.2, []) ⟨by simp, fun _ h => nomatch h⟩) fun q hq => ?_
  · refine Ok.bnd (blocks_deed (n := sizes.sum + r3.1) hge (by omega) (by omega) q.1) fun m hm => ?_
    refine Ok.grd (by omega) (Ok.grd (range_len _ (by omega)) ?_)
    refine Ok.bnd (Ok.lcE (P := fun k => k < sizes.sum + r3.1) (fun x s => ?_) (List.range r3.1) m.1) fun t ht => ?_
    · refine Ok.bnd (Ok.pick1 s (n := sizes.sum + r3.1) (by omega) (by omega)) fun k hk => ?_
      exact ⟨_, rfl, _, rfl, hk⟩
    · have h5 := ht.1
      rw [List.length_range] at h5
      have h6 := hi.1
      simp only [List.length_cons] at h6
      refine Ok.grd (by rw [szl]; omega) (Ok.grd (by rw [szl]; omega) ⟨_, rfl, ?_, fun d hd => ?_⟩)
      · show (q.2 ++ [_]).length + r.length = _
        rw [List.length_append]; simp; omega
      · rcases List.mem_append.mp hd with z | z
        · exact hi.2 d z
        · rw [List.mem_singleton.mp z]
          refine ⟨by rw [List.length_append]; omega, fun x hx => ?_⟩
          rcases List.mem_append.mp hx with y | y
          · exact hm.2 x y
          · exact ht.2 x y
  · refine ⟨_, rfl, ?_, ?_, ?_, hq.2⟩
    · show 0 < sizes.sum + r3.1; omega
    · show sizes.sum + r3.1 ≤ 10; omega
    · have := hq.1; simp at this; show q.2.length ≤ 9; omega
theorem take_sum_le (l : List Nat) (k : Nat) : (l.take k).sum ≤ l.sum := by
  have : l.sum = (l.take k).sum + (l.drop k).sum := by rw [← List.sum_append, List.take_append_drop]
  omega
theorem take_sum_succ {l : List Nat} {k : Nat} (h : k < l.length) : (l.take (k + 1)).sum = (l.take k).sum + l[k] := by
  rw [List.take_succ_eq_append_getElem h, List.sum_append]; simp
theorem enumT_drop {α : Type} : ∀ (xs : List α) (k : Nat), enumT k xs = (enumT 0 xs).map fun p => (k + p.1, p.2)
  | [], _ => rfl
  | x :: xs, k => by
    show (k, x) :: enumT (k + 1) xs = (k + 0, x) :: (enumT 1 xs).map _
    rw [enumT_drop xs (k + 1), enumT_drop xs 1, List.map_map]
    congr 1
    refine List.map_congr_left fun p _ => ?_
    simp only [Function.comp, Prod.mk.injEq, and_true]
    omega
theorem rings_deed {n : Nat} {lc : List Nat × SrcT} (hs : ∀ x ∈ lc.1, 1 ≤ x) (hn : lc.1.sum ≤ n) (h100 : n ≤ 100) (h0 : lc.1 ≠ []) (s : SrcT) : Ok (forT (el_rings_book_b3 lc) (enumT 0 lc.1) (s, [], 0)) fun q => q.2.1.length = lc.1.sum ∧ ∀ x ∈ q.2.1, x < n := by
  have key : ∀ (k : Nat) (rest : List Nat) (q : SrcT × List Nat × Nat), lc.1.drop k = rest → q.2.1.length = q.2.2 → q.2.2 = (lc.1.take k).sum → (∀ x ∈ q.2.1, x < n) → Ok (forT (el_rings_book_b3 lc) (enumT k rest) q) fun q => q.2.1.length = lc.1.sum ∧ ∀ x ∈ q.2.1, x < n := by
    intro k rest
    induction rest generalizing k with
    | nil =>
      intro q hd h1 h2 h3
      refine ⟨q, rfl, ?_, h3⟩
      rw [h1, h2]
      have : lc.1.length ≤ k := by
        have := congrArg List.length hd
        simp at this; omega
      rw [List.take_of_length_le this]
    | cons size rest ih =>
      intro q hd h1 h2 h3
      have hk : k < lc.1.length := by
        have := congrArg List.length hd
        simp at this; omega
      have hsz : lc.1[k] = size := by
        have := congrArg (fun l => l[0]?) hd
        simp at this
        rw [List.getElem?_eq_getElem hk] at this
        exact Option.some.inj this
      have hd' : lc.1.drop (k + 1) = rest := by
        rw [← List.drop_drop, hd]; rfl
      have hs1 : 1 ≤ size := hs size (by rw [← hsz]; exact List.getElem_mem hk)
      have hts := take_sum_succ hk
      rw [hsz] at hts
      have hle := take_sum_le lc.1 (k + 1)
      have hll := sum_ge hs
      refine Ok.bnd (P := fun q' => q'.2.1.length = q'.2.2 ∧ q'.2.2 = (lc.1.take (k + 1)).sum ∧ ∀ x ∈ q'.2.1, x < n) ?_ fun q' hq' => ih (k + 1) q' hd' hq'.1 hq'.2.1 hq'.2.2
      unfold el_rings_book_b3
      rw [bnd_pure]
      -- the size of the lot that is led to, and its first place
      have hv : ∃ v, atZ lc.1 (((k + 1 : Nat) : Int) - (lc.1.length : Int)) = some v ∧ 1 ≤ v ∧ (if (decide (k + 1 < lc.1.length)) = true then q.2.2 + size else 0) + v ≤ n := by
        by_cases hl : k + 1 < lc.1.length
        · refine ⟨lc.1[k + 1], ?_, hs _ (List.getElem_mem hl), ?_⟩
          · unfold atZ
            rw [if_neg (by omega), if_pos (by omega)]
            have : (((k + 1 : Nat) : Int) - (lc.1.length : Int) + lc.1.length).toNat = k + 1 := by omega
            rw [this, List.getElem?_eq_getElem hl]
          · have h5 := take_sum_succ hl
            have h6 := take_sum_le lc.1 (k + 1 + 1)
            simp only [decide_eq_true hl, if_true]
            omega
        · have h0' : 0 < lc.1.length := List.length_pos_iff.mpr h0
          refine ⟨lc.1[0], ?_, hs _ (List.getElem_mem h0'), ?_⟩
          · unfold atZ
            rw [if_pos (by omega)]
            have : (((k + 1 : Nat) : Int) - (lc.1.length : Int)).toNat = 0 := by omega
            rw [this, List.getElem?_eq_getElem h0']
          · have h5 := take_sum_succ h0'
            have h6 := take_sum_le lc.1 (0 + 1)
            simp only [decide_eq_false hl]
            simp at h5 ⊢
            simp at h6
            omega
      obtain ⟨v, v1, v2, v3⟩ := hv
      rw [bnd_of v1, bnd_pure]
      refine Ok.grd (by show size < 2 ^ 62; omega) (Ok.grd (range_len _ (by show size ≤ 16777216; omega)) ?_)
      refine Ok.bnd (Ok.lcE (P := fun x => x < n) (fun x s => ?_) (List.range size) q.1) fun t ht => ?_
      · refine Ok.bnd (Ok.pick1 s (n := v) (by omega) (by omega)) fun j hj => ?_
        exact ⟨_, rfl, _, rfl, Nat.lt_of_lt_of_le (Nat.add_lt_add_left hj _) v3⟩
      · have h4 := ht.1
        rw [List.length_range] at h4
        refine Ok.grd (by rw [szl]; omega) ⟨_, rfl, ?_, ?_, fun x hx => ?_⟩
        · show (q.2.1 ++ t.1).length = q.2.2 + size
          rw [List.length_append]; omega
        · show q.2.2 + size = _
          omega
        · rcases List.mem_append.mp hx with z | z
          · exact h3 x z
          · exact ht.2 x z
  exact key 0 lc.1 (s, [], 0) rfl rfl rfl fun _ h => nomatch h
theorem rings_ok (s : SrcT) : Ok (el_rings_book s) fun r => DrB r.1 := by
  refine Ok.bnd (Ok.pick1 s (n := 2) (by decide) (by decide)) fun r0 h0 => ?_
  refine Ok.grd (by omega) (Ok.grd (range_len _ (by omega)) ?_)
  refine Ok.bnd (Ok.lcE (P := fun k => 1 ≤ k ∧ k ≤ 2) (fun x s => ?_) (List.range (2 + r0.1)) r0.2) fun lc hlc => ?_
  · refine Ok.bnd (Ok.pick1 s (n := 2) (by decide) (by decide)) fun k hk => ?_
    exact ⟨_, rfl, _, rfl, by omega, by omega⟩
  have hlen := hlc.1
  rw [List.length_range] at hlen
  have hne : lc.1 ≠ [] := fun z => by rw [z] at hlen; simp at hlen; omega
  have hs : ∀ x ∈ lc.1, 1 ≤ x := fun x hx => (hlc.2 x hx).1
  have hge := sum_ge hs
  have hle : lc.1.sum ≤ 2 * lc.1.length := by
    have : ∀ l : List Nat, (∀ x ∈ l, x ≤ 2) → l.sum ≤ 2 * l.length := by
      intro l
      induction l with
      | nil => simp
      | cons x l ih =>
        intro h
        have := ih fun y hy => h y (List.mem_cons_of_mem _ hy)
        have := h x List.mem_cons_self
        simp only [List.length_cons, List.sum_cons]; omega
    exact this lc.1 fun x hx => (hlc.2 x hx).2
  rw [bnd_pure]
  refine Ok.bnd (Ok.pick1 lc.2 (n := 2) (by decide) (by decide)) fun r2 h2 => ?_
  refine Ok.bnd (Ok.pick1 r2.2 (n := 3) (by decide) (by decide)) fun r3 h3 => ?_
  refine Ok.grd (by omega) ?_
  refine Ok.bnd (Ok.forT (I := fun r (q : SrcT × List (List Nat)) => q.2.length + r.length = 1 + r3.1 ∧ ∀ d ∈ q.2, DeedOk (lc.1.sum + r2.1) d) (fun x r q hi => ?_) (List.range (1 + r3.1)) (r3.2, []) ⟨by simp, fun _ h => nomatch h⟩) fun q hq => ?_
  · refine Ok.bnd (rings_deed (n := lc.1.sum) hs (by omega) (by omega) hne q.1) fun m hm => ?_
    refine Ok.grd (by omega) (Ok.grd (range_len _ (by omega)) ?_)
    refine Ok.bnd (Ok.lcE (P := fun k => k < lc.1.sum) (fun x s => ?_) (List.range r2.1) m.1) fun t ht => ?_
    · refine Ok.bnd (Ok.pick1 s (n := lc.1.sum) (by omega) (by omega)) fun k hk => ?_
      exact ⟨_, rfl, _, rfl, hk⟩
    · have h5 := ht.1
      rw [List.length_range] at h5
      have h6 := hi.1
      simp only [List.length_cons] at h6
      refine Ok.grd (by rw [szl]; omega) (Ok.grd (by rw [szl]; omega) ⟨_, rfl, ?_, fun d hd => ?_⟩)
      · show (q.2 ++ [_]).length + r.length = _
        rw [List.length_append]; simp; omega
      · rcases List.mem_append.mp hd with z | z
        · exact hi.2 d z
        · rw [List.mem_singleton.mp z]
          refine ⟨by rw [List.length_append]; omega, fun x hx => ?_⟩
          rcases List.mem_append.mp hx with y | y
          · have := hm.2 x y; omega
          · have := ht.2 x y; omega
  · refine ⟨_, rfl, ?_, ?_, ?_, hq.2⟩
    · show 0 < lc.1.sum + r2.1; omega
    · show lc.1.sum + r2.1 ≤ 10; omega
    · have := hq.1; simp at this; show q.2.length ≤ 9; omega
theorem line_ok (s : SrcT) : Ok (el_line_book s) fun r => DrB r.1 := by
  refine Ok.bnd (Ok.pick1 s (n := 4) (by decide) (by decide)) fun r0 h0 => ?_
  rw [bnd_pure]
  refine Ok.grd (by omega) (Ok.grd (range_len _ (by omega)) ?_)
  refine Ok.bnd (Ok.lcP (P := fun k => k < 3 + r0.1) (List.range (3 + r0.1)) fun x hx => ?_) fun up hup => ?_
  · have := List.mem_range.mp hx
    rw [bnd_of (toN_ok (by omega))]
    exact ⟨_, rfl, _, rfl, by omega⟩
  refine Ok.grd (by omega) (Ok.grd (range_len _ (by omega)) ?_)
  refine Ok.bnd (Ok.lcP (P := fun k => k < 3 + r0.1) (List.range (3 + r0.1)) fun x hx => ?_) fun dn hdn => ?_
  · have := List.mem_range.mp hx
    rw [bnd_of (toN_ok (by omega))]
    exact ⟨_, rfl, _, rfl, by omega⟩
  have hul := hup.1
  have hdl := hdn.1
  rw [List.length_range] at hul hdl
  rw [bnd_of (toN_ok (by omega)), bnd_of (toN_ok (by omega))]
  have hk : (((3 + r0.1 : Nat) : Int) - (1 : Int)).toNat = 2 + r0.1 := by omega
  rw [hk]
  refine Ok.bnd (Ok.pick1 r0.2 (n := 4) (by decide) (by decide)) fun r1 h1 => ?_
  refine Ok.bnd (Ok.get (by simpa using h1)) fun ks hks => ?_
  have hks' : ∀ k ∈ ks, k < 3 + r0.1 := by
    intro k hk
    have := hks.2
    simp at this
    rcases this with z | z | z | z <;> subst z <;> simp at hk <;> omega
  refine Ok.bnd (Ok.forT (I := fun r (q : List Nat × List Nat) => (∀ k ∈ r, k < 3 + r0.1) ∧ DeedOk (3 + r0.1) q.1 ∧ DeedOk (3 + r0.1) q.2) (fun k r q hi => ?_) ks (up, dn) ⟨hks', ⟨hul, hup.2⟩, ⟨hdl, hdn.2⟩⟩) fun m hm => ?_
  · have hk := hi.1 k List.mem_cons_self
    have setok : ∀ d : List Nat, DeedOk (3 + r0.1) d → DeedOk (3 + r0.1) (d.set k k) := fun d hd => ⟨by rw [List.length_set]; exact hd.l, fun x hx => by
      rcases List.mem_or_eq_of_mem_set hx with z | z
      · exact hd.b x z
      · omega⟩
    refine Ok.grd (by rw [hi.2.1.l]; exact hk) (Ok.grd (by rw [hi.2.2.l]; exact hk) ⟨_, rfl, fun j hj => hi.1 j (List.mem_cons_of_mem _ hj), setok _ hi.2.1, setok _ hi.2.2⟩)
  rw [bnd_pure]
  refine Ok.bnd (Ok.pick1 r1.2 (n := 3) (by decide) (by decide)) fun r2 h2 => ?_
  refine Ok.bnd (P := fun (j : SrcT × List (List Nat)) => j.2.length ≤ 3 ∧ ∀ d ∈ j.2, DeedOk (3 + r0.1) d) (Ok.ite (fun _ => ?_) fun _ => ⟨_, rfl, by simp, fun d hd => by
    simp at hd
    rcases hd with z | z
    · rw [z]; exact hm.2.1
    · rw [z]; exact hm.2.2⟩) fun j hj => ⟨_, rfl, by show 0 < 3 + r0.1; omega, by show 3 + r0.1 ≤ 10; omega, by show j.2.length ≤ 9; have := hj.1; omega, hj.2⟩
  refine Ok.grd (by omega) (Ok.grd (range_len _ (by omega)) ?_)
  refine Ok.bnd (Ok.lcE' (P := fun k => k < 3 + r0.1) (List.range (3 + r0.1)) (fun x hx s => ?_) r2.2) fun t ht => ?_
  · have hx := List.mem_range.mp hx
    refine Ok.bnd (Ok.get (by rw [hm.2.1.l]; exact hx)) fun v1 hv1 => ?_
    refine Ok.bnd (Ok.get (by rw [hm.2.2.l]; exact hx)) fun v2 hv2 => ?_
    refine Ok.bnd (Ok.of s (xs := [x, v1, v2]) (by simp) (by simp)) fun r3 h3 => ⟨_, rfl, _, rfl, ?_⟩
    have h4 := hm.2.1.b v1 hv1.2
    have h5 := hm.2.2.b v2 hv2.2
    simp at h3
    rcases h3 with z | z | z <;> omega
  · have h4 := ht.1
    rw [List.length_range] at h4
    refine Ok.grd (by rw [szl]; simp) ⟨_, rfl, by simp, fun d hd => ?_⟩
    simp at hd
    rcases hd with z | z | z
    · rw [z]; exact hm.2.1
    · rw [z]; exact hm.2.2
    · rw [z]; exact ⟨h4, ht.2⟩
theorem draw_ok (s : SrcT) : Ok (el_draw_book s) fun r => DrB r.1 := by
  refine Ok.bnd (Ok.pick1 s (n := 6) (by decide) (by decide)) fun r0 h0 => ?_
  have any : ∀ s, Ok (el_any_book s) fun r => DrB r.1 := any_ok
  refine Ok.bnd (P := fun (j : SrcT × Nat × List (List Nat)) => DrB j.2) (Ok.ite (fun _ => Ok.bnd (any_ok _) fun r h => ⟨_, rfl, h⟩) fun _ => Ok.bnd (P := fun (j : SrcT × Nat × List (List Nat)) => DrB j.2) (Ok.ite (fun _ => Ok.bnd (blocks_ok _) fun r h => ⟨_, rfl, h⟩) fun _ =>
    Ok.bnd (P := fun (j : SrcT × Nat × List (List Nat)) => DrB j.2) (Ok.ite (fun _ => Ok.bnd (rings_ok _) fun r h => ⟨_, rfl, h⟩) fun _ => Ok.bnd (line_ok _) fun r h => ⟨_, rfl, h⟩) fun j h => ⟨_, rfl, h⟩) fun j h => ⟨_, rfl, h⟩) fun j hj => ?_
  have hn := hj.n
  have hg := hj.g
  refine Ok.grd (by omega) ?_
  refine Ok.bnd (Ok.mixed j.1 (List.range j.2.1) (by rw [List.length_range]; omega)) fun to hto => ?_
  have tol : to.1.length = j.2.1 := by rw [hto.length_eq, List.length_range]
  have tob : ∀ x ∈ to.1, x < j.2.1 := fun x hx => List.mem_range.mp (hto.mem_iff.mp hx)
  refine Ok.grd (by omega) (Ok.grd (range_len _ (by omega)) ?_)
  refine Ok.bnd (Ok.lcP (P := fun k => k < j.2.1) (List.range j.2.1) fun x hx => ?_) fun back hback => ?_
  · obtain ⟨k, h1, h2⟩ := posN_some (hto.mem_iff.mpr hx)
    rw [bnd_of h1]
    have : k < to.1.length := by
      by_cases z : k < to.1.length
      · exact z
      · rw [List.getElem?_eq_none (by omega)] at h2; cases h2
    exact ⟨_, rfl, _, rfl, by omega⟩
  have hbl := hback.1
  rw [List.length_range] at hbl
  refine Ok.grd (by rw [szl]; omega) ?_
  refine Ok.bnd (Ok.lcP (P := fun d => DeedOk j.2.1 d) j.2.2 fun d hd => ?_) fun ds hds => ⟨_, rfl, hj.n0, hn, by show ds.length ≤ 9; rw [hds.1]; exact hg, hds.2⟩
  have hd' := hj.d d hd
  refine Ok.grd (by omega) (Ok.grd (range_len _ (by omega)) ?_)
  refine Ok.bnd (Ok.lcP (P := fun k => k < j.2.1) (List.range j.2.1) fun x hx => ?_) fun l hl => ⟨_, rfl, _, rfl, by rw [hl.1, List.length_range], hl.2⟩
  have hx := List.mem_range.mp hx
  refine Ok.bnd (Ok.get (by omega)) fun v hv => ?_
  have h1 := hback.2 v hv.2
  refine Ok.bnd (Ok.get (by rw [hd'.l]; exact h1)) fun v1 hv1 => ?_
  have h2 := hd'.b v1 hv1.2
  refine Ok.bnd (Ok.get (by omega)) fun v2 hv2 => ⟨_, rfl, _, rfl, tob v2 hv2.2⟩
end Pd
set_option Elab.async false
set_option linter.all false
set_option maxRecDepth 100000
set_option maxHeartbeats 1000000
/-! M55b: going round by round (no program in sight): places found with their words. -/
namespace Pd
open PySem
abbrev Lw := List (Nat × List Nat)
def keysW (L : Lw) : List Nat := L.map (·.1)
/-- one place's letters -/
def stepG (h : Nat × List Nat) : List (List Nat) → Nat → Lw → Lw
  | [], _, L => L
  | d :: r, i, L => stepG h r (i + 1) (if d.getD h.1 0 ∈ keysW L then L else L ++ [(d.getD h.1 0, h.2 ++ [i])])
/-- the words when k places are done -/
def Bf (ds : List (List Nat)) (p : Nat) : Nat → Lw
  | 0 => [(p, [])]
  | k + 1 => match (Bf ds p k)[k]? with
    | some h => stepG h ds 0 (Bf ds p k)
    | none => Bf ds p k
theorem keysW_app (L M : Lw) : keysW (L ++ M) = keysW L ++ keysW M := List.map_append
theorem stepG_pre (h : Nat × List Nat) : ∀ (ds : List (List Nat)) (i : Nat) (L : Lw), L <+: stepG h ds i L
  | [], _, L => List.prefix_refl L
  | d :: r, i, L => by
    unfold stepG
    split
    · exact stepG_pre h r _ _
    · exact (List.prefix_append _ _).trans (stepG_pre h r _ _)
theorem pre_keys {L M : Lw} (h : L <+: M) {q : Nat} (hq : q ∈ keysW L) : q ∈ keysW M := by
  obtain ⟨t, rfl⟩ := h
  rw [keysW_app]
  exact List.mem_append_left _ hq
theorem stepG_mem (h : Nat × List Nat) : ∀ (ds : List (List Nat)) (i : Nat) (L : Lw), ∀ d ∈ ds, d.getD h.1 0 ∈ keysW (stepG h ds i L)
  | [], _, _, _, hd => nomatch hd
  | d :: r, i, L, d', hd => by
    rcases List.mem_cons.mp hd with e | e
    · subst e
      refine pre_keys (stepG_pre h r _ _) ?_
      split
      · assumption
      · rw [keysW_app]
        exact List.mem_append_right _ (by simp [keysW])
    · exact stepG_mem h r _ _ d' e
/-- what stays true of the words -/
structure WsOk (ds : List (List Nat)) (p : Nat) (L : Lw) : Prop where
  n : (keysW L).Nodup
  p0 : p ∈ keysW L
  r : ∀ q ∈ keysW L, Rch ds p q
theorem stepG_ok {ds : List (List Nat)} {p : Nat} {h : Nat × List Nat} (hr : Rch ds p h.1) : ∀ (rs : List (List Nat)) (i : Nat) (L : Lw), (∀ d ∈ rs, d ∈ ds) → WsOk ds p L → WsOk ds p (stepG h rs i L)
  | [], _, _, _, ok => ok
  | d :: r, i, L, hm, ok => by
    unfold stepG
    refine stepG_ok hr r _ _ (fun d hd => hm d (List.mem_cons_of_mem _ hd)) ?_
    split
    · exact ok
    · rename_i hx
      refine ⟨?_, ?_, fun q hq => ?_⟩
      · rw [keysW_app]
        exact List.nodup_append.mpr ⟨ok.n, by simp [keysW], fun a ha b hb e => by simp [keysW] at hb; subst hb; subst e; exact hx ha⟩
      · rw [keysW_app]; exact List.mem_append_left _ ok.p0
      · rw [keysW_app] at hq
        rcases List.mem_append.mp hq with z | z
        · exact ok.r q z
        · have : q = d.getD h.1 0 := by simpa [keysW] using z
          rw [this]
          exact .step hr (hm d List.mem_cons_self)
theorem Bf_ok (ds : List (List Nat)) (p : Nat) : ∀ k, WsOk ds p (Bf ds p k)
  | 0 => ⟨by simp [Bf, keysW], by simp [Bf, keysW], fun q hq => by
    have : q = p := by simpa [Bf, keysW] using hq
    rw [this]; exact .refl⟩
  | k + 1 => by
    unfold Bf
    have ih := Bf_ok ds p k
    split
    · rename_i h hg
      exact stepG_ok (ih.r _ (List.mem_map.mpr ⟨h, List.mem_of_getElem? hg, rfl⟩)) ds 0 _ (fun _ z => z) ih
    · exact ih
theorem Bf_pre1 (ds : List (List Nat)) (p k : Nat) : Bf ds p k <+: Bf ds p (k + 1) := by
  show _ <+: (match (Bf ds p k)[k]? with | some h => stepG h ds 0 (Bf ds p k) | none => Bf ds p k)
  split
  · exact stepG_pre _ _ _ _
  · exact List.prefix_refl _
theorem Bf_pre (ds : List (List Nat)) (p k : Nat) : ∀ j, Bf ds p k <+: Bf ds p (k + j)
  | 0 => List.prefix_refl _
  | j + 1 => (Bf_pre ds p k j).trans (Bf_pre1 ds p (k + j))
theorem Bf_stop {ds : List (List Nat)} {p k : Nat} (h : (Bf ds p k).length ≤ k) : ∀ j, Bf ds p (k + j) = Bf ds p k
  | 0 => rfl
  | j + 1 => by
    have ih := Bf_stop h j
    show (match (Bf ds p (k + j))[k + j]? with | some h => stepG h ds 0 (Bf ds p (k + j)) | none => Bf ds p (k + j)) = _
    rw [ih, List.getElem?_eq_none (by omega)]
/-- the k-th place, once there, stays -/
theorem Bf_get {ds : List (List Nat)} {p k i : Nat} (h : i < (Bf ds p k).length) (j : Nat) : (Bf ds p (k + j))[i]? = (Bf ds p k)[i]? := by
  obtain ⟨t, e⟩ := Bf_pre ds p k j
  rw [← e, List.getElem?_append_left h]
/-- where all is done, it is closed -/
theorem Bf_closed {ds : List (List Nat)} {p : Nat} : ∀ (k i : Nat) (h : Nat × List Nat), i < k → (Bf ds p k)[i]? = some h → ∀ d ∈ ds, d.getD h.1 0 ∈ keysW (Bf ds p k)
  | 0, i, h, hi, _, _, _ => absurd hi (Nat.not_lt_zero _)
  | k + 1, i, h, hi, hg, d, hd => by
    by_cases e : i = k
    · subst e
      cases hh : (Bf ds p i)[i]? with
      | some h' =>
        have hl := (List.getElem?_eq_some_iff.mp hh).1
        have := Bf_get hl 1
        rw [this, hh] at hg
        cases hg
        have e2 : Bf ds p (i + 1) = stepG h ds 0 (Bf ds p i) := by
          show (match (Bf ds p i)[i]? with | some h => stepG h ds 0 (Bf ds p i) | none => Bf ds p i) = _
          rw [hh]
        rw [e2]
        exact stepG_mem h ds 0 _ d hd
      | none =>
        have e2 : Bf ds p (i + 1) = Bf ds p i := by
          show (match (Bf ds p i)[i]? with | some h => stepG h ds 0 (Bf ds p i) | none => Bf ds p i) = _
          rw [hh]
        rw [e2, hh] at hg
        cases hg
    · have hik : i < k := by omega
      by_cases hl : i < (Bf ds p k).length
      · have := Bf_get hl 1
        rw [this] at hg
        exact pre_keys (Bf_pre1 ds p k) (Bf_closed k i h hik hg d hd)
      · have hs := Bf_stop (ds := ds) (p := p) (k := k) (by omega) 1
        rw [hs, List.getElem?_eq_none (by omega)] at hg
        cases hg
theorem Bf_come {N : Nat} {ds : List (List Nat)} {p k : Nat} (hd : ∀ d ∈ ds, DeedOk N d) (hp : p < N) (h : (Bf ds p k).length ≤ k) : ∀ q, q ∈ keysW (Bf ds p k) ↔ q ∈ comeN N ds p := by
  have ok := Bf_ok ds p k
  refine closed_come hd hp ok.p0 ok.r fun q hq d hdm => ?_
  obtain ⟨x, hx, rfl⟩ := List.mem_map.mp hq
  obtain ⟨i, hi, e⟩ := List.getElem_of_mem hx
  exact Bf_closed k i x (by omega) (by rw [List.getElem?_eq_getElem hi, e]) d hdm
theorem Bf_len {N : Nat} {ds : List (List Nat)} {p : Nat} (hd : ∀ d ∈ ds, DeedOk N d) (hp : p < N) (k : Nat) : (Bf ds p k).length ≤ N := by
  have ok := Bf_ok ds p k
  have := nodup_le ok.n (m := List.range N) fun q hq => List.mem_range.mpr ((ok.r q hq).lt hd hp)
  rw [List.length_range] at this
  simpa [keysW] using this
/-- shorter, or as long and ahead -/
def slt (u v : List Nat) : Prop := u.length < v.length ∨ (u.length = v.length ∧ u < v)
theorem lt_tr : ∀ {u v w : List Nat}, u < v → v < w → u < w
  | _, _, _, h, k => List.lt_trans h k
theorem slt_tr {u v w : List Nat} (h : slt u v) (k : slt v w) : slt u w := by
  rcases h with h | ⟨h, h'⟩ <;> rcases k with k | ⟨k, k'⟩
  · exact .inl (by omega)
  · exact .inl (by omega)
  · exact .inl (by omega)
  · exact .inr ⟨by omega, lt_tr h' k'⟩
theorem lt_app : ∀ {u v : List Nat} (a b : Nat), u.length = v.length → u < v → u ++ [a] < v ++ [b]
  | [], [], _, _, _, h => absurd h (List.lt_irrefl _)
  | x :: u, y :: v, a, b, hl, h => by
    rw [List.cons_append, List.cons_append]
    rcases List.cons_lt_cons_iff.mp h with h | ⟨h, h'⟩
    · exact List.cons_lt_cons_iff.mpr (.inl h)
    · exact List.cons_lt_cons_iff.mpr (.inr ⟨h, lt_app a b (by simpa using hl) h'⟩)
theorem app_lt : ∀ (u : List Nat) {a b : Nat}, a < b → u ++ [a] < u ++ [b]
  | [], a, b, h => List.cons_lt_cons_iff.mpr (.inl h)
  | x :: u, a, b, h => List.cons_lt_cons_iff.mpr (.inr ⟨rfl, app_lt u h⟩)
theorem slt_app {u v : List Nat} (a b : Nat) (h : slt u v) : slt (u ++ [a]) (v ++ [b]) := by
  rcases h with h | ⟨h, h'⟩
  · exact .inl (by simp; omega)
  · exact .inr ⟨by simp [h], lt_app a b h h'⟩
def wdsW (L : Lw) : List (List Nat) := L.map (·.2)
/-- all words so far are ahead of h's word with the letter i -/
def Dom (L : Lw) (h : List Nat) (i : Nat) : Prop := ∀ w ∈ wdsW L, w = [] ∨ ∃ u a, w = u ++ [a] ∧ (slt u h ∨ (u = h ∧ a < i))
theorem Dom.slt {L : Lw} {h : List Nat} {i : Nat} (D : Dom L h i) {w : List Nat} (hw : w ∈ wdsW L) : slt w (h ++ [i]) := by
  rcases D w hw with rfl | ⟨u, a, rfl, k | ⟨rfl, k⟩⟩
  · exact .inl (by simp)
  · exact slt_app _ _ k
  · exact .inr ⟨by simp, app_lt u k⟩
theorem stepG_grow (h : Nat × List Nat) : ∀ (ds : List (List Nat)) (i : Nat) (L : Lw), (wdsW L).Pairwise slt → Dom L h.2 i → (wdsW (stepG h ds i L)).Pairwise slt ∧ Dom (stepG h ds i L) h.2 (i + ds.length)
  | [], i, L, hp, hd => ⟨hp, by simpa [stepG] using hd⟩
  | d :: r, i, L, hp, hd => by
    unfold stepG
    have up : ∀ {L : Lw}, Dom L h.2 i → Dom L h.2 (i + 1) := fun D w hw => by
      rcases D w hw with z | ⟨u, a, e, k | ⟨k, k'⟩⟩
      · exact .inl z
      · exact .inr ⟨u, a, e, .inl k⟩
      · exact .inr ⟨u, a, e, .inr ⟨k, by omega⟩⟩
    have e : i + (d :: r).length = i + 1 + r.length := by simp only [List.length_cons]; omega
    rw [e]
    split
    · exact stepG_grow h r _ _ hp (up hd)
    · refine stepG_grow h r _ _ ?_ fun w hw => ?_
      · unfold wdsW at hp ⊢
        rw [List.map_append]
        exact List.pairwise_append.mpr ⟨hp, by simp, fun a ha b hb => by simp at hb; subst hb; exact hd.slt ha⟩
      · unfold wdsW at hw
        rw [List.map_append] at hw
        rcases List.mem_append.mp hw with z | z
        · exact up hd w z
        · have : w = h.2 ++ [i] := by simpa using z
          rw [this]
          exact .inr ⟨h.2, i, rfl, .inr ⟨rfl, by omega⟩⟩
/-- the words of the places done and found -/
theorem Bf_grow (ds : List (List Nat)) (p : Nat) : ∀ k, (wdsW (Bf ds p k)).Pairwise slt ∧ ∀ h, (Bf ds p k)[k]? = some h → Dom (Bf ds p k) h.2 0
  | 0 => ⟨by simp [Bf, wdsW], fun h hg w hw => .inl (by simpa [Bf, wdsW] using hw)⟩
  | k + 1 => by
    obtain ⟨ih, ihd⟩ := Bf_grow ds p k
    cases hh : (Bf ds p k)[k]? with
    | none =>
      have e2 : Bf ds p (k + 1) = Bf ds p k := by
        show (match (Bf ds p k)[k]? with | some h => stepG h ds 0 (Bf ds p k) | none => Bf ds p k) = _
        rw [hh]
      rw [e2]
      refine ⟨ih, fun h hg => ?_⟩
      rw [List.getElem?_eq_none_iff] at hh
      rw [List.getElem?_eq_none (by omega)] at hg
      cases hg
    | some h =>
      have e2 : Bf ds p (k + 1) = stepG h ds 0 (Bf ds p k) := by
        show (match (Bf ds p k)[k]? with | some h => stepG h ds 0 (Bf ds p k) | none => Bf ds p k) = _
        rw [hh]
      obtain ⟨g1, g2⟩ := stepG_grow h ds 0 _ ih (ihd h hh)
      have hk := (List.getElem?_eq_some_iff.mp hh).1
      have hgk : (Bf ds p (k + 1))[k]? = some h := by rw [Bf_get hk 1, hh]
      rw [← e2] at g1 g2
      refine ⟨g1, fun h' hg' w hw => ?_⟩
      have hlt : slt h.2 h'.2 := by
        obtain ⟨a1, b1⟩ := List.getElem?_eq_some_iff.mp hgk
        obtain ⟨a2, b2⟩ := List.getElem?_eq_some_iff.mp hg'
        have := List.pairwise_iff_getElem.mp g1 k (k + 1) (by simpa [wdsW] using a1) (by simpa [wdsW] using a2) (by omega)
        simp only [wdsW, List.getElem_map, b1, b2] at this
        exact this
      rcases g2 w hw with z | ⟨u, a, e, k' | ⟨k', _⟩⟩
      · exact .inl z
      · exact .inr ⟨u, a, e, .inl (slt_tr k' hlt)⟩
      · exact .inr ⟨u, a, e, .inl (by rw [k']; exact hlt)⟩
theorem stepG_wlen (h : Nat × List Nat) (B : Nat) (hb : h.2.length + 1 ≤ B) : ∀ (ds : List (List Nat)) (i : Nat) (L : Lw), (∀ w ∈ wdsW L, w.length ≤ B) → ∀ w ∈ wdsW (stepG h ds i L), w.length ≤ B
  | [], _, _, hl => hl
  | d :: r, i, L, hl => by
    unfold stepG
    refine stepG_wlen h B hb r _ _ ?_
    split
    · exact hl
    · intro w hw
      unfold wdsW at hw
      rw [List.map_append] at hw
      rcases List.mem_append.mp hw with z | z
      · exact hl w z
      · have : w = h.2 ++ [i] := by simpa using z
        rw [this]; simpa using hb
theorem Bf_wlen (ds : List (List Nat)) (p : Nat) : ∀ k, ∀ w ∈ wdsW (Bf ds p k), w.length ≤ k
  | 0, w, hw => by
    have : w = [] := by simpa [Bf, wdsW] using hw
    rw [this]; simp
  | k + 1, w, hw => by
    have ih := Bf_wlen ds p k
    unfold Bf at hw
    split at hw
    · rename_i h hg
      have := ih h.2 (List.mem_map.mpr ⟨h, List.mem_of_getElem? hg, rfl⟩)
      exact stepG_wlen h (k + 1) (by omega) ds 0 _ (fun w hw => by have := ih w hw; omega) w hw
    · have := ih w hw; omega
theorem Bf_succ {ds : List (List Nat)} {p k : Nat} {h : Nat × List Nat} (hg : (Bf ds p k)[k]? = some h) : Bf ds p (k + 1) = stepG h ds 0 (Bf ds p k) := by
  show (match (Bf ds p k)[k]? with | some h => stepG h ds 0 (Bf ds p k) | none => Bf ds p k) = _
  rw [hg]
theorem Bf_same {ds : List (List Nat)} {p k k' : Nat} (h : (Bf ds p k).length ≤ k) (h' : (Bf ds p k').length ≤ k') : Bf ds p k = Bf ds p k' := by
  by_cases e : k ≤ k'
  · obtain ⟨j, rfl⟩ : ∃ j, k' = k + j := ⟨k' - k, by omega⟩
    exact (Bf_stop h j).symm
  · obtain ⟨j, rfl⟩ : ∃ j, k = k' + j := ⟨k - k', by omega⟩
    exact Bf_stop h' j
/-- p is the least place of an end -/
def IsEnd (N : Nat) (ds : List (List Nat)) (p : Nat) : Prop := (comeN N ds p).getD 0 0 = p ∧ ∀ q ∈ comeN N ds p, p ∈ comeN N ds q
open Classical in
noncomputable def isEndB (N : Nat) (ds : List (List Nat)) (p : Nat) : Bool := decide (IsEnd N ds p)
theorem isEndB_iff {N : Nat} {ds : List (List Nat)} {p : Nat} : isEndB N ds p = true ↔ IsEnd N ds p := by unfold isEndB; exact @decide_eq_true_iff _ (Classical.propDecidable _)
theorem isEndB_not {N : Nat} {ds : List (List Nat)} {p : Nat} : isEndB N ds p = false ↔ ¬ IsEnd N ds p := by unfold isEndB; exact @decide_eq_false_iff_not _ (Classical.propDecidable _)
noncomputable def endsN (N : Nat) (ds : List (List Nat)) : List Nat := (List.range N).filter (isEndB N ds)
end Pd
set_option Elab.async false
set_option linter.all false
set_option maxRecDepth 100000
set_option maxHeartbeats 1000000
/-! M55c: comes_to, _law_words_from, way_into as typed defs. -/
namespace Pd
open PySem
section
variable {N : Nat} {ds : List (List Nat)} {p : Nat}
theorem Ok.getB {d : List Nat} {h : Nat} (hd : DeedOk N d) (hh : h < N) : d[h]? = some (d.getD h 0) := get_of_getD (by rw [hd.l]; exact hh)
theorem DeedOk.at {d : List Nat} {h : Nat} (hd : DeedOk N d) (hh : h < N) : d.getD h 0 < N := hd.b _ (getD_mem (by rw [hd.l]; exact hh))
/-! comes_to -/
structure CmT (N : Nat) (ds : List (List Nat)) (p M : Nat) (ks wt : List Nat) : Prop where
  nk : ks.Nodup
  nw : wt.Nodup
  p0 : p ∈ ks
  r : ∀ q ∈ ks, Rch ds p q
  s : ∀ q ∈ wt, q ∈ ks
  m : 2 * N + wt.length ≤ M + 2 * ks.length
theorem CmT.le {M : Nat} {ks wt : List Nat} (I : CmT N ds p M ks wt) (ok : BookOk N ds) (hp : p < N) : ks.length ≤ N := by
  have := nodup_le I.nk (m := List.range N) fun q hq => List.mem_range.mpr ((I.r q hq).lt ok.d hp)
  rwa [List.length_range] at this
theorem CmT.wle {M : Nat} {ks wt : List Nat} (I : CmT N ds p M ks wt) (ok : BookOk N ds) (hp : p < N) : wt.length ≤ N := by
  have := nodup_le I.nw (m := List.range N) fun q hq => List.mem_range.mpr ((I.r q (I.s q hq)).lt ok.d hp)
  rwa [List.length_range] at this
theorem come_for (ok : BookOk N ds) (hp : p < N) {h M : Nat} {f0 : List (Nat × Bool)} {w0 : List Nat} (I0 : CmT N ds p M (f0.map (·.1)) w0) (hk0 : h ∈ f0.map (·.1)) (hw0 : h ∉ w0)
    (hc0 : ∀ q ∈ f0.map (·.1), q ∉ w0 → q ≠ h → ∀ d ∈ ds, d.getD q 0 ∈ f0.map (·.1)) :
    Ok (forT (ecomes_to_b1 h) ds (f0, w0)) fun s => CmT N ds p M (s.1.map (·.1)) s.2 ∧ ∀ q ∈ s.1.map (·.1), q ∉ s.2 → ∀ d ∈ ds, d.getD q 0 ∈ s.1.map (·.1) := by
  refine (Ok.forT (I := fun r (s : List (Nat × Bool) × List Nat) => CmT N ds p M (s.1.map (·.1)) s.2 ∧ h ∈ s.1.map (·.1) ∧ h ∉ s.2 ∧ (∀ q ∈ s.1.map (·.1), q ∉ s.2 → q ≠ h → ∀ d ∈ ds, d.getD q 0 ∈ s.1.map (·.1)) ∧ (∀ d ∈ ds, d ∈ r ∨ d.getD h 0 ∈ s.1.map (·.1)) ∧ ∀ d ∈ r, d ∈ ds)
    (fun d r s hi => ?_) ds (f0, w0) ⟨I0, hk0, hw0, hc0, fun d hd => .inl hd, fun d hd => hd⟩).mono fun s hi => ⟨hi.1, fun q hq hqw d hd => ?_⟩
  · obtain ⟨I, hk, hw, hc, hh, hr⟩ := hi
    have hdm := hr d List.mem_cons_self
    have hN : h < N := (I.r h hk).lt ok.d hp
    have hx := (ok.d d hdm).at hN
    have hg := Ok.getB (ok.d d hdm) hN
    unfold ecomes_to_b1
    rw [bnd_of hg]
    refine Ok.bnd (P := fun j => CmT N ds p M (j.1.map (·.1)) j.2 ∧ h ∈ j.1.map (·.1) ∧ h ∉ j.2 ∧ (∀ q ∈ j.1.map (·.1), q ∉ j.2 → q ≠ h → ∀ d ∈ ds, d.getD q 0 ∈ j.1.map (·.1)) ∧ (∀ d ∈ ds, d ∈ r ∨ d.getD h 0 ∈ j.1.map (·.1)) ∧ ∀ d ∈ r, d ∈ ds) (Ok.ite (fun hb => ?_) fun hb => ?_) fun j hj => ⟨_, rfl, hj⟩
    · have hm := lkp_isNone.mp hb
      rw [bnd_of hg]
      have hN16 := ok.n
      have l1 := I.le ok hp
      have l2 := I.wle ok hp
      rw [List.length_map] at l1
      refine Ok.grd (by rw [szl]; omega) ?_
      rw [bnd_of hg]
      refine Ok.grd (by rw [szl]; omega) ⟨_, rfl, ?_⟩
      rw [putT_new hm]
      simp only [List.map_append, List.map_cons, List.map_nil]
      have mem : ∀ q, q ∈ s.1.map (·.1) ++ [d.getD h 0] ↔ q ∈ s.1.map (·.1) ∨ q = d.getD h 0 := fun q => by rw [List.mem_append, List.mem_singleton]
      have hn' : (s.1.map (·.1) ++ [d.getD h 0]).Nodup := List.nodup_append.mpr ⟨I.nk, by simp, fun a ha b hb e => by simp at hb; rw [e, hb] at ha; exact hm ha⟩
      refine ⟨⟨hn', List.nodup_append.mpr ⟨I.nw, by simp, fun a ha b hb e => by simp at hb; rw [e, hb] at ha; exact hm (I.s _ ha)⟩, (mem _).mpr (.inl I.p0), fun q hq => ?_, fun q hq => ?_, ?_⟩, (mem _).mpr (.inl hk), fun z => ?_, fun q hq hqw hqh d' hd' => ?_, fun d' hd' => ?_, fun d' hd' => hr d' (List.mem_cons_of_mem _ hd')⟩
      · rcases (mem q).mp hq with z | z
        · exact I.r q z
        · rw [z]; exact .step (I.r h hk) hdm
      · rcases List.mem_append.mp hq with z | z
        · exact (mem q).mpr (.inl (I.s q z))
        · exact (mem q).mpr (.inr (List.mem_singleton.mp z))
      · have := I.m
        simp only [List.length_append, List.length_cons, List.length_nil]
        omega
      · rcases List.mem_append.mp z with z | z
        · exact hw z
        · rw [List.mem_singleton.mp z] at hk; exact hm hk
      · rcases (mem q).mp hq with z | z
        · exact (mem _).mpr (.inl (hc q z (fun y => hqw (List.mem_append_left _ y)) hqh d' hd'))
        · exact absurd (List.mem_append_right _ (List.mem_singleton.mpr z)) hqw
      · rcases hh d' hd' with z | z
        · rcases List.mem_cons.mp z with z | z
          · rw [z]; exact .inr ((mem _).mpr (.inr rfl))
          · exact .inl z
        · exact .inr ((mem _).mpr (.inl z))
    · have hm : d.getD h 0 ∈ s.1.map (·.1) := by
        apply Classical.byContradiction
        intro z
        rw [lkp_isNone.mpr z] at hb
        cases hb
      refine ⟨_, rfl, I, hk, hw, hc, fun d' hd' => ?_, fun d' hd' => hr d' (List.mem_cons_of_mem _ hd')⟩
      rcases hh d' hd' with z | z
      · rcases List.mem_cons.mp z with z | z
        · rw [z]; exact .inr hm
        · exact .inl z
      · exact .inr z
  · by_cases z : q = h
    · rw [z]
      exact (hi.2.2.2.2.1 d hd).resolve_left fun z => nomatch z
    · exact hi.2.2.2.1 q hq hqw z d hd
theorem comes_T (ok : BookOk N ds) (hp : p < N) : ecomes_to (N, ds) p = some (comeN N ds p) := by
  refine Ok.eq ?_
  unfold ecomes_to
  rw [bnd_pure]
  have hN := ok.n
  refine Ok.bnd (Ok.whT (I := fun M (s : List (Nat × Bool) × List Nat) => CmT N ds p M (s.1.map (·.1)) s.2 ∧ ∀ q ∈ s.1.map (·.1), q ∉ s.2 → ∀ d ∈ ds, d.getD q 0 ∈ s.1.map (·.1))
    (J := fun s => (s.1.map (·.1)).Nodup ∧ ∀ q, q ∈ s.1.map (·.1) ↔ q ∈ comeN N ds p) (fun M s ⟨I, hc⟩ => ?_) WFn (2 * N) _ ?_ (by show 2 * N < 100000; omega)) fun s hs => ?_
  · refine ⟨_, rfl, fun hb => ?_, fun hb => ?_⟩
    · have hw : s.2 = [] := by simpa using hb
      exact ⟨I.nk, closed_come ok.d hp I.p0 I.r fun q hq d hd => hc q hq (by rw [hw]; exact fun z => nomatch z) d hd⟩
    · have hw : s.2 ≠ [] := by simpa using hb
      have hl := List.getLast?_eq_some_getLast hw
      generalize s.2.getLast hw = h at hl
      have hsp : s.2 = s.2.dropLast ++ [h] := by
        have := List.dropLast_concat_getLast hw
        rw [List.getLast?_eq_some_getLast hw] at hl
        cases hl
        exact this.symm
      have hin : h ∈ s.2 := by rw [hsp]; exact List.mem_append_right _ (List.mem_singleton.mpr rfl)
      have hnw : s.2.dropLast.Nodup ∧ h ∉ s.2.dropLast := by
        have := I.nw
        rw [hsp] at this
        have := List.nodup_append.mp this
        exact ⟨this.1, fun z => this.2.2 h z h (List.mem_singleton.mpr rfl) rfl⟩
      have hlen : s.2.length = s.2.dropLast.length + 1 := by
        have := congrArg List.length hsp
        simpa using this
      have hkN := I.le ok hp
      have hm := I.m
      unfold ecomes_to_w2
      rw [bnd_of hl]
      refine Ok.bnd (come_for ok hp (h := h) (M := M - 1) ⟨I.nk, hnw.1, I.p0, I.r, fun q hq => I.s q (by rw [hsp]; exact List.mem_append_left _ hq), by omega⟩ (I.s h hin) hnw.2 fun q hq hqw hqh d hd => hc q hq (fun z => by
        rw [hsp] at z
        rcases List.mem_append.mp z with z | z
        · exact hqw z
        · exact hqh (List.mem_singleton.mp z)) d hd) fun m hm => ⟨_, rfl, M - 1, by omega, hm⟩
  · exact ⟨⟨by simp, by simp, by simp, fun q hq => by
      have : q = p := by simpa using hq
      rw [this]; exact .refl, fun q hq => by simpa using hq, by simp⟩, fun q hq hqw => absurd (by simpa using hq) hqw⟩
  · have hl : s.1.length ≤ N := by
      have := nodup_le hs.1 (m := List.range N) fun q hq => List.mem_range.mpr (mem_come.mp ((hs.2 q).mp hq)).1
      rwa [List.length_range, List.length_map] at this
    have h0 : 0 < s.1.length := by
      have := List.length_pos_of_mem ((hs.2 p).mpr (mem_come.mpr ⟨hp, .refl⟩))
      rwa [List.length_map] at this
    exact Ok.grd ⟨h0, by omega⟩ ⟨_, rfl, sortN_is hs.1 (come_sorted N ds p) hs.2⟩
/-! words -/
theorem step_new {h : Nat × List Nat} {d : List Nat} {L : Lw} (hx : d.getD h.1 0 ∉ keysW L) (r : List (List Nat)) (i : Nat) : stepG h (d :: r) i L = stepG h r (i + 1) (L ++ [(d.getD h.1 0, h.2 ++ [i])]) := by
  show stepG h r (i + 1) (if _ then _ else _) = _
  rw [if_neg hx]
theorem step_old {h : Nat × List Nat} {d : List Nat} {L : Lw} (hx : d.getD h.1 0 ∈ keysW L) (r : List (List Nat)) (i : Nat) : stepG h (d :: r) i L = stepG h r (i + 1) L := by
  show stepG h r (i + 1) (if _ then _ else _) = _
  rw [if_pos hx]
theorem WsOk.len (ok : BookOk N ds) (hp : p < N) {L : Lw} (w : WsOk ds p L) : L.length ≤ N := by
  have := nodup_le w.n (m := List.range N) fun q hq => List.mem_range.mpr ((w.r q hq).lt ok.d hp)
  rw [List.length_range] at this
  simpa [keysW] using this
theorem WsOk.snoc {L : Lw} (w : WsOk ds p L) {x : Nat} {u : List Nat} (hx : x ∉ keysW L) (hr : Rch ds p x) : WsOk ds p (L ++ [(x, u)]) := by
  refine ⟨?_, ?_, fun q hq => ?_⟩
  · rw [keysW_app]
    exact List.nodup_append.mpr ⟨w.n, by simp [keysW], fun a ha b hb e => by simp [keysW] at hb; subst hb; subst e; exact hx ha⟩
  · rw [keysW_app]; exact List.mem_append_left _ w.p0
  · rw [keysW_app] at hq
    rcases List.mem_append.mp hq with z | z
    · exact w.r q z
    · have : q = x := by simpa [keysW] using z
      rw [this]; exact hr
theorem words_b1 (ok : BookOk N ds) (hp : p < N) {h : Nat × List Nat} (hw : h.2.length ≤ 100) : ∀ (rs : List (List Nat)) (i : Nat) (L : Lw) (late : List Nat), (∀ d ∈ rs, d ∈ ds) → WsOk ds p L → h ∈ L → late.length ≤ L.length →
    forT (el_words_from_b1 h.1) (enumT i rs) (L, late) = some (stepG h rs i L, late ++ (keysW (stepG h rs i L)).drop L.length)
  | [], i, L, late, _, _, _, _ => by
    show some (L, late) = some (L, late ++ (keysW L).drop L.length)
    rw [List.drop_of_length_le (by simp [keysW])]; simp
  | d :: rs, i, L, late, hr, ws, hm, hl => by
    have hdm := hr d List.mem_cons_self
    have hN : h.1 < N := (ws.r h.1 (List.mem_map.mpr ⟨h, hm, rfl⟩)).lt ok.d hp
    have hg := Ok.getB (ok.d d hdm) hN
    have hN16 := ok.n
    have hL := ws.len ok hp
    show bnd (el_words_from_b1 h.1 (i, d) (L, late)) _ = _
    unfold el_words_from_b1
    rw [bnd_of hg]
    by_cases hx : d.getD h.1 0 ∈ keysW L
    · have hb : (lkp (d.getD h.1 0) L).isNone = false := by
        cases z : (lkp (d.getD h.1 0) L).isNone with
        | false => rfl
        | true => exact absurd hx (lkp_isNone.mp z)
      dsimp only
      rw [hb, step_old hx]
      exact words_b1 ok hp hw rs (i + 1) L late (fun d' hd' => hr d' (List.mem_cons_of_mem _ hd')) ws hm hl
    · have hb := lkp_isNone.mpr hx
      dsimp only
      rw [hb, if_pos rfl, bnd_of (lkp_of ws.n hm), grd_pos (by rw [szl]; simp; omega), bnd_of hg, grd_pos (by rw [szl]; omega), bnd_of hg, grd_pos (by rw [szl]; omega), step_new hx, putT_new hx]
      have ws' := ws.snoc (u := h.2 ++ [i]) hx (.step (ws.r h.1 (List.mem_map.mpr ⟨h, hm, rfl⟩)) hdm)
      have ih := words_b1 ok hp hw rs (i + 1) (L ++ [(d.getD h.1 0, h.2 ++ [i])]) (late ++ [d.getD h.1 0]) (fun d' hd' => hr d' (List.mem_cons_of_mem _ hd')) ws' (List.mem_append_left _ hm) (by simp; omega)
      refine ih.trans ?_
      congr 2
      obtain ⟨t, ht⟩ := stepG_pre h rs (i + 1) (L ++ [(d.getD h.1 0, h.2 ++ [i])])
      rw [← ht]
      have k1 : (keysW L).length = L.length := by simp [keysW]
      have k2 : (L ++ [(d.getD h.1 0, h.2 ++ [i])]).length = (keysW L ++ keysW [(d.getD h.1 0, h.2 ++ [i])]).length := by simp [keysW]
      have e1 : (keysW L ++ (keysW [(d.getD h.1 0, h.2 ++ [i])] ++ keysW t)).drop L.length = keysW [(d.getD h.1 0, h.2 ++ [i])] ++ keysW t := by rw [← k1, List.drop_left]
      have e2 : (keysW L ++ keysW [(d.getD h.1 0, h.2 ++ [i])] ++ keysW t).drop (L ++ [(d.getD h.1 0, h.2 ++ [i])]).length = keysW t := by rw [k2, List.drop_left]
      rw [keysW_app, keysW_app, e2, List.append_assoc (keysW L), e1]
      simp [keysW]
end
end Pd
set_option Elab.async false
set_option linter.all false
set_option maxRecDepth 100000
set_option maxHeartbeats 1000000
/-! M55d: the words, way_into, the ends. -/
namespace Pd
open PySem
section
variable {N : Nat} {ds : List (List Nat)} {p : Nat}
theorem Bf_ge (ds : List (List Nat)) (p : Nat) {k m : Nat} (h : k ≤ m) : (Bf ds p k).length ≤ (Bf ds p m).length := by
  obtain ⟨j, rfl⟩ : ∃ j, m = k + j := ⟨m - k, by omega⟩
  exact (Bf_pre ds p k j).length_le
theorem words_mid (ok : BookOk N ds) (hp : p < N) (k0 : Nat) : ∀ (r m : Nat), m + r = (Bf ds p k0).length → k0 ≤ m → m ≤ 100 →
    forT (el_words_from_b2 (N, ds)) (keysW ((Bf ds p k0).drop m)) (Bf ds p m, keysW ((Bf ds p m).drop (Bf ds p k0).length)) = some (Bf ds p (Bf ds p k0).length, keysW ((Bf ds p (Bf ds p k0).length).drop (Bf ds p k0).length))
  | 0, m, hm, _, _ => by
    have : m = (Bf ds p k0).length := by omega
    rw [List.drop_of_length_le (by omega), ← this]
    rfl
  | r + 1, m, hm, hk, h100 => by
    have hlt : m < (Bf ds p k0).length := by omega
    obtain ⟨h, hh⟩ : ∃ h, (Bf ds p k0)[m]? = some h := ⟨_, List.getElem?_eq_getElem hlt⟩
    have hh2 : (Bf ds p m)[m]? = some h := by
      obtain ⟨j, rfl⟩ : ∃ j, m = k0 + j := ⟨m - k0, by omega⟩
      rw [Bf_get hlt j, hh]
    have hd : (Bf ds p k0).drop m = h :: (Bf ds p k0).drop (m + 1) := by
      rw [List.drop_eq_getElem_cons hlt]
      rw [List.getElem?_eq_getElem hlt] at hh
      rw [Option.some.inj hh]
    have hmem : h ∈ Bf ds p m := List.mem_of_getElem? hh2
    have ws := Bf_ok ds p m
    have hge := Bf_ge ds p hk
    have hwl := Bf_wlen ds p m h.2 (List.mem_map.mpr ⟨h, hmem, rfl⟩)
    rw [hd]
    show bnd (el_words_from_b2 (N, ds) h.1 _) _ = _
    unfold el_words_from_b2
    rw [words_b1 ok hp (h := h) (by omega) ds 0 _ _ (fun d hd => hd) ws hmem (by simp only [keysW, List.length_map, List.length_drop]; omega)]
    show forT (el_words_from_b2 (N, ds)) (keysW ((Bf ds p k0).drop (m + 1))) _ = _
    rw [← Bf_succ hh2]
    have e : keysW ((Bf ds p m).drop (Bf ds p k0).length) ++ (keysW (Bf ds p (m + 1))).drop (Bf ds p m).length = keysW ((Bf ds p (m + 1)).drop (Bf ds p k0).length) := by
      obtain ⟨t, ht⟩ := Bf_pre1 ds p m
      rw [← ht, keysW_app, List.drop_append_of_le_length hge, keysW_app]
      congr 1
      have : (Bf ds p m).length = (keysW (Bf ds p m)).length := by simp [keysW]
      rw [this, List.drop_left]
    dsimp only
    rw [e]
    exact words_mid ok hp k0 r (m + 1) (by omega) (by omega) (by have := Bf_len ok.d hp k0; have := ok.n; omega)
theorem Bf_N (ok : BookOk N ds) (hp : p < N) : (Bf ds p N).length ≤ N := Bf_len ok.d hp N
theorem words_T (ok : BookOk N ds) (hp : p < N) : el_words_from (N, ds) p = some (Bf ds p N) := by
  refine Ok.eq ?_
  unfold el_words_from
  rw [bnd_pure]
  have hN := ok.n
  refine Ok.bnd (Ok.whT (I := fun M (s : Lw × List Nat) => ∃ k, s = (Bf ds p k, keysW ((Bf ds p k).drop k)) ∧ k ≤ (Bf ds p k).length ∧ M + k = N) (J := fun s => s.1 = Bf ds p N) (fun M s ⟨k, hs, hk, hM⟩ => ?_) WFn N _ ⟨0, rfl, Nat.zero_le _, by omega⟩ (by show N < 100000; omega)) fun s hs => ⟨_, rfl, hs⟩
  subst hs
  refine ⟨_, rfl, fun hb => ?_, fun hb => ?_⟩
  · have hz : keysW ((Bf ds p k).drop k) = [] := by simpa using hb
    have : ((Bf ds p k).drop k).length = 0 := by
      have := congrArg List.length hz
      simpa [keysW] using this
    rw [List.length_drop] at this
    exact Bf_same (by omega) (Bf_N ok hp)
  · have hz : keysW ((Bf ds p k).drop k) ≠ [] := by simpa using hb
    have hlt : k < (Bf ds p k).length := by
      apply Classical.byContradiction
      intro z
      rw [List.drop_of_length_le (by omega)] at hz
      exact hz rfl
    have hl := Bf_len ok.d hp k
    unfold el_words_from_w3
    have mid := words_mid ok hp k ((Bf ds p k).length - k) k (by omega) (Nat.le_refl _) (by omega)
    rw [List.drop_of_length_le (i := (Bf ds p k).length) (Nat.le_refl _)] at mid
    refine Ok.bnd ⟨_, mid, rfl⟩ fun m hm => ?_
    subst hm
    exact ⟨_, rfl, N - (Bf ds p k).length, by omega, (Bf ds p k).length, rfl, Bf_ge ds p (Nat.le_of_lt hlt), by omega⟩
theorem words_keys (ok : BookOk N ds) (hp : p < N) : sortN ((Bf ds p N).map (·.1)) = comeN N ds p := sortN_is (Bf_ok ds p N).n (come_sorted N ds p) (Bf_come ok.d hp (Bf_N ok hp))
theorem words_pos (ds : List (List Nat)) (p k : Nat) : 0 < (Bf ds p k).length := Nat.lt_of_lt_of_le (by simp [Bf]) (Bf_ge ds p (Nat.zero_le k))
theorem come_T (ok : BookOk N ds) (hp : p < N) : el_come (N, ds) p = some (comeN N ds p) := by
  unfold el_come
  have hN := ok.n
  have := Bf_N ok hp
  have := words_pos ds p N
  rw [words_T ok hp, bnd_pure, grd_pos (by omega), words_keys ok hp]
/-! way_into -/
theorem way_b1 (ok : BookOk N ds) (hp : p < N) {h : Nat × List Nat} (hw : h.2.length ≤ 100) : ∀ (rs : List (List Nat)) (i : Nat) (L : Lw), (∀ d ∈ rs, d ∈ ds) → WsOk ds p L → h ∈ L →
    forT (eway_into_b1 h.1) (enumT i rs) (L, keysW L) = some (stepG h rs i L, keysW (stepG h rs i L))
  | [], i, L, _, _, _ => rfl
  | d :: rs, i, L, hr, ws, hm => by
    have hdm := hr d List.mem_cons_self
    have hN : h.1 < N := (ws.r h.1 (List.mem_map.mpr ⟨h, hm, rfl⟩)).lt ok.d hp
    have hg := Ok.getB (ok.d d hdm) hN
    have hN16 := ok.n
    have hL := ws.len ok hp
    have hk : (keysW L).length = L.length := by simp [keysW]
    show bnd (eway_into_b1 h.1 (i, d) (L, keysW L)) _ = _
    unfold eway_into_b1
    rw [bnd_of hg]
    by_cases hx : d.getD h.1 0 ∈ keysW L
    · have hb : (lkp (d.getD h.1 0) L).isNone = false := by
        cases z : (lkp (d.getD h.1 0) L).isNone with
        | false => rfl
        | true => exact absurd hx (lkp_isNone.mp z)
      dsimp only
      rw [hb, step_old hx]
      exact way_b1 ok hp hw rs (i + 1) L (fun d' hd' => hr d' (List.mem_cons_of_mem _ hd')) ws hm
    · have hb := lkp_isNone.mpr hx
      dsimp only
      rw [hb, if_pos rfl, bnd_of (lkp_of ws.n hm), grd_pos (by rw [szl]; simp; omega), bnd_of hg, grd_pos (by rw [szl]; omega), bnd_of hg, grd_pos (by rw [szl]; omega), step_new hx, putT_new hx]
      have ws' := ws.snoc (u := h.2 ++ [i]) hx (.step (ws.r h.1 (List.mem_map.mpr ⟨h, hm, rfl⟩)) hdm)
      have ih := way_b1 ok hp hw rs (i + 1) (L ++ [(d.getD h.1 0, h.2 ++ [i])]) (fun d' hd' => hr d' (List.mem_cons_of_mem _ hd')) ws' (List.mem_append_left _ hm)
      rw [keysW_app] at ih
      exact ih
theorem find_app {α : Type} {f : α → Bool} {l : List α} {k : Nat} {h : α} (hk : l[k]? = some h) (hf : f h = true) (hno : ∀ i x, i < k → l[i]? = some x → f x = false) : l.find? f = some h := by
  induction l generalizing k with
  | nil => simp at hk
  | cons a l ih =>
    cases k with
    | zero => simp at hk; subst hk; simp [List.find?, hf]
    | succ k =>
      rw [List.find?_cons_of_neg (by rw [hno 0 a (by omega) rfl]; decide)]
      exact ih (by simpa using hk) fun i x hi hx => hno (i + 1) x (by omega) (by simpa using hx)
/-- the word of the first place found that is in the lot -/
def wayN (N : Nat) (ds : List (List Nat)) (p : Nat) (lot : List Nat) : Option (List Nat) := ((Bf ds p N).find? fun h => decide (h.1 ∈ lot)).map (·.2)
theorem way_T (ok : BookOk N ds) (hp : p < N) (lot : List Nat) : eway_into (N, ds) p lot = some (wayN N ds p lot) := by
  refine Ok.eq ?_
  unfold eway_into
  rw [bnd_pure]
  have hN := ok.n
  refine Ok.bnd (Ok.whR (I := fun M (s : Lw × List Nat × Nat) => ∃ k, s = (Bf ds p k, keysW (Bf ds p k), k) ∧ k ≤ (Bf ds p k).length ∧ (∀ i x, i < k → (Bf ds p k)[i]? = some x → decide (x.1 ∈ lot) = false) ∧ M + k = N)
    (J := fun q => match q with | .inl v => v = wayN N ds p lot | .inr _ => none = wayN N ds p lot) (fun M s ⟨k, hs, hk, hno, hM⟩ => ?_) WFn N _ ⟨0, rfl, Nat.zero_le _, fun i x hi => absurd hi (Nat.not_lt_zero _), by omega⟩ (by show N < 100000; omega)) fun q hq => ?_
  · subst hs
    have hkl : (keysW (Bf ds p k)).length = (Bf ds p k).length := by simp [keysW]
    refine ⟨_, rfl, fun hb => ?_, fun hb => ?_⟩
    · have hb' : ¬ k < (keysW (Bf ds p k)).length := by simpa using hb
      have e : Bf ds p k = Bf ds p N := Bf_same (by omega) (Bf_N ok hp)
      show none = wayN N ds p lot
      unfold wayN
      rw [← e]
      have : (Bf ds p k).find? (fun h => decide (h.1 ∈ lot)) = none := by
        rw [List.find?_eq_none]
        intro x hx
        obtain ⟨i, hi, ex⟩ := List.getElem_of_mem hx
        rw [hno i x (by omega) (by rw [List.getElem?_eq_getElem hi, ex])]
        decide
      rw [this]; rfl
    · have hlt : k < (Bf ds p k).length := by have : k < (keysW (Bf ds p k)).length := by simpa using hb
                                              omega
      obtain ⟨h, hh⟩ : ∃ h, (Bf ds p k)[k]? = some h := ⟨_, List.getElem?_eq_getElem hlt⟩
      have hmem : h ∈ Bf ds p k := List.mem_of_getElem? hh
      have hl := Bf_len ok.d hp k
      have hwl := Bf_wlen ds p k h.2 (List.mem_map.mpr ⟨h, hmem, rfl⟩)
      have hk1 : (keysW (Bf ds p k))[k]? = some h.1 := by unfold keysW; rw [List.getElem?_map, hh]; rfl
      unfold eway_into_w2
      dsimp only
      rw [bnd_of hk1]
      refine Ok.ite (fun hin => ?_) fun hin => ?_
      · rw [bnd_of (lkp_of (Bf_ok ds p k).n hmem)]
        refine ⟨_, rfl, ?_⟩
        show some h.2 = wayN N ds p lot
        unfold wayN
        have hNk : k ≤ N := by omega
        obtain ⟨j, hj⟩ : ∃ j, N = k + j := ⟨N - k, by omega⟩
        have hgN : ∀ i x, i < (Bf ds p k).length → (Bf ds p k)[i]? = some x → (Bf ds p N)[i]? = some x := fun i x hi hx => by rw [hj, Bf_get hi j, hx]
        have : (Bf ds p N).find? (fun h => decide (h.1 ∈ lot)) = some h := find_app (hgN k h hlt hh) (decide_eq_true (isIn_iff.mp hin)) fun i x hi hx => by
          refine hno i x hi ?_
          rw [hj, Bf_get (by omega) j] at hx
          exact hx
        rw [this]; rfl
      · have hs := way_b1 ok hp (h := h) (by omega) ds 0 (Bf ds p k) (fun d hd => hd) (Bf_ok ds p k) hmem
        rw [← Bf_succ hh] at hs
        rw [hs]
        refine ⟨_, rfl, N - (k + 1), by omega, k + 1, rfl, ?_, ?_, by omega⟩
        · have := Bf_ge ds p (show k ≤ k + 1 by omega)
          by_cases z : k + 1 ≤ (Bf ds p (k + 1)).length
          · exact z
          · omega
        · intro i x hi hx
          by_cases z : i = k
          · subst z
            rw [Bf_get hlt 1, hh] at hx
            cases hx
            exact decide_eq_false (isIn_not.mp hin)
          · rw [Bf_get (by omega) 1] at hx
            exact hno i x (by omega) hx
  · cases q with
    | inl v => exact ⟨_, rfl, hq⟩
    | inr s => exact ⟨_, rfl, hq⟩
/-! ends -/
theorem come_mem0 (hp : p < N) : p ∈ comeN N ds p := mem_come.mpr ⟨hp, .refl⟩
theorem come_pos (hp : p < N) : 0 < (comeN N ds p).length := List.length_pos_of_mem (come_mem0 hp)
theorem come_len : (comeN N ds p).length ≤ N := by
  have := nodup_le (come_nodup N ds p) (m := List.range N) fun q hq => List.mem_range.mpr (mem_come.mp hq).1
  rwa [List.length_range] at this
theorem come_lt {q : Nat} (h : q ∈ comeN N ds p) : q < N := (mem_come.mp h).1
theorem come_head (hp : p < N) : (comeN N ds p)[0]? = some ((comeN N ds p).getD 0 0) := get_of_getD (come_pos hp)
theorem come_least {q : Nat} (h : q ∈ comeN N ds p) : (comeN N ds p).getD 0 0 ≤ q := by
  obtain ⟨i, hi, e⟩ := List.getElem_of_mem h
  have hs := come_sorted N ds p
  rw [List.getD_eq_getElem?_getD, List.getElem?_eq_getElem (by omega)]
  show (comeN N ds p)[0] ≤ q
  by_cases z : i = 0
  · subst z; omega
  · have := List.pairwise_iff_getElem.mp hs 0 i (by omega) hi (by omega)
    omega
theorem come_same {q : Nat} (h1 : Rch ds p q) (h2 : Rch ds q p) : comeN N ds p = comeN N ds q := by
  unfold comeN
  refine List.filter_congr fun x _ => ?_
  rw [decide_eq_decide]
  exact ⟨fun h => h2.trans h, fun h => h1.trans h⟩
theorem ends_T (ok : BookOk N ds) : eends (N, ds) = some ((endsN N ds).map (comeN N ds)) := by
  have hN := ok.n
  unfold eends
  rw [grd_pos (by show N < 2 ^ 62; omega)]
  have key : ∀ (ps : List Nat) (es : List (List Nat)), (∀ p ∈ ps, p < N) → es.length + ps.length ≤ 1000 → forT (eends_b1 (N, ds)) ps es = some (es ++ (ps.filter (isEndB N ds)).map (comeN N ds)) := by
    intro ps
    induction ps with
    | nil => intro es _ _; simp [forT]
    | cons p ps ih =>
      intro es hps hl
      have hp := hps p List.mem_cons_self
      simp only [List.length_cons] at hl
      show bnd (eends_b1 (N, ds) p es) _ = _
      have e1 : eends_b1 (N, ds) p es = some (if isEndB N ds p = true then es ++ [comeN N ds p] else es) := by
        unfold eends_b1
        rw [comes_T ok hp, bnd_pure, bnd_of (come_head hp)]
        have hb : (if decide ((comeN N ds p).getD 0 0 = p) = true then grd ((comeN N ds p).length ≤ sizeLine) (bnd (lcP (fun (q_ : Nat) => bnd (ecomes_to (N, ds) q_) fun r_1 => some (some (isIn p r_1))) (comeN N ds p)) fun ys => some (ys.all id)) else some false) = some (isEndB N ds p) := by
          by_cases h0 : (comeN N ds p).getD 0 0 = p
          · rw [if_pos (decide_eq_true h0), grd_pos (by rw [szl]; have := come_len (N := N) (ds := ds) (p := p); omega), lcP_map (g := fun q => isIn p (comeN N ds q)) _ (fun q hq => by rw [comes_T ok (come_lt hq)]; rfl), bnd_pure]
            congr 1
            rw [Bool.eq_iff_iff, List.all_eq_true, isEndB_iff]
            constructor
            · intro h
              exact ⟨h0, fun q hq => isIn_iff.mp (h _ (List.mem_map.mpr ⟨q, hq, rfl⟩))⟩
            · intro h x hx
              obtain ⟨q, hq, rfl⟩ := List.mem_map.mp hx
              exact isIn_iff.mpr (h.2 q hq)
          · rw [if_neg (by simpa using h0)]
            congr 1
            exact (isEndB_not.mpr fun h => h0 h.1).symm
        rw [hb, bnd_pure]
        by_cases he : IsEnd N ds p
        · rw [isEndB_iff.mpr he, if_pos rfl, if_pos rfl, grd_pos (by rw [szl]; omega)]; rfl
        · rw [isEndB_not.mpr he]; rfl
      rw [e1, bnd_pure]
      by_cases he : IsEnd N ds p
      · rw [isEndB_iff.mpr he, if_pos rfl, ih _ (fun q hq => hps q (List.mem_cons_of_mem _ hq)) (by simp; omega), List.filter_cons_of_pos (isEndB_iff.mpr he)]
        simp
      · rw [isEndB_not.mpr he, if_neg (by decide), ih _ (fun q hq => hps q (List.mem_cons_of_mem _ hq)) (by omega), List.filter_cons_of_neg (by rw [isEndB_not.mpr he]; decide)]
  rw [key (List.range N) [] (fun p hp => List.mem_range.mp hp) (by simp; omega)]
  rfl
theorem law_ends_T (ok : BookOk N ds) : el_ends (N, ds) = some ((endsN N ds).map (comeN N ds)) := by
  have hN := ok.n
  unfold el_ends
  rw [grd_pos (by show N < 2 ^ 62; omega)]
  have isE : ∀ m, m < N → (comeN N ds m ∉ ((List.range m).filter (isEndB N ds)).map (comeN N ds) ∧ (∀ q ∈ comeN N ds m, comeN N ds q = comeN N ds m) ↔ IsEnd N ds m) := by
    intro m hm
    constructor
    · intro ⟨h1, h2⟩
      have hq0 : (comeN N ds m).getD 0 0 ∈ comeN N ds m := getD_mem (come_pos hm)
      have hle := come_least (come_mem0 (ds := ds) hm)
      refine ⟨?_, fun q hq => by rw [h2 q hq]; exact come_mem0 hm⟩
      apply Classical.byContradiction
      intro hne
      have hlt : (comeN N ds m).getD 0 0 < m := by omega
      refine h1 (List.mem_map.mpr ⟨(comeN N ds m).getD 0 0, List.mem_filter.mpr ⟨List.mem_range.mpr hlt, ?_⟩, h2 _ hq0⟩)
      rw [isEndB_iff]
      refine ⟨by rw [h2 _ hq0], fun q hq => ?_⟩
      rw [h2 _ hq0] at hq
      rw [h2 q hq]
      exact hq0
    · intro h
      refine ⟨fun z => ?_, fun q hq => (come_same (mem_come.mp hq).2 (mem_come.mp (h.2 q hq)).2).symm⟩
      obtain ⟨p', h1, h2⟩ := List.mem_map.mp z
      obtain ⟨h3, h4⟩ := List.mem_filter.mp h1
      rw [isEndB_iff] at h4
      have := h4.1
      rw [h2, h.1] at this
      have := List.mem_range.mp h3
      omega
  have key : ∀ (r m : Nat), m + r = N → forT (el_ends_b1 (N, ds)) ((List.range N).drop m) (((List.range m).filter (isEndB N ds)).map (comeN N ds)) = some ((endsN N ds).map (comeN N ds)) := by
    intro r
    induction r with
    | zero =>
      intro m hm
      have : m = N := by omega
      subst this
      rw [List.drop_of_length_le (by simp)]
      rfl
    | succ r ih =>
      intro m hm
      have hmN : m < N := by omega
      have hd : (List.range N).drop m = m :: (List.range N).drop (m + 1) := by
        rw [List.drop_eq_getElem_cons (by simpa using hmN)]; simp
      rw [hd]
      show bnd (el_ends_b1 (N, ds) m _) _ = _
      generalize hf : ((List.range m).filter (isEndB N ds)).map (comeN N ds) = found
      have hfl : found.length ≤ N := by
        rw [← hf, List.length_map]
        have := List.length_filter_le (isEndB N ds) (List.range m)
        rw [List.length_range] at this
        omega
      have hE := isE m hmN
      rw [hf] at hE
      have e1 : el_ends_b1 (N, ds) m found = some (if isEndB N ds m = true then found ++ [comeN N ds m] else found) := by
        unfold el_ends_b1
        rw [come_T ok hmN, bnd_pure]
        have hb : (if (!isIn (comeN N ds m) found) = true then grd ((comeN N ds m).length ≤ sizeLine) (bnd (lcP (fun (q_ : Nat) => bnd (el_come (N, ds) q_) fun r_1 => if decide (r_1 ≠ comeN N ds m) = true then some (some q_) else some none) (comeN N ds m)) fun ys => some (decide (ys = []))) else some false) = some (isEndB N ds m) := by
          by_cases h0 : comeN N ds m ∈ found
          · rw [isIn_iff.mpr h0, if_neg (by decide)]
            congr 1
            exact (isEndB_not.mpr fun h => (hE.mpr h).1 h0).symm
          · rw [isIn_not.mpr h0, if_pos (show (!false) = true from rfl), grd_pos (by rw [szl]; have := come_len (N := N) (ds := ds) (p := m); omega), lcP_fm (g := fun q => if decide (comeN N ds q ≠ comeN N ds m) = true then some q else none) _ (fun q hq => by
              rw [come_T ok (come_lt hq), bnd_pure]
              by_cases z : comeN N ds q ≠ comeN N ds m
              · rw [if_pos (decide_eq_true z), if_pos (decide_eq_true z)]
              · rw [if_neg (by simpa using z), if_neg (by simpa using z)]), bnd_pure]
            congr 1
            rw [Bool.eq_iff_iff, decide_eq_true_eq, List.filterMap_eq_nil_iff, isEndB_iff, ← hE]
            constructor
            · intro h
              refine ⟨h0, fun q hq => ?_⟩
              have := h q hq
              apply Classical.byContradiction
              intro z
              rw [if_pos (decide_eq_true z)] at this
              cases this
            · intro h q hq
              rw [if_neg (by rw [h.2 q hq]; simp)]
        rw [hb, bnd_pure]
        by_cases he : IsEnd N ds m
        · rw [isEndB_iff.mpr he, if_pos rfl, if_pos rfl, grd_pos (by rw [szl]; omega)]; rfl
        · rw [isEndB_not.mpr he]; rfl
      rw [e1, bnd_pure]
      have hn := ih (m + 1) (by omega)
      rw [List.range_succ, List.filter_append, List.map_append, hf] at hn
      by_cases he : IsEnd N ds m
      · rw [isEndB_iff.mpr he, if_pos rfl]
        rw [List.filter_cons_of_pos (isEndB_iff.mpr he)] at hn
        exact hn
      · rw [isEndB_not.mpr he, if_neg (by decide)]
        rw [List.filter_cons_of_neg (by rw [isEndB_not.mpr he]; decide)] at hn
        simpa using hn
  have k0 := key N 0 (by omega)
  rw [show forT (el_ends_b1 (N, ds)) (List.range (N, ds).1) [] = some ((endsN N ds).map (comeN N ds)) from k0, bnd_pure]
  have hne : ∀ x ∈ (endsN N ds).map (comeN N ds), x ≠ [] := by
    intro x hx
    obtain ⟨p, hp, rfl⟩ := List.mem_map.mp hx
    have hpN : p < N := List.mem_range.mp (List.mem_filter.mp hp).1
    intro z
    have := come_pos (ds := ds) hpN
    rw [z] at this
    cases this
  rw [grd_pos (srtG_T hne), srt_sorted]
  rw [List.pairwise_map]
  have hs : (endsN N ds).Pairwise (· < ·) := List.Pairwise.filter _ List.pairwise_lt_range
  refine List.Pairwise.imp_of_mem (fun {a b} ha hb hab => ?_) hs
  have hea : IsEnd N ds a := isEndB_iff.mp (List.mem_filter.mp ha).2
  have heb : IsEnd N ds b := isEndB_iff.mp (List.mem_filter.mp hb).2
  have haN : a < N := List.mem_range.mp (List.mem_filter.mp ha).1
  have hbN : b < N := List.mem_range.mp (List.mem_filter.mp hb).1
  rw [le_T]
  have h1 := hea.1
  have h2 := heb.1
  have p1 := come_pos (ds := ds) haN
  have p2 := come_pos (ds := ds) hbN
  cases ca : comeN N ds a with
  | nil => rw [ca] at p1; cases p1
  | cons x xs =>
    cases cb : comeN N ds b with
    | nil => rw [cb] at p2; cases p2
    | cons y ys =>
      rw [ca] at h1
      rw [cb] at h2
      have hx : x = a := h1
      have hy : y = b := h2
      subst hx hy
      rw [decide_eq_false]; rfl
      intro z
      rcases List.cons_lt_cons_iff.mp z with z | ⟨z, _⟩ <;> omega
end
end Pd
set_option Elab.async false
set_option linter.all false
set_option maxRecDepth 100000
set_option maxHeartbeats 1000000
/-! M55e: the law. -/
namespace Pd
open PySem
theorem rows_fit {N : Nat} (hN : N ≤ 16) {l : List (List Nat)} (hl : l.length ≤ 100) (h : ∀ x ∈ l, x.length ≤ 100 ∧ ∀ y ∈ x, y < N) : Fit (eT (eT eN) l) := by
  refine ((Fw.T (e := eT eN) (k := 1) (w := 4200) fun x hx => (Fw.TN (h x hx).2 (by omega)).mono (Nat.le_refl _) (by have := (h x hx).1; omega))).fit (by decide) ?_
  have : l.length * (4200 + 1) ≤ 100 * 4201 := Nat.mul_le_mul_right _ hl
  omega
theorem row_fit {N : Nat} (hN : N ≤ 1000) {l : List Nat} (hl : l.length ≤ 100) (h : ∀ y ∈ l, y < N) : Fit (eT eN l) := (Fw.TN h (by omega)).fit (by decide) (by omega)
theorem orow_fit {l : Option (List Nat)} (h : ∀ x, l = some x → x.length ≤ 100 ∧ ∀ y ∈ x, y < 1000) : Fit (eO (eT eN) l) := (Fw.O (e := eT eN) (k := 1) (w := 4200) fun x hx => (Fw.TN (h x hx).2 (by omega)).mono (Nat.le_refl _) (by have := (h x hx).1; omega)).fit (by decide) (by omega)
section
variable {N : Nat} {ds : List (List Nat)} {p : Nat}
theorem stepG_let (h : Nat × List Nat) (B : Nat) (hb : ∀ y ∈ h.2, y < B) : ∀ (ds : List (List Nat)) (i : Nat) (L : Lw), i + ds.length ≤ B → (∀ w ∈ wdsW L, ∀ y ∈ w, y < B) → ∀ w ∈ wdsW (stepG h ds i L), ∀ y ∈ w, y < B
  | [], _, _, _, hl => hl
  | d :: r, i, L, hi, hl => by
    simp only [List.length_cons] at hi
    unfold stepG
    refine stepG_let h B hb r _ _ (by omega) ?_
    split
    · exact hl
    · intro w hw
      unfold wdsW at hw
      rw [List.map_append] at hw
      rcases List.mem_append.mp hw with z | z
      · exact hl w z
      · have : w = h.2 ++ [i] := by simpa using z
        rw [this]
        intro y hy
        rcases List.mem_append.mp hy with q | q
        · exact hb y q
        · rw [List.mem_singleton.mp q]; omega
theorem Bf_let (ds : List (List Nat)) (p : Nat) : ∀ k, ∀ w ∈ wdsW (Bf ds p k), ∀ y ∈ w, y < ds.length
  | 0, w, hw => by
    have : w = [] := by simpa [Bf, wdsW] using hw
    rw [this]; exact fun _ h => nomatch h
  | k + 1, w, hw => by
    have ih := Bf_let ds p k
    unfold Bf at hw
    split at hw
    · rename_i h hg
      exact stepG_let h ds.length (ih h.2 (List.mem_map.mpr ⟨h, List.mem_of_getElem? hg, rfl⟩)) ds 0 _ (by omega) ih w hw
    · exact ih w hw
theorem way_small (ok : BookOk N ds) (hp : p < N) (lot : List Nat) : ∀ x, wayN N ds p lot = some x → x.length ≤ 100 ∧ ∀ y ∈ x, y < 1000 := by
  intro x hx
  unfold wayN at hx
  cases hf : (Bf ds p N).find? (fun h => decide (h.1 ∈ lot)) with
  | none => rw [hf] at hx; cases hx
  | some h =>
    rw [hf] at hx
    have hx : h.2 = x := by simpa using hx
    subst hx
    have hm : h.2 ∈ wdsW (Bf ds p N) := List.mem_map.mpr ⟨h, List.mem_of_find?_eq_some hf, rfl⟩
    have := Bf_wlen ds p N h.2 hm
    have := ok.n
    refine ⟨by omega, fun y hy => ?_⟩
    have := Bf_let ds p N h.2 hm y hy
    have := ok.g
    omega
/-- the least of some is the first word into the lot -/
theorem some_head (ok : BookOk N ds) (hp : p < N) {lot : List Nat} {ys : List (Nat × List Nat)} (hy : ys = lot.filterMap fun q => (lkp q (Bf ds p N)).map fun w => (w.length, w)) :
    (if decide (srtE (eP2 eN (eT eN)) ys ≠ []) = true then bnd ((srtE (eP2 eN (eT eN)) ys)[0]?) fun v3 => some (some v3.2) else some none) = some (wayN N ds p lot) := by
  have hn := (Bf_ok ds p N).n
  have hperm := srt_perm (eP2 eN (eT eN)) ys
  unfold wayN
  cases hf : (Bf ds p N).find? (fun h => decide (h.1 ∈ lot)) with
  | none =>
    have hnil : ys = [] := by
      rw [hy, List.filterMap_eq_nil_iff]
      intro q hq
      cases hl : lkp q (Bf ds p N) with
      | none => rfl
      | some w =>
        have := List.find?_eq_none.mp hf (q, w) (lkp_mem hl)
        exact absurd hq (by simpa using this)
    rw [hnil] at hperm ⊢
    rw [List.perm_nil.mp hperm]
    rfl
  | some h =>
    have hm := List.mem_of_find?_eq_some hf
    have hin : h.1 ∈ lot := by have := List.find?_some hf; simpa using this
    have hmy : (h.2.length, h.2) ∈ ys := by
      rw [hy, List.mem_filterMap]
      exact ⟨h.1, hin, by rw [lkp_of hn hm]; rfl⟩
    have hall : ∀ y ∈ ys, y = (h.2.length, h.2) ∨ ((h.2.length, h.2).1 < y.1 ∨ ((h.2.length, h.2).1 = y.1 ∧ (h.2.length, h.2).2 < y.2)) := by
      intro y hyy
      rw [hy, List.mem_filterMap] at hyy
      obtain ⟨q, hq, e⟩ := hyy
      cases hl : lkp q (Bf ds p N) with
      | none => rw [hl] at e; cases e
      | some w =>
        rw [hl] at e
        cases e
        have hqm := lkp_mem hl
        obtain ⟨i, hi, ei⟩ := List.getElem_of_mem hqm
        obtain ⟨as, bs, hsp, hbef⟩ := (List.find?_eq_some_iff_append.mp hf).2
        by_cases e2 : (q, w) = h
        · rw [← e2]; exact .inl rfl
        · have hgrow := (Bf_grow ds p N).1
          rw [hsp] at hqm hgrow
          rcases List.mem_append.mp hqm with z | z
          · have := hbef _ z
            simp at this
            exact absurd hq this
          · rcases List.mem_cons.mp z with z | z
            · exact absurd z e2
            · unfold wdsW at hgrow
              rw [List.map_append, List.map_cons] at hgrow
              have h3 := (List.pairwise_append.mp hgrow).2.1
              have := (List.pairwise_cons.mp h3).1 w (List.mem_map.mpr ⟨(q, w), z, rfl⟩)
              exact .inr this
    have hh := srtP_head hmy hall
    have hne : srtE (eP2 eN (eT eN)) ys ≠ [] := fun z => by rw [z] at hh; cases hh
    rw [if_pos (decide_eq_true hne), hh]
    rfl
end
theorem law_b1 {r : BkT × SrcT} (hr : DrB r.1) {p : Nat} (hp : p < r.1.1) (s : SrcT) : Ok (elaw_b1 r p s) fun q => match q with | .inl _ => False | .inr _ => True := by
  have ok : BookOk r.1.1 r.1.2 := hr.ok
  have hN := hr.n
  have hw : el_words_from r.1 p = some (Bf r.1.2 p r.1.1) := words_T ok hp
  have hc : ecomes_to r.1 p = some (comeN r.1.1 r.1.2 p) := comes_T ok hp
  have hlen := Bf_N ok hp
  have hpos := words_pos r.1.2 p r.1.1
  have hfit : Fit (eT eN (comeN r.1.1 r.1.2 p)) := row_fit (N := r.1.1) (by omega) (by have := come_len (N := r.1.1) (ds := r.1.2) (p := p); omega) fun y hy => come_lt hy
  unfold elaw_b1
  rw [hw, bnd_pure, hc, bnd_pure, bnd_of (shwG_fit hfit), grd_pos (by omega), words_keys ok hp, bnd_of (shwG_fit hfit), bnd_of (sameR_fit hfit)]
  refine Ok.ite (fun z => by cases z) fun _ => ?_
  refine Ok.grd (by omega) ?_
  refine Ok.bnd (Ok.mixed s (List.range r.1.1) (by rw [List.length_range]; omega)) fun m hm => ?_
  refine Ok.bnd (Ok.of m.2 (xs := [0, 1, 1, 2, 2, 3, 5]) (by decide) (by decide)) fun k hk => ?_
  rw [bnd_pure]
  generalize hlot : sortN (m.1.take k.1) = lot
  have hll : lot.length ≤ 10 := by
    have h1 := hm.length_eq
    rw [List.length_range] at h1
    rw [← hlot, sortN_len, List.length_take]
    omega
  refine Ok.grd (by rw [szl]; omega) ?_
  rw [lcP_fm (g := fun q => (lkp q (Bf r.1.2 p r.1.1)).map fun w => (w.length, w)) lot (fun q _ => by
    cases hl : lkp q (Bf r.1.2 p r.1.1) with
    | none => rfl
    | some w => rfl), bnd_pure, grd_pos (srtG_P _), bnd_pure, show eway_into r.1 p lot = some (wayN r.1.1 r.1.2 p lot) from way_T ok hp lot, bnd_pure]
  have hf2 : Fit (eO (eT eN) (wayN r.1.1 r.1.2 p lot)) := orow_fit (way_small ok hp lot)
  rw [bnd_of (shwG_fit hf2), some_head ok hp rfl, bnd_pure, bnd_of (shwG_fit hf2), bnd_of (sameR_fit hf2)]
  refine Ok.ite (fun z => by cases z) fun _ => ⟨_, rfl, trivial⟩
theorem endsN_le (N : Nat) (ds : List (List Nat)) : (endsN N ds).length ≤ N := by
  have := List.length_filter_le (isEndB N ds) (List.range N)
  rw [List.length_range] at this
  exact this
theorem law_b2 (lap : Nat) (s : SrcT) : Ok (elaw_b2 lap s) fun q => match q with | .inl _ => False | .inr _ => True := by
  unfold elaw_b2
  refine Ok.bnd (draw_ok s) fun r hr => ?_
  have ok : BookOk r.1.1 r.1.2 := hr.ok
  have hN := hr.n
  have he : eends r.1 = some ((endsN r.1.1 r.1.2).map (comeN r.1.1 r.1.2)) := ends_T ok
  have hl : el_ends r.1 = some ((endsN r.1.1 r.1.2).map (comeN r.1.1 r.1.2)) := law_ends_T ok
  have hfit : Fit (eT (eT eN) ((endsN r.1.1 r.1.2).map (comeN r.1.1 r.1.2))) := rows_fit (N := r.1.1) (by omega) (by rw [List.length_map]; have := endsN_le r.1.1 r.1.2; omega) fun x hx => by
    obtain ⟨p, hp, rfl⟩ := List.mem_map.mp hx
    exact ⟨by have := come_len (N := r.1.1) (ds := r.1.2) (p := p); omega, fun y hy => come_lt hy⟩
  rw [he, bnd_pure, bnd_of (shwG_fit hfit), hl, bnd_pure, bnd_of (shwG_fit hfit), bnd_of (sameR_fit hfit)]
  have e2 : (if (!true) = true then some true else bnd (some ((endsN r.1.1 r.1.2).map (comeN r.1.1 r.1.2))) fun r_3 => bnd (some ((endsN r.1.1 r.1.2).map (comeN r.1.1 r.1.2))) fun r_4 => some (decide (r_3 ≠ r_4))) = some false := by
    rw [if_neg (by decide), bnd_pure, bnd_pure]
    congr 1
    exact decide_eq_false fun z => z rfl
  rw [e2, bnd_pure]
  refine Ok.ite (fun z => by cases z) fun _ => ?_
  refine Ok.grd (by omega) ?_
  refine Ok.bnd (Ok.forR (I := fun ps _ => ∀ p ∈ ps, p < r.1.1) (J := fun _ => False) (fun p ps s hi => (law_b1 hr (hi p List.mem_cons_self) s).mono fun q hq => match q, hq with
    | .inr s', _ => fun p hp => hi p (List.mem_cons_of_mem _ hp)) (List.range r.1.1) r.2 fun p hp => List.mem_range.mp hp) fun q hq => match q, hq with
    | .inr s', _ => ⟨_, rfl, trivial⟩
theorem rch_nil {p q : Nat} (h : Rch [] p q) : q = p := by
  induction h with
  | refl => rfl
  | step _ hd => cases hd
theorem come_nil {N p : Nat} (hp : p < N) : comeN N [] p = [p] := by
  have h1 : ∀ x, x ∈ comeN N [] p ↔ x = p := fun x => ⟨fun h => rch_nil (mem_come.mp h).2, fun h => by rw [h]; exact come_mem0 hp⟩
  have hn := come_nodup N [] p
  have hl := nodup_le hn (m := [p]) fun x hx => by rw [(h1 x).mp hx]; exact List.mem_singleton.mpr rfl
  have hpos := come_pos (ds := []) hp
  cases hc : comeN N [] p with
  | nil => rw [hc] at hpos; cases hpos
  | cons a l =>
    rw [hc] at hl
    have ha : a = p := (h1 a).mp (by rw [hc]; exact List.mem_cons_self)
    have : l = [] := List.eq_nil_of_length_eq_zero (by simpa using hl)
    rw [ha, this]
theorem bok_nil {N : Nat} (h : N ≤ 16) : BookOk N [] := ⟨h, by simp, fun _ h => nomatch h⟩
theorem law_T (src0 : SrcT) : elaw src0 = some true := by
  refine Ok.eq ?_
  unfold elaw
  refine Ok.bnd (Ok.forR (I := fun _ _ => True) (J := fun _ => False) (fun lap _ s _ => (law_b2 lap s).mono fun q hq => match q, hq with | .inr _, _ => trivial) (List.range 8) src0 trivial) fun q hq => match q, hq with | .inr m, _ => ?_
  refine Ok.bnd (Ok.pick1 m (n := 8) (by decide) (by decide)) fun k hk => ?_
  rw [bnd_pure]
  have ok : BookOk (1 + k.1) [] := bok_nil (by omega)
  have hE : (endsN (1 + k.1) []).map (comeN (1 + k.1) []) = (List.range (1 + k.1)).map fun (p1 : Nat) => [p1] := by
    have : endsN (1 + k.1) [] = List.range (1 + k.1) := by
      unfold endsN
      rw [List.filter_eq_self]
      intro p hp
      have hp := List.mem_range.mp hp
      rw [isEndB_iff]
      refine ⟨by rw [come_nil hp]; rfl, fun q hq => ?_⟩
      rw [come_nil hp] at hq
      rw [List.mem_singleton.mp hq, come_nil hp]
      exact List.mem_singleton.mpr rfl
    rw [this]
    exact List.map_congr_left fun p hp => come_nil (List.mem_range.mp hp)
  rw [ends_T ok, bnd_pure, hE, grd_pos (by omega), grd_pos (range_len _ (by omega))]
  have hk1 : toN (((1 + k.1 : Nat) : Int) - (1 : Int)) = some k.1 := by
    rw [toN_ok (by omega)]; congr 1; omega
  have e3 : (if decide ((List.range (1 + k.1)).map (fun (p1 : Nat) => [p1]) ≠ (List.range (1 + k.1)).map (fun (p1 : Nat) => [p1])) = true then some true else bnd (toN (((1 + k.1 : Nat) : Int) - (1 : Int))) fun k_1 => bnd (ecomes_to (1 + k.1, []) k_1) fun r_12 => bnd (toN (((1 + k.1 : Nat) : Int) - (1 : Int))) fun k1 => some (decide (r_12 ≠ [k1]))) = some false := by
    rw [if_neg (by simp), bnd_of hk1, comes_T ok (by omega), bnd_pure, bnd_of hk1, come_nil (by omega)]
    simp
  rw [e3, bnd_pure]
  refine Ok.ite (fun z => by cases z) fun _ => ?_
  have w0 : ∀ N lot, Bf [] 0 N = [(0, [])] → wayN N [] 0 lot = if 0 ∈ lot then some [] else none := by
    intro N lot h
    unfold wayN
    rw [h]
    by_cases z : 0 ∈ lot
    · simp [List.find?, z]
    · simp [List.find?, z]
  have bf : ∀ N, Bf [] 0 N = [(0, [])] := by
    intro N
    have := Bf_stop (ds := []) (p := 0) (k := 1) (by decide) 
    by_cases z : N = 0
    · subst z; rfl
    · obtain ⟨j, rfl⟩ : ∃ j, N = 1 + j := ⟨N - 1, by omega⟩
      rw [this j]; rfl
  rw [way_T ok (by omega), bnd_pure, w0 _ _ (bf _), if_neg (by simp)]
  rw [way_T ok (by omega), bnd_pure, w0 _ _ (bf _), if_pos (by simp)]
  rw [way_T (bok_nil (by decide)) (by decide), bnd_pure, w0 _ _ (bf _), if_neg (by simp)]
  exact ⟨true, rfl, rfl⟩
end Pd
set_option Elab.async false
set_option linter.all false
set_option maxRecDepth 100000
set_option maxHeartbeats 1000000
namespace Pd
open PySem
theorem ecomes_to_run {C : Cl}  {book : (Nat × (List (List Nat)))} {p : Nat} {rr : (List Nat)}  (h : ecomes_to book p = some rr) : runFn C WFn fcomes_to [im ((eP2 eN (eT (eT eN))) book), im (eN p)] = .ret (im ((eT eN) rr)) [none, none] := by
  unfold ecomes_to at h
  refine run_ofF (qs := [.any, .any, .any, .any, .any, .any]) rfl rfl ?_ (outsS (outsS outsN))
  obtain ⟨found, hh1, h⟩ := bnd_some h
  refine Fb.next (X.asgT (Ew.cons (E.nm (o := fun (tt : (List (Nat × Bool))) => (.p (.dic (eD eN eB tt)) : Ow)) hh1 (E.dmk (kvs := eD eN eB [(p, true)]) (Es.cons (E.var rfl) (Es.cons E.cst Es.nil)) rfl (Nat.le_of_ble_eq_true rfl))) (Ew.cons (E.lstT (e := eN) (Es.consT (a := p) (E.var rfl) rfl (Es.nilT (e := eN))) (Nat.le_of_ble_eq_true rfl)) Ew.nil)) rfl) ?_
  obtain ⟨m_1, hh10, h⟩ := bnd_some h
  refine Fb.next (X.whl (P := (fun (tt : ((List (Nat × Bool)) × (List Nat))) => ([.im ((eP2 eN (eT (eT eN))) book), .im (eN p), .own (.dic (eD eN eB tt.1)), .own (.lst (tt.2.map eN)), .any, .any] : Ps))) (s := (found, [p])) (Le.s (Le.s (Le.s (Le.s (Le.n (Le.n Le.z)))))) hh10 (fun s_ b h => ?_) (fun s_ s2 h => ?_)) ?_
  · unfold ecomes_to_t3 at h
    obtain rfl := Option.some.inj h
    exact (Et.tr (d := eB (decide (s_.2 ≠ []))) (Ep.e (E.pr (ds := [(eL eN) s_.2, (eL eN) []]) (Eo.v rfl (Eo.e (E.lstT (e := eN) (Es.nilT (e := eN)) (Nat.le_of_ble_eq_true rfl)) Eo.nil)) rfl (S.ne (Ed.L Ed.N) (by decide) _ _))) rfl rfl)
  · unfold ecomes_to_w2 at h
    obtain ⟨x_, hh2, h⟩ := bnd_some h
    refine K.next (X.asg (E.popT (e := eN) rfl hh2)) ?_
    obtain ⟨m_, hh9, h⟩ := bnd_some h
    refine K.next (X.for (en := (eT eN)) (P := (fun (tt : ((List (Nat × Bool)) × (List Nat))) => ([.im ((eP2 eN (eT (eT eN))) book), .im (eN p), .own (.dic (eD eN eB tt.1)), .own (.lst (tt.2.map eN)), .im (eN x_), .any] : Ps))) (s := (s_.1, s_.2.dropLast)) (Ei.op (d := (eT (eT eN)) book.2) (Ep.e (E.pr (ds := [(eP2 eN (eT (eT eN))) book, eN 1]) (Eo.v rfl (Eo.e E.cst Eo.nil)) rfl rfl)) rfl rfl) rfl (Le.s (Le.s (Le.s (Le.s (Le.s (Le.n Le.z)))))) hh9 (fun deed s_1 s2 h => ⟨_, rfl, ?_⟩)) ?_
    · unfold ecomes_to_b1 at h
      obtain ⟨v, hh3, h⟩ := bnd_some h
      obtain ⟨j, hh8, h⟩ := bnd_some h
      refine K.next (p1 := [.im ((eP2 eN (eT (eT eN))) book), .im (eN p), .own (.dic (eD eN eB j.1)), .own (.lst (j.2.map eN)), .im (eN x_), .im ((eT eN) deed)]) (X.ite (Et.tr (d := eB ((lkp v s_1.1).isNone)) (Ep.e (E.pr (ds := [eN v, (eDD eN eB) s_1.1]) (Eo.e (E.pr (ds := [(eT eN) deed, eN x_]) (Eo.v rfl (Eo.v rfl Eo.nil)) rfl (S.ixT hh3)) (Eo.v rfl Eo.nil)) rfl (S.notInD Ke.N _ _))) rfl rfl) (fun hc => ?_) (fun hc => ?_)) ?_
      · clear h; have h := hh8; clear hh8; rw [if_pos hc] at h
        obtain ⟨v1, hh4, h⟩ := bnd_some h
        obtain ⟨hh5, h⟩ := grd_some h
        refine K.next (X.setDT (x := v1) (v := true) Ke.N E.cst rfl rfl (E.pr (ds := [(eT eN) deed, eN x_]) (Eo.v rfl (Eo.v rfl Eo.nil)) rfl (S.ixT hh4)) rfl hh5) ?_
        obtain ⟨v2, hh6, h⟩ := bnd_some h
        obtain ⟨hh7, h⟩ := grd_some h
        refine K.next (X.expr (E.appT (e := eN) (x := v2) rfl (E.pr (ds := [(eT eN) deed, eN x_]) (Eo.v rfl (Eo.v rfl Eo.nil)) rfl (S.ixT hh6)) rfl rfl hh7)) ?_
        refine K.nil ?_
        obtain rfl := Option.some.inj h
        exact K.done (Le.s (Le.s (Le.s (Le.s (Le.s (Le.s Le.z))))))
      · clear h; have h := hh8; clear hh8; rw [if_neg (by rw [hc]; decide)] at h
        refine K.nil ?_
        obtain rfl := Option.some.inj h
        exact K.done (Le.s (Le.s (Le.s (Le.s (Le.s (Le.s Le.z))))))
      refine K.nil ?_
      obtain rfl := Option.some.inj h
      exact K.done (Le.s (Le.s (Le.s (Le.s (Le.s (Le.n Le.z))))))
    refine K.nil ?_
    obtain rfl := Option.some.inj h
    exact K.done (Le.s (Le.s (Le.s (Le.s (Le.n (Le.n Le.z))))))
  obtain ⟨hh11, h⟩ := grd_some h
  obtain rfl := Option.some.inj h
  exact Fb.rt (X.ret (E.pr (ds := [(eL eN) (sortN (m_1.1.map (·.1)))]) (Eo.e (E.pr (ds := [(eDD eN eB) m_1.1]) (Eo.v rfl Eo.nil) rfl (S.sortedDN hh11)) Eo.nil) rfl (S.tupleL _))) (Le.n (Le.n (Le.n (Le.n (Le.n (Le.n Le.z))))))

theorem eway_into_run {C : Cl}  {book : (Nat × (List (List Nat)))} {p : Nat} {lot : (List Nat)} {rr : (Option (List Nat))}  (h : eway_into book p lot = some rr) : runFn C WFn fway_into [im ((eP2 eN (eT (eT eN))) book), im (eN p), im ((eT eN) lot)] = .ret (im ((eO (eT eN)) rr)) [none, none, none] := by
  unfold eway_into at h
  refine run_ofF (qs := [.any, .any, .any, .any, .any, .any, .any, .any, .any]) rfl rfl ?_ (outsS (outsS (outsS outsN)))
  obtain ⟨words, hh1, h⟩ := bnd_some h
  refine Fb.next (X.asgT (Ew.cons (E.nm (o := fun (tt : (List (Nat × (List Nat)))) => (.p (.dic (eD eN (eT eN) tt)) : Ow)) hh1 (E.dmk (kvs := eD eN (eT eN) [(p, [])]) (Es.cons (E.var rfl) (Es.cons (E.tupT (e := eN) (Es.nilT (e := eN)) (Nat.le_of_ble_eq_true rfl)) Es.nil)) rfl (Nat.le_of_ble_eq_true rfl))) (Ew.cons (E.lstT (e := eN) (Es.consT (a := p) (E.var rfl) rfl (Es.nilT (e := eN))) (Nat.le_of_ble_eq_true rfl)) (Ew.cons E.cst Ew.nil))) rfl) ?_
  obtain ⟨res, hh14, h⟩ := bnd_some h
  refine Fb.whR (P := (fun (tt : ((List (Nat × (List Nat))) × (List Nat) × Nat)) => ([.im ((eP2 eN (eT (eT eN))) book), .im (eN p), .im ((eT eN) lot), .own (.dic (eD eN (eT eN) tt.1)), .own (.lst (tt.2.1.map eN)), .im (eN tt.2.2), .any, .any, .any] : Ps))) (s := (words, [p], 0)) (Q := (fun (tt : (Option (List Nat))) => ([.any, .any, .any, .any, .any, .any, .any, .any, .any] : Ps))) (o := (fun (tt : (Option (List Nat))) => (im ((eO (eT eN)) tt) : Ow))) (Le.s (Le.s (Le.s (Le.s (Le.s (Le.s (Le.n (Le.n (Le.n Le.z))))))))) hh14 (fun s_ b h => ?_) (fun s_ s2 h => ?_) (fun vr e1 => ?_) (fun m_1 e1 => ?_)
  · unfold eway_into_t3 at h
    obtain rfl := Option.some.inj h
    exact (Et.tr (d := eB (decide (s_.2.2 < s_.2.1.length))) (Ep.e (E.pr (ds := [eN s_.2.2, eN s_.2.1.length]) (Eo.v rfl (Eo.e (E.pr (ds := [(eL eN) s_.2.1]) (Eo.v rfl Eo.nil) rfl (S.lenL _)) Eo.nil)) rfl (S.ltN _ _))) rfl rfl)
  · clear hh14; unfold eway_into_w2 at h
    obtain ⟨v, hh2, h⟩ := bnd_some h
    refine K.next (X.asg (E.pr (ds := [(eL eN) s_.2.1, eN s_.2.2]) (Eo.v rfl (Eo.v rfl Eo.nil)) rfl (S.ixL hh2))) ?_
    rcases if_some h with ⟨hc, h⟩ | ⟨hc, h⟩
    · refine K.iteT (Et.tr (d := eB (isIn v lot)) (Ep.e (E.pr (ds := [eN v, (eT eN) lot]) (Eo.v rfl (Eo.v rfl Eo.nil)) rfl (S.inT _ _))) rfl rfl) hc ?_
      obtain ⟨v1, hh3, h⟩ := bnd_some h
      obtain rfl := Option.some.inj h
      exact K.rt (X.ret (E.pr (ds := [(eDD eN (eT eN)) s_.1, eN v]) (Eo.v rfl (Eo.v rfl Eo.nil)) rfl (S.ixD Ke.N hh3))) (Le.n (Le.n (Le.n (Le.n (Le.n (Le.n (Le.n (Le.n (Le.n Le.z)))))))))
    · refine K.iteF (Et.tr (d := eB (isIn v lot)) (Ep.e (E.pr (ds := [eN v, (eT eN) lot]) (Eo.v rfl (Eo.v rfl Eo.nil)) rfl (S.inT _ _))) rfl rfl) hc ?_
      refine K.nil ?_
      obtain ⟨m_, hh12, h⟩ := bnd_some h
      refine K.next (X.for (en := (eP2 eN (eT eN))) (P := (fun (tt : ((List (Nat × (List Nat))) × (List Nat))) => ([.im ((eP2 eN (eT (eT eN))) book), .im (eN p), .im ((eT eN) lot), .own (.dic (eD eN (eT eN) tt.1)), .own (.lst (tt.2.map eN)), .im (eN s_.2.2), .im (eN v), .any, .any] : Ps))) (s := (s_.1, s_.2.1)) (S.enum book.2 0 ▸ Ei.enum (d := (eT (eT eN)) book.2) (Ep.e (E.pr (ds := [(eP2 eN (eT (eT eN))) book, eN 1]) (Eo.v rfl (Eo.e E.cst Eo.nil)) rfl rfl)) rfl rfl) rfl (Le.s (Le.s (Le.s (Le.s (Le.s (Le.s (Le.s (Le.n (Le.n Le.z))))))))) hh12 (fun letter_deed s_1 s2 h => ⟨_, rfl, ?_⟩)) ?_
      · unfold eway_into_b1 at h
        obtain ⟨v2, hh4, h⟩ := bnd_some h
        obtain ⟨j, hh11, h⟩ := bnd_some h
        refine K.next (p1 := [.im ((eP2 eN (eT (eT eN))) book), .im (eN p), .im ((eT eN) lot), .own (.dic (eD eN (eT eN) j.1)), .own (.lst (j.2.map eN)), .im (eN s_.2.2), .im (eN v), .im (eN letter_deed.1), .im ((eT eN) letter_deed.2)]) (X.ite (Et.tr (d := eB ((lkp v2 s_1.1).isNone)) (Ep.e (E.pr (ds := [eN v2, (eDD eN (eT eN)) s_1.1]) (Eo.e (E.pr (ds := [(eT eN) letter_deed.2, eN v]) (Eo.v rfl (Eo.v rfl Eo.nil)) rfl (S.ixT hh4)) (Eo.v rfl Eo.nil)) rfl (S.notInD Ke.N _ _))) rfl rfl) (fun hc => ?_) (fun hc => ?_)) ?_
        · clear h; have h := hh11; clear hh11; rw [if_pos hc] at h
          obtain ⟨v3, hh5, h⟩ := bnd_some h
          obtain ⟨hh6, h⟩ := grd_some h
          obtain ⟨v4, hh7, h⟩ := bnd_some h
          obtain ⟨hh8, h⟩ := grd_some h
          refine K.next (X.setDT (x := v4) (v := (v3 ++ [letter_deed.1])) Ke.N (E.tupT (xs := (v3 ++ [letter_deed.1])) (Es.starT (ys := v3) (Ep.e (E.pr (ds := [(eDD eN (eT eN)) s_1.1, eN v]) (Eo.v rfl (Eo.v rfl Eo.nil)) rfl (S.ixD Ke.N hh5))) rfl rfl (Es.consT (a := letter_deed.1) (E.var rfl) rfl (Es.nilT (e := eN)))) hh6) rfl rfl (E.pr (ds := [(eT eN) letter_deed.2, eN v]) (Eo.v rfl (Eo.v rfl Eo.nil)) rfl (S.ixT hh7)) rfl hh8) ?_
          obtain ⟨v5, hh9, h⟩ := bnd_some h
          obtain ⟨hh10, h⟩ := grd_some h
          refine K.next (X.expr (E.appT (e := eN) (x := v5) rfl (E.pr (ds := [(eT eN) letter_deed.2, eN v]) (Eo.v rfl (Eo.v rfl Eo.nil)) rfl (S.ixT hh9)) rfl rfl hh10)) ?_
          refine K.nil ?_
          obtain rfl := Option.some.inj h
          exact K.done (Le.s (Le.s (Le.s (Le.s (Le.s (Le.s (Le.s (Le.s (Le.s Le.z)))))))))
        · clear h; have h := hh11; clear hh11; rw [if_neg (by rw [hc]; decide)] at h
          refine K.nil ?_
          obtain rfl := Option.some.inj h
          exact K.done (Le.s (Le.s (Le.s (Le.s (Le.s (Le.s (Le.s (Le.s (Le.s Le.z)))))))))
        refine K.nil ?_
        obtain rfl := Option.some.inj h
        exact K.done (Le.s (Le.s (Le.s (Le.s (Le.s (Le.s (Le.s (Le.n (Le.n Le.z)))))))))
      obtain ⟨at_, hh13, h⟩ := bnd_some h
      refine K.next (X.asg (E.nm (o := fun (tt : Nat) => (im (eN tt) : Ow)) hh13 (E.pr (ds := [eN s_.2.2, eN 1]) (Eo.v rfl (Eo.e E.cst Eo.nil)) rfl (S.addN _ _)))) ?_
      refine K.nil ?_
      obtain rfl := Option.some.inj h
      exact K.done (Le.s (Le.s (Le.s (Le.s (Le.s (Le.s (Le.n (Le.n (Le.n Le.z)))))))))
  · subst e1
    obtain rfl := Option.some.inj h
    exact ⟨rfl, (Le.n (Le.n (Le.n (Le.n (Le.n (Le.n (Le.n (Le.n (Le.n Le.z)))))))))⟩
  · subst e1
    dsimp only at h
    obtain rfl := Option.some.inj h
    exact Fb.rt (X.ret E.cst) (Le.n (Le.n (Le.n (Le.n (Le.n (Le.n (Le.n (Le.n (Le.n Le.z)))))))))

theorem eends_run {C : Cl}  {book : (Nat × (List (List Nat)))} {rr : (List (List Nat))} (hm0 : C.md 0 = [.sh, .sh]) (hf0 : ∀ {a0 : (Nat × (List (List Nat)))} {a1 : Nat} {rr : (List Nat)}, ecomes_to a0 a1 = some rr → C.fn 0 [im ((eP2 eN (eT (eT eN))) a0), im (eN a1)] = .ret (im ((eT eN) rr)) [none, none]) (h : eends book = some rr) : runFn C WFn fends [im ((eP2 eN (eT (eT eN))) book)] = .ret (im ((eT (eT eN)) rr)) [none] := by
  unfold eends at h
  refine run_ofF (qs := [.any, .any, .any, .any, .any]) rfl rfl ?_ (outsS outsN)
  refine Fb.next (X.asg (E.lstT (e := (eT eN)) (Es.nilT (e := (eT eN))) (Nat.le_of_ble_eq_true rfl))) ?_
  obtain ⟨hh1, h⟩ := grd_some h
  obtain ⟨found2, hh12, h⟩ := bnd_some h
  refine Fb.next (X.for (en := eN) (P := (fun (tt : ((List (List Nat)))) => ([.im ((eP2 eN (eT (eT eN))) book), .own (.lst (tt.map (eT eN))), .any, .any, .any] : Ps))) (s := []) (Ei.rng1 (n := book.1) (E.pr (ds := [(eP2 eN (eT (eT eN))) book, eN 0]) (Eo.v rfl (Eo.e E.cst Eo.nil)) rfl rfl) hh1) rfl (Le.s (Le.s (Le.n (Le.n (Le.n Le.z))))) hh12 (fun p found s2 h => ⟨_, rfl, ?_⟩)) ?_
  · unfold eends_b1 at h
    obtain ⟨r_, hh2, h⟩ := bnd_some h
    refine K.next (X.asg (E.call (as := [im ((eP2 eN (eT (eT eN))) book), im (eN p)]) (o := im ((eT eN) r_)) (outs := [none, none]) (Eo.v rfl (Eo.v rfl Eo.nil)) hm0 rfl (hf0 hh2))) ?_
    obtain ⟨v, hh3, h⟩ := bnd_some h
    obtain ⟨b, hh7, h⟩ := bnd_some h
    obtain ⟨found1, hh11, h⟩ := bnd_some h
    refine K.next (p1 := [.im ((eP2 eN (eT (eT eN))) book), .own (.lst (found1.map (eT eN))), .im (eN p), .im ((eT eN) r_), .any]) (X.ite (Et.at (b := b) (p1 := [.im ((eP2 eN (eT (eT eN))) book), .own (.lst (found.map (eT eN))), .im (eN p), .im ((eT eN) r_), .any]) (by rcases if_some hh7 with ⟨hh8, hh9⟩ | ⟨hh8, hh9⟩; (obtain ⟨hh5, hh9⟩ := grd_some hh9; obtain ⟨ys, hh6, hh9⟩ := bnd_some hh9; obtain rfl := Option.some.inj hh9; exact Et.landT (Et.tr (d := eB (decide (v = p))) (Ep.e (E.pr (ds := [eN v, eN p]) (Eo.e (E.pr (ds := [(eT eN) r_, eN 0]) (Eo.v rfl (Eo.e E.cst Eo.nil)) rfl (S.ixT hh3)) (Eo.v rfl Eo.nil)) rfl (S.eq Ed.N (by decide) _ _))) rfl rfl) hh8 (Et.tr (d := eB (ys.all id)) (Ep.e (E.pr (ds := [(eL eB) ys]) (Eo.e (E.lcP (en := eN) (em := eB) (P := [.im ((eP2 eN (eT (eT eN))) book), .own (.lst (found.map (eT eN))), .im (eN p), .im ((eT eN) r_), .any]) (Ei.op (d := (eT eN) r_) (Ep.v rfl) rfl rfl) rfl (Le.s (Le.s (Le.s (Le.s (Le.n Le.z))))) hh5 hh6 (fun q_ r hx => ⟨_, rfl, by obtain ⟨r_1, hh4, hx⟩ := bnd_some hx; obtain rfl := Option.some.inj hx; exact Lb.weak (y := some (eB (isIn p r_1))) (Lb.nil (E.pr (ds := [eN p, (eT eN) r_1]) (Eo.v rfl (Eo.e (E.call (as := [im ((eP2 eN (eT (eT eN))) book), im (eN q_)]) (o := im ((eT eN) r_1)) (outs := [none, none]) (Eo.v rfl (Eo.v rfl Eo.nil)) hm0 rfl (hf0 hh4)) Eo.nil)) rfl (S.inT _ _))) (Le.s (Le.s (Le.s (Le.s (Le.n Le.z)))))⟩)) Eo.nil) rfl (S.allB _))) rfl rfl)); (obtain rfl := Option.some.inj hh9; exact Et.landF (Et.tr (d := eB (decide (v = p))) (Ep.e (E.pr (ds := [eN v, eN p]) (Eo.e (E.pr (ds := [(eT eN) r_, eN 0]) (Eo.v rfl (Eo.e E.cst Eo.nil)) rfl (S.ixT hh3)) (Eo.v rfl Eo.nil)) rfl (S.eq Ed.N (by decide) _ _))) rfl rfl) hh8))) (fun hc => ?_) (fun hc => ?_)) ?_
    · clear h; have h := hh11; clear hh11; rw [if_pos hc] at h
      obtain ⟨hh10, h⟩ := grd_some h
      refine K.next (X.expr (E.appT (e := (eT eN)) (x := r_) rfl (E.var rfl) rfl rfl hh10)) ?_
      refine K.nil ?_
      obtain rfl := Option.some.inj h
      exact K.done (Le.s (Le.s (Le.s (Le.s (Le.n Le.z)))))
    · clear h; have h := hh11; clear hh11; rw [if_neg (by rw [hc]; decide)] at h
      refine K.nil ?_
      obtain rfl := Option.some.inj h
      exact K.done (Le.s (Le.s (Le.s (Le.s (Le.n Le.z)))))
    refine K.nil ?_
    obtain rfl := Option.some.inj h
    exact K.done (Le.s (Le.s (Le.n (Le.n (Le.n Le.z)))))
  obtain rfl := Option.some.inj h
  exact Fb.rt (X.ret (E.pr (ds := [(eL (eT eN)) found2]) (Eo.v rfl Eo.nil) rfl (S.tupleL _))) (Le.n (Le.n (Le.n (Le.n (Le.n Le.z)))))

theorem l_of_run {C : Cl} {α : Type} {ea : α → Dt}  {source : SrcT} {some_ : (List α)} {rr : (α × SrcT)} (hm4 : C.md 4 = [.mu, .sh]) (hf4 : ∀ {a0 : SrcT} {a1 : Nat} {rr : (Nat × SrcT)}, pickT a0 a1 = some rr → C.fn 4 [eSrc a0, im (eN a1)] = .ret (im (eN rr.1)) [some (eSrc rr.2), none]) (h : l_of source some_ = some rr) : runFn C WFn f_law_of [eSrc source, im ((eL ea) some_)] = .ret (im (ea rr.1)) [some (eSrc rr.2), none] := by
  unfold l_of at h
  refine run_ofF (qs := [.rc rr.2.fs, .any]) rfl rfl ?_ (outsM rfl (outsS outsN))
  obtain ⟨r_, hh1, h⟩ := bnd_some h
  obtain ⟨v, hh2, h⟩ := bnd_some h
  obtain rfl := Option.some.inj h
  exact Fb.rt (X.ret (E.pr (ds := [(eL ea) some_, eN r_.1]) (Eo.v rfl (Eo.e (E.call (as := [eSrc source, im (eN some_.length)]) (o := im (eN r_.1)) (outs := [some (eSrc r_.2), none]) (Eo.v rfl (Eo.e (E.pr (ds := [(eL ea) some_]) (Eo.v rfl Eo.nil) rfl (S.lenL _)) Eo.nil)) hm4 rfl (hf4 hh1)) Eo.nil)) rfl (S.ixL hh2))) (Le.s (Le.n Le.z))

theorem l_mixed_run {C : Cl} {α : Type} {ea : α → Dt}  {source : SrcT} {things : (List α)} {rr : ((List α) × SrcT)} (hm4 : C.md 4 = [.mu, .sh]) (hf4 : ∀ {a0 : SrcT} {a1 : Nat} {rr : (Nat × SrcT)}, pickT a0 a1 = some rr → C.fn 4 [eSrc a0, im (eN a1)] = .ret (im (eN rr.1)) [some (eSrc rr.2), none]) (h : l_mixed source things = some rr) : runFn C WFn f_law_mixed [eSrc source, im ((eL ea) things)] = .ret (.p (.lst (rr.1.map ea))) [some (eSrc rr.2), none] := by
  unfold l_mixed at h
  refine run_ofF (qs := [.rc rr.2.fs, .any, .any, .any]) rfl rfl ?_ (outsM rfl (outsS outsN))
  refine Fb.next (X.asg (E.pr (ds := [(eL ea) things]) (Eo.v rfl Eo.nil) rfl (S.listL _))) ?_
  obtain ⟨hh1, h⟩ := grd_some h
  obtain ⟨hh5, h⟩ := grd_some h
  obtain ⟨lc, hh6, h⟩ := bnd_some h
  obtain rfl := Option.some.inj h
  exact Fb.rt (X.ret (E.lc (en := eN) (em := ea) (P := (fun (tt : (SrcT × (List α))) => ([.rc tt.1.fs, .im ((eL ea) things), .own (.lst (tt.2.map ea)), .any] : Ps))) (s := (source, things)) (Ei.rng1 (n := things.length) (E.pr (ds := [(eL ea) things]) (Eo.v rfl Eo.nil) rfl (S.lenL _)) hh1) rfl (Le.s (Le.s (Le.s (Le.n Le.z)))) hh5 hh6 (fun lap s_ r hx => ⟨_, rfl, by unfold l_mixed_c1 at hx; obtain ⟨r_, hh2, hx⟩ := bnd_some hx; obtain ⟨hh3, hx⟩ := grd_some hx; obtain ⟨x_, hh4, hx⟩ := bnd_some hx; obtain rfl := Option.some.inj hx; exact Lb.weak (y := some (ea x_)) (Lb.nil (E.popAtT (e := ea) rfl (E.call (as := [eSrc s_.1, im (eN s_.2.length)]) (o := im (eN r_.1)) (outs := [some (eSrc r_.2), none]) (Eo.v rfl (Eo.e (E.pr (ds := [(eL ea) s_.2]) (Eo.v rfl Eo.nil) rfl (S.lenL _)) Eo.nil)) hm4 rfl (hf4 hh2)) rfl hh3 hh4)) (Le.s (Le.s (Le.s (Le.n Le.z))))⟩))) (Le.s (Le.n (Le.n (Le.n Le.z))))

theorem el_any_book_run {C : Cl}  {source : SrcT} {rr : ((Nat × (List (List Nat))) × SrcT)} (hm4 : C.md 4 = [.mu, .sh]) (hf4 : ∀ {a0 : SrcT} {a1 : Nat} {rr : (Nat × SrcT)}, pickT a0 a1 = some rr → C.fn 4 [eSrc a0, im (eN a1)] = .ret (im (eN rr.1)) [some (eSrc rr.2), none]) (hm5 : C.md 5 = [.mu, .sh]) (hf5 : ∀ {α : Type} {ea : α → Dt} {a0 : SrcT} {a1 : (List α)} {rr : (α × SrcT)}, l_of a0 a1 = some rr → C.fn 5 [eSrc a0, im ((eL ea) a1)] = .ret (im (ea rr.1)) [some (eSrc rr.2), none]) (h : el_any_book source = some rr) : runFn C WFn f_law_any_book [eSrc source] = .ret (im ((eP2 eN (eT (eT eN))) rr.1)) [some (eSrc rr.2)] := by
  unfold el_any_book at h
  refine run_ofF (qs := [.rc rr.2.fs, .any, .any, .any, .any]) rfl rfl ?_ (outsM rfl outsN)
  obtain ⟨r_, hh1, h⟩ := bnd_some h
  obtain ⟨n_, hh2, h⟩ := bnd_some h
  obtain ⟨r_1, hh3, h⟩ := bnd_some h
  refine Fb.next (X.asgT (Ew.cons (E.nm (o := fun (tt : Nat) => (im (eN tt) : Ow)) hh2 (E.pr (ds := [eN 1, eN r_.1]) (Eo.e E.cst (Eo.e (E.call (as := [eSrc source, im (eN 8)]) (o := im (eN r_.1)) (outs := [some (eSrc r_.2), none]) (Eo.v rfl (Eo.e E.cst Eo.nil)) hm4 rfl (hf4 hh1)) Eo.nil)) rfl (S.addN _ _))) (Ew.cons (E.call (as := [eSrc r_.2, im ((eL eN) [1, 2, 2, 3, 4, 5, 6])]) (o := im (eN r_1.1)) (outs := [some (eSrc r_1.2), none]) (Eo.v rfl (Eo.e (E.lstT (e := eN) (Es.consT (a := 1) E.cst rfl (Es.consT (a := 2) E.cst rfl (Es.consT (a := 2) E.cst rfl (Es.consT (a := 3) E.cst rfl (Es.consT (a := 4) E.cst rfl (Es.consT (a := 5) E.cst rfl (Es.consT (a := 6) E.cst rfl (Es.nilT (e := eN))))))))) (Nat.le_of_ble_eq_true rfl)) Eo.nil)) hm5 rfl (hf5 hh3)) Ew.nil)) rfl) ?_
  obtain ⟨hh4, h⟩ := grd_some h
  obtain ⟨hh9, h⟩ := grd_some h
  obtain ⟨lc1, hh10, h⟩ := bnd_some h
  obtain rfl := Option.some.inj h
  exact Fb.rt (X.ret (E.tup (Es.cons (E.var rfl) (Es.cons (E.pr (ds := [(eL (eT eN)) lc1.1]) (Eo.e (E.lc (en := eN) (em := (eT eN)) (P := (fun (tt : (SrcT)) => ([.rc tt.fs, .im (eN n_), .im (eN r_1.1), .any, .any] : Ps))) (s := r_1.2) (Ei.rng1 (n := r_1.1) (E.var rfl) hh4) rfl (Le.s (Le.s (Le.s (Le.n (Le.n Le.z))))) hh9 hh10 (fun lap source1 r hx => ⟨_, rfl, by unfold el_any_book_c2 at hx; obtain ⟨hh5, hx⟩ := grd_some hx; obtain ⟨hh7, hx⟩ := grd_some hx; obtain ⟨lc, hh8, hx⟩ := bnd_some hx; obtain rfl := Option.some.inj hx; exact Lb.weak (y := some ((eT eN) lc.1)) (Lb.nil (E.pr (ds := [(eL eN) lc.1]) (Eo.e (E.lc (en := eN) (em := eN) (P := (fun (tt : (SrcT)) => ([.rc tt.fs, .im (eN n_), .im (eN r_1.1), .any, .im (eN lap)] : Ps))) (s := source1) (Ei.rng1 (n := n_) (E.var rfl) hh5) rfl (Le.s (Le.s (Le.s (Le.n (Le.s Le.z))))) hh7 hh8 (fun p source2 r hx => ⟨_, rfl, by unfold el_any_book_c1 at hx; obtain ⟨r_2, hh6, hx⟩ := bnd_some hx; obtain rfl := Option.some.inj hx; exact Lb.weak (y := some (eN r_2.1)) (Lb.nil (E.call (as := [eSrc source2, im (eN n_)]) (o := im (eN r_2.1)) (outs := [some (eSrc r_2.2), none]) (Eo.v rfl (Eo.v rfl Eo.nil)) hm4 rfl (hf4 hh6))) (Le.s (Le.s (Le.s (Le.n (Le.s Le.z)))))⟩)) Eo.nil) rfl (S.tupleL _))) (Le.s (Le.s (Le.s (Le.n (Le.n Le.z)))))⟩)) Eo.nil) rfl (S.tupleL _)) Es.nil)) (Nat.le_of_ble_eq_true rfl))) (Le.s (Le.n (Le.n (Le.n (Le.n Le.z)))))

theorem el_blocks_book_run {C : Cl}  {source : SrcT} {rr : ((Nat × (List (List Nat))) × SrcT)} (hm4 : C.md 4 = [.mu, .sh]) (hf4 : ∀ {a0 : SrcT} {a1 : Nat} {rr : (Nat × SrcT)}, pickT a0 a1 = some rr → C.fn 4 [eSrc a0, im (eN a1)] = .ret (im (eN rr.1)) [some (eSrc rr.2), none]) (h : el_blocks_book source = some rr) : runFn C WFn f_law_blocks_book [eSrc source] = .ret (im ((eP2 eN (eT (eT eN))) rr.1)) [some (eSrc rr.2)] := by
  unfold el_blocks_book at h
  refine run_ofF (qs := [.rc rr.2.fs, .any, .any, .any, .any, .any, .any, .any, .any, .any]) rfl rfl ?_ (outsM rfl outsN)
  obtain ⟨r_, hh1, h⟩ := bnd_some h
  obtain ⟨r_1, hh2, h⟩ := bnd_some h
  obtain ⟨r_2, hh3, h⟩ := bnd_some h
  obtain ⟨hh4, h⟩ := grd_some h
  obtain ⟨hh5, h⟩ := grd_some h
  obtain ⟨sizes, hh6, h⟩ := bnd_some h
  obtain ⟨r_3, hh7, h⟩ := bnd_some h
  refine Fb.next (X.asgT (Ew.cons (E.nm (o := fun (tt : (List Nat)) => (.p (.lst (tt.map eN)) : Ow)) hh6 (E.pr (ds := [(eL eN) [(1 + r_.1), (1 + r_1.1)], (eL eN) ((List.replicate r_2.1 [1]).flatten)]) (Eo.e (E.lstT (e := eN) (Es.consT (a := (1 + r_.1)) (E.pr (ds := [eN 1, eN r_.1]) (Eo.e E.cst (Eo.e (E.call (as := [eSrc source, im (eN 3)]) (o := im (eN r_.1)) (outs := [some (eSrc r_.2), none]) (Eo.v rfl (Eo.e E.cst Eo.nil)) hm4 rfl (hf4 hh1)) Eo.nil)) rfl (S.addN _ _)) rfl (Es.consT (a := (1 + r_1.1)) (E.pr (ds := [eN 1, eN r_1.1]) (Eo.e E.cst (Eo.e (E.call (as := [eSrc r_.2, im (eN 2)]) (o := im (eN r_1.1)) (outs := [some (eSrc r_1.2), none]) (Eo.v rfl (Eo.e E.cst Eo.nil)) hm4 rfl (hf4 hh2)) Eo.nil)) rfl (S.addN _ _)) rfl (Es.nilT (e := eN)))) (Nat.le_of_ble_eq_true rfl)) (Eo.e (E.pr (ds := [(eL eN) [1], eN r_2.1]) (Eo.e (E.lstT (e := eN) (Es.consT (a := 1) E.cst rfl (Es.nilT (e := eN))) (Nat.le_of_ble_eq_true rfl)) (Eo.e (E.call (as := [eSrc r_1.2, im (eN 2)]) (o := im (eN r_2.1)) (outs := [some (eSrc r_2.2), none]) (Eo.v rfl (Eo.e E.cst Eo.nil)) hm4 rfl (hf4 hh3)) Eo.nil)) rfl (S.mulL hh4)) Eo.nil)) rfl (S.addL hh5))) (Ew.cons (E.call (as := [eSrc r_2.2, im (eN 3)]) (o := im (eN r_3.1)) (outs := [some (eSrc r_3.2), none]) (Eo.v rfl (Eo.e E.cst Eo.nil)) hm4 rfl (hf4 hh7)) Ew.nil)) rfl) ?_
  obtain ⟨n_, hh8, h⟩ := bnd_some h
  refine Fb.next (X.asgT (Ew.cons (E.nm (o := fun (tt : Nat) => (im (eN tt) : Ow)) hh8 (E.pr (ds := [eN sizes.sum, eN r_3.1]) (Eo.e (E.pr (ds := [(eL eN) sizes]) (Eo.v rfl Eo.nil) rfl (S.sumN _)) (Eo.v rfl Eo.nil)) rfl (S.addN _ _))) (Ew.cons (E.lstT (e := (eT eN)) (Es.nilT (e := (eT eN))) (Nat.le_of_ble_eq_true rfl)) Ew.nil)) rfl) ?_
  obtain ⟨r_4, hh9, h⟩ := bnd_some h
  obtain ⟨hh10, h⟩ := grd_some h
  obtain ⟨m_1, hh25, h⟩ := bnd_some h
  refine Fb.next (X.for (en := eN) (P := (fun (tt : (SrcT × (List (List Nat)))) => ([.rc tt.1.fs, .own (.lst (sizes.map eN)), .im (eN r_3.1), .im (eN n_), .own (.lst (tt.2.map (eT eN))), .any, .any, .any, .any, .any] : Ps))) (s := (r_4.2, [])) (Ei.rng1 (n := (1 + r_4.1)) (E.pr (ds := [eN 1, eN r_4.1]) (Eo.e E.cst (Eo.e (E.call (as := [eSrc r_3.2, im (eN 3)]) (o := im (eN r_4.1)) (outs := [some (eSrc r_4.2), none]) (Eo.v rfl (Eo.e E.cst Eo.nil)) hm4 rfl (hf4 hh9)) Eo.nil)) rfl (S.addN _ _)) hh10) rfl (Le.s (Le.s (Le.s (Le.s (Le.s (Le.n (Le.n (Le.n (Le.n (Le.n Le.z)))))))))) hh25 (fun lap s_ s2 h => ⟨_, rfl, ?_⟩)) ?_
  · unfold el_blocks_book_b4 at h
    refine K.next (X.asgT (Ew.cons (E.lstT (e := eN) (Es.nilT (e := eN)) (Nat.le_of_ble_eq_true rfl)) (Ew.cons E.cst Ew.nil)) rfl) ?_
    obtain ⟨m_, hh18, h⟩ := bnd_some h
    refine K.next (X.for (en := eN) (P := (fun (tt : (SrcT × (List Nat) × Nat)) => ([.rc tt.1.fs, .lk ((eL eN) sizes), .im (eN r_3.1), .im (eN n_), .own (.lst (s_.2.map (eT eN))), .im (eN lap), .own (.lst (tt.2.1.map eN)), .im (eN tt.2.2), .any, .any] : Ps))) (s := (s_.1, [], 0)) (Ei.op (d := (eL eN) sizes) (Ep.v rfl) rfl rfl) rfl (Le.s (Le.s (Le.s (Le.s (Le.s (Le.s (Le.s (Le.s (Le.n (Le.n Le.z)))))))))) hh18 (fun size s_1 s2 h => ⟨_, rfl, ?_⟩)) ?_
    · unfold el_blocks_book_b2 at h
      obtain ⟨hh11, h⟩ := grd_some h
      obtain ⟨hh13, h⟩ := grd_some h
      obtain ⟨lc, hh14, h⟩ := bnd_some h
      obtain ⟨hh15, h⟩ := grd_some h
      obtain ⟨deed, hh16, h⟩ := bnd_some h
      refine K.next (X.asg (E.nm (o := fun (tt : (List Nat)) => (.p (.lst (tt.map eN)) : Ow)) hh16 (E.pr (ds := [(eL eN) s_1.2.1, (eL eN) lc.1]) (Eo.v rfl (Eo.e (E.lc (en := eN) (em := eN) (P := (fun (tt : (SrcT)) => ([.rc tt.fs, .lk ((eL eN) sizes), .im (eN r_3.1), .im (eN n_), .own (.lst (s_.2.map (eT eN))), .im (eN lap), .own (.lst (s_1.2.1.map eN)), .im (eN s_1.2.2), .im (eN size), .any] : Ps))) (s := s_1.1) (Ei.rng1 (n := size) (E.var rfl) hh11) rfl (Le.s (Le.s (Le.s (Le.s (Le.s (Le.s (Le.s (Le.s (Le.s (Le.n Le.z)))))))))) hh13 hh14 (fun p source1 r hx => ⟨_, rfl, by unfold el_blocks_book_c1 at hx; obtain ⟨r_5, hh12, hx⟩ := bnd_some hx; obtain rfl := Option.some.inj hx; exact Lb.weak (y := some (eN (s_1.2.2 + r_5.1))) (Lb.nil (E.pr (ds := [eN s_1.2.2, eN r_5.1]) (Eo.v rfl (Eo.e (E.call (as := [eSrc source1, im (eN size)]) (o := im (eN r_5.1)) (outs := [some (eSrc r_5.2), none]) (Eo.v rfl (Eo.v rfl Eo.nil)) hm4 rfl (hf4 hh12)) Eo.nil)) rfl (S.addN _ _))) (Le.s (Le.s (Le.s (Le.s (Le.s (Le.s (Le.s (Le.s (Le.s (Le.n Le.z))))))))))⟩)) Eo.nil)) rfl (S.addL hh15)))) ?_
      obtain ⟨first, hh17, h⟩ := bnd_some h
      refine K.next (X.asg (E.nm (o := fun (tt : Nat) => (im (eN tt) : Ow)) hh17 (E.pr (ds := [eN s_1.2.2, eN size]) (Eo.v rfl (Eo.v rfl Eo.nil)) rfl (S.addN _ _)))) ?_
      refine K.nil ?_
      obtain rfl := Option.some.inj h
      exact K.done (Le.s (Le.s (Le.s (Le.s (Le.s (Le.s (Le.s (Le.s (Le.n (Le.n Le.z))))))))))
    obtain ⟨hh19, h⟩ := grd_some h
    obtain ⟨hh21, h⟩ := grd_some h
    obtain ⟨lc1, hh22, h⟩ := bnd_some h
    obtain ⟨hh23, h⟩ := grd_some h
    obtain ⟨hh24, h⟩ := grd_some h
    refine K.next (X.expr (E.appT (e := (eT eN)) (x := (m_.2.1 ++ lc1.1)) rfl (E.pr (ds := [(eL eN) (m_.2.1 ++ lc1.1)]) (Eo.e (E.pr (ds := [(eL eN) m_.2.1, (eL eN) lc1.1]) (Eo.v rfl (Eo.e (E.lc (en := eN) (em := eN) (P := (fun (tt : (SrcT)) => ([.rc tt.fs, .own (.lst (sizes.map eN)), .im (eN r_3.1), .im (eN n_), .own (.lst (s_.2.map (eT eN))), .im (eN lap), .own (.lst (m_.2.1.map eN)), .im (eN m_.2.2), .any, .any] : Ps))) (s := m_.1) (Ei.rng1 (n := r_3.1) (E.var rfl) hh19) rfl (Le.s (Le.s (Le.s (Le.s (Le.s (Le.s (Le.s (Le.s (Le.n (Le.n Le.z)))))))))) hh21 hh22 (fun p1 source2 r hx => ⟨_, rfl, by unfold el_blocks_book_c3 at hx; obtain ⟨r_6, hh20, hx⟩ := bnd_some hx; obtain rfl := Option.some.inj hx; exact Lb.weak (y := some (eN r_6.1)) (Lb.nil (E.call (as := [eSrc source2, im (eN n_)]) (o := im (eN r_6.1)) (outs := [some (eSrc r_6.2), none]) (Eo.v rfl (Eo.v rfl Eo.nil)) hm4 rfl (hf4 hh20))) (Le.s (Le.s (Le.s (Le.s (Le.s (Le.s (Le.s (Le.s (Le.n (Le.n Le.z))))))))))⟩)) Eo.nil)) rfl (S.addL hh23)) Eo.nil) rfl (S.tupleL _)) rfl rfl hh24)) ?_
    refine K.nil ?_
    obtain rfl := Option.some.inj h
    exact K.done (Le.s (Le.s (Le.s (Le.s (Le.s (Le.n (Le.n (Le.n (Le.n (Le.n Le.z))))))))))
  obtain rfl := Option.some.inj h
  exact Fb.rt (X.ret (E.tup (Es.cons (E.var rfl) (Es.cons (E.pr (ds := [(eL (eT eN)) m_1.2]) (Eo.v rfl Eo.nil) rfl (S.tupleL _)) Es.nil)) (Nat.le_of_ble_eq_true rfl))) (Le.s (Le.n (Le.n (Le.n (Le.n (Le.n (Le.n (Le.n (Le.n (Le.n Le.z))))))))))

theorem el_rings_book_run {C : Cl}  {source : SrcT} {rr : ((Nat × (List (List Nat))) × SrcT)} (hm4 : C.md 4 = [.mu, .sh]) (hf4 : ∀ {a0 : SrcT} {a1 : Nat} {rr : (Nat × SrcT)}, pickT a0 a1 = some rr → C.fn 4 [eSrc a0, im (eN a1)] = .ret (im (eN rr.1)) [some (eSrc rr.2), none]) (h : el_rings_book source = some rr) : runFn C WFn f_law_rings_book [eSrc source] = .ret (im ((eP2 eN (eT (eT eN))) rr.1)) [some (eSrc rr.2)] := by
  unfold el_rings_book at h
  refine run_ofF (qs := [.rc rr.2.fs, .any, .any, .any, .any, .any, .any, .any, .any, .any, .any, .any, .any]) rfl rfl ?_ (outsM rfl outsN)
  obtain ⟨r_, hh1, h⟩ := bnd_some h
  obtain ⟨hh2, h⟩ := grd_some h
  obtain ⟨hh4, h⟩ := grd_some h
  obtain ⟨lc, hh5, h⟩ := bnd_some h
  refine Fb.next (X.asg (E.lc (en := eN) (em := eN) (P := (fun (tt : (SrcT)) => ([.rc tt.fs, .any, .any, .any, .any, .any, .any, .any, .any, .any, .any, .any, .any] : Ps))) (s := r_.2) (Ei.rng1 (n := (2 + r_.1)) (E.pr (ds := [eN 2, eN r_.1]) (Eo.e E.cst (Eo.e (E.call (as := [eSrc source, im (eN 2)]) (o := im (eN r_.1)) (outs := [some (eSrc r_.2), none]) (Eo.v rfl (Eo.e E.cst Eo.nil)) hm4 rfl (hf4 hh1)) Eo.nil)) rfl (S.addN _ _)) hh2) rfl (Le.s (Le.n (Le.n (Le.n (Le.n (Le.n (Le.n (Le.n (Le.n (Le.n (Le.n (Le.n (Le.n Le.z))))))))))))) hh4 hh5 (fun lap source1 r hx => ⟨_, rfl, by unfold el_rings_book_c1 at hx; obtain ⟨r_1, hh3, hx⟩ := bnd_some hx; obtain rfl := Option.some.inj hx; exact Lb.weak (y := some (eN (1 + r_1.1))) (Lb.nil (E.pr (ds := [eN 1, eN r_1.1]) (Eo.e E.cst (Eo.e (E.call (as := [eSrc source1, im (eN 2)]) (o := im (eN r_1.1)) (outs := [some (eSrc r_1.2), none]) (Eo.v rfl (Eo.e E.cst Eo.nil)) hm4 rfl (hf4 hh3)) Eo.nil)) rfl (S.addN _ _))) (Le.s (Le.n (Le.n (Le.n (Le.n (Le.n (Le.n (Le.n (Le.n (Le.n (Le.n (Le.n (Le.n Le.z)))))))))))))⟩))) ?_
  obtain ⟨n_, hh6, h⟩ := bnd_some h
  obtain ⟨r_2, hh7, h⟩ := bnd_some h
  refine Fb.next (X.asgT (Ew.cons (E.nm (o := fun (tt : Nat) => (im (eN tt) : Ow)) hh6 (E.pr (ds := [(eL eN) lc.1]) (Eo.v rfl Eo.nil) rfl (S.sumN _))) (Ew.cons (E.lstT (e := (eT eN)) (Es.nilT (e := (eT eN))) (Nat.le_of_ble_eq_true rfl)) (Ew.cons (E.call (as := [eSrc lc.2, im (eN 2)]) (o := im (eN r_2.1)) (outs := [some (eSrc r_2.2), none]) (Eo.v rfl (Eo.e E.cst Eo.nil)) hm4 rfl (hf4 hh7)) Ew.nil))) rfl) ?_
  obtain ⟨r_3, hh8, h⟩ := bnd_some h
  obtain ⟨hh9, h⟩ := grd_some h
  obtain ⟨m_1, hh26, h⟩ := bnd_some h
  refine Fb.next (X.for (en := eN) (P := (fun (tt : (SrcT × (List (List Nat)))) => ([.rc tt.1.fs, .own (.lst (lc.1.map eN)), .any, .im (eN n_), .own (.lst (tt.2.map (eT eN))), .im (eN r_2.1), .any, .any, .any, .any, .any, .any, .any] : Ps))) (s := (r_3.2, [])) (Ei.rng1 (n := (1 + r_3.1)) (E.pr (ds := [eN 1, eN r_3.1]) (Eo.e E.cst (Eo.e (E.call (as := [eSrc r_2.2, im (eN 3)]) (o := im (eN r_3.1)) (outs := [some (eSrc r_3.2), none]) (Eo.v rfl (Eo.e E.cst Eo.nil)) hm4 rfl (hf4 hh8)) Eo.nil)) rfl (S.addN _ _)) hh9) rfl (Le.s (Le.s (Le.n (Le.s (Le.s (Le.s (Le.n (Le.n (Le.n (Le.n (Le.n (Le.n (Le.n Le.z))))))))))))) hh26 (fun lap1 s_ s2 h => ⟨_, rfl, ?_⟩)) ?_
  · unfold el_rings_book_b5 at h
    refine K.next (X.asgT (Ew.cons (E.lstT (e := eN) (Es.nilT (e := eN)) (Nat.le_of_ble_eq_true rfl)) (Ew.cons E.cst Ew.nil)) rfl) ?_
    obtain ⟨m_, hh19, h⟩ := bnd_some h
    refine K.next (X.for (en := (eP2 eN eN)) (P := (fun (tt : (SrcT × (List Nat) × Nat)) => ([.rc tt.1.fs, .lk ((eL eN) lc.1), .im (eN lap1), .im (eN n_), .own (.lst (s_.2.map (eT eN))), .im (eN r_2.1), .own (.lst (tt.2.1.map eN)), .im (eN tt.2.2), .any, .any, .any, .any, .any] : Ps))) (s := (s_.1, [], 0)) (S.enum lc.1 0 ▸ Ei.enum (d := (eL eN) lc.1) (Ep.v rfl) rfl rfl) rfl (Le.s (Le.s (Le.s (Le.s (Le.s (Le.s (Le.s (Le.s (Le.n (Le.n (Le.n (Le.n (Le.n Le.z))))))))))))) hh19 (fun k_size s_1 s2 h => ⟨_, rfl, ?_⟩)) ?_
    · unfold el_rings_book_b3 at h
      obtain ⟨first, hh10, h⟩ := bnd_some h
      refine K.next (X.asg (E.nm (o := fun (tt : Nat) => (im (eN tt) : Ow)) hh10 (E.pr (ds := [eN s_1.2.2, eN k_size.2]) (Eo.v rfl (Eo.v rfl Eo.nil)) rfl (S.addN _ _)))) ?_
      obtain ⟨v, hh11, h⟩ := bnd_some h
      refine K.next (X.asg (E.pr (ds := [(eL eN) lc.1, eZ ((((k_size.1 + 1) : Nat) : Int) - ((lc.1.length : Nat) : Int))]) (Eo.v rfl (Eo.e (E.pr (ds := [eN (k_size.1 + 1), eN lc.1.length]) (Eo.e (E.pr (ds := [eN k_size.1, eN 1]) (Eo.v rfl (Eo.e E.cst Eo.nil)) rfl (S.addN _ _)) (Eo.e (E.pr (ds := [(eL eN) lc.1]) (Eo.v rfl Eo.nil) rfl (S.lenL _)) Eo.nil)) rfl (S.subZ (((k_size.1 + 1) : Nat) : Int) ((lc.1.length : Nat) : Int))) Eo.nil)) rfl (S.ixLZ hh11))) ?_
      obtain ⟨start, hh12, h⟩ := bnd_some h
      refine K.next (X.asg (E.nm (o := fun (tt : Nat) => (im (eN tt) : Ow)) hh12 (E.condI (o := (fun (tt : Nat) => (im (eN tt) : Ow))) (a := first) (b := 0) (Et.tr (d := eB (decide ((k_size.1 + 1) < lc.1.length))) (Ep.e (E.pr (ds := [eN (k_size.1 + 1), eN lc.1.length]) (Eo.e (E.pr (ds := [eN k_size.1, eN 1]) (Eo.v rfl (Eo.e E.cst Eo.nil)) rfl (S.addN _ _)) (Eo.e (E.pr (ds := [(eL eN) lc.1]) (Eo.v rfl Eo.nil) rfl (S.lenL _)) Eo.nil)) rfl (S.ltN _ _))) rfl rfl) (fun _ => (E.var rfl)) (fun _ => E.cst)))) ?_
      obtain ⟨hh13, h⟩ := grd_some h
      obtain ⟨hh15, h⟩ := grd_some h
      obtain ⟨lc1, hh16, h⟩ := bnd_some h
      obtain ⟨hh17, h⟩ := grd_some h
      obtain ⟨deed, hh18, h⟩ := bnd_some h
      refine K.next (X.asg (E.nm (o := fun (tt : (List Nat)) => (.p (.lst (tt.map eN)) : Ow)) hh18 (E.pr (ds := [(eL eN) s_1.2.1, (eL eN) lc1.1]) (Eo.v rfl (Eo.e (E.lc (en := eN) (em := eN) (P := (fun (tt : (SrcT)) => ([.rc tt.fs, .lk ((eL eN) lc.1), .im (eN lap1), .im (eN n_), .own (.lst (s_.2.map (eT eN))), .im (eN r_2.1), .own (.lst (s_1.2.1.map eN)), .im (eN first), .im (eN k_size.1), .im (eN k_size.2), .im (eN v), .im (eN start), .any] : Ps))) (s := s_1.1) (Ei.rng1 (n := k_size.2) (E.var rfl) hh13) rfl (Le.s (Le.s (Le.s (Le.s (Le.s (Le.s (Le.s (Le.s (Le.s (Le.s (Le.s (Le.s (Le.n Le.z))))))))))))) hh15 hh16 (fun p source2 r hx => ⟨_, rfl, by unfold el_rings_book_c2 at hx; obtain ⟨r_4, hh14, hx⟩ := bnd_some hx; obtain rfl := Option.some.inj hx; exact Lb.weak (y := some (eN (start + r_4.1))) (Lb.nil (E.pr (ds := [eN start, eN r_4.1]) (Eo.v rfl (Eo.e (E.call (as := [eSrc source2, im (eN v)]) (o := im (eN r_4.1)) (outs := [some (eSrc r_4.2), none]) (Eo.v rfl (Eo.v rfl Eo.nil)) hm4 rfl (hf4 hh14)) Eo.nil)) rfl (S.addN _ _))) (Le.s (Le.s (Le.s (Le.s (Le.s (Le.s (Le.s (Le.s (Le.s (Le.s (Le.s (Le.s (Le.n Le.z)))))))))))))⟩)) Eo.nil)) rfl (S.addL hh17)))) ?_
      refine K.nil ?_
      obtain rfl := Option.some.inj h
      exact K.done (Le.s (Le.s (Le.s (Le.s (Le.s (Le.s (Le.s (Le.s (Le.n (Le.n (Le.n (Le.n (Le.n Le.z)))))))))))))
    obtain ⟨hh20, h⟩ := grd_some h
    obtain ⟨hh22, h⟩ := grd_some h
    obtain ⟨lc2, hh23, h⟩ := bnd_some h
    obtain ⟨hh24, h⟩ := grd_some h
    obtain ⟨hh25, h⟩ := grd_some h
    refine K.next (X.expr (E.appT (e := (eT eN)) (x := (m_.2.1 ++ lc2.1)) rfl (E.pr (ds := [(eL eN) (m_.2.1 ++ lc2.1)]) (Eo.e (E.pr (ds := [(eL eN) m_.2.1, (eL eN) lc2.1]) (Eo.v rfl (Eo.e (E.lc (en := eN) (em := eN) (P := (fun (tt : (SrcT)) => ([.rc tt.fs, .own (.lst (lc.1.map eN)), .im (eN lap1), .im (eN n_), .own (.lst (s_.2.map (eT eN))), .im (eN r_2.1), .own (.lst (m_.2.1.map eN)), .im (eN m_.2.2), .any, .any, .any, .any, .any] : Ps))) (s := m_.1) (Ei.rng1 (n := r_2.1) (E.var rfl) hh20) rfl (Le.s (Le.s (Le.s (Le.s (Le.s (Le.s (Le.s (Le.s (Le.n (Le.n (Le.n (Le.n (Le.n Le.z))))))))))))) hh22 hh23 (fun p1 source3 r hx => ⟨_, rfl, by unfold el_rings_book_c4 at hx; obtain ⟨r_5, hh21, hx⟩ := bnd_some hx; obtain rfl := Option.some.inj hx; exact Lb.weak (y := some (eN r_5.1)) (Lb.nil (E.call (as := [eSrc source3, im (eN n_)]) (o := im (eN r_5.1)) (outs := [some (eSrc r_5.2), none]) (Eo.v rfl (Eo.v rfl Eo.nil)) hm4 rfl (hf4 hh21))) (Le.s (Le.s (Le.s (Le.s (Le.s (Le.s (Le.s (Le.s (Le.n (Le.n (Le.n (Le.n (Le.n Le.z)))))))))))))⟩)) Eo.nil)) rfl (S.addL hh24)) Eo.nil) rfl (S.tupleL _)) rfl rfl hh25)) ?_
    refine K.nil ?_
    obtain rfl := Option.some.inj h
    exact K.done (Le.s (Le.s (Le.n (Le.s (Le.s (Le.s (Le.n (Le.n (Le.n (Le.n (Le.n (Le.n (Le.n Le.z)))))))))))))
  obtain rfl := Option.some.inj h
  exact Fb.rt (X.ret (E.tup (Es.cons (E.pr (ds := [eN n_, eN r_2.1]) (Eo.v rfl (Eo.v rfl Eo.nil)) rfl (S.addN _ _)) (Es.cons (E.pr (ds := [(eL (eT eN)) m_1.2]) (Eo.v rfl Eo.nil) rfl (S.tupleL _)) Es.nil)) (Nat.le_of_ble_eq_true rfl))) (Le.s (Le.n (Le.n (Le.n (Le.n (Le.n (Le.n (Le.n (Le.n (Le.n (Le.n (Le.n (Le.n Le.z)))))))))))))

theorem el_line_book_run {C : Cl}  {source : SrcT} {rr : ((Nat × (List (List Nat))) × SrcT)} (hm4 : C.md 4 = [.mu, .sh]) (hf4 : ∀ {a0 : SrcT} {a1 : Nat} {rr : (Nat × SrcT)}, pickT a0 a1 = some rr → C.fn 4 [eSrc a0, im (eN a1)] = .ret (im (eN rr.1)) [some (eSrc rr.2), none]) (hm5 : C.md 5 = [.mu, .sh]) (hf5 : ∀ {α : Type} {ea : α → Dt} {a0 : SrcT} {a1 : (List α)} {rr : (α × SrcT)}, l_of a0 a1 = some rr → C.fn 5 [eSrc a0, im ((eL ea) a1)] = .ret (im (ea rr.1)) [some (eSrc rr.2), none]) (h : el_line_book source = some rr) : runFn C WFn f_law_line_book [eSrc source] = .ret (im ((eP2 eN (eT (eT eN))) rr.1)) [some (eSrc rr.2)] := by
  unfold el_line_book at h
  refine run_ofF (qs := [.rc rr.2.fs, .any, .any, .any, .any, .any, .any]) rfl rfl ?_ (outsM rfl outsN)
  obtain ⟨r_, hh1, h⟩ := bnd_some h
  obtain ⟨n_, hh2, h⟩ := bnd_some h
  refine Fb.next (X.asg (E.nm (o := fun (tt : Nat) => (im (eN tt) : Ow)) hh2 (E.pr (ds := [eN 3, eN r_.1]) (Eo.e E.cst (Eo.e (E.call (as := [eSrc source, im (eN 4)]) (o := im (eN r_.1)) (outs := [some (eSrc r_.2), none]) (Eo.v rfl (Eo.e E.cst Eo.nil)) hm4 rfl (hf4 hh1)) Eo.nil)) rfl (S.addN _ _)))) ?_
  obtain ⟨hh3, h⟩ := grd_some h
  obtain ⟨hh5, h⟩ := grd_some h
  obtain ⟨ys, hh6, h⟩ := bnd_some h
  obtain ⟨hh7, h⟩ := grd_some h
  obtain ⟨hh9, h⟩ := grd_some h
  obtain ⟨ys1, hh10, h⟩ := bnd_some h
  refine Fb.next (X.asgT (Ew.cons (E.lcP (en := eN) (em := eN) (P := [.rc r_.2.fs, .im (eN n_), .any, .any, .any, .any, .any]) (Ei.rng1 (n := n_) (E.var rfl) hh3) rfl (Le.s (Le.s (Le.n (Le.n (Le.n (Le.n (Le.n Le.z))))))) hh5 hh6 (fun p r hx => ⟨_, rfl, by obtain ⟨k, hh4, hx⟩ := bnd_some hx; obtain rfl := Option.some.inj hx; exact Lb.weak (y := some (eN k)) (Lb.nil (E.toN hh4 (E.pr (ds := [eN (p + 1), eZ (((n_ : Nat) : Int) - (1 : Int))]) (Eo.e (E.pr (ds := [eN p, eN 1]) (Eo.v rfl (Eo.e E.cst Eo.nil)) rfl (S.addN _ _)) (Eo.e (E.pr (ds := [eN n_, eN 1]) (Eo.v rfl (Eo.e E.cst Eo.nil)) rfl (S.subZ ((n_ : Nat) : Int) (1 : Int))) Eo.nil)) rfl (S.minZ (((p + 1) : Nat) : Int) (((n_ : Nat) : Int) - (1 : Int)))))) (Le.s (Le.s (Le.n (Le.n (Le.n (Le.n (Le.n Le.z)))))))⟩)) (Ew.cons (E.lcP (en := eN) (em := eN) (P := [.rc r_.2.fs, .im (eN n_), .any, .any, .any, .any, .any]) (Ei.rng1 (n := n_) (E.var rfl) hh7) rfl (Le.s (Le.s (Le.n (Le.n (Le.n (Le.n (Le.n Le.z))))))) hh9 hh10 (fun p1 r hx => ⟨_, rfl, by obtain ⟨k1, hh8, hx⟩ := bnd_some hx; obtain rfl := Option.some.inj hx; exact Lb.weak (y := some (eN k1)) (Lb.nil (E.toN hh8 (E.pr (ds := [eZ (((p1 : Nat) : Int) - (1 : Int)), eN 0]) (Eo.e (E.pr (ds := [eN p1, eN 1]) (Eo.v rfl (Eo.e E.cst Eo.nil)) rfl (S.subZ ((p1 : Nat) : Int) (1 : Int))) (Eo.e E.cst Eo.nil)) rfl (S.maxZ (((p1 : Nat) : Int) - (1 : Int)) (0 : Int))))) (Le.s (Le.s (Le.n (Le.n (Le.n (Le.n (Le.n Le.z)))))))⟩)) Ew.nil)) rfl) ?_
  obtain ⟨k2, hh11, h⟩ := bnd_some h
  obtain ⟨k3, hh12, h⟩ := bnd_some h
  obtain ⟨r_1, hh13, h⟩ := bnd_some h
  obtain ⟨v, hh14, h⟩ := bnd_some h
  obtain ⟨m_, hh17, h⟩ := bnd_some h
  refine Fb.next (X.for (en := eN) (P := (fun (tt : ((List Nat) × (List Nat))) => ([.rc r_1.2.fs, .im (eN n_), .own (.lst (tt.1.map eN)), .own (.lst (tt.2.map eN)), .any, .any, .any] : Ps))) (s := (ys, ys1)) (Ei.op (d := (eL eN) v) (Ep.e (E.pr (ds := [(eL (eL eN)) [[], [0], [k2], [0, k3]], eN r_1.1]) (Eo.e (E.lstT (e := (eL eN)) (Es.consT (a := []) (E.lstT (e := eN) (Es.nilT (e := eN)) (Nat.le_of_ble_eq_true rfl)) rfl (Es.consT (a := [0]) (E.lstT (e := eN) (Es.consT (a := 0) E.cst rfl (Es.nilT (e := eN))) (Nat.le_of_ble_eq_true rfl)) rfl (Es.consT (a := [k2]) (E.lstT (e := eN) (Es.consT (a := k2) (E.toN hh11 (E.pr (ds := [eN n_, eN 1]) (Eo.v rfl (Eo.e E.cst Eo.nil)) rfl (S.subZ ((n_ : Nat) : Int) (1 : Int)))) rfl (Es.nilT (e := eN))) (Nat.le_of_ble_eq_true rfl)) rfl (Es.consT (a := [0, k3]) (E.lstT (e := eN) (Es.consT (a := 0) E.cst rfl (Es.consT (a := k3) (E.toN hh12 (E.pr (ds := [eN n_, eN 1]) (Eo.v rfl (Eo.e E.cst Eo.nil)) rfl (S.subZ ((n_ : Nat) : Int) (1 : Int)))) rfl (Es.nilT (e := eN)))) (Nat.le_of_ble_eq_true rfl)) rfl (Es.nilT (e := (eL eN))))))) (Nat.le_of_ble_eq_true rfl)) (Eo.e (E.call (as := [eSrc r_.2, im (eN 4)]) (o := im (eN r_1.1)) (outs := [some (eSrc r_1.2), none]) (Eo.v rfl (Eo.e E.cst Eo.nil)) hm4 rfl (hf4 hh13)) Eo.nil)) rfl (S.ixL hh14))) rfl rfl) rfl (Le.s (Le.s (Le.s (Le.s (Le.n (Le.n (Le.n Le.z))))))) hh17 (fun k4 s_ s2 h => ⟨_, rfl, ?_⟩)) ?_
  · unfold el_line_book_b1 at h
    obtain ⟨hh15, h⟩ := grd_some h
    obtain ⟨hh16, h⟩ := grd_some h
    refine K.next (X.asgST (e := eN) (f := eN) (a := k4) (b := k4) (E.tup (Es.cons (E.var rfl) (Es.cons (E.var rfl) Es.nil)) (Nat.le_of_ble_eq_true rfl)) rfl (E.var rfl) rfl hh15 rfl (E.var rfl) rfl hh16) ?_
    refine K.nil ?_
    obtain rfl := Option.some.inj h
    exact K.done (Le.s (Le.s (Le.s (Le.s (Le.n (Le.n (Le.n Le.z)))))))
  obtain ⟨deeds, hh18, h⟩ := bnd_some h
  refine Fb.next (X.asg (E.nm (o := fun (tt : (List (List Nat))) => (.p (.lst (tt.map (eT eN))) : Ow)) hh18 (E.lstT (e := (eT eN)) (Es.consT (a := m_.1) (E.pr (ds := [(eL eN) m_.1]) (Eo.v rfl Eo.nil) rfl (S.tupleL _)) rfl (Es.consT (a := m_.2) (E.pr (ds := [(eL eN) m_.2]) (Eo.v rfl Eo.nil) rfl (S.tupleL _)) rfl (Es.nilT (e := (eT eN))))) (Nat.le_of_ble_eq_true rfl)))) ?_
  obtain ⟨r_2, hh19, h⟩ := bnd_some h
  obtain ⟨j, hh27, h⟩ := bnd_some h
  refine Fb.next (p1 := [.rc j.1.fs, .im (eN n_), .own (.lst (m_.1.map eN)), .own (.lst (m_.2.map eN)), .any, .any, .own (.lst (j.2.map (eT eN)))]) (X.ite (Et.tr (d := eB (decide (r_2.1 = 0))) (Ep.e (E.pr (ds := [eN r_2.1, eN 0]) (Eo.e (E.call (as := [eSrc r_1.2, im (eN 3)]) (o := im (eN r_2.1)) (outs := [some (eSrc r_2.2), none]) (Eo.v rfl (Eo.e E.cst Eo.nil)) hm4 rfl (hf4 hh19)) (Eo.e E.cst Eo.nil)) rfl (S.eq Ed.N (by decide) _ _))) rfl rfl) (fun hc => ?_) (fun hc => ?_)) ?_
  · clear h; have h := hh27; clear hh27; rw [if_pos hc] at h
    obtain ⟨hh20, h⟩ := grd_some h
    obtain ⟨hh24, h⟩ := grd_some h
    obtain ⟨lc, hh25, h⟩ := bnd_some h
    obtain ⟨hh26, h⟩ := grd_some h
    refine K.next (X.expr (E.appT (e := (eT eN)) (x := lc.1) rfl (E.pr (ds := [(eL eN) lc.1]) (Eo.e (E.lc (en := eN) (em := eN) (P := (fun (tt : (SrcT)) => ([.rc tt.fs, .im (eN n_), .own (.lst (m_.1.map eN)), .own (.lst (m_.2.map eN)), .any, .any, .own (.lst (deeds.map (eT eN)))] : Ps))) (s := r_2.2) (Ei.rng1 (n := n_) (E.var rfl) hh20) rfl (Le.s (Le.s (Le.s (Le.s (Le.n (Le.n (Le.s Le.z))))))) hh24 hh25 (fun p2 source1 r hx => ⟨_, rfl, by unfold el_line_book_c2 at hx; obtain ⟨v1, hh21, hx⟩ := bnd_some hx; obtain ⟨v2, hh22, hx⟩ := bnd_some hx; obtain ⟨r_3, hh23, hx⟩ := bnd_some hx; obtain rfl := Option.some.inj hx; exact Lb.weak (y := some (eN r_3.1)) (Lb.nil (E.call (as := [eSrc source1, im ((eL eN) [p2, v1, v2])]) (o := im (eN r_3.1)) (outs := [some (eSrc r_3.2), none]) (Eo.v rfl (Eo.e (E.lstT (e := eN) (Es.consT (a := p2) (E.var rfl) rfl (Es.consT (a := v1) (E.pr (ds := [(eL eN) m_.1, eN p2]) (Eo.v rfl (Eo.v rfl Eo.nil)) rfl (S.ixL hh21)) rfl (Es.consT (a := v2) (E.pr (ds := [(eL eN) m_.2, eN p2]) (Eo.v rfl (Eo.v rfl Eo.nil)) rfl (S.ixL hh22)) rfl (Es.nilT (e := eN))))) (Nat.le_of_ble_eq_true rfl)) Eo.nil)) hm5 rfl (hf5 hh23))) (Le.s (Le.s (Le.s (Le.s (Le.n (Le.n (Le.s Le.z)))))))⟩)) Eo.nil) rfl (S.tupleL _)) rfl rfl hh26)) ?_
    refine K.nil ?_
    obtain rfl := Option.some.inj h
    exact K.done (Le.s (Le.s (Le.s (Le.s (Le.n (Le.n (Le.s Le.z)))))))
  · clear h; have h := hh27; clear hh27; rw [if_neg (by rw [hc]; decide)] at h
    refine K.nil ?_
    obtain rfl := Option.some.inj h
    exact K.done (Le.s (Le.s (Le.s (Le.s (Le.n (Le.n (Le.s Le.z)))))))
  obtain rfl := Option.some.inj h
  exact Fb.rt (X.ret (E.tup (Es.cons (E.var rfl) (Es.cons (E.pr (ds := [(eL (eT eN)) j.2]) (Eo.v rfl Eo.nil) rfl (S.tupleL _)) Es.nil)) (Nat.le_of_ble_eq_true rfl))) (Le.s (Le.n (Le.n (Le.n (Le.n (Le.n (Le.n Le.z)))))))

theorem el_draw_book_run {C : Cl}  {source : SrcT} {rr : ((Nat × (List (List Nat))) × SrcT)} (hm4 : C.md 4 = [.mu, .sh]) (hf4 : ∀ {a0 : SrcT} {a1 : Nat} {rr : (Nat × SrcT)}, pickT a0 a1 = some rr → C.fn 4 [eSrc a0, im (eN a1)] = .ret (im (eN rr.1)) [some (eSrc rr.2), none]) (hm6 : C.md 6 = [.mu, .sh]) (hf6 : ∀ {α : Type} {ea : α → Dt} {a0 : SrcT} {a1 : (List α)} {rr : ((List α) × SrcT)}, l_mixed a0 a1 = some rr → C.fn 6 [eSrc a0, im ((eL ea) a1)] = .ret (.p (.lst (rr.1.map ea))) [some (eSrc rr.2), none]) (hm7 : C.md 7 = [.mu]) (hf7 : ∀ {a0 : SrcT} {rr : ((Nat × (List (List Nat))) × SrcT)}, el_any_book a0 = some rr → C.fn 7 [eSrc a0] = .ret (im ((eP2 eN (eT (eT eN))) rr.1)) [some (eSrc rr.2)]) (hm8 : C.md 8 = [.mu]) (hf8 : ∀ {a0 : SrcT} {rr : ((Nat × (List (List Nat))) × SrcT)}, el_blocks_book a0 = some rr → C.fn 8 [eSrc a0] = .ret (im ((eP2 eN (eT (eT eN))) rr.1)) [some (eSrc rr.2)]) (hm9 : C.md 9 = [.mu]) (hf9 : ∀ {a0 : SrcT} {rr : ((Nat × (List (List Nat))) × SrcT)}, el_rings_book a0 = some rr → C.fn 9 [eSrc a0] = .ret (im ((eP2 eN (eT (eT eN))) rr.1)) [some (eSrc rr.2)]) (hm10 : C.md 10 = [.mu]) (hf10 : ∀ {a0 : SrcT} {rr : ((Nat × (List (List Nat))) × SrcT)}, el_line_book a0 = some rr → C.fn 10 [eSrc a0] = .ret (im ((eP2 eN (eT (eT eN))) rr.1)) [some (eSrc rr.2)]) (h : el_draw_book source = some rr) : runFn C WFn f_law_draw_book [eSrc source] = .ret (im ((eP2 eN (eT (eT eN))) rr.1)) [some (eSrc rr.2)] := by
  unfold el_draw_book at h
  refine run_ofF (qs := [.rc rr.2.fs, .any, .any, .any, .any, .any, .any, .any]) rfl rfl ?_ (outsM rfl outsN)
  obtain ⟨r_, hh1, h⟩ := bnd_some h
  refine Fb.next (X.asg (E.call (as := [eSrc source, im (eN 6)]) (o := im (eN r_.1)) (outs := [some (eSrc r_.2), none]) (Eo.v rfl (Eo.e E.cst Eo.nil)) hm4 rfl (hf4 hh1))) ?_
  obtain ⟨j, hh8, h⟩ := bnd_some h
  refine Fb.next (p1 := [.rc j.1.fs, .im (eN r_.1), .im (eN j.2.1), .im ((eT (eT eN)) j.2.2), .any, .any, .any, .any]) (X.ite (Et.tr (d := eB (decide (r_.1 = 0))) (Ep.e (E.pr (ds := [eN r_.1, eN 0]) (Eo.v rfl (Eo.e E.cst Eo.nil)) rfl (S.eq Ed.N (by decide) _ _))) rfl rfl) (fun hc => ?_) (fun hc => ?_)) ?_
  · clear h; have h := hh8; clear hh8; rw [if_pos hc] at h
    obtain ⟨r_1, hh2, h⟩ := bnd_some h
    refine K.next (X.unp (d := (eP2 eN (eT (eT eN))) r_1.1) (Ep.e (E.call (as := [eSrc r_.2]) (o := im ((eP2 eN (eT (eT eN))) r_1.1)) (outs := [some (eSrc r_1.2)]) (Eo.v rfl Eo.nil) hm7 rfl (hf7 hh2))) rfl rfl) ?_
    refine K.nil ?_
    obtain rfl := Option.some.inj h
    exact K.done (Le.s (Le.s (Le.s (Le.s (Le.n (Le.n (Le.n (Le.n Le.z))))))))
  · clear h; have h := hh8; clear hh8; rw [if_neg (by rw [hc]; decide)] at h
    obtain ⟨j1, hh7, h⟩ := bnd_some h
    refine K.next (p1 := [.rc j1.1.fs, .im (eN r_.1), .im (eN j1.2.1), .im ((eT (eT eN)) j1.2.2), .any, .any, .any, .any]) (X.ite (Et.tr (d := eB (decide (r_.1 < 3))) (Ep.e (E.pr (ds := [eN r_.1, eN 3]) (Eo.v rfl (Eo.e E.cst Eo.nil)) rfl (S.ltN _ _))) rfl rfl) (fun hc => ?_) (fun hc => ?_)) ?_
    · clear h; have h := hh7; clear hh7; rw [if_pos hc] at h
      obtain ⟨r_2, hh3, h⟩ := bnd_some h
      refine K.next (X.unp (d := (eP2 eN (eT (eT eN))) r_2.1) (Ep.e (E.call (as := [eSrc r_.2]) (o := im ((eP2 eN (eT (eT eN))) r_2.1)) (outs := [some (eSrc r_2.2)]) (Eo.v rfl Eo.nil) hm8 rfl (hf8 hh3))) rfl rfl) ?_
      refine K.nil ?_
      obtain rfl := Option.some.inj h
      exact K.done (Le.s (Le.s (Le.s (Le.s (Le.n (Le.n (Le.n (Le.n Le.z))))))))
    · clear h; have h := hh7; clear hh7; rw [if_neg (by rw [hc]; decide)] at h
      obtain ⟨j2, hh6, h⟩ := bnd_some h
      refine K.next (p1 := [.rc j2.1.fs, .im (eN r_.1), .im (eN j2.2.1), .im ((eT (eT eN)) j2.2.2), .any, .any, .any, .any]) (X.ite (Et.tr (d := eB (decide (r_.1 < 5))) (Ep.e (E.pr (ds := [eN r_.1, eN 5]) (Eo.v rfl (Eo.e E.cst Eo.nil)) rfl (S.ltN _ _))) rfl rfl) (fun hc => ?_) (fun hc => ?_)) ?_
      · clear h; have h := hh6; clear hh6; rw [if_pos hc] at h
        obtain ⟨r_3, hh4, h⟩ := bnd_some h
        refine K.next (X.unp (d := (eP2 eN (eT (eT eN))) r_3.1) (Ep.e (E.call (as := [eSrc r_.2]) (o := im ((eP2 eN (eT (eT eN))) r_3.1)) (outs := [some (eSrc r_3.2)]) (Eo.v rfl Eo.nil) hm9 rfl (hf9 hh4))) rfl rfl) ?_
        refine K.nil ?_
        obtain rfl := Option.some.inj h
        exact K.done (Le.s (Le.s (Le.s (Le.s (Le.n (Le.n (Le.n (Le.n Le.z))))))))
      · clear h; have h := hh6; clear hh6; rw [if_neg (by rw [hc]; decide)] at h
        obtain ⟨r_4, hh5, h⟩ := bnd_some h
        refine K.next (X.unp (d := (eP2 eN (eT (eT eN))) r_4.1) (Ep.e (E.call (as := [eSrc r_.2]) (o := im ((eP2 eN (eT (eT eN))) r_4.1)) (outs := [some (eSrc r_4.2)]) (Eo.v rfl Eo.nil) hm10 rfl (hf10 hh5))) rfl rfl) ?_
        refine K.nil ?_
        obtain rfl := Option.some.inj h
        exact K.done (Le.s (Le.s (Le.s (Le.s (Le.n (Le.n (Le.n (Le.n Le.z))))))))
      refine K.nil ?_
      obtain rfl := Option.some.inj h
      exact K.done (Le.s (Le.s (Le.s (Le.s (Le.n (Le.n (Le.n (Le.n Le.z))))))))
    refine K.nil ?_
    obtain rfl := Option.some.inj h
    exact K.done (Le.s (Le.s (Le.s (Le.s (Le.n (Le.n (Le.n (Le.n Le.z))))))))
  obtain ⟨hh9, h⟩ := grd_some h
  obtain ⟨r_5, hh10, h⟩ := bnd_some h
  refine Fb.next (X.asg (E.call (as := [eSrc j.1, im ((eL eN) (List.range j.2.1))]) (o := .p (.lst (r_5.1.map eN))) (outs := [some (eSrc r_5.2), none]) (Eo.v rfl (Eo.e (E.pr (ds := [eN j.2.1]) (Eo.v rfl Eo.nil) rfl (S.lrng hh9)) Eo.nil)) hm6 rfl (hf6 hh10))) ?_
  obtain ⟨hh11, h⟩ := grd_some h
  obtain ⟨hh13, h⟩ := grd_some h
  obtain ⟨ys, hh14, h⟩ := bnd_some h
  refine Fb.next (X.asg (E.lcP (en := eN) (em := eN) (P := [.rc r_5.2.fs, .im (eN r_.1), .im (eN j.2.1), .im ((eT (eT eN)) j.2.2), .own (.lst (r_5.1.map eN)), .any, .any, .any]) (Ei.rng1 (n := j.2.1) (E.var rfl) hh11) rfl (Le.s (Le.s (Le.s (Le.s (Le.s (Le.n (Le.n (Le.n Le.z)))))))) hh13 hh14 (fun p r hx => ⟨_, rfl, by obtain ⟨j3, hh12, hx⟩ := bnd_some hx; obtain rfl := Option.some.inj hx; exact Lb.weak (y := some (eN j3)) (Lb.nil (E.idxN (xs := r_5.1) rfl (E.var rfl) rfl hh12)) (Le.s (Le.s (Le.s (Le.s (Le.s (Le.n (Le.n (Le.n Le.z))))))))⟩))) ?_
  obtain ⟨hh21, h⟩ := grd_some h
  obtain ⟨ys2, hh22, h⟩ := bnd_some h
  obtain rfl := Option.some.inj h
  exact Fb.rt (X.ret (E.tup (Es.cons (E.var rfl) (Es.cons (E.pr (ds := [(eL (eT eN)) ys2]) (Eo.e (E.lcP (en := (eT eN)) (em := (eT eN)) (P := [.rc r_5.2.fs, .im (eN r_.1), .im (eN j.2.1), .im ((eT (eT eN)) j.2.2), .own (.lst (r_5.1.map eN)), .own (.lst (ys.map eN)), .any, .any]) (Ei.op (d := (eT (eT eN)) j.2.2) (Ep.v rfl) rfl rfl) rfl (Le.s (Le.s (Le.s (Le.s (Le.s (Le.s (Le.n (Le.n Le.z)))))))) hh21 hh22 (fun deed r hx => ⟨_, rfl, by obtain ⟨hh15, hx⟩ := grd_some hx; obtain ⟨hh19, hx⟩ := grd_some hx; obtain ⟨ys1, hh20, hx⟩ := bnd_some hx; obtain rfl := Option.some.inj hx; exact Lb.weak (y := some ((eT eN) ys1)) (Lb.nil (E.pr (ds := [(eL eN) ys1]) (Eo.e (E.lcP (en := eN) (em := eN) (P := [.rc r_5.2.fs, .im (eN r_.1), .im (eN j.2.1), .im ((eT (eT eN)) j.2.2), .own (.lst (r_5.1.map eN)), .own (.lst (ys.map eN)), .any, .im ((eT eN) deed)]) (Ei.rng1 (n := j.2.1) (E.var rfl) hh15) rfl (Le.s (Le.s (Le.s (Le.s (Le.s (Le.s (Le.n (Le.s Le.z)))))))) hh19 hh20 (fun p1 r hx => ⟨_, rfl, by obtain ⟨v, hh16, hx⟩ := bnd_some hx; obtain ⟨v1, hh17, hx⟩ := bnd_some hx; obtain ⟨v2, hh18, hx⟩ := bnd_some hx; obtain rfl := Option.some.inj hx; exact Lb.weak (y := some (eN v2)) (Lb.nil (E.pr (ds := [(eL eN) r_5.1, eN v1]) (Eo.v rfl (Eo.e (E.pr (ds := [(eT eN) deed, eN v]) (Eo.v rfl (Eo.e (E.pr (ds := [(eL eN) ys, eN p1]) (Eo.v rfl (Eo.v rfl Eo.nil)) rfl (S.ixL hh16)) Eo.nil)) rfl (S.ixT hh17)) Eo.nil)) rfl (S.ixL hh18))) (Le.s (Le.s (Le.s (Le.s (Le.s (Le.s (Le.n (Le.s Le.z))))))))⟩)) Eo.nil) rfl (S.tupleL _))) (Le.s (Le.s (Le.s (Le.s (Le.s (Le.s (Le.n (Le.n Le.z))))))))⟩)) Eo.nil) rfl (S.tupleL _)) Es.nil)) (Nat.le_of_ble_eq_true rfl))) (Le.s (Le.n (Le.n (Le.n (Le.n (Le.n (Le.n (Le.n Le.z))))))))

theorem el_words_from_run {C : Cl}  {book : (Nat × (List (List Nat)))} {p : Nat} {rr : (List (Nat × (List Nat)))}  (h : el_words_from book p = some rr) : runFn C WFn f_law_words_from [im ((eP2 eN (eT (eT eN))) book), im (eN p)] = .ret (.p (.dic (eD eN (eT eN) rr))) [none, none] := by
  unfold el_words_from at h
  refine run_ofF (qs := [.any, .any, .any, .any, .any, .any, .any, .any]) rfl rfl ?_ (outsS (outsS outsN))
  obtain ⟨words, hh1, h⟩ := bnd_some h
  refine Fb.next (X.asgT (Ew.cons (E.nm (o := fun (tt : (List (Nat × (List Nat)))) => (.p (.dic (eD eN (eT eN) tt)) : Ow)) hh1 (E.dmk (kvs := eD eN (eT eN) [(p, [])]) (Es.cons (E.var rfl) (Es.cons (E.tupT (e := eN) (Es.nilT (e := eN)) (Nat.le_of_ble_eq_true rfl)) Es.nil)) rfl (Nat.le_of_ble_eq_true rfl))) (Ew.cons (E.lstT (e := eN) (Es.consT (a := p) (E.var rfl) rfl (Es.nilT (e := eN))) (Nat.le_of_ble_eq_true rfl)) Ew.nil)) rfl) ?_
  obtain ⟨m_2, hh12, h⟩ := bnd_some h
  refine Fb.next (X.whl (P := (fun (tt : ((List (Nat × (List Nat))) × (List Nat))) => ([.im ((eP2 eN (eT (eT eN))) book), .im (eN p), .own (.dic (eD eN (eT eN) tt.1)), .sn ((eL eN) tt.2), .any, .any, .any, .any] : Ps))) (s := (words, [p])) (Le.s (Le.s (Le.s (Le.o rfl (Le.n (Le.n (Le.n (Le.n Le.z)))))))) hh12 (fun s_ b h => ?_) (fun s_ s2 h => ?_)) ?_
  · unfold el_words_from_t4 at h
    obtain rfl := Option.some.inj h
    exact (Et.tr (d := eB (decide (s_.2 ≠ []))) (Ep.e (E.pr (ds := [(eL eN) s_.2, (eL eN) []]) (Eo.v rfl (Eo.e (E.lstT (e := eN) (Es.nilT (e := eN)) (Nat.le_of_ble_eq_true rfl)) Eo.nil)) rfl (S.ne (Ed.L Ed.N) (by decide) _ _))) rfl rfl)
  · unfold el_words_from_w3 at h
    refine K.next (X.asg (E.lstT (e := eN) (Es.nilT (e := eN)) (Nat.le_of_ble_eq_true rfl))) ?_
    obtain ⟨m_1, hh11, h⟩ := bnd_some h
    refine K.next (X.for (en := eN) (P := (fun (tt : ((List (Nat × (List Nat))) × (List Nat))) => ([.im ((eP2 eN (eT (eT eN))) book), .im (eN p), .own (.dic (eD eN (eT eN) tt.1)), .lk ((eL eN) s_.2), .own (.lst (tt.2.map eN)), .any, .any, .any] : Ps))) (s := (s_.1, [])) (Ei.op (d := (eL eN) s_.2) (Ep.v rfl) rfl rfl) rfl (Le.s (Le.s (Le.s (Le.s (Le.s (Le.n (Le.n (Le.n Le.z)))))))) hh11 (fun here s_1 s2 h => ⟨_, rfl, ?_⟩)) ?_
    · unfold el_words_from_b2 at h
      obtain ⟨m_, hh10, h⟩ := bnd_some h
      refine K.next (X.for (en := (eP2 eN (eT eN))) (P := (fun (tt : ((List (Nat × (List Nat))) × (List Nat))) => ([.im ((eP2 eN (eT (eT eN))) book), .im (eN p), .own (.dic (eD eN (eT eN) tt.1)), .lk ((eL eN) s_.2), .own (.lst (tt.2.map eN)), .im (eN here), .any, .any] : Ps))) (s := (s_1.1, s_1.2)) (S.enum book.2 0 ▸ Ei.enum (d := (eT (eT eN)) book.2) (Ep.e (E.pr (ds := [(eP2 eN (eT (eT eN))) book, eN 1]) (Eo.v rfl (Eo.e E.cst Eo.nil)) rfl rfl)) rfl rfl) rfl (Le.s (Le.s (Le.s (Le.s (Le.s (Le.s (Le.n (Le.n Le.z)))))))) hh10 (fun letter_deed s_2 s2 h => ⟨_, rfl, ?_⟩)) ?_
      · unfold el_words_from_b1 at h
        obtain ⟨v, hh2, h⟩ := bnd_some h
        obtain ⟨j, hh9, h⟩ := bnd_some h
        refine K.next (p1 := [.im ((eP2 eN (eT (eT eN))) book), .im (eN p), .own (.dic (eD eN (eT eN) j.1)), .lk ((eL eN) s_.2), .own (.lst (j.2.map eN)), .im (eN here), .im (eN letter_deed.1), .im ((eT eN) letter_deed.2)]) (X.ite (Et.tr (d := eB ((lkp v s_2.1).isNone)) (Ep.e (E.pr (ds := [eN v, (eDD eN (eT eN)) s_2.1]) (Eo.e (E.pr (ds := [(eT eN) letter_deed.2, eN here]) (Eo.v rfl (Eo.v rfl Eo.nil)) rfl (S.ixT hh2)) (Eo.v rfl Eo.nil)) rfl (S.notInD Ke.N _ _))) rfl rfl) (fun hc => ?_) (fun hc => ?_)) ?_
        · clear h; have h := hh9; clear hh9; rw [if_pos hc] at h
          obtain ⟨v1, hh3, h⟩ := bnd_some h
          obtain ⟨hh4, h⟩ := grd_some h
          obtain ⟨v2, hh5, h⟩ := bnd_some h
          obtain ⟨hh6, h⟩ := grd_some h
          refine K.next (X.setDT (x := v2) (v := (v1 ++ [letter_deed.1])) Ke.N (E.pr (ds := [(eT eN) v1, (eT eN) [letter_deed.1]]) (Eo.e (E.pr (ds := [(eDD eN (eT eN)) s_2.1, eN here]) (Eo.v rfl (Eo.v rfl Eo.nil)) rfl (S.ixD Ke.N hh3)) (Eo.e (E.tupT (e := eN) (Es.consT (a := letter_deed.1) (E.var rfl) rfl (Es.nilT (e := eN))) (Nat.le_of_ble_eq_true rfl)) Eo.nil)) rfl (S.addT hh4)) rfl rfl (E.pr (ds := [(eT eN) letter_deed.2, eN here]) (Eo.v rfl (Eo.v rfl Eo.nil)) rfl (S.ixT hh5)) rfl hh6) ?_
          obtain ⟨v3, hh7, h⟩ := bnd_some h
          obtain ⟨hh8, h⟩ := grd_some h
          refine K.next (X.expr (E.appT (e := eN) (x := v3) rfl (E.pr (ds := [(eT eN) letter_deed.2, eN here]) (Eo.v rfl (Eo.v rfl Eo.nil)) rfl (S.ixT hh7)) rfl rfl hh8)) ?_
          refine K.nil ?_
          obtain rfl := Option.some.inj h
          exact K.done (Le.s (Le.s (Le.s (Le.s (Le.s (Le.s (Le.s (Le.s Le.z))))))))
        · clear h; have h := hh9; clear hh9; rw [if_neg (by rw [hc]; decide)] at h
          refine K.nil ?_
          obtain rfl := Option.some.inj h
          exact K.done (Le.s (Le.s (Le.s (Le.s (Le.s (Le.s (Le.s (Le.s Le.z))))))))
        refine K.nil ?_
        obtain rfl := Option.some.inj h
        exact K.done (Le.s (Le.s (Le.s (Le.s (Le.s (Le.s (Le.n (Le.n Le.z))))))))
      refine K.nil ?_
      obtain rfl := Option.some.inj h
      exact K.done (Le.s (Le.s (Le.s (Le.s (Le.s (Le.n (Le.n (Le.n Le.z))))))))
    refine K.next (X.asg (E.varO rfl)) ?_
    refine K.nil ?_
    obtain rfl := Option.some.inj h
    exact K.done (Le.s (Le.s (Le.s (Le.i (Le.n (Le.n (Le.n (Le.n Le.z))))))))
  obtain rfl := Option.some.inj h
  exact Fb.rt (X.retP rfl) (Le.n (Le.n (Le.n (Le.n (Le.n (Le.n (Le.n (Le.n Le.z))))))))

theorem el_come_run {C : Cl}  {book : (Nat × (List (List Nat)))} {p : Nat} {rr : (List Nat)} (hm12 : C.md 12 = [.sh, .sh]) (hf12 : ∀ {a0 : (Nat × (List (List Nat)))} {a1 : Nat} {rr : (List (Nat × (List Nat)))}, el_words_from a0 a1 = some rr → C.fn 12 [im ((eP2 eN (eT (eT eN))) a0), im (eN a1)] = .ret (.p (.dic (eD eN (eT eN) rr))) [none, none]) (h : el_come book p = some rr) : runFn C WFn f_law_come [im ((eP2 eN (eT (eT eN))) book), im (eN p)] = .ret (im ((eT eN) rr)) [none, none] := by
  unfold el_come at h
  refine run_ofF (qs := [.any, .any]) rfl rfl ?_ (outsS (outsS outsN))
  obtain ⟨r_, hh1, h⟩ := bnd_some h
  obtain ⟨hh2, h⟩ := grd_some h
  obtain rfl := Option.some.inj h
  exact Fb.rt (X.ret (E.pr (ds := [(eL eN) (sortN (r_.map (·.1)))]) (Eo.e (E.pr (ds := [(eDD eN (eT eN)) r_]) (Eo.e (E.call (as := [im ((eP2 eN (eT (eT eN))) book), im (eN p)]) (o := .p (.dic (eD eN (eT eN) r_))) (outs := [none, none]) (Eo.v rfl (Eo.v rfl Eo.nil)) hm12 rfl (hf12 hh1)) Eo.nil) rfl (S.sortedDN hh2)) Eo.nil) rfl (S.tupleL _))) (Le.n (Le.n Le.z))

theorem el_ends_run {C : Cl}  {book : (Nat × (List (List Nat)))} {rr : (List (List Nat))} (hm13 : C.md 13 = [.sh, .sh]) (hf13 : ∀ {a0 : (Nat × (List (List Nat)))} {a1 : Nat} {rr : (List Nat)}, el_come a0 a1 = some rr → C.fn 13 [im ((eP2 eN (eT (eT eN))) a0), im (eN a1)] = .ret (im ((eT eN) rr)) [none, none]) (h : el_ends book = some rr) : runFn C WFn f_law_ends [im ((eP2 eN (eT (eT eN))) book)] = .ret (im ((eT (eT eN)) rr)) [none] := by
  unfold el_ends at h
  refine run_ofF (qs := [.any, .any, .any, .any, .any]) rfl rfl ?_ (outsS outsN)
  refine Fb.next (X.asg (E.lstT (e := (eT eN)) (Es.nilT (e := (eT eN))) (Nat.le_of_ble_eq_true rfl))) ?_
  obtain ⟨hh1, h⟩ := grd_some h
  obtain ⟨found2, hh11, h⟩ := bnd_some h
  refine Fb.next (X.for (en := eN) (P := (fun (tt : ((List (List Nat)))) => ([.im ((eP2 eN (eT (eT eN))) book), .own (.lst (tt.map (eT eN))), .any, .any, .any] : Ps))) (s := []) (Ei.rng1 (n := book.1) (E.pr (ds := [(eP2 eN (eT (eT eN))) book, eN 0]) (Eo.v rfl (Eo.e E.cst Eo.nil)) rfl rfl) hh1) rfl (Le.s (Le.s (Le.n (Le.n (Le.n Le.z))))) hh11 (fun p found s2 h => ⟨_, rfl, ?_⟩)) ?_
  · unfold el_ends_b1 at h
    obtain ⟨r_, hh2, h⟩ := bnd_some h
    refine K.next (X.asg (E.call (as := [im ((eP2 eN (eT (eT eN))) book), im (eN p)]) (o := im ((eT eN) r_)) (outs := [none, none]) (Eo.v rfl (Eo.v rfl Eo.nil)) hm13 rfl (hf13 hh2))) ?_
    obtain ⟨b, hh6, h⟩ := bnd_some h
    obtain ⟨found1, hh10, h⟩ := bnd_some h
    refine K.next (p1 := [.im ((eP2 eN (eT (eT eN))) book), .own (.lst (found1.map (eT eN))), .im (eN p), .im ((eT eN) r_), .any]) (X.ite (Et.at (b := b) (p1 := [.im ((eP2 eN (eT (eT eN))) book), .own (.lst (found.map (eT eN))), .im (eN p), .im ((eT eN) r_), .any]) (by rcases if_some hh6 with ⟨hh7, hh8⟩ | ⟨hh7, hh8⟩; (obtain ⟨hh4, hh8⟩ := grd_some hh8; obtain ⟨ys, hh5, hh8⟩ := bnd_some hh8; obtain rfl := Option.some.inj hh8; exact Et.landT (Et.tr (d := eB (!isIn r_ found)) (Ep.e (E.pr (ds := [(eT eN) r_, (eL (eT eN)) found]) (Eo.v rfl (Eo.v rfl Eo.nil)) rfl (S.notInL (Ed.T Ed.N) (by decide) _ _))) rfl rfl) hh7 (Et.tr (d := eB (decide (ys = []))) (Ep.e (E.pr (ds := [(eL eN) ys, (eL eN) []]) (Eo.e (E.lcP (en := eN) (em := eN) (P := [.im ((eP2 eN (eT (eT eN))) book), .own (.lst (found.map (eT eN))), .im (eN p), .im ((eT eN) r_), .any]) (Ei.op (d := (eT eN) r_) (Ep.v rfl) rfl rfl) rfl (Le.s (Le.s (Le.s (Le.s (Le.n Le.z))))) hh4 hh5 (fun q_ r hx => ⟨_, rfl, by obtain ⟨r_1, hh3, hx⟩ := bnd_some hx; rcases if_some hx with ⟨hcc, hx⟩ | ⟨hcc, hx⟩; (obtain rfl := Option.some.inj hx; exact Lb.weak (y := some (eN q_)) (Lb.yes (Et.tr (d := eB (decide (r_1 ≠ r_))) (Ep.e (E.pr (ds := [(eT eN) r_1, (eT eN) r_]) (Eo.e (E.call (as := [im ((eP2 eN (eT (eT eN))) book), im (eN q_)]) (o := im ((eT eN) r_1)) (outs := [none, none]) (Eo.v rfl (Eo.v rfl Eo.nil)) hm13 rfl (hf13 hh3)) (Eo.v rfl Eo.nil)) rfl (S.ne (Ed.T Ed.N) (by decide) _ _))) rfl rfl) hcc (E.var rfl)) (Le.s (Le.s (Le.s (Le.s (Le.n Le.z)))))); (obtain rfl := Option.some.inj hx; exact Lb.weak (Lb.not (Et.tr (d := eB (decide (r_1 ≠ r_))) (Ep.e (E.pr (ds := [(eT eN) r_1, (eT eN) r_]) (Eo.e (E.call (as := [im ((eP2 eN (eT (eT eN))) book), im (eN q_)]) (o := im ((eT eN) r_1)) (outs := [none, none]) (Eo.v rfl (Eo.v rfl Eo.nil)) hm13 rfl (hf13 hh3)) (Eo.v rfl Eo.nil)) rfl (S.ne (Ed.T Ed.N) (by decide) _ _))) rfl rfl) hcc) (Le.s (Le.s (Le.s (Le.s (Le.n Le.z))))))⟩)) (Eo.e (E.lstT (e := eN) (Es.nilT (e := eN)) (Nat.le_of_ble_eq_true rfl)) Eo.nil)) rfl (S.eq (Ed.L Ed.N) (by decide) _ _))) rfl rfl)); (obtain rfl := Option.some.inj hh8; exact Et.landF (Et.tr (d := eB (!isIn r_ found)) (Ep.e (E.pr (ds := [(eT eN) r_, (eL (eT eN)) found]) (Eo.v rfl (Eo.v rfl Eo.nil)) rfl (S.notInL (Ed.T Ed.N) (by decide) _ _))) rfl rfl) hh7))) (fun hc => ?_) (fun hc => ?_)) ?_
    · clear h; have h := hh10; clear hh10; rw [if_pos hc] at h
      obtain ⟨hh9, h⟩ := grd_some h
      refine K.next (X.expr (E.appT (e := (eT eN)) (x := r_) rfl (E.var rfl) rfl rfl hh9)) ?_
      refine K.nil ?_
      obtain rfl := Option.some.inj h
      exact K.done (Le.s (Le.s (Le.s (Le.s (Le.n Le.z)))))
    · clear h; have h := hh10; clear hh10; rw [if_neg (by rw [hc]; decide)] at h
      refine K.nil ?_
      obtain rfl := Option.some.inj h
      exact K.done (Le.s (Le.s (Le.s (Le.s (Le.n Le.z)))))
    refine K.nil ?_
    obtain rfl := Option.some.inj h
    exact K.done (Le.s (Le.s (Le.n (Le.n (Le.n Le.z)))))
  obtain ⟨hh12, h⟩ := grd_some h
  obtain rfl := Option.some.inj h
  exact Fb.rt (X.ret (E.pr (ds := [(eL (eT eN)) (srtE (eT eN) found2)]) (Eo.e (E.pr (ds := [(eL (eT eN)) found2]) (Eo.v rfl Eo.nil) rfl (S.sortedE hh12)) Eo.nil) rfl (S.tupleL _))) (Le.n (Le.n (Le.n (Le.n (Le.n Le.z)))))

theorem elaw_run {C : Cl} {scr0 : List Int} {src0 : SrcT} {rr : Bool} (hm0 : C.md 0 = [.sh, .sh]) (hf0 : ∀ {a0 : (Nat × (List (List Nat)))} {a1 : Nat} {rr : (List Nat)}, ecomes_to a0 a1 = some rr → C.fn 0 [im ((eP2 eN (eT (eT eN))) a0), im (eN a1)] = .ret (im ((eT eN) rr)) [none, none]) (hm1 : C.md 1 = [.sh, .sh, .sh]) (hf1 : ∀ {a0 : (Nat × (List (List Nat)))} {a1 : Nat} {a2 : (List Nat)} {rr : (Option (List Nat))}, eway_into a0 a1 a2 = some rr → C.fn 1 [im ((eP2 eN (eT (eT eN))) a0), im (eN a1), im ((eT eN) a2)] = .ret (im ((eO (eT eN)) rr)) [none, none, none]) (hm2 : C.md 2 = [.sh]) (hf2 : ∀ {a0 : (Nat × (List (List Nat)))} {rr : (List (List Nat))}, eends a0 = some rr → C.fn 2 [im ((eP2 eN (eT (eT eN))) a0)] = .ret (im ((eT (eT eN)) rr)) [none]) (hm3 : C.md 3 = [.sh]) (hf3 : C.fn 3 [im (.scr scr0)] = .ret (eSrc src0) [none]) (hm4 : C.md 4 = [.mu, .sh]) (hf4 : ∀ {a0 : SrcT} {a1 : Nat} {rr : (Nat × SrcT)}, pickT a0 a1 = some rr → C.fn 4 [eSrc a0, im (eN a1)] = .ret (im (eN rr.1)) [some (eSrc rr.2), none]) (hm5 : C.md 5 = [.mu, .sh]) (hf5 : ∀ {α : Type} {ea : α → Dt} {a0 : SrcT} {a1 : (List α)} {rr : (α × SrcT)}, l_of a0 a1 = some rr → C.fn 5 [eSrc a0, im ((eL ea) a1)] = .ret (im (ea rr.1)) [some (eSrc rr.2), none]) (hm6 : C.md 6 = [.mu, .sh]) (hf6 : ∀ {α : Type} {ea : α → Dt} {a0 : SrcT} {a1 : (List α)} {rr : ((List α) × SrcT)}, l_mixed a0 a1 = some rr → C.fn 6 [eSrc a0, im ((eL ea) a1)] = .ret (.p (.lst (rr.1.map ea))) [some (eSrc rr.2), none]) (hm11 : C.md 11 = [.mu]) (hf11 : ∀ {a0 : SrcT} {rr : ((Nat × (List (List Nat))) × SrcT)}, el_draw_book a0 = some rr → C.fn 11 [eSrc a0] = .ret (im ((eP2 eN (eT (eT eN))) rr.1)) [some (eSrc rr.2)]) (hm12 : C.md 12 = [.sh, .sh]) (hf12 : ∀ {a0 : (Nat × (List (List Nat)))} {a1 : Nat} {rr : (List (Nat × (List Nat)))}, el_words_from a0 a1 = some rr → C.fn 12 [im ((eP2 eN (eT (eT eN))) a0), im (eN a1)] = .ret (.p (.dic (eD eN (eT eN) rr))) [none, none]) (hm14 : C.md 14 = [.sh]) (hf14 : ∀ {a0 : (Nat × (List (List Nat)))} {rr : (List (List Nat))}, el_ends a0 = some rr → C.fn 14 [im ((eP2 eN (eT (eT eN))) a0)] = .ret (im ((eT (eT eN)) rr)) [none]) (h : elaw src0 = some rr) : runFn C WFn flaw [im (.scr scr0)] = .ret (im (eB rr)) [none] := by
  unfold elaw at h
  refine run_ofF (qs := [.any, .any, .any, .any, .any, .any, .any, .any, .any, .any]) rfl rfl ?_ (outsS outsN)
  refine Fb.next (X.asg (E.call (o := eSrc src0) (outs := [none]) (Eo.v rfl Eo.nil) hm3 rfl hf3)) ?_
  obtain ⟨res1, hh39, h⟩ := bnd_some h
  refine Fb.forR (en := eN) (P := (fun (tt : (SrcT)) => ([.im (.scr scr0), .rc tt.fs, .any, .any, .any, .any, .any, .any, .any, .any] : Ps))) (s := src0) (Q := (fun (tt : Bool) => ([.any, .any, .any, .any, .any, .any, .any, .any, .any, .any] : Ps))) (o := (fun (tt : Bool) => (im (eB tt) : Ow))) (Ei.rng1 (n := 8) E.cst (by decide)) rfl (Le.s (Le.s (Le.n (Le.n (Le.n (Le.n (Le.n (Le.n (Le.n (Le.n Le.z)))))))))) hh39 (fun lap source s2 h => ⟨_, rfl, ?_⟩) (fun vr e1 => ?_) (fun m_1 e1 => ?_)
  · clear hh39; unfold elaw_b2 at h
    obtain ⟨r_, hh1, h⟩ := bnd_some h
    refine K.next (X.asg (E.call (as := [eSrc source]) (o := im ((eP2 eN (eT (eT eN))) r_.1)) (outs := [some (eSrc r_.2)]) (Eo.v rfl Eo.nil) hm11 rfl (hf11 hh1))) ?_
    obtain ⟨r_1, hh2, h⟩ := bnd_some h
    obtain ⟨d, hh3, h⟩ := bnd_some h
    obtain ⟨r_2, hh4, h⟩ := bnd_some h
    obtain ⟨d1, hh5, h⟩ := bnd_some h
    obtain ⟨b, hh6, h⟩ := bnd_some h
    obtain ⟨b1, hh9, h⟩ := bnd_some h
    rcases if_some h with ⟨hc, h⟩ | ⟨hc, h⟩
    · refine K.iteT (Et.at (b := b1) (p1 := [.im (.scr scr0), .rc r_.2.fs, .im (eN lap), .im ((eP2 eN (eT (eT eN))) r_.1), .any, .any, .any, .any, .any, .any]) (by rcases if_some hh9 with ⟨hh10, hh11⟩ | ⟨hh10, hh11⟩; (obtain rfl := Option.some.inj hh11; exact Et.lorT (Et.tr (d := eB (!b)) (Ep.e (E.pr (ds := [eR d, eR d1]) (o := .imm (eB (!b))) (Eo.e (E.pr (ds := [(eT (eT eN)) r_1]) (Eo.e (E.call (as := [im ((eP2 eN (eT (eT eN))) r_.1)]) (o := im ((eT (eT eN)) r_1)) (outs := [none]) (Eo.v rfl Eo.nil) hm2 rfl (hf2 hh2)) Eo.nil) rfl (S.repr hh3)) (Eo.e (E.pr (ds := [(eT (eT eN)) r_2]) (Eo.e (E.call (as := [im ((eP2 eN (eT (eT eN))) r_.1)]) (o := im ((eT (eT eN)) r_2)) (outs := [none]) (Eo.v rfl Eo.nil) hm14 rfl (hf14 hh4)) Eo.nil) rfl (S.repr hh5)) Eo.nil)) rfl (by obtain ⟨q1, q2, rfl⟩ := sameR_some hh6; exact S.neR q2 q1))) rfl rfl) hh10); (obtain ⟨r_3, hh7, hh11⟩ := bnd_some hh11; obtain ⟨r_4, hh8, hh11⟩ := bnd_some hh11; obtain rfl := Option.some.inj hh11; exact Et.lorF (Et.tr (d := eB (!b)) (Ep.e (E.pr (ds := [eR d, eR d1]) (o := .imm (eB (!b))) (Eo.e (E.pr (ds := [(eT (eT eN)) r_1]) (Eo.e (E.call (as := [im ((eP2 eN (eT (eT eN))) r_.1)]) (o := im ((eT (eT eN)) r_1)) (outs := [none]) (Eo.v rfl Eo.nil) hm2 rfl (hf2 hh2)) Eo.nil) rfl (S.repr hh3)) (Eo.e (E.pr (ds := [(eT (eT eN)) r_2]) (Eo.e (E.call (as := [im ((eP2 eN (eT (eT eN))) r_.1)]) (o := im ((eT (eT eN)) r_2)) (outs := [none]) (Eo.v rfl Eo.nil) hm14 rfl (hf14 hh4)) Eo.nil) rfl (S.repr hh5)) Eo.nil)) rfl (by obtain ⟨q1, q2, rfl⟩ := sameR_some hh6; exact S.neR q2 q1))) rfl rfl) hh10 (Et.tr (d := eB (decide (r_3 ≠ r_4))) (Ep.e (E.pr (ds := [(eT (eT eN)) r_3, (eT (eT eN)) r_4]) (Eo.e (E.call (as := [im ((eP2 eN (eT (eT eN))) r_.1)]) (o := im ((eT (eT eN)) r_3)) (outs := [none]) (Eo.v rfl Eo.nil) hm2 rfl (hf2 hh7)) (Eo.e (E.call (as := [im ((eP2 eN (eT (eT eN))) r_.1)]) (o := im ((eT (eT eN)) r_4)) (outs := [none]) (Eo.v rfl Eo.nil) hm2 rfl (hf2 hh8)) Eo.nil)) rfl (S.ne (Ed.T (Ed.T Ed.N)) (by decide) _ _))) rfl rfl)))) hc ?_
      obtain rfl := Option.some.inj h
      exact K.rt (X.ret E.cst) (Le.n (Le.n (Le.n (Le.n (Le.n (Le.n (Le.n (Le.n (Le.n (Le.n Le.z))))))))))
    · refine K.iteF (Et.at (b := b1) (p1 := [.im (.scr scr0), .rc r_.2.fs, .im (eN lap), .im ((eP2 eN (eT (eT eN))) r_.1), .any, .any, .any, .any, .any, .any]) (by rcases if_some hh9 with ⟨hh10, hh11⟩ | ⟨hh10, hh11⟩; (obtain rfl := Option.some.inj hh11; exact Et.lorT (Et.tr (d := eB (!b)) (Ep.e (E.pr (ds := [eR d, eR d1]) (o := .imm (eB (!b))) (Eo.e (E.pr (ds := [(eT (eT eN)) r_1]) (Eo.e (E.call (as := [im ((eP2 eN (eT (eT eN))) r_.1)]) (o := im ((eT (eT eN)) r_1)) (outs := [none]) (Eo.v rfl Eo.nil) hm2 rfl (hf2 hh2)) Eo.nil) rfl (S.repr hh3)) (Eo.e (E.pr (ds := [(eT (eT eN)) r_2]) (Eo.e (E.call (as := [im ((eP2 eN (eT (eT eN))) r_.1)]) (o := im ((eT (eT eN)) r_2)) (outs := [none]) (Eo.v rfl Eo.nil) hm14 rfl (hf14 hh4)) Eo.nil) rfl (S.repr hh5)) Eo.nil)) rfl (by obtain ⟨q1, q2, rfl⟩ := sameR_some hh6; exact S.neR q2 q1))) rfl rfl) hh10); (obtain ⟨r_3, hh7, hh11⟩ := bnd_some hh11; obtain ⟨r_4, hh8, hh11⟩ := bnd_some hh11; obtain rfl := Option.some.inj hh11; exact Et.lorF (Et.tr (d := eB (!b)) (Ep.e (E.pr (ds := [eR d, eR d1]) (o := .imm (eB (!b))) (Eo.e (E.pr (ds := [(eT (eT eN)) r_1]) (Eo.e (E.call (as := [im ((eP2 eN (eT (eT eN))) r_.1)]) (o := im ((eT (eT eN)) r_1)) (outs := [none]) (Eo.v rfl Eo.nil) hm2 rfl (hf2 hh2)) Eo.nil) rfl (S.repr hh3)) (Eo.e (E.pr (ds := [(eT (eT eN)) r_2]) (Eo.e (E.call (as := [im ((eP2 eN (eT (eT eN))) r_.1)]) (o := im ((eT (eT eN)) r_2)) (outs := [none]) (Eo.v rfl Eo.nil) hm14 rfl (hf14 hh4)) Eo.nil) rfl (S.repr hh5)) Eo.nil)) rfl (by obtain ⟨q1, q2, rfl⟩ := sameR_some hh6; exact S.neR q2 q1))) rfl rfl) hh10 (Et.tr (d := eB (decide (r_3 ≠ r_4))) (Ep.e (E.pr (ds := [(eT (eT eN)) r_3, (eT (eT eN)) r_4]) (Eo.e (E.call (as := [im ((eP2 eN (eT (eT eN))) r_.1)]) (o := im ((eT (eT eN)) r_3)) (outs := [none]) (Eo.v rfl Eo.nil) hm2 rfl (hf2 hh7)) (Eo.e (E.call (as := [im ((eP2 eN (eT (eT eN))) r_.1)]) (o := im ((eT (eT eN)) r_4)) (outs := [none]) (Eo.v rfl Eo.nil) hm2 rfl (hf2 hh8)) Eo.nil)) rfl (S.ne (Ed.T (Ed.T Ed.N)) (by decide) _ _))) rfl rfl)))) hc ?_
      refine K.nil ?_
      obtain ⟨hh12, h⟩ := grd_some h
      obtain ⟨res, hh38, h⟩ := bnd_some h
      refine K.forR (en := eN) (P := (fun (tt : (SrcT)) => ([.im (.scr scr0), .rc tt.fs, .im (eN lap), .im ((eP2 eN (eT (eT eN))) r_.1), .any, .any, .any, .any, .any, .any] : Ps))) (s := r_.2) (Q := (fun (tt : Bool) => ([.any, .any, .any, .any, .any, .any, .any, .any, .any, .any] : Ps))) (o := (fun (tt : Bool) => (im (eB tt) : Ow))) (Ei.rng1 (n := r_.1.1) (E.pr (ds := [(eP2 eN (eT (eT eN))) r_.1, eN 0]) (Eo.v rfl (Eo.e E.cst Eo.nil)) rfl rfl) hh12) rfl (Le.s (Le.s (Le.s (Le.s (Le.n (Le.n (Le.n (Le.n (Le.n (Le.n Le.z)))))))))) hh38 (fun p source1 s2 h => ⟨_, rfl, ?_⟩) (fun vr e1 => ?_) (fun m_ e1 => ?_)
      · clear hh38; unfold elaw_b1 at h
        obtain ⟨r_5, hh13, h⟩ := bnd_some h
        refine K.next (X.asg (E.call (as := [im ((eP2 eN (eT (eT eN))) r_.1), im (eN p)]) (o := .p (.dic (eD eN (eT eN) r_5))) (outs := [none, none]) (Eo.v rfl (Eo.v rfl Eo.nil)) hm12 rfl (hf12 hh13))) ?_
        obtain ⟨r_6, hh14, h⟩ := bnd_some h
        obtain ⟨d2, hh15, h⟩ := bnd_some h
        obtain ⟨hh16, h⟩ := grd_some h
        obtain ⟨d3, hh17, h⟩ := bnd_some h
        obtain ⟨b2, hh18, h⟩ := bnd_some h
        rcases if_some h with ⟨hc, h⟩ | ⟨hc, h⟩
        · refine K.iteT (Et.tr (d := eB (!b2)) (Ep.e (E.pr (ds := [eR d2, eR d3]) (o := .imm (eB (!b2))) (Eo.e (E.pr (ds := [(eT eN) r_6]) (Eo.e (E.call (as := [im ((eP2 eN (eT (eT eN))) r_.1), im (eN p)]) (o := im ((eT eN) r_6)) (outs := [none, none]) (Eo.v rfl (Eo.v rfl Eo.nil)) hm0 rfl (hf0 hh14)) Eo.nil) rfl (S.repr hh15)) (Eo.e (E.pr (ds := [(eT eN) (sortN (r_5.map (·.1)))]) (Eo.e (E.pr (ds := [(eL eN) (sortN (r_5.map (·.1)))]) (Eo.e (E.pr (ds := [(eDD eN (eT eN)) r_5]) (Eo.v rfl Eo.nil) rfl (S.sortedDN hh16)) Eo.nil) rfl (S.tupleL _)) Eo.nil) rfl (S.repr hh17)) Eo.nil)) rfl (by obtain ⟨q1, q2, rfl⟩ := sameR_some hh18; exact S.neR q2 q1))) rfl rfl) hc ?_
          obtain rfl := Option.some.inj h
          exact K.rt (X.ret E.cst) (Le.n (Le.n (Le.n (Le.n (Le.n (Le.n (Le.n (Le.n (Le.n (Le.n Le.z))))))))))
        · refine K.iteF (Et.tr (d := eB (!b2)) (Ep.e (E.pr (ds := [eR d2, eR d3]) (o := .imm (eB (!b2))) (Eo.e (E.pr (ds := [(eT eN) r_6]) (Eo.e (E.call (as := [im ((eP2 eN (eT (eT eN))) r_.1), im (eN p)]) (o := im ((eT eN) r_6)) (outs := [none, none]) (Eo.v rfl (Eo.v rfl Eo.nil)) hm0 rfl (hf0 hh14)) Eo.nil) rfl (S.repr hh15)) (Eo.e (E.pr (ds := [(eT eN) (sortN (r_5.map (·.1)))]) (Eo.e (E.pr (ds := [(eL eN) (sortN (r_5.map (·.1)))]) (Eo.e (E.pr (ds := [(eDD eN (eT eN)) r_5]) (Eo.v rfl Eo.nil) rfl (S.sortedDN hh16)) Eo.nil) rfl (S.tupleL _)) Eo.nil) rfl (S.repr hh17)) Eo.nil)) rfl (by obtain ⟨q1, q2, rfl⟩ := sameR_some hh18; exact S.neR q2 q1))) rfl rfl) hc ?_
          refine K.nil ?_
          obtain ⟨hh19, h⟩ := grd_some h
          obtain ⟨r_7, hh20, h⟩ := bnd_some h
          obtain ⟨r_8, hh21, h⟩ := bnd_some h
          obtain ⟨lot, hh22, h⟩ := bnd_some h
          refine K.next (X.asg (E.nm (o := fun (tt : (List Nat)) => (im ((eT eN) tt) : Ow)) hh22 (E.pr (ds := [(eL eN) (sortN (r_7.1.take r_8.1))]) (Eo.e (E.pr (ds := [(eL eN) (r_7.1.take r_8.1)]) (Eo.e (E.pr (ds := [(eL eN) r_7.1, eN r_8.1]) (Eo.e (E.call (as := [eSrc source1, im ((eL eN) (List.range r_.1.1))]) (o := .p (.lst (r_7.1.map eN))) (outs := [some (eSrc r_7.2), none]) (Eo.v rfl (Eo.e (E.pr (ds := [eN r_.1.1]) (Eo.e (E.pr (ds := [(eP2 eN (eT (eT eN))) r_.1, eN 0]) (Eo.v rfl (Eo.e E.cst Eo.nil)) rfl rfl) Eo.nil) rfl (S.lrng hh19)) Eo.nil)) hm6 rfl (hf6 hh20)) (Eo.e (E.call (as := [eSrc r_7.2, im ((eL eN) [0, 1, 1, 2, 2, 3, 5])]) (o := im (eN r_8.1)) (outs := [some (eSrc r_8.2), none]) (Eo.v rfl (Eo.e (E.lstT (e := eN) (Es.consT (a := 0) E.cst rfl (Es.consT (a := 1) E.cst rfl (Es.consT (a := 1) E.cst rfl (Es.consT (a := 2) E.cst rfl (Es.consT (a := 2) E.cst rfl (Es.consT (a := 3) E.cst rfl (Es.consT (a := 5) E.cst rfl (Es.nilT (e := eN))))))))) (Nat.le_of_ble_eq_true rfl)) Eo.nil)) hm5 rfl (hf5 hh21)) Eo.nil)) rfl (S.takeL _ _)) Eo.nil) rfl (S.sortedN _)) Eo.nil) rfl (S.tupleL _)))) ?_
          obtain ⟨hh25, h⟩ := grd_some h
          obtain ⟨ys, hh26, h⟩ := bnd_some h
          obtain ⟨hh27, h⟩ := grd_some h
          obtain ⟨some_, hh28, h⟩ := bnd_some h
          refine K.next (X.asg (E.nm (o := fun (tt : (List (Nat × (List Nat)))) => (.p (.lst (tt.map (eP2 eN (eT eN)))) : Ow)) hh28 (E.pr (ds := [(eL (eP2 eN (eT eN))) ys]) (Eo.e (E.lcP (en := eN) (em := (eP2 eN (eT eN))) (P := [.im (.scr scr0), .rc r_8.2.fs, .im (eN lap), .im ((eP2 eN (eT (eT eN))) r_.1), .im (eN p), .own (.dic (eD eN (eT eN) r_5)), .im ((eT eN) lot), .any, .any, .any]) (Ei.op (d := (eT eN) lot) (Ep.v rfl) rfl rfl) rfl (Le.s (Le.s (Le.s (Le.s (Le.s (Le.s (Le.s (Le.n (Le.n (Le.n Le.z)))))))))) hh25 hh26 (fun q_ r hx => ⟨_, rfl, by rcases if_some hx with ⟨hcc, hx⟩ | ⟨hcc, hx⟩; (obtain ⟨v, hh23, hx⟩ := bnd_some hx; obtain ⟨v1, hh24, hx⟩ := bnd_some hx; obtain rfl := Option.some.inj hx; exact Lb.weak (y := some ((eP2 eN (eT eN)) (v.length, v1))) (Lb.yes (Et.tr (d := eB ((lkp q_ r_5).isSome)) (Ep.e (E.pr (ds := [eN q_, (eDD eN (eT eN)) r_5]) (Eo.v rfl (Eo.v rfl Eo.nil)) rfl (S.inD Ke.N _ _))) rfl rfl) hcc (E.tup (Es.cons (E.pr (ds := [(eT eN) v]) (Eo.e (E.pr (ds := [(eDD eN (eT eN)) r_5, eN q_]) (Eo.v rfl (Eo.v rfl Eo.nil)) rfl (S.ixD Ke.N hh23)) Eo.nil) rfl (S.lenT _)) (Es.cons (E.pr (ds := [(eDD eN (eT eN)) r_5, eN q_]) (Eo.v rfl (Eo.v rfl Eo.nil)) rfl (S.ixD Ke.N hh24)) Es.nil)) (Nat.le_of_ble_eq_true rfl))) (Le.s (Le.s (Le.s (Le.s (Le.s (Le.s (Le.s (Le.n (Le.n (Le.n Le.z))))))))))); (obtain rfl := Option.some.inj hx; exact Lb.weak (Lb.not (Et.tr (d := eB ((lkp q_ r_5).isSome)) (Ep.e (E.pr (ds := [eN q_, (eDD eN (eT eN)) r_5]) (Eo.v rfl (Eo.v rfl Eo.nil)) rfl (S.inD Ke.N _ _))) rfl rfl) hcc) (Le.s (Le.s (Le.s (Le.s (Le.s (Le.s (Le.s (Le.n (Le.n (Le.n Le.z)))))))))))⟩)) Eo.nil) rfl (S.sortedE hh27)))) ?_
          obtain ⟨r_9, hh29, h⟩ := bnd_some h
          obtain ⟨d4, hh30, h⟩ := bnd_some h
          obtain ⟨c, hh33, h⟩ := bnd_some h
          obtain ⟨d5, hh36, h⟩ := bnd_some h
          obtain ⟨b3, hh37, h⟩ := bnd_some h
          rcases if_some h with ⟨hc, h⟩ | ⟨hc, h⟩
          · refine K.iteT (Et.tr (d := eB (!b3)) (Ep.e (E.pr (ds := [eR d4, eR d5]) (o := .imm (eB (!b3))) (Eo.e (E.pr (ds := [(eO (eT eN)) r_9]) (Eo.e (E.call (as := [im ((eP2 eN (eT (eT eN))) r_.1), im (eN p), im ((eT eN) lot)]) (o := im ((eO (eT eN)) r_9)) (outs := [none, none, none]) (Eo.v rfl (Eo.v rfl (Eo.v rfl Eo.nil))) hm1 rfl (hf1 hh29)) Eo.nil) rfl (S.repr hh30)) (Eo.e (E.pr (ds := [(eO (eT eN)) c]) (Eo.e (E.at (o := im ((eO (eT eN)) c)) (qs := [.im (.scr scr0), .rc r_8.2.fs, .im (eN lap), .im ((eP2 eN (eT (eT eN))) r_.1), .im (eN p), .own (.dic (eD eN (eT eN) r_5)), .im ((eT eN) lot), .own (.lst (some_.map (eP2 eN (eT eN)))), .any, .any]) (by rcases if_some hh33 with ⟨hh34, hh35⟩ | ⟨hh34, hh35⟩; (obtain ⟨v3, hh32, hh35⟩ := bnd_some hh35; obtain rfl := Option.some.inj hh35; exact E.condT (Et.tr (d := eB (decide (some_ ≠ []))) (Ep.e (E.pr (ds := [(eL (eP2 eN (eT eN))) some_, (eL (eP2 eN (eT eN))) []]) (Eo.v rfl (Eo.e (E.lstT (e := (eP2 eN (eT eN))) (Es.nilT (e := (eP2 eN (eT eN)))) (Nat.le_of_ble_eq_true rfl)) Eo.nil)) rfl (S.ne (Ed.L (Ed.P2 Ed.N (Ed.T Ed.N))) (by decide) _ _))) rfl rfl) hh34 (E.pr (ds := [(eP2 eN (eT eN)) v3, eN 1]) (Eo.e (E.pr (ds := [(eL (eP2 eN (eT eN))) some_, eN 0]) (Eo.v rfl (Eo.e E.cst Eo.nil)) rfl (S.ixL hh32)) (Eo.e E.cst Eo.nil)) rfl rfl)); (obtain rfl := Option.some.inj hh35; exact E.condF (Et.tr (d := eB (decide (some_ ≠ []))) (Ep.e (E.pr (ds := [(eL (eP2 eN (eT eN))) some_, (eL (eP2 eN (eT eN))) []]) (Eo.v rfl (Eo.e (E.lstT (e := (eP2 eN (eT eN))) (Es.nilT (e := (eP2 eN (eT eN)))) (Nat.le_of_ble_eq_true rfl)) Eo.nil)) rfl (S.ne (Ed.L (Ed.P2 Ed.N (Ed.T Ed.N))) (by decide) _ _))) rfl rfl) hh34 E.cst))) Eo.nil) rfl (S.repr hh36)) Eo.nil)) rfl (by obtain ⟨q1, q2, rfl⟩ := sameR_some hh37; exact S.neR q2 q1))) rfl rfl) hc ?_
            obtain rfl := Option.some.inj h
            exact K.rt (X.ret E.cst) (Le.n (Le.n (Le.n (Le.n (Le.n (Le.n (Le.n (Le.n (Le.n (Le.n Le.z))))))))))
          · refine K.iteF (Et.tr (d := eB (!b3)) (Ep.e (E.pr (ds := [eR d4, eR d5]) (o := .imm (eB (!b3))) (Eo.e (E.pr (ds := [(eO (eT eN)) r_9]) (Eo.e (E.call (as := [im ((eP2 eN (eT (eT eN))) r_.1), im (eN p), im ((eT eN) lot)]) (o := im ((eO (eT eN)) r_9)) (outs := [none, none, none]) (Eo.v rfl (Eo.v rfl (Eo.v rfl Eo.nil))) hm1 rfl (hf1 hh29)) Eo.nil) rfl (S.repr hh30)) (Eo.e (E.pr (ds := [(eO (eT eN)) c]) (Eo.e (E.at (o := im ((eO (eT eN)) c)) (qs := [.im (.scr scr0), .rc r_8.2.fs, .im (eN lap), .im ((eP2 eN (eT (eT eN))) r_.1), .im (eN p), .own (.dic (eD eN (eT eN) r_5)), .im ((eT eN) lot), .own (.lst (some_.map (eP2 eN (eT eN)))), .any, .any]) (by rcases if_some hh33 with ⟨hh34, hh35⟩ | ⟨hh34, hh35⟩; (obtain ⟨v3, hh32, hh35⟩ := bnd_some hh35; obtain rfl := Option.some.inj hh35; exact E.condT (Et.tr (d := eB (decide (some_ ≠ []))) (Ep.e (E.pr (ds := [(eL (eP2 eN (eT eN))) some_, (eL (eP2 eN (eT eN))) []]) (Eo.v rfl (Eo.e (E.lstT (e := (eP2 eN (eT eN))) (Es.nilT (e := (eP2 eN (eT eN)))) (Nat.le_of_ble_eq_true rfl)) Eo.nil)) rfl (S.ne (Ed.L (Ed.P2 Ed.N (Ed.T Ed.N))) (by decide) _ _))) rfl rfl) hh34 (E.pr (ds := [(eP2 eN (eT eN)) v3, eN 1]) (Eo.e (E.pr (ds := [(eL (eP2 eN (eT eN))) some_, eN 0]) (Eo.v rfl (Eo.e E.cst Eo.nil)) rfl (S.ixL hh32)) (Eo.e E.cst Eo.nil)) rfl rfl)); (obtain rfl := Option.some.inj hh35; exact E.condF (Et.tr (d := eB (decide (some_ ≠ []))) (Ep.e (E.pr (ds := [(eL (eP2 eN (eT eN))) some_, (eL (eP2 eN (eT eN))) []]) (Eo.v rfl (Eo.e (E.lstT (e := (eP2 eN (eT eN))) (Es.nilT (e := (eP2 eN (eT eN)))) (Nat.le_of_ble_eq_true rfl)) Eo.nil)) rfl (S.ne (Ed.L (Ed.P2 Ed.N (Ed.T Ed.N))) (by decide) _ _))) rfl rfl) hh34 E.cst))) Eo.nil) rfl (S.repr hh36)) Eo.nil)) rfl (by obtain ⟨q1, q2, rfl⟩ := sameR_some hh37; exact S.neR q2 q1))) rfl rfl) hc ?_
            refine K.nil ?_
            refine K.nil ?_
            obtain rfl := Option.some.inj h
            exact K.done (Le.s (Le.s (Le.s (Le.s (Le.n (Le.n (Le.n (Le.n (Le.n (Le.n Le.z))))))))))
      · subst e1
        obtain rfl := Option.some.inj h
        exact ⟨rfl, (Le.n (Le.n (Le.n (Le.n (Le.n (Le.n (Le.n (Le.n (Le.n (Le.n Le.z))))))))))⟩
      · subst e1
        dsimp only at h
        refine K.nil ?_
        obtain rfl := Option.some.inj h
        exact K.done (Le.s (Le.s (Le.n (Le.n (Le.n (Le.n (Le.n (Le.n (Le.n (Le.n Le.z))))))))))
  · subst e1
    obtain rfl := Option.some.inj h
    exact ⟨rfl, (Le.n (Le.n (Le.n (Le.n (Le.n (Le.n (Le.n (Le.n (Le.n (Le.n Le.z))))))))))⟩
  · subst e1
    dsimp only at h
    obtain ⟨r_10, hh40, h⟩ := bnd_some h
    obtain ⟨n_, hh41, h⟩ := bnd_some h
    refine Fb.next (X.asg (E.nm (o := fun (tt : Nat) => (im (eN tt) : Ow)) hh41 (E.pr (ds := [eN 1, eN r_10.1]) (Eo.e E.cst (Eo.e (E.call (as := [eSrc m_1, im (eN 8)]) (o := im (eN r_10.1)) (outs := [some (eSrc r_10.2), none]) (Eo.v rfl (Eo.e E.cst Eo.nil)) hm4 rfl (hf4 hh40)) Eo.nil)) rfl (S.addN _ _)))) ?_
    obtain ⟨r_11, hh42, h⟩ := bnd_some h
    obtain ⟨hh43, h⟩ := grd_some h
    obtain ⟨hh44, h⟩ := grd_some h
    obtain ⟨b4, hh48, h⟩ := bnd_some h
    rcases if_some h with ⟨hc, h⟩ | ⟨hc, h⟩
    · refine Fb.iteT (Et.at (b := b4) (p1 := [.im (.scr scr0), .rc r_10.2.fs, .any, .any, .any, .any, .any, .any, .any, .im (eN n_)]) (by rcases if_some hh48 with ⟨hh49, hh50⟩ | ⟨hh49, hh50⟩; (obtain rfl := Option.some.inj hh50; exact Et.lorT (Et.tr (d := eB (decide (r_11 ≠ ((List.range n_).map fun (p1 : Nat) => [p1])))) (Ep.e (E.pr (ds := [(eT (eT eN)) r_11, (eT (eT eN)) ((List.range n_).map fun (p1 : Nat) => [p1])]) (Eo.e (E.call (as := [im ((eP2 eN (eT (eT eN))) (n_, []))]) (o := im ((eT (eT eN)) r_11)) (outs := [none]) (Eo.e (E.tup (Es.cons (E.var rfl) (Es.cons (E.tupT (e := (eT eN)) (Es.nilT (e := (eT eN))) (Nat.le_of_ble_eq_true rfl)) Es.nil)) (Nat.le_of_ble_eq_true rfl)) Eo.nil) hm2 rfl (hf2 hh42)) (Eo.e (E.pr (ds := [(eL (eT eN)) ((List.range n_).map fun (p1 : Nat) => [p1])]) (Eo.e (E.lcM (en := eN) (em := (eT eN)) (P := [.im (.scr scr0), .rc r_10.2.fs, .any, .any, .any, .any, .any, .any, .any, .im (eN n_)]) (g := fun (p1 : Nat) => [p1]) (Ei.rng1 (n := n_) (E.var rfl) hh43) rfl (Le.s (Le.s (Le.n (Le.n (Le.n (Le.n (Le.n (Le.n (Le.n (Le.s Le.z)))))))))) hh44 (fun p1 => ⟨_, rfl, Lb.weak (Lb.nil (E.tupT (e := eN) (Es.consT (a := p1) (E.var rfl) rfl (Es.nilT (e := eN))) (Nat.le_of_ble_eq_true rfl))) (Le.s (Le.s (Le.n (Le.n (Le.n (Le.n (Le.n (Le.n (Le.n (Le.s Le.z))))))))))⟩)) Eo.nil) rfl (S.tupleL _)) Eo.nil)) rfl (S.ne (Ed.T (Ed.T Ed.N)) (by decide) _ _))) rfl rfl) hh49); (obtain ⟨k, hh45, hh50⟩ := bnd_some hh50; obtain ⟨r_12, hh46, hh50⟩ := bnd_some hh50; obtain ⟨k1, hh47, hh50⟩ := bnd_some hh50; obtain rfl := Option.some.inj hh50; exact Et.lorF (Et.tr (d := eB (decide (r_11 ≠ ((List.range n_).map fun (p1 : Nat) => [p1])))) (Ep.e (E.pr (ds := [(eT (eT eN)) r_11, (eT (eT eN)) ((List.range n_).map fun (p1 : Nat) => [p1])]) (Eo.e (E.call (as := [im ((eP2 eN (eT (eT eN))) (n_, []))]) (o := im ((eT (eT eN)) r_11)) (outs := [none]) (Eo.e (E.tup (Es.cons (E.var rfl) (Es.cons (E.tupT (e := (eT eN)) (Es.nilT (e := (eT eN))) (Nat.le_of_ble_eq_true rfl)) Es.nil)) (Nat.le_of_ble_eq_true rfl)) Eo.nil) hm2 rfl (hf2 hh42)) (Eo.e (E.pr (ds := [(eL (eT eN)) ((List.range n_).map fun (p1 : Nat) => [p1])]) (Eo.e (E.lcM (en := eN) (em := (eT eN)) (P := [.im (.scr scr0), .rc r_10.2.fs, .any, .any, .any, .any, .any, .any, .any, .im (eN n_)]) (g := fun (p1 : Nat) => [p1]) (Ei.rng1 (n := n_) (E.var rfl) hh43) rfl (Le.s (Le.s (Le.n (Le.n (Le.n (Le.n (Le.n (Le.n (Le.n (Le.s Le.z)))))))))) hh44 (fun p1 => ⟨_, rfl, Lb.weak (Lb.nil (E.tupT (e := eN) (Es.consT (a := p1) (E.var rfl) rfl (Es.nilT (e := eN))) (Nat.le_of_ble_eq_true rfl))) (Le.s (Le.s (Le.n (Le.n (Le.n (Le.n (Le.n (Le.n (Le.n (Le.s Le.z))))))))))⟩)) Eo.nil) rfl (S.tupleL _)) Eo.nil)) rfl (S.ne (Ed.T (Ed.T Ed.N)) (by decide) _ _))) rfl rfl) hh49 (Et.tr (d := eB (decide (r_12 ≠ [k1]))) (Ep.e (E.pr (ds := [(eT eN) r_12, (eT eN) [k1]]) (Eo.e (E.call (as := [im ((eP2 eN (eT (eT eN))) (n_, [])), im (eN k)]) (o := im ((eT eN) r_12)) (outs := [none, none]) (Eo.e (E.tup (Es.cons (E.var rfl) (Es.cons (E.tupT (e := (eT eN)) (Es.nilT (e := (eT eN))) (Nat.le_of_ble_eq_true rfl)) Es.nil)) (Nat.le_of_ble_eq_true rfl)) (Eo.e (E.toN hh45 (E.pr (ds := [eN n_, eN 1]) (Eo.v rfl (Eo.e E.cst Eo.nil)) rfl (S.subZ ((n_ : Nat) : Int) (1 : Int)))) Eo.nil)) hm0 rfl (hf0 hh46)) (Eo.e (E.tupT (e := eN) (Es.consT (a := k1) (E.toN hh47 (E.pr (ds := [eN n_, eN 1]) (Eo.v rfl (Eo.e E.cst Eo.nil)) rfl (S.subZ ((n_ : Nat) : Int) (1 : Int)))) rfl (Es.nilT (e := eN))) (Nat.le_of_ble_eq_true rfl)) Eo.nil)) rfl (S.ne (Ed.T Ed.N) (by decide) _ _))) rfl rfl)))) hc ?_
      obtain rfl := Option.some.inj h
      exact Fb.rt (X.ret E.cst) (Le.n (Le.n (Le.n (Le.n (Le.n (Le.n (Le.n (Le.n (Le.n (Le.n Le.z))))))))))
    · refine Fb.iteF (Et.at (b := b4) (p1 := [.im (.scr scr0), .rc r_10.2.fs, .any, .any, .any, .any, .any, .any, .any, .im (eN n_)]) (by rcases if_some hh48 with ⟨hh49, hh50⟩ | ⟨hh49, hh50⟩; (obtain rfl := Option.some.inj hh50; exact Et.lorT (Et.tr (d := eB (decide (r_11 ≠ ((List.range n_).map fun (p1 : Nat) => [p1])))) (Ep.e (E.pr (ds := [(eT (eT eN)) r_11, (eT (eT eN)) ((List.range n_).map fun (p1 : Nat) => [p1])]) (Eo.e (E.call (as := [im ((eP2 eN (eT (eT eN))) (n_, []))]) (o := im ((eT (eT eN)) r_11)) (outs := [none]) (Eo.e (E.tup (Es.cons (E.var rfl) (Es.cons (E.tupT (e := (eT eN)) (Es.nilT (e := (eT eN))) (Nat.le_of_ble_eq_true rfl)) Es.nil)) (Nat.le_of_ble_eq_true rfl)) Eo.nil) hm2 rfl (hf2 hh42)) (Eo.e (E.pr (ds := [(eL (eT eN)) ((List.range n_).map fun (p1 : Nat) => [p1])]) (Eo.e (E.lcM (en := eN) (em := (eT eN)) (P := [.im (.scr scr0), .rc r_10.2.fs, .any, .any, .any, .any, .any, .any, .any, .im (eN n_)]) (g := fun (p1 : Nat) => [p1]) (Ei.rng1 (n := n_) (E.var rfl) hh43) rfl (Le.s (Le.s (Le.n (Le.n (Le.n (Le.n (Le.n (Le.n (Le.n (Le.s Le.z)))))))))) hh44 (fun p1 => ⟨_, rfl, Lb.weak (Lb.nil (E.tupT (e := eN) (Es.consT (a := p1) (E.var rfl) rfl (Es.nilT (e := eN))) (Nat.le_of_ble_eq_true rfl))) (Le.s (Le.s (Le.n (Le.n (Le.n (Le.n (Le.n (Le.n (Le.n (Le.s Le.z))))))))))⟩)) Eo.nil) rfl (S.tupleL _)) Eo.nil)) rfl (S.ne (Ed.T (Ed.T Ed.N)) (by decide) _ _))) rfl rfl) hh49); (obtain ⟨k, hh45, hh50⟩ := bnd_some hh50; obtain ⟨r_12, hh46, hh50⟩ := bnd_some hh50; obtain ⟨k1, hh47, hh50⟩ := bnd_some hh50; obtain rfl := Option.some.inj hh50; exact Et.lorF (Et.tr (d := eB (decide (r_11 ≠ ((List.range n_).map fun (p1 : Nat) => [p1])))) (Ep.e (E.pr (ds := [(eT (eT eN)) r_11, (eT (eT eN)) ((List.range n_).map fun (p1 : Nat) => [p1])]) (Eo.e (E.call (as := [im ((eP2 eN (eT (eT eN))) (n_, []))]) (o := im ((eT (eT eN)) r_11)) (outs := [none]) (Eo.e (E.tup (Es.cons (E.var rfl) (Es.cons (E.tupT (e := (eT eN)) (Es.nilT (e := (eT eN))) (Nat.le_of_ble_eq_true rfl)) Es.nil)) (Nat.le_of_ble_eq_true rfl)) Eo.nil) hm2 rfl (hf2 hh42)) (Eo.e (E.pr (ds := [(eL (eT eN)) ((List.range n_).map fun (p1 : Nat) => [p1])]) (Eo.e (E.lcM (en := eN) (em := (eT eN)) (P := [.im (.scr scr0), .rc r_10.2.fs, .any, .any, .any, .any, .any, .any, .any, .im (eN n_)]) (g := fun (p1 : Nat) => [p1]) (Ei.rng1 (n := n_) (E.var rfl) hh43) rfl (Le.s (Le.s (Le.n (Le.n (Le.n (Le.n (Le.n (Le.n (Le.n (Le.s Le.z)))))))))) hh44 (fun p1 => ⟨_, rfl, Lb.weak (Lb.nil (E.tupT (e := eN) (Es.consT (a := p1) (E.var rfl) rfl (Es.nilT (e := eN))) (Nat.le_of_ble_eq_true rfl))) (Le.s (Le.s (Le.n (Le.n (Le.n (Le.n (Le.n (Le.n (Le.n (Le.s Le.z))))))))))⟩)) Eo.nil) rfl (S.tupleL _)) Eo.nil)) rfl (S.ne (Ed.T (Ed.T Ed.N)) (by decide) _ _))) rfl rfl) hh49 (Et.tr (d := eB (decide (r_12 ≠ [k1]))) (Ep.e (E.pr (ds := [(eT eN) r_12, (eT eN) [k1]]) (Eo.e (E.call (as := [im ((eP2 eN (eT (eT eN))) (n_, [])), im (eN k)]) (o := im ((eT eN) r_12)) (outs := [none, none]) (Eo.e (E.tup (Es.cons (E.var rfl) (Es.cons (E.tupT (e := (eT eN)) (Es.nilT (e := (eT eN))) (Nat.le_of_ble_eq_true rfl)) Es.nil)) (Nat.le_of_ble_eq_true rfl)) (Eo.e (E.toN hh45 (E.pr (ds := [eN n_, eN 1]) (Eo.v rfl (Eo.e E.cst Eo.nil)) rfl (S.subZ ((n_ : Nat) : Int) (1 : Int)))) Eo.nil)) hm0 rfl (hf0 hh46)) (Eo.e (E.tupT (e := eN) (Es.consT (a := k1) (E.toN hh47 (E.pr (ds := [eN n_, eN 1]) (Eo.v rfl (Eo.e E.cst Eo.nil)) rfl (S.subZ ((n_ : Nat) : Int) (1 : Int)))) rfl (Es.nilT (e := eN))) (Nat.le_of_ble_eq_true rfl)) Eo.nil)) rfl (S.ne (Ed.T Ed.N) (by decide) _ _))) rfl rfl)))) hc ?_
      refine Fb.nil ?_
      obtain ⟨r_13, hh51, h⟩ := bnd_some h
      rcases if_some h with ⟨hc, h⟩ | ⟨hc, h⟩
      · refine Fb.iteT (Et.tr (d := eB r_13.isSome) (Ep.e (E.pr (ds := [(eO (eT eN)) r_13]) (Eo.e (E.call (as := [im ((eP2 eN (eT (eT eN))) (n_, [])), im (eN 0), im ((eT eN) [])]) (o := im ((eO (eT eN)) r_13)) (outs := [none, none, none]) (Eo.e (E.tup (Es.cons (E.var rfl) (Es.cons (E.tupT (e := (eT eN)) (Es.nilT (e := (eT eN))) (Nat.le_of_ble_eq_true rfl)) Es.nil)) (Nat.le_of_ble_eq_true rfl)) (Eo.e E.cst (Eo.e (E.tupT (e := eN) (Es.nilT (e := eN)) (Nat.le_of_ble_eq_true rfl)) Eo.nil))) hm1 rfl (hf1 hh51)) Eo.nil) rfl (S.notNO (fun _ => rfl) _))) rfl rfl) hc ?_
        obtain rfl := Option.some.inj h
        exact Fb.rt (X.ret E.cst) (Le.n (Le.n (Le.n (Le.n (Le.n (Le.n (Le.n (Le.n (Le.n (Le.n Le.z))))))))))
      · refine Fb.iteF (Et.tr (d := eB r_13.isSome) (Ep.e (E.pr (ds := [(eO (eT eN)) r_13]) (Eo.e (E.call (as := [im ((eP2 eN (eT (eT eN))) (n_, [])), im (eN 0), im ((eT eN) [])]) (o := im ((eO (eT eN)) r_13)) (outs := [none, none, none]) (Eo.e (E.tup (Es.cons (E.var rfl) (Es.cons (E.tupT (e := (eT eN)) (Es.nilT (e := (eT eN))) (Nat.le_of_ble_eq_true rfl)) Es.nil)) (Nat.le_of_ble_eq_true rfl)) (Eo.e E.cst (Eo.e (E.tupT (e := eN) (Es.nilT (e := eN)) (Nat.le_of_ble_eq_true rfl)) Eo.nil))) hm1 rfl (hf1 hh51)) Eo.nil) rfl (S.notNO (fun _ => rfl) _))) rfl rfl) hc ?_
        refine Fb.nil ?_
        obtain ⟨r_14, hh52, h⟩ := bnd_some h
        obtain ⟨b5, hh54, h⟩ := bnd_some h
        obtain rfl := Option.some.inj h
        exact Fb.rt (X.ret (E.at (o := im (eB b5)) (qs := [.im (.scr scr0), .rc r_10.2.fs, .any, .any, .any, .any, .any, .any, .any, .im (eN n_)]) (by rcases if_some hh54 with ⟨hh55, hh56⟩ | ⟨hh55, hh56⟩; (obtain ⟨r_15, hh53, hh56⟩ := bnd_some hh56; obtain rfl := Option.some.inj hh56; exact E.landT (E.pr (ds := [(eO (eT eN)) r_14, (eO (eT eN)) (some [])]) (Eo.e (E.call (as := [im ((eP2 eN (eT (eT eN))) (n_, [])), im (eN 0), im ((eT eN) [0])]) (o := im ((eO (eT eN)) r_14)) (outs := [none, none, none]) (Eo.e (E.tup (Es.cons (E.var rfl) (Es.cons (E.tupT (e := (eT eN)) (Es.nilT (e := (eT eN))) (Nat.le_of_ble_eq_true rfl)) Es.nil)) (Nat.le_of_ble_eq_true rfl)) (Eo.e E.cst (Eo.e (E.tupT (e := eN) (Es.consT (a := 0) E.cst rfl (Es.nilT (e := eN))) (Nat.le_of_ble_eq_true rfl)) Eo.nil))) hm1 rfl (hf1 hh52)) (Eo.e (E.tupT (e := eN) (Es.nilT (e := eN)) (Nat.le_of_ble_eq_true rfl)) Eo.nil)) rfl (S.eq (Ed.O (Ed.T Ed.N) (Nn.tup fun a => ⟨_, rfl⟩)) (by decide) _ _)) hh55 (E.pr (ds := [(eO (eT eN)) r_15]) (Eo.e (E.call (as := [im ((eP2 eN (eT (eT eN))) (2, [])), im (eN 0), im ((eT eN) [1])]) (o := im ((eO (eT eN)) r_15)) (outs := [none, none, none]) (Eo.e (E.tup (Es.cons E.cst (Es.cons (E.tupT (e := (eT eN)) (Es.nilT (e := (eT eN))) (Nat.le_of_ble_eq_true rfl)) Es.nil)) (Nat.le_of_ble_eq_true rfl)) (Eo.e E.cst (Eo.e (E.tupT (e := eN) (Es.consT (a := 1) E.cst rfl (Es.nilT (e := eN))) (Nat.le_of_ble_eq_true rfl)) Eo.nil))) hm1 rfl (hf1 hh53)) Eo.nil) rfl (S.isNO (fun _ => rfl) _))); (obtain rfl := Option.some.inj hh56; exact E.landF (E.pr (ds := [(eO (eT eN)) r_14, (eO (eT eN)) (some [])]) (Eo.e (E.call (as := [im ((eP2 eN (eT (eT eN))) (n_, [])), im (eN 0), im ((eT eN) [0])]) (o := im ((eO (eT eN)) r_14)) (outs := [none, none, none]) (Eo.e (E.tup (Es.cons (E.var rfl) (Es.cons (E.tupT (e := (eT eN)) (Es.nilT (e := (eT eN))) (Nat.le_of_ble_eq_true rfl)) Es.nil)) (Nat.le_of_ble_eq_true rfl)) (Eo.e E.cst (Eo.e (E.tupT (e := eN) (Es.consT (a := 0) E.cst rfl (Es.nilT (e := eN))) (Nat.le_of_ble_eq_true rfl)) Eo.nil))) hm1 rfl (hf1 hh52)) (Eo.e (E.tupT (e := eN) (Es.nilT (e := eN)) (Nat.le_of_ble_eq_true rfl)) Eo.nil)) rfl (S.eq (Ed.O (Ed.T Ed.N) (Nn.tup fun a => ⟨_, rfl⟩)) (by decide) _ _)) hh55)))) (Le.n (Le.n (Le.n (Le.n (Le.n (Le.n (Le.n (Le.n (Le.n (Le.n Le.z))))))))))

end Pd
set_option Elab.async false
set_option linter.all false
set_option maxRecDepth 100000
set_option maxHeartbeats 1000000
namespace Pd
open PySem
def CC (n : Nat) : Cl := ⟨mdOf T, run T WFn n⟩
theorem R_at {n f : Nat} {g : Fn} (h : T[f]? = some g) (as : List Ow) : (CC (n + 1)).fn f as = runFn (CC n) WFn g as := by
  show run T WFn (n + 1) f as = _
  rw [run, h]
  rfl
theorem c0 : ∀ n, 1 ≤ n → ∀ {a0 : (Nat × (List (List Nat)))} {a1 : Nat} {rr : (List Nat)}, ecomes_to a0 a1 = some rr → (CC n).fn 0 [im ((eP2 eN (eT (eT eN))) a0), im (eN a1)] = .ret (im ((eT eN) rr)) [none, none] := by
  intro n hn a0 a1 rr h
  obtain ⟨m, rfl⟩ : ∃ m, n = m + 1 := ⟨n - 1, by omega⟩
  exact (R_at (g := fcomes_to) rfl _).trans (ecomes_to_run  h)
theorem c1 : ∀ n, 1 ≤ n → ∀ {a0 : (Nat × (List (List Nat)))} {a1 : Nat} {a2 : (List Nat)} {rr : (Option (List Nat))}, eway_into a0 a1 a2 = some rr → (CC n).fn 1 [im ((eP2 eN (eT (eT eN))) a0), im (eN a1), im ((eT eN) a2)] = .ret (im ((eO (eT eN)) rr)) [none, none, none] := by
  intro n hn a0 a1 a2 rr h
  obtain ⟨m, rfl⟩ : ∃ m, n = m + 1 := ⟨n - 1, by omega⟩
  exact (R_at (g := fway_into) rfl _).trans (eway_into_run  h)
theorem c2 : ∀ n, 2 ≤ n → ∀ {a0 : (Nat × (List (List Nat)))} {rr : (List (List Nat))}, eends a0 = some rr → (CC n).fn 2 [im ((eP2 eN (eT (eT eN))) a0)] = .ret (im ((eT (eT eN)) rr)) [none] := by
  intro n hn a0 rr h
  obtain ⟨m, rfl⟩ : ∃ m, n = m + 1 := ⟨n - 1, by omega⟩
  exact (R_at (g := fends) rfl _).trans (eends_run rfl (c0 m (by omega)) h)
theorem c4 : ∀ n, 1 ≤ n → ∀ {a0 : SrcT} {a1 : Nat} {rr : (Nat × SrcT)}, pickT a0 a1 = some rr → (CC n).fn 4 [eSrc a0, im (eN a1)] = .ret (im (eN rr.1)) [some (eSrc rr.2), none] := by
  intro n hn a0 a1 rr h
  obtain ⟨m, rfl⟩ : ∃ m, n = m + 1 := ⟨n - 1, by omega⟩
  exact (R_at (g := f_law_pick) rfl _).trans (pickT_run h (CC m))
theorem c5 : ∀ n, 2 ≤ n → ∀ {α : Type} {ea : α → Dt} {a0 : SrcT} {a1 : (List α)} {rr : (α × SrcT)}, l_of a0 a1 = some rr → (CC n).fn 5 [eSrc a0, im ((eL ea) a1)] = .ret (im (ea rr.1)) [some (eSrc rr.2), none] := by
  intro n hn α ea a0 a1 rr h
  obtain ⟨m, rfl⟩ : ∃ m, n = m + 1 := ⟨n - 1, by omega⟩
  exact (R_at (g := f_law_of) rfl _).trans (l_of_run rfl (c4 m (by omega)) h)
theorem c6 : ∀ n, 2 ≤ n → ∀ {α : Type} {ea : α → Dt} {a0 : SrcT} {a1 : (List α)} {rr : ((List α) × SrcT)}, l_mixed a0 a1 = some rr → (CC n).fn 6 [eSrc a0, im ((eL ea) a1)] = .ret (.p (.lst (rr.1.map ea))) [some (eSrc rr.2), none] := by
  intro n hn α ea a0 a1 rr h
  obtain ⟨m, rfl⟩ : ∃ m, n = m + 1 := ⟨n - 1, by omega⟩
  exact (R_at (g := f_law_mixed) rfl _).trans (l_mixed_run rfl (c4 m (by omega)) h)
theorem c7 : ∀ n, 3 ≤ n → ∀ {a0 : SrcT} {rr : ((Nat × (List (List Nat))) × SrcT)}, el_any_book a0 = some rr → (CC n).fn 7 [eSrc a0] = .ret (im ((eP2 eN (eT (eT eN))) rr.1)) [some (eSrc rr.2)] := by
  intro n hn a0 rr h
  obtain ⟨m, rfl⟩ : ∃ m, n = m + 1 := ⟨n - 1, by omega⟩
  exact (R_at (g := f_law_any_book) rfl _).trans (el_any_book_run rfl (c4 m (by omega)) rfl (c5 m (by omega)) h)
theorem c8 : ∀ n, 2 ≤ n → ∀ {a0 : SrcT} {rr : ((Nat × (List (List Nat))) × SrcT)}, el_blocks_book a0 = some rr → (CC n).fn 8 [eSrc a0] = .ret (im ((eP2 eN (eT (eT eN))) rr.1)) [some (eSrc rr.2)] := by
  intro n hn a0 rr h
  obtain ⟨m, rfl⟩ : ∃ m, n = m + 1 := ⟨n - 1, by omega⟩
  exact (R_at (g := f_law_blocks_book) rfl _).trans (el_blocks_book_run rfl (c4 m (by omega)) h)
theorem c9 : ∀ n, 2 ≤ n → ∀ {a0 : SrcT} {rr : ((Nat × (List (List Nat))) × SrcT)}, el_rings_book a0 = some rr → (CC n).fn 9 [eSrc a0] = .ret (im ((eP2 eN (eT (eT eN))) rr.1)) [some (eSrc rr.2)] := by
  intro n hn a0 rr h
  obtain ⟨m, rfl⟩ : ∃ m, n = m + 1 := ⟨n - 1, by omega⟩
  exact (R_at (g := f_law_rings_book) rfl _).trans (el_rings_book_run rfl (c4 m (by omega)) h)
theorem c10 : ∀ n, 3 ≤ n → ∀ {a0 : SrcT} {rr : ((Nat × (List (List Nat))) × SrcT)}, el_line_book a0 = some rr → (CC n).fn 10 [eSrc a0] = .ret (im ((eP2 eN (eT (eT eN))) rr.1)) [some (eSrc rr.2)] := by
  intro n hn a0 rr h
  obtain ⟨m, rfl⟩ : ∃ m, n = m + 1 := ⟨n - 1, by omega⟩
  exact (R_at (g := f_law_line_book) rfl _).trans (el_line_book_run rfl (c4 m (by omega)) rfl (c5 m (by omega)) h)
theorem c11 : ∀ n, 4 ≤ n → ∀ {a0 : SrcT} {rr : ((Nat × (List (List Nat))) × SrcT)}, el_draw_book a0 = some rr → (CC n).fn 11 [eSrc a0] = .ret (im ((eP2 eN (eT (eT eN))) rr.1)) [some (eSrc rr.2)] := by
  intro n hn a0 rr h
  obtain ⟨m, rfl⟩ : ∃ m, n = m + 1 := ⟨n - 1, by omega⟩
  exact (R_at (g := f_law_draw_book) rfl _).trans (el_draw_book_run rfl (c4 m (by omega)) rfl (c6 m (by omega)) rfl (c7 m (by omega)) rfl (c8 m (by omega)) rfl (c9 m (by omega)) rfl (c10 m (by omega)) h)
theorem c12 : ∀ n, 1 ≤ n → ∀ {a0 : (Nat × (List (List Nat)))} {a1 : Nat} {rr : (List (Nat × (List Nat)))}, el_words_from a0 a1 = some rr → (CC n).fn 12 [im ((eP2 eN (eT (eT eN))) a0), im (eN a1)] = .ret (.p (.dic (eD eN (eT eN) rr))) [none, none] := by
  intro n hn a0 a1 rr h
  obtain ⟨m, rfl⟩ : ∃ m, n = m + 1 := ⟨n - 1, by omega⟩
  exact (R_at (g := f_law_words_from) rfl _).trans (el_words_from_run  h)
theorem c13 : ∀ n, 2 ≤ n → ∀ {a0 : (Nat × (List (List Nat)))} {a1 : Nat} {rr : (List Nat)}, el_come a0 a1 = some rr → (CC n).fn 13 [im ((eP2 eN (eT (eT eN))) a0), im (eN a1)] = .ret (im ((eT eN) rr)) [none, none] := by
  intro n hn a0 a1 rr h
  obtain ⟨m, rfl⟩ : ∃ m, n = m + 1 := ⟨n - 1, by omega⟩
  exact (R_at (g := f_law_come) rfl _).trans (el_come_run rfl (c12 m (by omega)) h)
theorem c14 : ∀ n, 3 ≤ n → ∀ {a0 : (Nat × (List (List Nat)))} {rr : (List (List Nat))}, el_ends a0 = some rr → (CC n).fn 14 [im ((eP2 eN (eT (eT eN))) a0)] = .ret (im ((eT (eT eN)) rr)) [none] := by
  intro n hn a0 rr h
  obtain ⟨m, rfl⟩ : ∃ m, n = m + 1 := ⟨n - 1, by omega⟩
  exact (R_at (g := f_law_ends) rfl _).trans (el_ends_run rfl (c13 m (by omega)) h)
theorem law_true (ns : List Int) (hz : ns.length ≤ 63) : ∃ outs, run T 100000 40 15 [im (.scr ns)] = .ret (im (.bl true)) outs := by
  obtain ⟨src0, hs⟩ := source_runT (C := CC 38) (wf := WFn) hz
  show ∃ outs, (CC (39 + 1)).fn 15 [im (.scr ns)] = .ret (im (.bl true)) outs
  refine ⟨_, (R_at (n := 39) (f := 15) (g := flaw) rfl _).trans (elaw_run (scr0 := ns) (src0 := src0) rfl (c0 39 (by omega)) rfl (c1 39 (by omega)) rfl (c2 39 (by omega)) rfl ((R_at (n := 38) (g := f_law_source) rfl _).trans hs) rfl (c4 39 (by omega)) rfl (c5 39 (by omega)) rfl (c6 39 (by omega)) rfl (c11 39 (by omega)) rfl (c12 39 (by omega)) rfl (c14 39 (by omega)) (law_T src0))⟩
end Pd
set_option maxHeartbeats 4000000
namespace Pd
open PySem PySem.Spec PyProof.Rows L2
def spLaw (K : PySem.W.Frag) : Sp := spF K xv0 1 (run T 100000 40 15)
theorem all_mk {P : Program} {w : World} {K : PySem.W.Frag} {h : Heap} {mg : Str → Option Value} {fa q0 q1 q2 q3 q4 q5 q6 q7 q8 q9 q10 q11 q12 q13 q14 q15 : Addr} (X : K.In h) (G : h.Ns mainGlobals mg) (hfa : mg "law" = some (.ref fa))
    {u0 v0 : Option Addr} {s0 : Array (Option Value)} {o0 k0 c0 p0 d0 t0 : Value}
    (a0 : PySem.W.nsIn K mainGlobals "comes_to" = some (some (.ref q0))) (l0 : K.lookup q0 = some ⟨o0, u0, .func (PySem.W.fnOf "comes_to" "comes_to" (defArgs (topS 1)) (defBody (topS 1)) (defScope (topS 1)) .none k0 c0 p0 v0 d0 t0), s0⟩) (e0 : PySem.W.codeIn K d0 "comes_to" = true) (f0 : PySem.W.keepIn K (.ref q0) = true)
    {u1 v1 : Option Addr} {s1 : Array (Option Value)} {o1 k1 c1 p1 d1 t1 : Value}
    (a1 : PySem.W.nsIn K mainGlobals "way_into" = some (some (.ref q1))) (l1 : K.lookup q1 = some ⟨o1, u1, .func (PySem.W.fnOf "way_into" "way_into" (defArgs (topS 2)) (defBody (topS 2)) (defScope (topS 2)) .none k1 c1 p1 v1 d1 t1), s1⟩) (e1 : PySem.W.codeIn K d1 "way_into" = true) (f1 : PySem.W.keepIn K (.ref q1) = true)
    {u2 v2 : Option Addr} {s2 : Array (Option Value)} {o2 k2 c2 p2 d2 t2 : Value}
    (a2 : PySem.W.nsIn K mainGlobals "ends" = some (some (.ref q2))) (l2 : K.lookup q2 = some ⟨o2, u2, .func (PySem.W.fnOf "ends" "ends" (defArgs (topS 3)) (defBody (topS 3)) (defScope (topS 3)) .none k2 c2 p2 v2 d2 t2), s2⟩) (e2 : PySem.W.codeIn K d2 "ends" = true) (f2 : PySem.W.keepIn K (.ref q2) = true)
    {u3 v3 : Option Addr} {s3 : Array (Option Value)} {o3 k3 c3 p3 d3 t3 : Value}
    (a3 : PySem.W.nsIn K mainGlobals "_law_source" = some (some (.ref q3))) (l3 : K.lookup q3 = some ⟨o3, u3, .func (PySem.W.fnOf "_law_source" "_law_source" (defArgs (topS 5)) (defBody (topS 5)) (defScope (topS 5)) .none k3 c3 p3 v3 d3 t3), s3⟩) (e3 : PySem.W.codeIn K d3 "_law_source" = true) (f3 : PySem.W.keepIn K (.ref q3) = true)
    {u4 v4 : Option Addr} {s4 : Array (Option Value)} {o4 k4 c4 p4 d4 t4 : Value}
    (a4 : PySem.W.nsIn K mainGlobals "_law_pick" = some (some (.ref q4))) (l4 : K.lookup q4 = some ⟨o4, u4, .func (PySem.W.fnOf "_law_pick" "_law_pick" (defArgs (topS 6)) (defBody (topS 6)) (defScope (topS 6)) .none k4 c4 p4 v4 d4 t4), s4⟩) (e4 : PySem.W.codeIn K d4 "_law_pick" = true) (f4 : PySem.W.keepIn K (.ref q4) = true)
    {u5 v5 : Option Addr} {s5 : Array (Option Value)} {o5 k5 c5 p5 d5 t5 : Value}
    (a5 : PySem.W.nsIn K mainGlobals "_law_of" = some (some (.ref q5))) (l5 : K.lookup q5 = some ⟨o5, u5, .func (PySem.W.fnOf "_law_of" "_law_of" (defArgs (topS 7)) (defBody (topS 7)) (defScope (topS 7)) .none k5 c5 p5 v5 d5 t5), s5⟩) (e5 : PySem.W.codeIn K d5 "_law_of" = true) (f5 : PySem.W.keepIn K (.ref q5) = true)
    {u6 v6 : Option Addr} {s6 : Array (Option Value)} {o6 k6 c6 p6 d6 t6 : Value}
    (a6 : PySem.W.nsIn K mainGlobals "_law_mixed" = some (some (.ref q6))) (l6 : K.lookup q6 = some ⟨o6, u6, .func (PySem.W.fnOf "_law_mixed" "_law_mixed" (defArgs (topS 8)) (defBody (topS 8)) (defScope (topS 8)) .none k6 c6 p6 v6 d6 t6), s6⟩) (e6 : PySem.W.codeIn K d6 "_law_mixed" = true) (f6 : PySem.W.keepIn K (.ref q6) = true)
    {u7 v7 : Option Addr} {s7 : Array (Option Value)} {o7 k7 c7 p7 d7 t7 : Value}
    (a7 : PySem.W.nsIn K mainGlobals "_law_any_book" = some (some (.ref q7))) (l7 : K.lookup q7 = some ⟨o7, u7, .func (PySem.W.fnOf "_law_any_book" "_law_any_book" (defArgs (topS 9)) (defBody (topS 9)) (defScope (topS 9)) .none k7 c7 p7 v7 d7 t7), s7⟩) (e7 : PySem.W.codeIn K d7 "_law_any_book" = true) (f7 : PySem.W.keepIn K (.ref q7) = true)
    {u8 v8 : Option Addr} {s8 : Array (Option Value)} {o8 k8 c8 p8 d8 t8 : Value}
    (a8 : PySem.W.nsIn K mainGlobals "_law_blocks_book" = some (some (.ref q8))) (l8 : K.lookup q8 = some ⟨o8, u8, .func (PySem.W.fnOf "_law_blocks_book" "_law_blocks_book" (defArgs (topS 10)) (defBody (topS 10)) (defScope (topS 10)) .none k8 c8 p8 v8 d8 t8), s8⟩) (e8 : PySem.W.codeIn K d8 "_law_blocks_book" = true) (f8 : PySem.W.keepIn K (.ref q8) = true)
    {u9 v9 : Option Addr} {s9 : Array (Option Value)} {o9 k9 c9 p9 d9 t9 : Value}
    (a9 : PySem.W.nsIn K mainGlobals "_law_rings_book" = some (some (.ref q9))) (l9 : K.lookup q9 = some ⟨o9, u9, .func (PySem.W.fnOf "_law_rings_book" "_law_rings_book" (defArgs (topS 11)) (defBody (topS 11)) (defScope (topS 11)) .none k9 c9 p9 v9 d9 t9), s9⟩) (e9 : PySem.W.codeIn K d9 "_law_rings_book" = true) (f9 : PySem.W.keepIn K (.ref q9) = true)
    {u10 v10 : Option Addr} {s10 : Array (Option Value)} {o10 k10 c10 p10 d10 t10 : Value}
    (a10 : PySem.W.nsIn K mainGlobals "_law_line_book" = some (some (.ref q10))) (l10 : K.lookup q10 = some ⟨o10, u10, .func (PySem.W.fnOf "_law_line_book" "_law_line_book" (defArgs (topS 12)) (defBody (topS 12)) (defScope (topS 12)) .none k10 c10 p10 v10 d10 t10), s10⟩) (e10 : PySem.W.codeIn K d10 "_law_line_book" = true) (f10 : PySem.W.keepIn K (.ref q10) = true)
    {u11 v11 : Option Addr} {s11 : Array (Option Value)} {o11 k11 c11 p11 d11 t11 : Value}
    (a11 : PySem.W.nsIn K mainGlobals "_law_draw_book" = some (some (.ref q11))) (l11 : K.lookup q11 = some ⟨o11, u11, .func (PySem.W.fnOf "_law_draw_book" "_law_draw_book" (defArgs (topS 13)) (defBody (topS 13)) (defScope (topS 13)) .none k11 c11 p11 v11 d11 t11), s11⟩) (e11 : PySem.W.codeIn K d11 "_law_draw_book" = true) (f11 : PySem.W.keepIn K (.ref q11) = true)
    {u12 v12 : Option Addr} {s12 : Array (Option Value)} {o12 k12 c12 p12 d12 t12 : Value}
    (a12 : PySem.W.nsIn K mainGlobals "_law_words_from" = some (some (.ref q12))) (l12 : K.lookup q12 = some ⟨o12, u12, .func (PySem.W.fnOf "_law_words_from" "_law_words_from" (defArgs (topS 14)) (defBody (topS 14)) (defScope (topS 14)) .none k12 c12 p12 v12 d12 t12), s12⟩) (e12 : PySem.W.codeIn K d12 "_law_words_from" = true) (f12 : PySem.W.keepIn K (.ref q12) = true)
    {u13 v13 : Option Addr} {s13 : Array (Option Value)} {o13 k13 c13 p13 d13 t13 : Value}
    (a13 : PySem.W.nsIn K mainGlobals "_law_come" = some (some (.ref q13))) (l13 : K.lookup q13 = some ⟨o13, u13, .func (PySem.W.fnOf "_law_come" "_law_come" (defArgs (topS 15)) (defBody (topS 15)) (defScope (topS 15)) .none k13 c13 p13 v13 d13 t13), s13⟩) (e13 : PySem.W.codeIn K d13 "_law_come" = true) (f13 : PySem.W.keepIn K (.ref q13) = true)
    {u14 v14 : Option Addr} {s14 : Array (Option Value)} {o14 k14 c14 p14 d14 t14 : Value}
    (a14 : PySem.W.nsIn K mainGlobals "_law_ends" = some (some (.ref q14))) (l14 : K.lookup q14 = some ⟨o14, u14, .func (PySem.W.fnOf "_law_ends" "_law_ends" (defArgs (topS 16)) (defBody (topS 16)) (defScope (topS 16)) .none k14 c14 p14 v14 d14 t14), s14⟩) (e14 : PySem.W.codeIn K d14 "_law_ends" = true) (f14 : PySem.W.keepIn K (.ref q14) = true)
    {u15 v15 : Option Addr} {s15 : Array (Option Value)} {o15 k15 c15 p15 d15 t15 : Value}
    (a15 : PySem.W.nsIn K mainGlobals "law" = some (some (.ref q15))) (l15 : K.lookup q15 = some ⟨o15, u15, .func (PySem.W.fnOf "law" "law" (defArgs (topS 17)) (defBody (topS 17)) (defScope (topS 17)) .none k15 c15 p15 v15 d15 t15), s15⟩) (e15 : PySem.W.codeIn K d15 "law" = true) (f15 : PySem.W.keepIn K (.ref q15) = true)
    (z_len : PySem.W.nsIn K mainGlobals "len" = some none)
    (z_abs : PySem.W.nsIn K mainGlobals "abs" = some none)
    (z_max : PySem.W.nsIn K mainGlobals "max" = some none)
    (z_min : PySem.W.nsIn K mainGlobals "min" = some none)
    (z_int : PySem.W.nsIn K mainGlobals "int" = some none)
    (z_str : PySem.W.nsIn K mainGlobals "str" = some none)
    (z_repr : PySem.W.nsIn K mainGlobals "repr" = some none)
    (z_tuple : PySem.W.nsIn K mainGlobals "tuple" = some none)
    (z_list : PySem.W.nsIn K mainGlobals "list" = some none)
    (z_sorted : PySem.W.nsIn K mainGlobals "sorted" = some none)
    (z_sum : PySem.W.nsIn K mainGlobals "sum" = some none)
    (z_any : PySem.W.nsIn K mainGlobals "any" = some none)
    (z_all : PySem.W.nsIn K mainGlobals "all" = some none)
    (z_range : PySem.W.nsIn K mainGlobals "range" = some none)
    (z_enumerate : PySem.W.nsIn K mainGlobals "enumerate" = some none)
    (z_zip : PySem.W.nsIn K mainGlobals "zip" = some none)
    : ∃ fd : FuncData, (∀ (s : Shared) (v : Value), BindsTo s fd ⟨[v], []⟩ [("script", v)]) ∧ ∀ base : Heap, FnG P w K mg base 40 fa fd ["script"] (spLaw K) := by
  have e := hfa.symm.trans (PySem.W.mg_of X G a15)
  cases e
  have F0 := fun_mk (st := topS 1) l0 e0 f0
  have B0 := F0.binds (ps := ["book", "p"]) fun _ _ _ _ _ _ us hl => match us, hl with | [_, _], _ => rfl
  have F1 := fun_mk (st := topS 2) l1 e1 f1
  have B1 := F1.binds (ps := ["book", "p", "lot"]) fun _ _ _ _ _ _ us hl => match us, hl with | [_, _, _], _ => rfl
  have F2 := fun_mk (st := topS 3) l2 e2 f2
  have B2 := F2.binds (ps := ["book"]) fun _ _ _ _ _ _ us hl => match us, hl with | [_], _ => rfl
  have F3 := fun_mk (st := topS 5) l3 e3 f3
  have B3 := F3.binds (ps := ["script"]) fun _ _ _ _ _ _ us hl => match us, hl with | [_], _ => rfl
  have F4 := fun_mk (st := topS 6) l4 e4 f4
  have B4 := F4.binds (ps := ["source", "many"]) fun _ _ _ _ _ _ us hl => match us, hl with | [_, _], _ => rfl
  have F5 := fun_mk (st := topS 7) l5 e5 f5
  have B5 := F5.binds (ps := ["source", "some"]) fun _ _ _ _ _ _ us hl => match us, hl with | [_, _], _ => rfl
  have F6 := fun_mk (st := topS 8) l6 e6 f6
  have B6 := F6.binds (ps := ["source", "things"]) fun _ _ _ _ _ _ us hl => match us, hl with | [_, _], _ => rfl
  have F7 := fun_mk (st := topS 9) l7 e7 f7
  have B7 := F7.binds (ps := ["source"]) fun _ _ _ _ _ _ us hl => match us, hl with | [_], _ => rfl
  have F8 := fun_mk (st := topS 10) l8 e8 f8
  have B8 := F8.binds (ps := ["source"]) fun _ _ _ _ _ _ us hl => match us, hl with | [_], _ => rfl
  have F9 := fun_mk (st := topS 11) l9 e9 f9
  have B9 := F9.binds (ps := ["source"]) fun _ _ _ _ _ _ us hl => match us, hl with | [_], _ => rfl
  have F10 := fun_mk (st := topS 12) l10 e10 f10
  have B10 := F10.binds (ps := ["source"]) fun _ _ _ _ _ _ us hl => match us, hl with | [_], _ => rfl
  have F11 := fun_mk (st := topS 13) l11 e11 f11
  have B11 := F11.binds (ps := ["source"]) fun _ _ _ _ _ _ us hl => match us, hl with | [_], _ => rfl
  have F12 := fun_mk (st := topS 14) l12 e12 f12
  have B12 := F12.binds (ps := ["book", "p"]) fun _ _ _ _ _ _ us hl => match us, hl with | [_, _], _ => rfl
  have F13 := fun_mk (st := topS 15) l13 e13 f13
  have B13 := F13.binds (ps := ["book", "p"]) fun _ _ _ _ _ _ us hl => match us, hl with | [_, _], _ => rfl
  have F14 := fun_mk (st := topS 16) l14 e14 f14
  have B14 := F14.binds (ps := ["book"]) fun _ _ _ _ _ _ us hl => match us, hl with | [_], _ => rfl
  have F15 := fun_mk (st := topS 17) l15 e15 f15
  have B15 := F15.binds (ps := ["script"]) fun _ _ _ _ _ _ us hl => match us, hl with | [_], _ => rfl
  have fns : FnsOk K mg dfs := .cons ⟨_, _, PySem.W.mg_of X G a0, F0, B0⟩ (.cons ⟨_, _, PySem.W.mg_of X G a1, F1, B1⟩ (.cons ⟨_, _, PySem.W.mg_of X G a2, F2, B2⟩ (.cons ⟨_, _, PySem.W.mg_of X G a3, F3, B3⟩ (.cons ⟨_, _, PySem.W.mg_of X G a4, F4, B4⟩ (.cons ⟨_, _, PySem.W.mg_of X G a5, F5, B5⟩ (.cons ⟨_, _, PySem.W.mg_of X G a6, F6, B6⟩ (.cons ⟨_, _, PySem.W.mg_of X G a7, F7, B7⟩ (.cons ⟨_, _, PySem.W.mg_of X G a8, F8, B8⟩ (.cons ⟨_, _, PySem.W.mg_of X G a9, F9, B9⟩ (.cons ⟨_, _, PySem.W.mg_of X G a10, F10, B10⟩ (.cons ⟨_, _, PySem.W.mg_of X G a11, F11, B11⟩ (.cons ⟨_, _, PySem.W.mg_of X G a12, F12, B12⟩ (.cons ⟨_, _, PySem.W.mg_of X G a13, F13, B13⟩ (.cons ⟨_, _, PySem.W.mg_of X G a14, F14, B14⟩ (.cons ⟨_, _, PySem.W.mg_of X G a15, F15, B15⟩ (.nil))))))))))))))))
  have pf : PF K mg dfs [] := ⟨fns.get, fun b => by cases b <;> first | exact PySem.W.mg_none_of X G z_len | exact PySem.W.mg_none_of X G z_abs | exact PySem.W.mg_none_of X G z_max | exact PySem.W.mg_none_of X G z_min | exact PySem.W.mg_none_of X G z_int | exact PySem.W.mg_none_of X G z_str | exact PySem.W.mg_none_of X G z_repr | exact PySem.W.mg_none_of X G z_tuple | exact PySem.W.mg_none_of X G z_list | exact PySem.W.mg_none_of X G z_sorted | exact PySem.W.mg_none_of X G z_sum | exact PySem.W.mg_none_of X G z_any | exact PySem.W.mg_none_of X G z_all | exact PySem.W.mg_none_of X G z_range | exact PySem.W.mg_none_of X G z_enumerate | exact PySem.W.mg_none_of X G z_zip, fun x d e => by cases e⟩
  exact ⟨_, fun s v => .of_eq rfl, fun base => prog_fn pf T_read T_ok 40 15 _ _ _ rfl (PySem.W.mg_of X G a15) F15 B15⟩
end Pd
open PySem PySem.W PyProof.Rows
set_option maxRecDepth 100000 in
set_option maxHeartbeats 0 in
theorem PySem.Challenge.cw_drawndeeds_k55_whole_ends_holds : PySem.Challenge.rw_drawndeeds_k55_whole_ends.Holds := by
  w_on; o_law; k_head; (case hw => w_witness2)
  k_fill
  refine Pd.walk_G (l := PySem.Challenge.rw_drawndeeds_k55_whole_ends) (n := 63) (k := 40) (x := "script") (sp := fun w => Pd.spLaw _) rfl (by decide) rfl (Pd.room_top (by decide)) (fun w h Y => PySem.W.kIn_of Y) ?F (fun w H a ns hl hO hS => Pd.law_sp hS (Pd.law_true ns hl))
  case F =>
    intro w mg fa h KX G hmg
    refine' Pd.all_mk KX G hmg ?a0 ?l0 ?e0 ?f0 ?a1 ?l1 ?e1 ?f1 ?a2 ?l2 ?e2 ?f2 ?a3 ?l3 ?e3 ?f3 ?a4 ?l4 ?e4 ?f4 ?a5 ?l5 ?e5 ?f5 ?a6 ?l6 ?e6 ?f6 ?a7 ?l7 ?e7 ?f7 ?a8 ?l8 ?e8 ?f8 ?a9 ?l9 ?e9 ?f9 ?a10 ?l10 ?e10 ?f10 ?a11 ?l11 ?e11 ?f11 ?a12 ?l12 ?e12 ?f12 ?a13 ?l13 ?e13 ?f13 ?a14 ?l14 ?e14 ?f14 ?a15 ?l15 ?e15 ?f15 ?z_len ?z_abs ?z_max ?z_min ?z_int ?z_str ?z_repr ?z_tuple ?z_list ?z_sorted ?z_sum ?z_any ?z_all ?z_range ?z_enumerate ?z_zip
    (case a0 => k_is); (case l0 => k_is); (case e0 => k_is); (case f0 => k_is); (case a1 => k_is); (case l1 => k_is); (case e1 => k_is); (case f1 => k_is); (case a2 => k_is); (case l2 => k_is); (case e2 => k_is); (case f2 => k_is); (case a3 => k_is); (case l3 => k_is); (case e3 => k_is); (case f3 => k_is); (case a4 => k_is); (case l4 => k_is); (case e4 => k_is); (case f4 => k_is); (case a5 => k_is); (case l5 => k_is); (case e5 => k_is); (case f5 => k_is); (case a6 => k_is); (case l6 => k_is); (case e6 => k_is); (case f6 => k_is); (case a7 => k_is); (case l7 => k_is); (case e7 => k_is); (case f7 => k_is); (case a8 => k_is); (case l8 => k_is); (case e8 => k_is); (case f8 => k_is); (case a9 => k_is); (case l9 => k_is); (case e9 => k_is); (case f9 => k_is); (case a10 => k_is); (case l10 => k_is); (case e10 => k_is); (case f10 => k_is); (case a11 => k_is); (case l11 => k_is); (case e11 => k_is); (case f11 => k_is); (case a12 => k_is); (case l12 => k_is); (case e12 => k_is); (case f12 => k_is); (case a13 => k_is); (case l13 => k_is); (case e13 => k_is); (case f13 => k_is); (case a14 => k_is); (case l14 => k_is); (case e14 => k_is); (case f14 => k_is); (case a15 => k_is); (case l15 => k_is); (case e15 => k_is); (case f15 => k_is); (case z_len => k_is); (case z_abs => k_is); (case z_max => k_is); (case z_min => k_is); (case z_int => k_is); (case z_str => k_is); (case z_repr => k_is); (case z_tuple => k_is); (case z_list => k_is); (case z_sorted => k_is); (case z_sum => k_is); (case z_any => k_is); (case z_all => k_is); (case z_range => k_is); (case z_enumerate => k_is); (case z_zip => k_is)
