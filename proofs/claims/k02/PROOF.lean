import PyProof.Rows.All
import Wide.All
import OpenK.AllK
import Wide.FinOn
import HandS.ForMost
import HandS.Exc
import HandS.TryOnly
import HandS.ExcOwn
import HandS.WordsExc
import HandS.Conv
import HandS.Flow
import HandS.Wide
import HandS.TupAny
import HandS.SortInts
import HandS.Deep
import HandS.Zip
import HandS.Style
import PyProof.ReprRoads
import HandS.TupMul
import HandS.TupLen
import HandS.RaiseMore
import KE.KSortedM
import PyProof.Draws
import PyProof.EnumMake
import HandS.Zip0
import HandS.Star
import HandS.Small
import PySem.Challenge.RW_drawndeeds_k02_whole_deeds_done
set_option Elab.async false
set_option linter.all false
set_option maxRecDepth 100000
set_option maxHeartbeats 4000000
/-! Pd: Python as plain data. Part 1: data, the small language, what it does. -/
namespace Pd
open PySem

/-- data that never changes again -/
inductive Dt where
  | non | bl (b : Bool) | int (i : Int) | str (x : Str)
  | tup (xs : List Dt) | lst (xs : List Dt) | dic (kvs : List (Dt × Dt))
  /-- the script -/
  | scr (is : List Int)
  deriving Inhabited
/-- an object that one name alone holds, one level -/
inductive Ow1 where
  | imm (d : Dt) | lst (xs : List Dt) | dic (kvs : List (Dt × Dt))
  deriving Inhabited
/-- what a slot holds -/
inductive Ow where
  | p (o : Ow1) | lk (d : Dt) | rc (fs : List (Str × Ow1))
  deriving Inhabited
abbrev im (d : Dt) : Ow := .p (.imm d)
abbrev En := List (Option Ow)
inductive Rs (α : Type) where
  | ok (a : α) (e : En) | exc (x : Dt) (e : En) | no

mutual
def Dt.py : Dt → Option PyData
  | .non => some .none
  | .bl b => some (.bool b)
  | .int i => some (.int i)
  | .str x => some (.str x)
  | .tup xs => match pyL xs with | some ys => some (.tuple ys) | none => none
  | .lst xs => match pyL xs with | some ys => some (.list ys) | none => none
  | .dic _ => none
  | .scr _ => none
def pyL : List Dt → Option (List PyData)
  | [] => some []
  | x :: xs => match Dt.py x with
    | some y => match pyL xs with | some ys => some (y :: ys) | none => none
    | none => none
end

/-- is it a list or a dict -/
def Dt.box : Dt → Bool
  | .lst _ => true
  | .dic _ => true
  | _ => false
def Ow1.dt : Ow1 → Dt
  | .imm d => d
  | .lst xs => .lst xs
  | .dic kvs => .dic kvs
def Ow1.isImm : Ow1 → Bool
  | .imm _ => true
  | _ => false
/-- what is seen of it now -/
def Ow.vw : Ow → Option Dt
  | .p o => some o.dt
  | .lk d => some d
  | .rc _ => none
/-- what it is when it is shared from now on -/
def Ow.frz : Ow → Option Dt
  | .p o => some o.dt
  | _ => none

/-- a parameter: its object is lent and handed back; it is shared from now on -/
inductive Md where
  | mu | sh
  deriving DecidableEq

/-! ### what is reckoned at once -/
inductive Pr where
  | add | sub | mul | fdiv | mod | pow | neg
  | eq | ne | lt | le | gt | ge | isN | notN | isB (b : Bool) | isIn | notIn
  | len | ix | cut (lo hi : Bool) | rev | abs | max2 | min2 | int | str | repr | tuple | list | lrng
  | sorted | sum | maxL | minL | any | all
  deriving DecidableEq

def toInts : List Dt → Option (List Int)
  | [] => some []
  | .int i :: xs => match toInts xs with | some is => some (i :: is) | none => none
  | _ :: _ => none
def toBls : List Dt → Option (List Bool)
  | [] => some []
  | .bl i :: xs => match toBls xs with | some is => some (i :: is) | none => none
  | _ :: _ => none
/-- a place in a sequence, also from its end -/
def atD (xs : List Dt) (i : Int) : Option Dt :=
  if 0 ≤ i then xs[i.toNat]? else if -(xs.length : Int) ≤ i then xs[(i + xs.length).toNat]? else none
def cutN (n d : Nat) (v : Int) : Nat := if v < 0 then (v + (n : Int)).toNat else min v.toNat n
def cutD (xs : List Dt) (lo hi : Option Int) : List Dt :=
  let a := match lo with | none => 0 | some v => cutN xs.length 0 v
  let b := match hi with | none => xs.length | some v => cutN xs.length 0 v
  (xs.drop a).take (b - a)
def insI (x : Int) : List Int → List Int
  | [] => [x]
  | y :: ys => if x ≤ y then x :: y :: ys else y :: insI x ys
def sortI : List Int → List Int
  | [] => []
  | x :: xs => insI x (sortI xs)
def lexLt : List Int → List Int → Bool
  | [], [] => false
  | [], _ :: _ => true
  | _ :: _, [] => false
  | x :: xs, y :: ys => if x = y then lexLt xs ys else decide (x < y)
def keyOk : Dt → Bool
  | .int _ => true
  | .str _ => true
  | _ => false
/-- two keys (toInts, texts, tuples of them) are the same -/
def Dt.key : Dt → Option (Sum (Sum Int Str) (List (Sum Int Str)))
  | .int i => some (.inl (.inl i))
  | .str x => some (.inl (.inr x))
  | .tup xs => (go xs).map .inr
  | _ => none
where go : List Dt → Option (List (Sum Int Str))
  | [] => some []
  | .int i :: r => match go r with | some ks => some (.inl i :: ks) | none => none
  | .str x :: r => match go r with | some ks => some (.inr x :: ks) | none => none
  | _ :: _ => none
def findK (k : Sum (Sum Int Str) (List (Sum Int Str))) : List (Dt × Dt) → Option Dt
  | [] => none
  | (a, b) :: r => if a.key = some k then some b else findK k r
/-- the dict has keys of this kind (or none) -/
def kOk (k : Sum (Sum Int Str) (List (Sum Int Str))) : List (Dt × Dt) → Bool
  | [] => true
  | (a, _) :: _ => match a.key, k with
    | some (.inl _), .inl _ => true
    | some (.inr _), .inr _ => true
    | _, _ => false
def putD (k : Sum (Sum Int Str) (List (Sum Int Str))) (kd v : Dt) (kvs : List (Dt × Dt)) : List (Dt × Dt) :=
  if kvs.any (fun p => decide (p.1.key = some k)) then kvs.map (fun p => if p.1.key = some k then (p.1, v) else p) else kvs ++ [(kd, v)]
/-- a display's pairs, key and value by turns -/
def mkD : List Dt → List (Dt × Dt) → Option (List (Dt × Dt))
  | [], acc => some acc
  | k :: v :: r, acc => match k.key with | some (.inl q) => mkD r (putD (.inl q) k v acc) | _ => none
  | [_], _ => none
def eqvD (a b : Dt) : Option Bool :=
  match a.py, b.py with
  | some x, some y => if SeqAt.shaped x && SeqAt.shaped y then some (PyData.eqv x y) else none
  | _, _ => none
def inD (x : Dt) (ds : List Dt) : Option Bool :=
  match x.py, pyL ds with
  | some d, some es => if SeqAt.shaped d && SeqAt.shaped (.list es) then some (es.any fun z => PyData.eqv z d) else none
  | _, _ => none
def flatD : Dt → Bool
  | .int _ => true
  | .str _ => true
  | .non => true
  | _ => false
def eqF : Dt → Dt → Bool
  | .int i, .int j => i == j
  | .str x, .str y => x == y
  | .non, .non => true
  | _, _ => false
def mostL : Int → List Int → Int
  | m, [] => m
  | m, x :: xs => mostL (if m < x then x else m) xs
def leastL : Int → List Int → Int
  | m, [] => m
  | m, x :: xs => leastL (if x < m then x else m) xs

def Dt.isN : Dt → Bool
  | .non => true
  | _ => false
def okMul (a b : Int) : Bool := decide (a.natAbs < 2 ^ 64) || decide (b.natAbs < 2 ^ 64) || decide (a.natAbs.log2 + b.natAbs.log2 < 1000000)
def i1 (d : Dt) : Option Ow1 := some (.imm d)

/-- what a pure operation gives -/
def Pr.sem : Pr → List Dt → Option Ow1
  | .add, [.int a, .int b] => i1 (.int (a + b))
  | .add, [.str a, .str b] => if a.length + b.length ≤ sizeLine then i1 (.str (a ++ b)) else none
  | .add, [.tup a, .tup b] => if a.length + b.length ≤ sizeLine then i1 (.tup (a ++ b)) else none
  | .add, [.lst a, .lst b] => if a.length + b.length ≤ sizeLine then some (.lst (a ++ b)) else none
  | .sub, [.int a, .int b] => i1 (.int (a - b))
  | .mul, [.int a, .int b] => if okMul a b then i1 (.int (a * b)) else none
  | .mul, [.lst a, .int k] => if -(2 ^ 63) ≤ k ∧ k < 2 ^ 63 ∧ a.length * k.toNat ≤ sizeLine then some (.lst (List.replicate k.toNat a).flatten) else none
  | .mul, [.tup a, .int k] => if -(2 ^ 63) ≤ k ∧ k < 2 ^ 63 ∧ a.length * k.toNat ≤ sizeLine then i1 (.tup (List.replicate k.toNat a).flatten) else none
  | .fdiv, [.int a, .int b] => if 0 < b ∧ b.natAbs.log2 < 9000 then i1 (.int (a / b)) else none
  | .mod, [.int a, .int b] => if 0 < b then i1 (.int (a % b)) else none
  | .pow, [.int a, .int b] => if 0 ≤ b ∧ b ≤ 1000000 ∧ a.natAbs < 2 ^ 64 then i1 (.int (a ^ b.toNat)) else none
  | .neg, [.int a] => i1 (.int (-a))
  | .eq, [a, b] => match eqvD a b with | some r => i1 (.bl r) | none => none
  | .ne, [a, b] => match eqvD a b with | some r => i1 (.bl (!r)) | none => none
  | .lt, [.int a, .int b] => i1 (.bl (decide (a < b)))
  | .le, [.int a, .int b] => i1 (.bl (decide (a ≤ b)))
  | .gt, [.int a, .int b] => i1 (.bl (decide (b < a)))
  | .ge, [.int a, .int b] => i1 (.bl (decide (b ≤ a)))
  | .lt, [.tup a, .tup b] => match toInts a, toInts b with | some x, some y => i1 (.bl (lexLt x y)) | _, _ => none
  | .isN, [a] => i1 (.bl a.isN)
  | .notN, [a] => i1 (.bl (!a.isN))
  | .isB k, [.bl b] => i1 (.bl (b == k))
  | .isIn, [x, .lst ds] => match inD x ds with | some r => i1 (.bl r) | none => none
  | .notIn, [x, .lst ds] => match inD x ds with | some r => i1 (.bl (!r)) | none => none
  | .isIn, [x, .tup ds] => if flatD x && ds.all flatD then i1 (.bl (ds.any fun z => eqF z x)) else none
  | .notIn, [x, .tup ds] => if flatD x && ds.all flatD then i1 (.bl (!ds.any fun z => eqF z x)) else none
  | .isIn, [x, .dic kvs] => match x.key with | some k => if kOk k kvs then i1 (.bl (findK k kvs).isSome) else none | none => none
  | .notIn, [x, .dic kvs] => match x.key with | some k => if kOk k kvs then i1 (.bl (!(findK k kvs).isSome)) else none | none => none
  | .len, [.lst a] => i1 (.int a.length)
  | .len, [.tup a] => i1 (.int a.length)
  | .len, [.dic a] => i1 (.int a.length)
  | .len, [.scr a] => i1 (.int a.length)
  | .len, [.str a] => if a.length ≤ sizeLine then i1 (.int a.length) else none
  | .ix, [.lst a, .int i] => match atD a i with | some d => i1 d | none => none
  | .ix, [.tup a, .int i] => match atD a i with | some d => i1 d | none => none
  | .ix, [.dic a, k] => match k.key with
    | some k => if kOk k a then match findK k a with | some d => i1 d | none => none else none
    | none => none
  | .cut false false, [.lst a] => some (.lst a)
  | .cut true false, [.lst a, .int i] => some (.lst (cutD a (some i) none))
  | .cut false true, [.lst a, .int i] => some (.lst (cutD a none (some i)))
  | .cut true true, [.lst a, .int i, .int j] => some (.lst (cutD a (some i) (some j)))
  | .cut true false, [.tup a, .int i] => i1 (.tup (cutD a (some i) none))
  | .cut false true, [.tup a, .int i] => i1 (.tup (cutD a none (some i)))
  | .cut true true, [.tup a, .int i, .int j] => i1 (.tup (cutD a (some i) (some j)))
  | .rev, [.lst a] => some (.lst a.reverse)
  | .abs, [.int a] => i1 (.int (if a < 0 then -a else a))
  | .max2, [.int a, .int b] => i1 (.int (if b > a then b else a))
  | .min2, [.int a, .int b] => i1 (.int (if b < a then b else a))
  | .int, [.int a] => i1 (.int a)
  | .int, [.bl b] => i1 (.int (if b then 1 else 0))
  | .str, [.int a] => if a.natAbs.log2 < 1920 then i1 (.str (toString a)) else none
  | .str, [.str a] => i1 (.str a)
  | .repr, [a] => match a.py with
    | some d => if d.showable && !d.hasDict && decide (d.depth ≤ 60) && decide (d.shown.length ≤ sizeLine) then i1 (.str d.shown) else none
    | none => none
  | .tuple, [.lst a] => i1 (.tup a)
  | .tuple, [.tup a] => i1 (.tup a)
  | .list, [.lst a] => some (.lst a)
  | .list, [.tup a] => some (.lst a)
  | .lrng, [.int n] => if 0 ≤ n ∧ n ≤ 16777216 then some (.lst ((List.range n.toNat).map fun (i : Nat) => Dt.int (i : Int))) else none
  | .sorted, [.lst a] => match toInts a with | some is => some (.lst ((sortI is).map .int)) | none => none
  | .sum, [.lst a] => match toInts a with | some is => i1 (.int is.sum) | none => none
  | .maxL, [.lst a] => match toInts a with | some (i :: is) => i1 (.int (mostL i is)) | _ => none
  | .minL, [.lst a] => match toInts a with | some (i :: is) => i1 (.int (leastL i is)) | _ => none
  | .any, [.lst a] => match toBls a with | some is => i1 (.bl (is.any id)) | none => none
  | .all, [.lst a] => match toBls a with | some is => i1 (.bl (is.all id)) | none => none
  | _, _ => none

/-- whether it counts as true -/
def Dt.tru : Dt → Option Bool
  | .non => some false
  | .bl b => some b
  | .int i => some (i != 0)
  | .str x => if x.length ≤ sizeLine then some (x.length != 0) else none
  | .tup xs => some (!xs.isEmpty)
  | .lst xs => some (!xs.isEmpty)
  | .dic _ => none
  | .scr _ => none

/-! ### the language -/
inductive Tg where
  | nm (i : Nat) | tp (is : List Nat)
mutual
inductive Ex where
  | cst (d : Dt)
  | var (i : Nat)
  | fld (i : Nat) (f : Str)
  | tup (es : Exs)
  | lst (es : Exs)
  | rcd (ks : List Str) (es : Exs)
  | pr (q : Pr) (os : Ops)
  | lenF (i : Nat) (f : Str)
  | popF (i : Nat) (f : Str)
  | pop (i : Nat)
  | popAt (i : Nat) (e : Ex)
  | app (i : Nat) (e : Ex)
  | call (f : Nat) (os : Ops)
  | cond (t : Te) (a b : Ex)
  | land (a b : Ex)
  | lor (a b : Ex)
  | lnot (o : Op)
  | dnew
  | dmk (es : Exs)
  | lc (el : Ex) (tg : Tg) (it : Ir) (ifs : Tes) (own : List Nat)
inductive Exs where
  | nil | cons (e : Ex) (es : Exs) | star (o : Op) (es : Exs)
inductive Op where
  | v (i : Nat) | e (x : Ex)
inductive Ops where
  | nil | cons (o : Op) (os : Ops)
inductive Te where
  | tr (o : Op) | land (a b : Te) | lor (a b : Te) | lnot (a : Te)
inductive Tes where
  | nil | one (t : Te)
inductive Ir where
  | op (o : Op) | rng1 (e : Ex) | rng2 (a b : Ex) | enum (o : Op) | zip (a b : Op)
end
mutual
inductive Sm where
  | asg (i : Nat) (e : Ex)
  | asgT (is : List Nat) (es : Exs)
  | unp (is : List Nat) (o : Op)
  | setI (i : Nat) (k e : Ex)
  | setF (i : Nat) (f : Str) (e : Ex)
  | aug (i : Nat) (q : Pr) (e : Ex)
  | expr (e : Ex)
  | ret (e : Ex)
  | retV (i : Nat)
  | retN
  | ite (t : Te) (a b : Sms)
  | fors (tg : Tg) (it : Ir) (b : Sms)
  | whl (t : Te) (b : Sms)
  | bad
inductive Sms where
  | nil | cons (s : Sm) (ss : Sms)
end

/-! ### what it does -/
/-- the answer of a call: the value, what the parameters' objects are behind it -/
inductive Cr where
  | ret (o : Ow) (outs : List (Option Ow)) | exc (x : Dt) (outs : List (Option Ow)) | no
/-- the answers of calls; how the parameters are passed -/
structure Cl where
  md : Nat → List Md
  fn : Nat → List Ow → Cr

abbrev Tm := Sum Nat Ow
def getE (env : En) (i : Nat) : Option Ow := match env[i]? with | some (some o) => some o | _ => none
def Tm.vw (env : En) : Tm → Option Dt
  | .inl i => match getE env i with | some o => o.vw | none => none
  | .inr o => o.vw
def isLst : Option Ow → Bool
  | some (.p (.lst _)) => true
  | _ => false
def vws (env : En) : List Tm → Option (List Dt)
  | [] => some []
  | t :: ts => match Tm.vw env t with
    | some d => match vws env ts with | some ds => some (d :: ds) | none => none
    | none => none
/-- the arguments as the parameters want them: the slots' objects may be shared by it -/
def args : List Md → List Tm → En → Option (List Ow × En)
  | [], [], env => some ([], env)
  | .mu :: ms, .inl i :: ts, env => match getE env i with
    | some (.lk _) => none
    | some o => match args ms ts (env.set i none) with | some (as, e) => some (o :: as, e) | none => none
    | none => none
  | .sh :: ms, .inl i :: ts, env => match getE env i with
    | some (.p o) => match args ms ts (env.set i (some (im o.dt))) with | some (as, e) => some (im o.dt :: as, e) | none => none
    | _ => none
  | .mu :: ms, .inr (.lk _) :: ts, env => none
  | .mu :: ms, .inr o :: ts, env => match args ms ts env with | some (as, e) => some (o :: as, e) | none => none
  | .sh :: ms, .inr (.p o) :: ts, env => match args ms ts env with | some (as, e) => some (im o.dt :: as, e) | none => none
  | _, _, _ => none
/-- behind a call: the changed objects are in their slots again -/
def backs : List Md → List Tm → List (Option Ow) → En → En
  | .mu :: ms, .inl i :: ts, o :: os, env => backs ms ts os (env.set i o)
  | _ :: ms, _ :: ts, _ :: os, env => backs ms ts os env
  | _, _, _, env => env

def tgSet : Tg → Dt → En → Option En
  | .nm i, d, env => some (env.set i (some (im d)))
  | .tp is, .tup ds, env => if is.length = ds.length then some (go is ds env) else none
  | _, _, _ => none
where go : List Nat → List Dt → En → En
  | i :: is, d :: ds, env => go is ds (env.set i (some (im d)))
  | _, _, env => env
def wipeE (env : En) : List Nat → En
  | [] => env
  | v :: vs => (wipeE env vs).set v none
/-- the slots vs as they are in e0 -/
def backE (e0 env : En) : List Nat → En
  | [] => env
  | v :: vs => (backE e0 env vs).set v (e0.getD v none)
def lockE (env : En) : Op → Option En
  | .v i => match getE env i with
    | some (.p (.lst xs)) => some (env.set i (some (.lk (.lst xs))))
    | some (.p (.dic xs)) => some (env.set i (some (.lk (.dic xs))))
    | some _ => some env
    | none => none
  | .e _ => some env
def enumD : Nat → List Dt → List Dt
  | _, [] => []
  | k, d :: ds => .tup [.int (k : Int), d] :: enumD (k + 1) ds
def zipD : List Dt → List Dt → List Dt
  | a :: as, b :: bs => .tup [a, b] :: zipD as bs
  | _, _ => []
def seqD : Dt → Option (List Dt)
  | .lst xs => some xs
  | .tup xs => some xs
  | .scr is => some (is.map .int)
  | _ => none
def lstD : Dt → Option (List Dt)
  | .lst xs => some xs
  | _ => none
def rngD (lo : Int) (n : Nat) : List Dt := (List.range n).map fun (i : Nat) => Dt.int (lo + (i : Int))

def Ow.dt? : Ow → Option Dt
  | .p o => some o.dt
  | _ => none
def setRec (f : Str) (o : Ow1) : List (Str × Ow1) → List (Str × Ow1)
  | [] => [(f, o)]
  | (g, x) :: r => if g = f then (g, o) :: r else (g, x) :: setRec f o r

/-- the slots that the loop goes through are locked meanwhile -/
def lckI : Ir → En → Option En
  | .op o, env => lockE env o
  | .enum o, env => lockE env o
  | .zip a b, env => match lockE env a with | some e1 => lockE e1 b | none => none
  | _, env => some env
def slotI : Ir → List Nat
  | .op (.v i) => [i]
  | .enum (.v i) => [i]
  | .zip (.v i) (.v j) => [i, j]
  | .zip (.v i) _ => [i]
  | .zip _ (.v j) => [j]
  | _ => []

def setAll : List Nat → List Ow1 → En → En
  | i :: is, o :: os, env => setAll is os (env.set i (some (.p o)))
  | _, _, env => env
/-- going through the items of a comprehension -/
def lcGo (st : Dt → En → Rs (Option Dt)) : List Dt → List Dt → En → Rs (List Dt)
  | [], acc, env => .ok acc env
  | d :: ds, acc, env => match st d env with
    | .ok (some y) e1 => if acc.length < sizeLine then lcGo st ds (acc ++ [y]) e1 else .no
    | .ok none e1 => lcGo st ds acc e1
    | .exc x e1 => .exc x e1
    | .no => .no
/-- how a statement ends -/
inductive Fl where
  | nx | rt (o : Ow)
def forGo (st : Dt → En → Rs Fl) : List Dt → En → Rs Fl
  | [], env => .ok .nx env
  | d :: ds, env => match st d env with
    | .ok .nx e1 => forGo st ds e1
    | r => r
def whGo (t : En → Rs Bool) (st : En → Rs Fl) : Nat → En → Rs Fl
  | 0, _ => .no
  | n + 1, env => match t env with
    | .ok true e1 => match st e1 with
      | .ok .nx e2 => whGo t st n e2
      | r => r
    | .ok false e1 => .ok .nx e1
    | .exc x e1 => .exc x e1
    | .no => .no

section
variable (C : Cl)
mutual
def ev : Ex → En → Rs Ow
  | .cst d, env => .ok (im d) env
  | .var i, env => match getE env i with
    | some (.p (.imm d)) => .ok (im d) env
    | some (.p o) => .ok (im o.dt) (env.set i (some (im o.dt)))
    | _ => .no
  | .fld i f, env => match getE env i with
    | some (.rc fs) => match fs.lookup f with
      | some (.imm d) => .ok (im d) env
      | _ => .no
    | _ => .no
  | .tup es, env => match evs es env with
    | .ok ds e1 => if ds.length ≤ sizeLine then .ok (im (.tup ds)) e1 else .no
    | .exc x e1 => .exc x e1
    | .no => .no
  | .lst es, env => match evs es env with
    | .ok ds e1 => if ds.length ≤ sizeLine then .ok (.p (.lst ds)) e1 else .no
    | .exc x e1 => .exc x e1
    | .no => .no
  | .rcd ks es, env => match evw es env with
    | .ok os e1 => if os.length = ks.length ∧ ks.Nodup ∧ ks.length ≤ 15 then .ok (.rc (ks.zip os)) e1 else .no
    | .exc x e1 => .exc x e1
    | .no => .no
  | .pr q os, env => match evo os env with
    | .ok ts e1 => match vws e1 ts with
      | some ds => match q.sem ds with | some o => .ok (.p o) e1 | none => .no
      | none => .no
    | .exc x e1 => .exc x e1
    | .no => .no
  | .lenF i f, env => match getE env i with
    | some (.rc fs) => match fs.lookup f with
      | some (.lst xs) => .ok (im (.int xs.length)) env
      | _ => .no
    | _ => .no
  | .popF i f, env => match getE env i with
    | some (.rc fs) => match fs.lookup f with
      | some (.lst xs) => match xs.getLast? with
        | some d => .ok (im d) (env.set i (some (.rc (setRec f (.lst xs.dropLast) fs))))
        | none => .no
      | _ => .no
    | _ => .no
  | .pop i, env => match getE env i with
    | some (.p (.lst xs)) => match xs.getLast? with
      | some d => .ok (im d) (env.set i (some (.p (.lst xs.dropLast))))
      | none => .no
    | _ => .no
  | .popAt i e, env => if isLst (getE env i) then match ev e env with
    | .ok (.p (.imm (.int k))) e1 => match getE e1 i with
      | some (.p (.lst xs)) => if 0 ≤ k ∧ k < 2 ^ 63 then match xs[k.toNat]? with
        | some d => .ok (im d) (e1.set i (some (.p (.lst (xs.eraseIdx k.toNat)))))
        | none => .no else .no
      | _ => .no
    | .ok _ _ => .no
    | .exc x e1 => .exc x e1
    | .no => .no
    else .no
  | .app i e, env => if isLst (getE env i) then match ev e env with
    | .ok o e1 => match o.dt?, getE e1 i with
      | some d, some (.p (.lst xs)) => if xs.length < sizeLine then .ok (im .non) (e1.set i (some (.p (.lst (xs ++ [d]))))) else .no
      | _, _ => .no
    | .exc x e1 => .exc x e1
    | .no => .no
    else .no
  | .call f os, env => match evo os env with
    | .ok ts e1 => match args (C.md f) ts e1 with
      | some (as, e2) => match C.fn f as with
        | .ret o outs => .ok o (backs (C.md f) ts outs e2)
        | .exc x outs => .exc x (backs (C.md f) ts outs e2)
        | .no => .no
      | none => .no
    | .exc x e1 => .exc x e1
    | .no => .no
  | .cond t a b, env => match evt t env with
    | .ok true e1 => ev a e1
    | .ok false e1 => ev b e1
    | .exc x e1 => .exc x e1
    | .no => .no
  | .land a b, env => match ev a env with
    | .ok (.p (.imm (.bl true))) e1 => ev b e1
    | .ok (.p (.imm (.bl false))) e1 => .ok (im (.bl false)) e1
    | .ok _ _ => .no
    | .exc x e1 => .exc x e1
    | .no => .no
  | .lor a b, env => match ev a env with
    | .ok (.p (.imm (.bl false))) e1 => ev b e1
    | .ok (.p (.imm (.bl true))) e1 => .ok (im (.bl true)) e1
    | .ok _ _ => .no
    | .exc x e1 => .exc x e1
    | .no => .no
  | .lnot o, env => match evp o env with
    | .ok t e1 => match Tm.vw e1 t with
      | some d => match d.tru with | some b => .ok (im (.bl (!b))) e1 | none => .no
      | none => .no
    | .exc x e1 => .exc x e1
    | .no => .no
  | .dnew, env => .ok (.p (.dic [])) env
  | .dmk es, env => match evs es env with
    | .ok ds e1 => match mkD ds [] with
      | some kvs => if ds.length ≤ 30 then .ok (.p (.dic kvs)) e1 else .no
      | none => .no
    | .exc x e1 => .exc x e1
    | .no => .no
  | .lc el tg it ifs own, env => match evi it env with
    | .ok ds e1 => match lckI it e1 with
      | some e2 => match lcGo (fun d e => match tgSet tg d (wipeE e own) with
          | some e3 => match evf ifs e3 with
            | .ok true e4 => match ev el e4 with
              | .ok o e5 => match o.dt? with | some y => .ok (some y) e5 | none => .no
              | .exc x e5 => .exc x e5
              | .no => .no
            | .ok false e4 => .ok none e4
            | .exc x e4 => .exc x e4
            | .no => .no
          | none => .no) ds [] e2 with
        | .ok ys e6 => .ok (.p (.lst ys)) (backE e1 (backE e2 e6 own) (slotI it))
        | _ => .no
      | none => .no
    | .exc x e1 => .exc x e1
    | .no => .no
/-- the items of a display, shared from now on -/
def evs : Exs → En → Rs (List Dt)
  | .nil, env => .ok [] env
  | .cons e es, env => match ev e env with
    | .ok o e1 => match o.dt? with
      | some d => match evs es e1 with
        | .ok ds e2 => .ok (d :: ds) e2
        | .exc x e2 => .exc x e2
        | .no => .no
      | none => .no
    | .exc x e1 => .exc x e1
    | .no => .no
  | .star o es, env => match evp o env with
    | .ok t e1 => match Tm.vw e1 t with
      | some d => match seqD d with
        | some ds1 => match evs es e1 with
          | .ok ds e2 => .ok (ds1 ++ ds) e2
          | .exc x e2 => .exc x e2
          | .no => .no
        | none => .no
      | none => .no
    | .exc x e1 => .exc x e1
    | .no => .no
/-- values, each still one name's own -/
def evw : Exs → En → Rs (List Ow1)
  | .nil, env => .ok [] env
  | .cons e es, env => match ev e env with
    | .ok (.p o) e1 => match evw es e1 with
      | .ok ds e2 => .ok (o :: ds) e2
      | .exc x e2 => .exc x e2
      | .no => .no
    | .ok _ _ => .no
    | .exc x e1 => .exc x e1
    | .no => .no
  | .star _ _, _ => .no
def evp : Op → En → Rs Tm
  | .v i, env => match getE env i with | some _ => .ok (.inl i) env | none => .no
  | .e x, env => match ev x env with
    | .ok o e1 => .ok (.inr o) e1
    | .exc x e1 => .exc x e1
    | .no => .no
def evo : Ops → En → Rs (List Tm)
  | .nil, env => .ok [] env
  | .cons o os, env => match evp o env with
    | .ok t e1 => match evo os e1 with
      | .ok ts e2 => .ok (t :: ts) e2
      | .exc x e2 => .exc x e2
      | .no => .no
    | .exc x e1 => .exc x e1
    | .no => .no
def evt : Te → En → Rs Bool
  | .tr o, env => match evp o env with
    | .ok t e1 => match Tm.vw e1 t with
      | some d => match d.tru with | some b => .ok b e1 | none => .no
      | none => .no
    | .exc x e1 => .exc x e1
    | .no => .no
  | .land a b, env => match evt a env with
    | .ok true e1 => evt b e1
    | .ok false e1 => .ok false e1
    | .exc x e1 => .exc x e1
    | .no => .no
  | .lor a b, env => match evt a env with
    | .ok false e1 => evt b e1
    | .ok true e1 => .ok true e1
    | .exc x e1 => .exc x e1
    | .no => .no
  | .lnot a, env => match evt a env with
    | .ok b e1 => .ok (!b) e1
    | .exc x e1 => .exc x e1
    | .no => .no
def evf : Tes → En → Rs Bool
  | .nil, env => .ok true env
  | .one t, env => evt t env
/-- the items that a loop goes through -/
def evi : Ir → En → Rs (List Dt)
  | .op o, env => match evp o env with
    | .ok t e1 => match Tm.vw e1 t with
      | some d => match seqD d with | some ds => .ok ds e1 | none => .no
      | none => .no
    | .exc x e1 => .exc x e1
    | .no => .no
  | .rng1 e, env => match ev e env with
    | .ok (.p (.imm (.int n))) e1 => if -(2 ^ 62) ≤ n ∧ n < 2 ^ 62 then .ok (rngD 0 n.toNat) e1 else .no
    | .ok _ _ => .no
    | .exc x e1 => .exc x e1
    | .no => .no
  | .rng2 a b, env => match ev a env with
    | .ok (.p (.imm (.int m))) e1 => match ev b e1 with
      | .ok (.p (.imm (.int n))) e2 => if -(2 ^ 62) ≤ m ∧ m < 2 ^ 62 ∧ -(2 ^ 62) ≤ n ∧ n < 2 ^ 62 then .ok (rngD m (n - m).toNat) e2 else .no
      | .ok _ _ => .no
      | .exc x e2 => .exc x e2
      | .no => .no
    | .ok _ _ => .no
    | .exc x e1 => .exc x e1
    | .no => .no
  | .enum o, env => match evp o env with
    | .ok t e1 => match Tm.vw e1 t with
      | some d => match seqD d with | some ds => .ok (enumD 0 ds) e1 | none => .no
      | none => .no
    | .exc x e1 => .exc x e1
    | .no => .no
  | .zip a b, env => match evp a env with
    | .ok t e1 => match evp b e1 with
      | .ok u e2 => match Tm.vw e2 t, Tm.vw e2 u with
        | some d, some c => match seqD d, seqD c with
          | some ds, some cs => .ok (zipD ds cs) e2
          | _, _ => .no
        | _, _ => .no
      | .exc x e2 => .exc x e2
      | .no => .no
    | .exc x e1 => .exc x e1
    | .no => .no
end

variable (wf : Nat)
mutual
def ex : Sm → En → Rs Fl
  | .asg i e, env => match ev C e env with
    | .ok o e1 => .ok .nx (e1.set i (some o))
    | .exc x e1 => .exc x e1
    | .no => .no
  | .asgT is es, env => match evw C es env with
    | .ok os e1 => if is.length = os.length then .ok .nx (setAll is os e1) else .no
    | .exc x e1 => .exc x e1
    | .no => .no
  | .unp is o, env => match evp C o env with
    | .ok t e1 => match Tm.vw e1 t with
      | some d => match tgSet (.tp is) d e1 with | some e2 => .ok .nx e2 | none => .no
      | none => .no
    | .exc x e1 => .exc x e1
    | .no => .no
  | .setI i k e, env => match ev C e env with
    | .ok o e1 => if (getE e1 i).isNone then .no else match ev C k e1 with
      | .ok (.p (.imm kd)) e2 => match o.dt?, getE e2 i with
        | some d, some (.p (.lst xs)) => match kd with
          | .int j => if 0 ≤ j ∧ j < xs.length then .ok .nx (e2.set i (some (.p (.lst (xs.set j.toNat d))))) else .no
          | _ => .no
        | some d, some (.p (.dic kvs)) => match kd.key with
          | some q => if kvs.length < sizeLine ∧ kOk q kvs then .ok .nx (e2.set i (some (.p (.dic (putD q kd d kvs))))) else .no
          | none => .no
        | _, _ => .no
      | .ok _ _ => .no
      | .exc x e2 => .exc x e2
      | .no => .no
    | .exc x e1 => .exc x e1
    | .no => .no
  | .setF i f e, env => match ev C e env with
    | .ok (.p o) e1 => match getE e1 i with
      | some (.rc fs) => if fs.length < 15 ∧ (fs.lookup f).isSome then .ok .nx (e1.set i (some (.rc (setRec f (.imm o.dt) fs)))) else .no
      | _ => .no
    | .ok _ _ => .no
    | .exc x e1 => .exc x e1
    | .no => .no
  | .aug i q e, env => match getE env i with
    | some (.p (.imm (.int a))) => match ev C e env with
      | .ok (.p (.imm (.int b))) e1 => match q.sem [.int a, .int b] with
        | some (.imm (.int c)) => .ok .nx (e1.set i (some (im (.int c))))
        | _ => .no
      | .ok _ _ => .no
      | .exc x e1 => .exc x e1
      | .no => .no
    | _ => .no
  | .expr e, env => match ev C e env with
    | .ok _ e1 => .ok .nx e1
    | .exc x e1 => .exc x e1
    | .no => .no
  | .ret e, env => match ev C e env with
    | .ok o e1 => .ok (.rt o) e1
    | .exc x e1 => .exc x e1
    | .no => .no
  | .retV i, env => match getE env i with
    | some (.lk _) => .no
    | some o => .ok (.rt o) (env.set i none)
    | none => .no
  | .retN, env => .ok (.rt (im .non)) env
  | .ite t a b, env => match evt C t env with
    | .ok true e1 => exs a e1
    | .ok false e1 => exs b e1
    | .exc x e1 => .exc x e1
    | .no => .no
  | .fors tg it b, env => match evi C it env with
    | .ok ds e1 => match lckI it e1 with
      | some e2 => match forGo (fun d e => match tgSet tg d e with | some e3 => exs b e3 | none => .no) ds e2 with
        | .ok fl e3 => .ok fl (backE e1 e3 (slotI it))
        | .exc x e3 => .exc x (backE e1 e3 (slotI it))
        | .no => .no
      | none => .no
    | .exc x e1 => .exc x e1
    | .no => .no
  | .whl t b, env => whGo (fun e => evt C t e) (fun e => exs b e) wf env
  | .bad, _ => .no
def exs : Sms → En → Rs Fl
  | .nil, env => .ok .nx env
  | .cons s ss, env => match ex s env with
    | .ok .nx e1 => exs ss e1
    | r => r
end
end

/-- a def -/
structure Fn where
  np : Nat
  ns : Nat
  md : List Md
  body : Sms
def outsOf (env : En) : List Md → Nat → List (Option Ow)
  | [], _ => []
  | .mu :: ms, i => env.getD i none :: outsOf env ms (i + 1)
  | _ :: ms, i => none :: outsOf env ms (i + 1)
def runFn (C : Cl) (wf : Nat) (f : Fn) (as : List Ow) : Cr :=
  if as.length = f.np then
    match exs C wf f.body (as.map some ++ List.replicate (f.ns - f.np) none) with
    | .ok .nx env => .ret (im .non) (outsOf env f.md 0)
    | .ok (.rt o) env => .ret o (outsOf env f.md 0)
    | .exc x env => .exc x (outsOf env f.md 0)
    | .no => .no
  else .no
def mdOf (T : List Fn) (f : Nat) : List Md := match T[f]? with | some g => g.md | none => []
def run (T : List Fn) (wf : Nat) : Nat → Nat → List Ow → Cr
  | 0, _, _ => .no
  | n + 1, f, as => match T[f]? with
    | some g => runFn ⟨mdOf T, run T wf n⟩ wf g as
    | none => .no
end Pd
set_option Elab.async false
set_option linter.all false
set_option maxRecDepth 100000
set_option maxHeartbeats 4000000
/-! Part 2: what a value in the heap has to do with data. -/
namespace Pd
open PySem L2
abbrev As := Addr → Prop
def kD : Key → Dt
  | .inl i => .int i
  | .inr x => .str x
def tkD (ks : List Key) : Dt := .tup (ks.map kD)
def KLst (K : PySem.W.Frag) (a : Addr) (vs : List V) : Prop :=
  ∃ (o : Obj) (us : Array Value) (n : Nat), K.lookup a = some o ∧ o.cls = .type "list" ∧ o.dict = none ∧ o.data = .seq us n ∧ us.size ≤ sizeLine ∧ Vals vs us.toList
/-- a list, a tuple that stands still -/
def StS (K : PySem.W.Frag) (F : As) (H : Hp) (a : Addr) (vs : List V) : Prop := (F a ∧ Rd H a (.lst vs)) ∨ KLst K a vs
def StT (K : PySem.W.Frag) (F : As) (H : Hp) (a : Addr) (vs : List V) : Prop := F a ∧ H a = some (.tup vs)
theorem StS.sq {K : PySem.W.Frag} {F : As} {H : Hp} {a : Addr} {vs : List V} (h : StS K F H a vs) : SqL K H a vs := h.elim (fun x => .inl x.2) .inr
theorem StT.sq {K : PySem.W.Frag} {F : As} {H : Hp} {a : Addr} {vs : List V} (h : StT K F H a vs) : SqT K H a vs := .of h.2
theorem rd_same {H H' : Hp} {a : Addr} {u : HO} (h : Rd H a u) (e : H' a = H a) : Rd H' a u := by
  rcases h with h | ⟨o, h⟩
  · exact .inl (e.trans h)
  · exact .inr ⟨o, e.trans h⟩

/-- a dict to be read (one that a loop goes through has a pair) -/
def RdK (H : Hp) (a : Addr) (kvs : List (Key × V)) : Prop := H a = some (.dK kvs) ∨ (kvs ≠ [] ∧ ∃ o, H a = some (.frz o (.dK kvs)))
def RdT (H : Hp) (a : Addr) (kvs : List (List Key × V)) : Prop := H a = some (.dT kvs) ∨ (kvs ≠ [] ∧ ∃ o, H a = some (.frz o (.dT kvs)))
theorem rdk_same {H H' : Hp} {a : Addr} {u : List (Key × V)} (h : RdK H a u) (e : H' a = H a) : RdK H' a u := h.imp (fun h => e.trans h) fun ⟨n, o, h⟩ => ⟨n, o, e.trans h⟩
theorem rdt_same {H H' : Hp} {a : Addr} {u : List (List Key × V)} (h : RdT H a u) (e : H' a = H a) : RdT H' a u := h.imp (fun h => e.trans h) fun ⟨n, o, h⟩ => ⟨n, o, e.trans h⟩
theorem RdK.rd {H : Hp} {a : Addr} {u : List (Key × V)} (h : RdK H a u) : Rd H a (.dK u) := h.imp id fun ⟨_, o, h⟩ => ⟨o, h⟩
theorem RdT.rd {H : Hp} {a : Addr} {u : List (List Key × V)} (h : RdT H a u) : Rd H a (.dT u) := h.imp id fun ⟨_, o, h⟩ => ⟨o, h⟩

mutual
inductive DV (K : PySem.W.Frag) (F : As) (H : Hp) : V → Dt → Prop
  | non : DV K F H .non .non
  | bl (b : Bool) : DV K F H (.bl b) (.bl b)
  | int (i : Int) : DV K F H (.int i) (.int i)
  | str (x : Str) : DV K F H (.str x) (.str x)
  | tup {a : Addr} {vs : List V} {ds : List Dt} : StT K F H a vs → DVs K F H vs ds → DV K F H (.ref a) (.tup ds)
  | lst {a : Addr} {vs : List V} {ds : List Dt} : F a → H a = some (.lst vs) → DVs K F H vs ds → DV K F H (.ref a) (.lst ds)
  | scr {a : Addr} {is : List Int} : StS K F H a (is.map V.int) → DV K F H (.ref a) (.scr is)
  | dk {a : Addr} {kvs : List (Key × V)} {ds : List (Dt × Dt)} : F a → RdK H a kvs → DKs K F H kvs ds → DV K F H (.ref a) (.dic ds)
  | dt {a : Addr} {kvs : List (List Key × V)} {ds : List (Dt × Dt)} : F a → RdT H a kvs → DTs K F H kvs ds → DV K F H (.ref a) (.dic ds)
inductive DVs (K : PySem.W.Frag) (F : As) (H : Hp) : List V → List Dt → Prop
  | nil : DVs K F H [] []
  | cons {v : V} {vs : List V} {d : Dt} {ds : List Dt} : DV K F H v d → DVs K F H vs ds → DVs K F H (v :: vs) (d :: ds)
inductive DKs (K : PySem.W.Frag) (F : As) (H : Hp) : List (Key × V) → List (Dt × Dt) → Prop
  | nil : DKs K F H [] []
  | cons {k : Key} {v : V} {vs : List (Key × V)} {d : Dt} {ds : List (Dt × Dt)} : DV K F H v d → DKs K F H vs ds → DKs K F H ((k, v) :: vs) ((kD k, d) :: ds)
inductive DTs (K : PySem.W.Frag) (F : As) (H : Hp) : List (List Key × V) → List (Dt × Dt) → Prop
  | nil : DTs K F H [] []
  | cons {k : List Key} {v : V} {vs : List (List Key × V)} {d : Dt} {ds : List (Dt × Dt)} : DV K F H v d → DTs K F H vs ds → DTs K F H ((k, v) :: vs) ((tkD k, d) :: ds)
end

section
variable {K : PySem.W.Frag} {F F' : As} {H H' : Hp}
mutual
theorem DV.mono (hF : ∀ x, F x → F' x) (hH : ∀ x, F x → H' x = H x) : ∀ {d : Dt} {v : V}, DV K F H v d → DV K F' H' v d
  | _, _, .non => .non
  | _, _, .bl b => .bl b
  | _, _, .int i => .int i
  | _, _, .str x => .str x
  | _, _, .tup h hs => .tup ⟨hF _ h.1, (hH _ h.1).trans h.2⟩ (DVs.mono hF hH hs)
  | _, _, .lst f h hs => .lst (hF _ f) ((hH _ f).trans h) (DVs.mono hF hH hs)
  | _, _, .scr h => .scr (h.imp (fun q => ⟨hF _ q.1, rd_same q.2 (hH _ q.1)⟩) id)
  | _, _, .dk f h hs => .dk (hF _ f) (rdk_same h (hH _ f)) (DKs.mono hF hH hs)
  | _, _, .dt f h hs => .dt (hF _ f) (rdt_same h (hH _ f)) (DTs.mono hF hH hs)
theorem DVs.mono (hF : ∀ x, F x → F' x) (hH : ∀ x, F x → H' x = H x) : ∀ {ds : List Dt} {vs : List V}, DVs K F H vs ds → DVs K F' H' vs ds
  | _, _, .nil => .nil
  | _, _, .cons h hs => .cons (DV.mono hF hH h) (DVs.mono hF hH hs)
theorem DKs.mono (hF : ∀ x, F x → F' x) (hH : ∀ x, F x → H' x = H x) : ∀ {ds : List (Dt × Dt)} {vs : List (Key × V)}, DKs K F H vs ds → DKs K F' H' vs ds
  | _, _, .nil => .nil
  | _, _, .cons h hs => .cons (DV.mono hF hH h) (DKs.mono hF hH hs)
theorem DTs.mono (hF : ∀ x, F x → F' x) (hH : ∀ x, F x → H' x = H x) : ∀ {ds : List (Dt × Dt)} {vs : List (List Key × V)}, DTs K F H vs ds → DTs K F' H' vs ds
  | _, _, .nil => .nil
  | _, _, .cons h hs => .cons (DV.mono hF hH h) (DTs.mono hF hH hs)
end
theorem DVs.len : ∀ {vs : List V} {ds : List Dt}, DVs K F H vs ds → vs.length = ds.length
  | _, _, .nil => rfl
  | _, _, .cons _ h => by simp [h.len]
theorem DKs.len : ∀ {vs : List (Key × V)} {ds : List (Dt × Dt)}, DKs K F H vs ds → vs.length = ds.length
  | _, _, .nil => rfl
  | _, _, .cons _ h => by simp [h.len]
theorem DTs.len : ∀ {vs : List (List Key × V)} {ds : List (Dt × Dt)}, DTs K F H vs ds → vs.length = ds.length
  | _, _, .nil => rfl
  | _, _, .cons _ h => by simp [h.len]
theorem DVs.get : ∀ {vs : List V} {ds : List Dt} {i : Nat} {d : Dt}, DVs K F H vs ds → ds[i]? = some d → ∃ v, vs[i]? = some v ∧ DV K F H v d
  | _, _, _, _, .nil, e => by simp at e
  | _, _, 0, _, .cons r _, e => by simp at e; subst e; exact ⟨_, rfl, r⟩
  | _, _, i + 1, _, .cons _ t, e => by
    obtain ⟨v, h1, h2⟩ := DVs.get (i := i) t (by simpa using e)
    exact ⟨v, by simpa using h1, h2⟩
theorem DVs.get' : ∀ {vs : List V} {ds : List Dt} {i : Nat} {v : V}, DVs K F H vs ds → vs[i]? = some v → ∃ d, ds[i]? = some d ∧ DV K F H v d
  | _, _, _, _, .nil, e => by simp at e
  | _, _, 0, _, .cons r _, e => by simp at e; subst e; exact ⟨_, rfl, r⟩
  | _, _, i + 1, _, .cons _ t, e => by
    obtain ⟨v, h1, h2⟩ := DVs.get' (i := i) t (by simpa using e)
    exact ⟨v, by simpa using h1, h2⟩
theorem DVs.app : ∀ {vs ws : List V} {ds es : List Dt}, DVs K F H vs ds → DVs K F H ws es → DVs K F H (vs ++ ws) (ds ++ es)
  | _, _, _, _, .nil, s => s
  | _, _, _, _, .cons r t, s => .cons r (t.app s)
theorem DVs.one {v : V} {d : Dt} (h : DV K F H v d) : DVs K F H [v] [d] := .cons h .nil
theorem DVs.take : ∀ {vs : List V} {ds : List Dt} (n : Nat), DVs K F H vs ds → DVs K F H (vs.take n) (ds.take n)
  | _, _, 0, _ => .nil
  | _, _, _ + 1, .nil => .nil
  | _, _, n + 1, .cons r t => .cons r (t.take n)
theorem DVs.drop : ∀ {vs : List V} {ds : List Dt} (n : Nat), DVs K F H vs ds → DVs K F H (vs.drop n) (ds.drop n)
  | _, _, 0, h => h
  | _, _, _ + 1, .nil => .nil
  | _, _, n + 1, .cons _ t => t.drop n
theorem DVs.rev : ∀ {vs : List V} {ds : List Dt}, DVs K F H vs ds → DVs K F H vs.reverse ds.reverse
  | _, _, .nil => .nil
  | _, _, .cons r t => by
    rw [List.reverse_cons, List.reverse_cons]
    exact t.rev.app (.one r)
theorem DVs.set : ∀ {vs : List V} {ds : List Dt} {v : V} {d : Dt} (i : Nat), DVs K F H vs ds → DV K F H v d → DVs K F H (vs.set i v) (ds.set i d)
  | _, _, _, _, _, .nil, _ => .nil
  | _, _, _, _, 0, .cons _ t, r => .cons r t
  | _, _, _, _, i + 1, .cons q t, r => .cons q (t.set i r)
theorem DVs.era : ∀ {vs : List V} {ds : List Dt} (i : Nat), DVs K F H vs ds → DVs K F H (vs.eraseIdx i) (ds.eraseIdx i)
  | _, _, _, .nil => .nil
  | _, _, 0, .cons _ t => t
  | _, _, i + 1, .cons q t => .cons q (t.era i)
theorem DVs.init {vs : List V} {ds : List Dt} (h : DVs K F H vs ds) : DVs K F H vs.dropLast ds.dropLast := by
  rw [List.dropLast_eq_take, List.dropLast_eq_take, h.len]
  exact h.take _
theorem DVs.rep {vs : List V} {ds : List Dt} (h : DVs K F H vs ds) : ∀ n : Nat, DVs K F H (List.replicate n vs).flatten (List.replicate n ds).flatten
  | 0 => .nil
  | n + 1 => by
    rw [List.replicate_succ, List.replicate_succ, List.flatten_cons, List.flatten_cons]
    exact h.app (h.rep n)
theorem dvs_ints : ∀ (is : List Int), DVs K F H (is.map V.int) (is.map Dt.int)
  | [] => .nil
  | i :: is => .cons (.int i) (dvs_ints is)
theorem toInts_eq : ∀ {ds : List Dt} {is : List Int}, toInts ds = some is → ds = is.map Dt.int
  | [], _, h => by cases h; rfl
  | .int i :: ds, _, h => by
    simp only [toInts] at h
    split at h
    · rename_i js e
      cases h
      rw [toInts_eq e]; rfl
    · cases h
  | .non :: _, _, h => by simp [toInts] at h
  | .bl _ :: _, _, h => by simp [toInts] at h
  | .str _ :: _, _, h => by simp [toInts] at h
  | .tup _ :: _, _, h => by simp [toInts] at h
  | .lst _ :: _, _, h => by simp [toInts] at h
  | .dic _ :: _, _, h => by simp [toInts] at h
  | .scr _ :: _, _, h => by simp [toInts] at h
theorem toBls_eq : ∀ {ds : List Dt} {is : List Bool}, toBls ds = some is → ds = is.map Dt.bl
  | [], _, h => by cases h; rfl
  | .bl i :: ds, _, h => by
    simp only [toBls] at h
    split at h
    · rename_i js e
      cases h
      rw [toBls_eq e]; rfl
    · cases h
  | .non :: _, _, h => by simp [toBls] at h
  | .int _ :: _, _, h => by simp [toBls] at h
  | .str _ :: _, _, h => by simp [toBls] at h
  | .tup _ :: _, _, h => by simp [toBls] at h
  | .lst _ :: _, _, h => by simp [toBls] at h
  | .dic _ :: _, _, h => by simp [toBls] at h
  | .scr _ :: _, _, h => by simp [toBls] at h
theorem toInts_map (is : List Int) : toInts (is.map Dt.int) = some is := by
  induction is with
  | nil => rfl
  | cons i is ih => simp [toInts, ih]
theorem toBls_map (is : List Bool) : toBls (is.map Dt.bl) = some is := by
  induction is with
  | nil => rfl
  | cons i is ih => simp [toBls, ih]
theorem dvs_ints_inv : ∀ {is : List Int} {vs : List V}, DVs K F H vs (is.map Dt.int) → vs = is.map V.int
  | [], _, h => by cases h; rfl
  | i :: is, _, h => by
    cases h with
    | cons h1 h2 =>
      cases h1
      rw [dvs_ints_inv h2]; rfl
theorem dvs_bls_inv : ∀ {is : List Bool} {vs : List V}, DVs K F H vs (is.map Dt.bl) → vs = is.map V.bl
  | [], _, h => by cases h; rfl
  | i :: is, _, h => by
    cases h with
    | cons h1 h2 =>
      cases h1
      rw [dvs_bls_inv h2]; rfl

/-- what is seen of a value now -/
def BV (K : PySem.W.Frag) (F : As) (H : Hp) (v : V) : Dt → Prop
  | .lst ds => ∃ a vs, v = .ref a ∧ H a = some (.lst vs) ∧ DVs K F H vs ds
  | .dic ds => ∃ a, v = .ref a ∧ ((∃ kvs, RdK H a kvs ∧ DKs K F H kvs ds) ∨ ∃ kvs, RdT H a kvs ∧ DTs K F H kvs ds)
  | .non => DV K F H v .non
  | .bl b => DV K F H v (.bl b)
  | .int i => DV K F H v (.int i)
  | .str x => DV K F H v (.str x)
  | .tup ds => DV K F H v (.tup ds)
  | .scr ds => DV K F H v (.scr ds)
theorem DV.bv {v : V} {d : Dt} (h : DV K F H v d) : BV K F H v d := by
  cases h with
  | non => exact .non
  | bl b => exact .bl b
  | int i => exact .int i
  | str x => exact .str x
  | tup h hs => exact .tup h hs
  | lst _ h hs => exact ⟨_, _, rfl, h, hs⟩
  | scr h => exact .scr h
  | dk f h hs => exact ⟨_, rfl, .inl ⟨_, h, hs⟩⟩
  | dt f h hs => exact ⟨_, rfl, .inr ⟨_, h, hs⟩⟩
/-- a value that one name alone holds -/
def O1V (K : PySem.W.Frag) (F : As) (H : Hp) (S : As) (v : V) : Ow1 → Prop
  | .imm d => (∀ x, ¬ S x) ∧ DV K F H v d
  | .lst ds => ∃ a vs, v = .ref a ∧ (∀ x, S x ↔ x = a) ∧ H a = some (.lst vs) ∧ DVs K F H vs ds
  | .dic ds => ∃ a, v = .ref a ∧ (∀ x, S x ↔ x = a) ∧ ((∃ kvs, H a = some (.dK kvs) ∧ DKs K F H kvs ds) ∨ ∃ kvs, H a = some (.dT kvs) ∧ DTs K F H kvs ds)
/-- the fields of a record -/
structure FsV (K : PySem.W.Frag) (F : As) (H : Hp) (Sf : Nat → As) (kvs : List (Str × V)) (fs : List (Str × Ow1)) : Prop where
  len : kvs.length = fs.length
  nm : ∀ i p, fs[i]? = some p → ∃ w, kvs[i]? = some (p.1, w) ∧ O1V K F H (Sf i) w p.2
def OV (K : PySem.W.Frag) (F : As) (H : Hp) (L : As) (S : As) (v : V) : Ow → Prop
  | .p o => O1V K F H S v o
  | .lk d => (∀ x, ¬ S x) ∧ d.box = true ∧ (DV K F H v d ∨ ((∃ a, v = .ref a ∧ L a) ∧ BV K F H v d))
  | .rc fs => ∃ a kvs Sf, v = .ref a ∧ H a = some (.dK (kvs.map fun (p : Str × V) => ((.inr p.1 : Key), p.2))) ∧ FsV K F H Sf kvs fs ∧ (∀ i j x, Sf i x → Sf j x → i = j) ∧ (∀ i, ¬ Sf i a) ∧
      (∀ x, S x ↔ x = a ∨ ∃ i, i < fs.length ∧ Sf i x) ∧ (fs.map (·.1)).Nodup

variable {L L' S : As} {v : V}
theorem O1V.mono {o : Ow1} (hF : ∀ x, F x → F' x) (hH : ∀ x, F x → H' x = H x) (hS : ∀ x, S x → H' x = H x) (h : O1V K F H S v o) : O1V K F' H' S v o := by
  cases o with
  | imm d => exact ⟨h.1, h.2.mono hF hH⟩
  | lst ds =>
    obtain ⟨a, vs, e, s, q, r⟩ := h
    exact ⟨a, vs, e, s, (hS a ((s a).mpr rfl)).trans q, r.mono hF hH⟩
  | dic ds =>
    obtain ⟨a, e, s, q⟩ := h
    have ea := hS a ((s a).mpr rfl)
    exact ⟨a, e, s, q.imp (fun ⟨k, q, r⟩ => ⟨k, ea.trans q, r.mono hF hH⟩) fun ⟨k, q, r⟩ => ⟨k, ea.trans q, r.mono hF hH⟩⟩
theorem BV.mono {d : Dt} (hF : ∀ x, F x → F' x) (hH : ∀ x, F x → H' x = H x) (hv : ∀ a, v = .ref a → H' a = H a) (h : BV K F H v d) : BV K F' H' v d := by
  cases d with
  | lst ds =>
    obtain ⟨a, vs, e, q, r⟩ := h
    exact ⟨a, vs, e, (hv a e).trans q, r.mono hF hH⟩
  | dic ds =>
    obtain ⟨a, e, q⟩ := h
    exact ⟨a, e, q.imp (fun ⟨k, q, r⟩ => ⟨k, rdk_same q (hv a e), r.mono hF hH⟩) fun ⟨k, q, r⟩ => ⟨k, rdt_same q (hv a e), r.mono hF hH⟩⟩
  | non => exact DV.mono hF hH h
  | bl b => exact DV.mono hF hH h
  | int i => exact DV.mono hF hH h
  | str x => exact DV.mono hF hH h
  | tup ds => exact DV.mono hF hH h
  | scr ds => exact DV.mono hF hH h
theorem OV.mono {o : Ow} (hF : ∀ x, F x → F' x) (hH : ∀ x, F x → H' x = H x) (hS : ∀ x, S x → H' x = H x) (hL : ∀ x, L x → H' x = H x) (hl : ∀ x, L x → L' x) (h : OV K F H L S v o) : OV K F' H' L' S v o := by
  cases o with
  | p o => exact O1V.mono hF hH hS h
  | lk d =>
    obtain ⟨s, b, q⟩ := h
    refine ⟨s, b, q.imp (fun q => q.mono hF hH) fun ⟨⟨a, e, l⟩, q⟩ => ⟨⟨a, e, hl a l⟩, q.mono hF hH fun c ec => ?_⟩⟩
    obtain rfl : a = c := by rw [e] at ec; cases ec; rfl
    exact hL a l
  | rc fs =>
    obtain ⟨a, kvs, Sf, e, q, r, d1, d2, s, nd⟩ := h
    refine ⟨a, kvs, Sf, e, (hS a ((s a).mpr (.inl rfl))).trans q, ⟨r.len, fun i p hp => ?_⟩, d1, d2, s, nd⟩
    obtain ⟨w, h1, h2⟩ := r.nm i p hp
    have hi : i < fs.length := (List.getElem?_eq_some_iff.mp hp).1
    exact ⟨w, h1, h2.mono hF hH fun x hx => hS x ((s x).mpr (.inr ⟨i, hi, hx⟩))⟩
/-- what is seen of it -/
theorem O1V.bv {o : Ow1} (h : O1V K F H S v o) : BV K F H v o.dt := by
  cases o with
  | imm d => exact h.2.bv
  | lst ds =>
    obtain ⟨a, vs, e, s, q, r⟩ := h
    exact ⟨a, vs, e, q, r⟩
  | dic ds =>
    obtain ⟨a, e, s, q⟩ := h
    exact ⟨a, e, q.imp (fun ⟨k, q, r⟩ => ⟨k, .inl q, r⟩) fun ⟨k, q, r⟩ => ⟨k, .inl q, r⟩⟩
theorem OV.bv {o : Ow} {d : Dt} (h : OV K F H L S v o) (e : o.vw = some d) : BV K F H v d := by
  cases o with
  | p o =>
    obtain rfl : o.dt = d := by simpa [Ow.vw] using e
    exact O1V.bv h
  | lk c =>
    obtain rfl : c = d := by simpa [Ow.vw] using e
    exact h.2.2.elim (fun q => q.bv) fun q => q.2
  | rc fs => simp [Ow.vw] at e
/-- shared from now on -/
theorem O1V.frz {o : Ow1} (h : O1V K F H S v o) : DV K (fun x => F x ∨ S x) H v o.dt := by
  cases o with
  | imm d => exact h.2.mono (fun x hx => .inl hx) fun _ _ => rfl
  | lst ds =>
    obtain ⟨a, vs, e, s, q, r⟩ := h
    subst e
    exact .lst (.inr ((s a).mpr rfl)) q (r.mono (fun x hx => .inl hx) fun _ _ => rfl)
  | dic ds =>
    obtain ⟨a, e, s, q⟩ := h
    subst e
    rcases q with ⟨k, q, r⟩ | ⟨k, q, r⟩
    · exact .dk (.inr ((s a).mpr rfl)) (.inl q) (r.mono (fun x hx => .inl hx) fun _ _ => rfl)
    · exact .dt (.inr ((s a).mpr rfl)) (.inl q) (r.mono (fun x hx => .inl hx) fun _ _ => rfl)
end

/-! ### where a def stands -/
/-- what was so at the entry: the heap, what stands still, what may change; slots that keep their value -/
structure En0 where
  H : Hp
  F : As
  P : As
  fix : List (Nat × V)
structure Tp where
  v : V
  o : Ow
  T : As
abbrev noA : As := fun _ => False
/-- an address that one name alone holds -/
structure Okx (E : En0) (F : As) (H : Hp) (L : Nat → As) (x : Addr) : Prop where
  tr : H x ≠ none
  nf : ¬ F x
  nl : ∀ i, ¬ L i x
  or : E.P x ∨ E.H x = none
structure Sx (K : PySem.W.Frag) (E : En0) (F : As) (H : Hp) (S : Nat → As) (L : Nat → As) (σ : L2.St) (env : En) (Ts : List Tp) : Prop where
  len : env.length = σ.length
  sl : ∀ i o, getE env i = some o → ∃ v, σ[i]? = some (some v) ∧ OV K F H (L i) (S i) v o
  tm : ∀ t ∈ Ts, OV K F H noA t.T t.v t.o
  dS : ∀ i j x, S i x → S j x → i = j
  dT : Ts.Pairwise fun t u => ∀ x, t.T x → ¬ u.T x
  dST : ∀ t ∈ Ts, ∀ i x, t.T x → ¬ S i x
  oS : ∀ i x, S i x → Okx E F H L x
  oT : ∀ t ∈ Ts, ∀ x, t.T x → Okx E F H L x
  fr : ∀ x, F x → H x ≠ none ∧ (E.F x ∨ E.P x ∨ E.H x = none)
  ff : ∀ x, E.F x → F x
  lt : ∀ i x, L i x → H x ≠ none ∧ ¬ F x
  ag : ∀ x, E.H x ≠ none → ¬ E.P x → H x = E.H x
  tk : ∀ x, E.H x ≠ none → H x ≠ none
  fx : ∀ p ∈ E.fix, σ[p.1]? = some (some p.2)

theorem getE_some {env : En} {i : Nat} {o : Ow} (h : getE env i = some o) : env[i]? = some (some o) := by
  unfold getE at h
  split at h
  · rename_i q
    cases h
    exact q
  · cases h
theorem getE_of {env : En} {i : Nat} {o : Ow} (h : env[i]? = some (some o)) : getE env i = some o := by
  unfold getE
  rw [h]
theorem getE_lt {env : En} {i : Nat} {o : Ow} (h : getE env i = some o) : i < env.length := (List.getElem?_eq_some_iff.mp (getE_some h)).1
theorem getE_set {env : En} {i j : Nat} {x : Option Ow} (h : i < env.length) : getE (env.set i x) j = if j = i then x else getE env j := by
  unfold getE
  by_cases e : j = i
  · subst e
    rw [if_pos rfl, List.getElem?_set_self h]
    cases x <;> rfl
  · rw [if_neg e, List.getElem?_set_ne (Ne.symm e)]

section
variable {K : PySem.W.Frag} {E : En0} {F F' : As} {H H' : Hp} {S S' : Nat → As} {L L' : Nat → As} {σ : L2.St} {env : En} {Ts : List Tp} {t : Tp} {i : Nat} {v : V} {o : Ow} {T : As}
/-- the heap has grown, or changed at what the name i alone holds (or at no name's) -/
theorem Sx.change (h : Sx K E F H S L σ env Ts) (hF : ∀ x, F x → F' x) (hF' : ∀ x, F' x → F x ∨ (H x = none ∧ H' x ≠ none)) (hH : ∀ x, H x ≠ none → H' x = H x) : Sx K E F' H' S L σ env Ts := by
  have kF : ∀ x, F x → H' x = H x := fun x hx => hH x (h.fr x hx).1
  have kL : ∀ i x, L i x → H' x = H x := fun i x hx => hH x (h.lt i x hx).1
  have tr : ∀ x, H x ≠ none → H' x ≠ none := fun x hx => by rw [hH x hx]; exact hx
  have ok : ∀ x, Okx E F H L x → Okx E F' H' L x := fun x q => ⟨tr x q.tr, fun z => (hF' x z).elim q.nf fun z => q.tr z.1, q.nl, q.or⟩
  refine ⟨h.len, fun i o e => ?_, fun t ht => ?_, h.dS, h.dT, h.dST, fun i x q => ok x (h.oS i x q), fun t ht x q => ok x (h.oT t ht x q), fun x hx => ?_, fun x hx => hF x (h.ff x hx), fun i x hx => ⟨tr x (h.lt i x hx).1, fun z => (hF' x z).elim (h.lt i x hx).2 fun z => (h.lt i x hx).1 z.1⟩, fun x e n => ?_, fun x e => tr x (h.tk x e), h.fx⟩
  · obtain ⟨v, e1, e2⟩ := h.sl i o e
    exact ⟨v, e1, e2.mono hF kF (fun x hx => hH x (h.oS i x hx).tr) (kL i) fun _ z => z⟩
  · exact (h.tm t ht).mono hF kF (fun x hx => hH x (h.oT t ht x hx).tr) (fun _ z => z.elim) fun _ z => z
  · rcases hF' x hx with z | z
    · exact ⟨tr x (h.fr x z).1, (h.fr x z).2⟩
    · refine ⟨z.2, ?_⟩
      cases q : E.H x with
      | none => exact .inr (.inr rfl)
      | some u => exact absurd z.1 (h.tk x (by rw [q]; simp))
  · rw [hH x (h.tk x e)]
    exact h.ag x e n
/-- one more value at hand -/
theorem Sx.push (h : Sx K E F H S L σ env Ts) (hv : OV K F H noA T v o) (ok : ∀ x, T x → Okx E F H L x) (d1 : ∀ t ∈ Ts, ∀ x, T x → ¬ t.T x) (d2 : ∀ i x, T x → ¬ S i x) : Sx K E F H S L σ env (⟨v, o, T⟩ :: Ts) :=
  ⟨h.len, h.sl, fun t ht => (List.mem_cons.mp ht).elim (fun e => by subst e; exact hv) (h.tm t), h.dS, List.pairwise_cons.mpr ⟨d1, h.dT⟩, fun t ht => (List.mem_cons.mp ht).elim (fun e => by subst e; exact d2) (h.dST t), h.oS,
    fun t ht => (List.mem_cons.mp ht).elim (fun e => by subst e; exact ok) (h.oT t), h.fr, h.ff, h.lt, h.ag, h.tk, h.fx⟩
/-- a value that holds nothing alone -/
theorem Sx.pushI (h : Sx K E F H S L σ env Ts) {d : Dt} (hv : DV K F H v d) : Sx K E F H S L σ env (⟨v, im d, fun _ => False⟩ :: Ts) :=
  h.push (show O1V K F H _ v (.imm d) from ⟨fun _ z => z, hv⟩) (fun _ z => z.elim) (fun _ _ _ z => z.elim) fun _ _ z => z.elim
/-- a new object -/
theorem Sx.fresh (h : Sx K E F H S L σ env Ts) (hF : ∀ x, F x → F' x) (hF' : ∀ x, F' x → F x ∨ (H x = none ∧ H' x ≠ none)) (hH : ∀ x, H x ≠ none → H' x = H x) (hT : ∀ x, T x → H x = none ∧ H' x ≠ none ∧ ¬ F' x) (hv : OV K F' H' noA T v o) :
    Sx K E F' H' S L σ env (⟨v, o, T⟩ :: Ts) := by
  refine (h.change hF hF' hH).push hv (fun x hx => ?_) (fun t ht x hx z => (h.oT t ht x z).tr (hT x hx).1) fun i x hx z => (h.oS i x z).tr (hT x hx).1
  refine ⟨(hT x hx).2.1, (hT x hx).2.2, fun i z => (h.lt i x z).1 (hT x hx).1, ?_⟩
  cases q : E.H x with
  | none => exact .inr rfl
  | some u => exact absurd (hT x hx).1 (h.tk x (by rw [q]; simp))
theorem Sx.pop (h : Sx K E F H S L σ env (t :: Ts)) : Sx K E F H S L σ env Ts :=
  ⟨h.len, h.sl, fun u hu => h.tm u (List.mem_cons_of_mem _ hu), h.dS, (List.pairwise_cons.mp h.dT).2, fun u hu => h.dST u (List.mem_cons_of_mem _ hu), h.oS, fun u hu => h.oT u (List.mem_cons_of_mem _ hu), h.fr, h.ff, h.lt, h.ag, h.tk, h.fx⟩
/-- only some values at hand -/
theorem Sx.sub {Us : List Tp} (h : Sx K E F H S L σ env Ts) (hs : Us.Sublist Ts) : Sx K E F H S L σ env Us :=
  ⟨h.len, h.sl, fun u hu => h.tm u (hs.subset hu), h.dS, h.dT.sublist hs, fun u hu => h.dST u (hs.subset hu), h.oS, fun u hu => h.oT u (hs.subset hu), h.fr, h.ff, h.lt, h.ag, h.tk, h.fx⟩
/-- a value is stored -/
theorem Sx.store (h : Sx K E F H S L σ env (⟨v, o, T⟩ :: Ts)) (hi : i < env.length) (hx : ∀ p ∈ E.fix, p.1 ≠ i) : Sx K E F H (fun j => if j = i then T else S j) L (σ.set i (some v)) (env.set i (some o)) Ts := by
  have hiσ : i < σ.length := by rw [← h.len]; exact hi
  have dd : ∀ j x, T x → ¬ S j x := fun j x hx => h.dST _ List.mem_cons_self j x hx
  refine ⟨by simpa using h.len, fun j u e => ?_, fun u hu => h.tm u (List.mem_cons_of_mem _ hu), fun j k x a b => ?_, (List.pairwise_cons.mp h.dT).2, fun u hu j x a b => ?_, fun j x a => ?_, fun u hu => h.oT u (List.mem_cons_of_mem _ hu), h.fr, h.ff, h.lt, h.ag, h.tk, fun p hp => ?_⟩
  · rw [getE_set hi] at e
    by_cases ej : j = i
    · subst ej
      rw [if_pos rfl] at e
      cases e
      refine ⟨v, by rw [List.getElem?_set_self hiσ], ?_⟩
      rw [if_pos rfl]
      exact (h.tm _ List.mem_cons_self).mono (fun _ z => z) (fun _ _ => rfl) (fun _ _ => rfl) (fun _ _ => rfl) fun _ z => z.elim
    · rw [if_neg ej] at e
      obtain ⟨w, e1, e2⟩ := h.sl j u e
      refine ⟨w, by rw [List.getElem?_set_ne (Ne.symm ej)]; exact e1, ?_⟩
      rw [if_neg ej]
      exact e2
  · by_cases ej : j = i
    · by_cases ek : k = i
      · rw [ej, ek]
      · rw [if_pos ej] at a; rw [if_neg ek] at b
        exact absurd b (dd k x a)
    · by_cases ek : k = i
      · rw [if_neg ej] at a; rw [if_pos ek] at b
        exact absurd a (dd j x b)
      · rw [if_neg ej] at a; rw [if_neg ek] at b
        exact h.dS j k x a b
  · by_cases ej : j = i
    · rw [if_pos ej] at b
      exact (List.pairwise_cons.mp h.dT).1 u hu x b a
    · rw [if_neg ej] at b
      exact h.dST u (List.mem_cons_of_mem _ hu) j x a b
  · by_cases ej : j = i
    · rw [if_pos ej] at a
      exact h.oT _ List.mem_cons_self x a
    · rw [if_neg ej] at a
      exact h.oS j x a
  · rw [List.getElem?_set_ne (Ne.symm (hx p hp))]
    exact h.fx p hp
/-- what the name i alone holds has changed -/
theorem Sx.write {o' : Ow} {S1 : As} (h : Sx K E F H S L σ env Ts) (hg : getE env i = some o) (hs : ∀ x, S1 x → S i x) (hH : ∀ x, ¬ S i x → H' x = H x) (hS : ∀ x, S i x → H' x ≠ none) (hv : ∀ v, σ[i]? = some (some v) → OV K F H' (L i) S1 v o') :
    Sx K E F H' (fun j => if j = i then S1 else S j) L σ (env.set i (some o')) Ts := by
  have hi := getE_lt hg
  have nF : ∀ x, F x → ¬ S i x := fun x hx z => (h.oS i x z).nf hx
  have nL : ∀ j x, L j x → ¬ S i x := fun j x hx z => (h.oS i x z).nl j hx
  have kF : ∀ x, F x → H' x = H x := fun x hx => hH x (nF x hx)
  have kL : ∀ j x, L j x → H' x = H x := fun j x hx => hH x (nL j x hx)
  have tr : ∀ x, H x ≠ none → H' x ≠ none := fun x hx => by
    by_cases q : S i x
    · exact hS x q
    · rw [hH x q]; exact hx
  have ok : ∀ x, Okx E F H L x → Okx E F H' L x := fun x q => ⟨tr x q.tr, q.nf, q.nl, q.or⟩
  have sub : ∀ j x, (if j = i then S1 else S j) x → S j x := fun j x z => by
    by_cases e : j = i
    · rw [if_pos e] at z
      rw [e]; exact hs x z
    · rw [if_neg e] at z; exact z
  refine ⟨by simpa using h.len, fun j u e => ?_, fun u hu => (h.tm u hu).mono (fun _ z => z) kF (fun x hx => hH x (h.dST u hu i x hx)) (fun _ z => z.elim) fun _ z => z, fun j k x a b => h.dS j k x (sub j x a) (sub k x b), h.dT, fun u hu j x a b => h.dST u hu j x a (sub j x b), fun j x q => ok x (h.oS j x (sub j x q)), fun u hu x q => ok x (h.oT u hu x q), fun x hx => ⟨tr x (h.fr x hx).1, (h.fr x hx).2⟩, h.ff, fun j x hx => ⟨tr x (h.lt j x hx).1, (h.lt j x hx).2⟩, fun x e n => ?_, fun x e => tr x (h.tk x e), h.fx⟩
  · rw [getE_set hi] at e
    by_cases ej : j = i
    · subst ej
      rw [if_pos rfl] at e
      cases e
      obtain ⟨w, e1, _⟩ := h.sl j o hg
      rw [if_pos rfl]
      exact ⟨w, e1, hv w e1⟩
    · rw [if_neg ej] at e
      obtain ⟨w, e1, e2⟩ := h.sl j u e
      rw [if_neg ej]
      exact ⟨w, e1, e2.mono (fun _ z => z) kF (fun x hx => hH x fun z => ej (h.dS j i x hx z)) (kL j) fun _ z => z⟩
  · have nS : ¬ S i x := fun z => (h.oS i x z).or.elim n e
    rw [hH x nS]
    exact h.ag x e n
/-- what the name i holds is shared from now on -/
theorem Sx.frz {o1 : Ow1} (h : Sx K E F H S L σ env Ts) (hg : getE env i = some (.p o1)) : Sx K E (fun x => F x ∨ S i x) H (fun j => if j = i then fun _ => False else S j) L σ (env.set i (some (im o1.dt))) Ts ∧ ∃ v, σ[i]? = some (some v) ∧ DV K (fun x => F x ∨ S i x) H v o1.dt := by
  have hi := getE_lt hg
  obtain ⟨w, ew, ow⟩ := h.sl i _ hg
  have hd : DV K (fun x => F x ∨ S i x) H w o1.dt := O1V.frz ow
  refine ⟨⟨by simpa using h.len, fun j u e => ?_, fun u hu => (h.tm u hu).mono (fun _ z => .inl z) (fun _ _ => rfl) (fun _ _ => rfl) (fun _ _ => rfl) fun _ z => z, fun j k x a b => ?_, h.dT, fun u hu j x a b => ?_, fun j x a => ?_, fun u hu x a => ?_, fun x hx => ?_, fun x hx => .inl (h.ff x hx), fun j x hx => ⟨(h.lt j x hx).1, fun z => z.elim (h.lt j x hx).2 fun z => (h.oS i x z).nl j hx⟩, h.ag, h.tk, h.fx⟩, w, ew, hd⟩
  · rw [getE_set hi] at e
    by_cases ej : j = i
    · subst ej
      rw [if_pos rfl] at e
      cases e
      refine ⟨w, ew, ?_⟩
      rw [if_pos rfl]
      exact ⟨fun _ z => z, hd⟩
    · rw [if_neg ej] at e
      obtain ⟨y, e1, e2⟩ := h.sl j u e
      refine ⟨y, e1, ?_⟩
      rw [if_neg ej]
      exact e2.mono (fun _ z => .inl z) (fun _ _ => rfl) (fun _ _ => rfl) (fun _ _ => rfl) fun _ z => z
  · by_cases ej : j = i
    · rw [if_pos ej] at a; exact a.elim
    · by_cases ek : k = i
      · rw [if_pos ek] at b; exact b.elim
      · rw [if_neg ej] at a; rw [if_neg ek] at b
        exact h.dS j k x a b
  · by_cases ej : j = i
    · rw [if_pos ej] at b; exact b.elim
    · rw [if_neg ej] at b
      exact h.dST u hu j x a b
  · by_cases ej : j = i
    · rw [if_pos ej] at a; exact a.elim
    · rw [if_neg ej] at a
      have q := h.oS j x a
      exact ⟨q.tr, fun z => z.elim q.nf fun z => ej (h.dS j i x a z), q.nl, q.or⟩
  · have q := h.oT u hu x a
    exact ⟨q.tr, fun z => z.elim q.nf fun z => h.dST u hu i x a z, q.nl, q.or⟩
  · rcases hx with z | z
    · exact h.fr x z
    · have q := h.oS i x z
      exact ⟨q.tr, .inr q.or⟩
/-- the value at hand is shared from now on -/
theorem Sx.frzT {o1 : Ow1} (h : Sx K E F H S L σ env (⟨v, .p o1, T⟩ :: Ts)) : Sx K E (fun x => F x ∨ T x) H S L σ env Ts ∧ DV K (fun x => F x ∨ T x) H v o1.dt := by
  have hd : DV K (fun x => F x ∨ T x) H v o1.dt := O1V.frz (h.tm _ List.mem_cons_self)
  have hp := List.pairwise_cons.mp h.dT
  refine ⟨⟨h.len, fun j u e => ?_, fun u hu => (h.tm u (List.mem_cons_of_mem _ hu)).mono (fun _ z => .inl z) (fun _ _ => rfl) (fun _ _ => rfl) (fun _ _ => rfl) fun _ z => z, h.dS, hp.2, fun u hu => h.dST u (List.mem_cons_of_mem _ hu), fun j x a => ?_, fun u hu x a => ?_, fun x hx => ?_, fun x hx => .inl (h.ff x hx), fun j x hx => ⟨(h.lt j x hx).1, fun z => z.elim (h.lt j x hx).2 fun z => (h.oT _ List.mem_cons_self x z).nl j hx⟩, h.ag, h.tk, h.fx⟩, hd⟩
  · obtain ⟨y, e1, e2⟩ := h.sl j u e
    exact ⟨y, e1, e2.mono (fun _ z => .inl z) (fun _ _ => rfl) (fun _ _ => rfl) (fun _ _ => rfl) fun _ z => z⟩
  · have q := h.oS j x a
    exact ⟨q.tr, fun z => z.elim q.nf fun z => h.dST _ List.mem_cons_self j x z a, q.nl, q.or⟩
  · have q := h.oT u (List.mem_cons_of_mem _ hu) x a
    exact ⟨q.tr, fun z => z.elim q.nf fun z => hp.1 u hu x z a, q.nl, q.or⟩
  · rcases hx with z | z
    · exact h.fr x z
    · have q := h.oT _ List.mem_cons_self x z
      exact ⟨q.tr, .inr q.or⟩
/-- the name i gives its object away -/
theorem Sx.take (h : Sx K E F H S L σ env Ts) (hg : getE env i = some o) (hl : ∀ d, o ≠ .lk d) : ∃ v, σ[i]? = some (some v) ∧ Sx K E F H (fun j => if j = i then noA else S j) L σ (env.set i none) (⟨v, o, S i⟩ :: Ts) := by
  have hi := getE_lt hg
  obtain ⟨w, ew, ow⟩ := h.sl i _ hg
  have ow' : OV K F H noA (S i) w o := by
    cases o with
    | p o => exact ow
    | lk d => exact absurd rfl (hl d)
    | rc fs => exact ow
  refine ⟨w, ew, Sx.push ⟨by simpa using h.len, fun j u e => ?_, h.tm, fun j k x a b => ?_, h.dT, fun u hu j x a b => ?_, fun j x a => ?_, h.oT, h.fr, h.ff, h.lt, h.ag, h.tk, h.fx⟩ ow' (h.oS i) (fun u hu x a b => h.dST u hu i x b a) fun j x a b => ?_⟩
  · rw [getE_set hi] at e
    by_cases ej : j = i
    · rw [if_pos ej] at e; cases e
    · rw [if_neg ej] at e
      rw [if_neg ej]
      exact h.sl j u e
  · by_cases ej : j = i
    · rw [if_pos ej] at a; exact a.elim
    · by_cases ek : k = i
      · rw [if_pos ek] at b; exact b.elim
      · rw [if_neg ej] at a; rw [if_neg ek] at b
        exact h.dS j k x a b
  · by_cases ej : j = i
    · rw [if_pos ej] at b; exact b.elim
    · rw [if_neg ej] at b
      exact h.dST u hu j x a b
  · by_cases ej : j = i
    · rw [if_pos ej] at a; exact a.elim
    · rw [if_neg ej] at a
      exact h.oS j x a
  · by_cases ej : j = i
    · rw [if_pos ej] at b; exact b.elim
    · rw [if_neg ej] at b
      exact ej (h.dS j i x b a)
/-- the values Us at hand become one value -/
theorem Sx.fuse {Us : List Tp} (h : Sx K E F H S L σ env (Us ++ Ts)) (hH : ∀ x, (¬ ∃ u ∈ Us, u.T x) → H' x = H x) (tr : ∀ x, (∃ u ∈ Us, u.T x) → H' x ≠ none) (hT : ∀ x, T x → ∃ u ∈ Us, u.T x) (hv : OV K F H' noA T v o) : Sx K E F H' S L σ env (⟨v, o, T⟩ :: Ts) := by
  have mU : ∀ u, u ∈ Us → u ∈ Us ++ Ts := fun u hu => List.mem_append_left _ hu
  have mT : ∀ u, u ∈ Ts → u ∈ Us ++ Ts := fun u hu => List.mem_append_right _ hu
  have pw := List.pairwise_append.mp h.dT
  have nF : ∀ x, F x → ¬ ∃ u ∈ Us, u.T x := fun x hx ⟨u, hu, z⟩ => (h.oT u (mU u hu) x z).nf hx
  have nS : ∀ i x, S i x → ¬ ∃ u ∈ Us, u.T x := fun i x hx ⟨u, hu, z⟩ => h.dST u (mU u hu) i x z hx
  have nL : ∀ i x, L i x → ¬ ∃ u ∈ Us, u.T x := fun i x hx ⟨u, hu, z⟩ => (h.oT u (mU u hu) x z).nl i hx
  have nT : ∀ t ∈ Ts, ∀ x, t.T x → ¬ ∃ u ∈ Us, u.T x := fun t ht x hx ⟨u, hu, z⟩ => pw.2.2 u hu t ht x z hx
  have tr' : ∀ x, H x ≠ none → H' x ≠ none := fun x hx => by
    by_cases q : ∃ u ∈ Us, u.T x
    · exact tr x q
    · rw [hH x q]; exact hx
  have ok : ∀ x, Okx E F H L x → Okx E F H' L x := fun x q => ⟨tr' x q.tr, q.nf, q.nl, q.or⟩
  refine Sx.push ⟨h.len, fun i u e => ?_, fun t ht => (h.tm t (mT t ht)).mono (fun _ z => z) (fun x hx => hH x (nF x hx)) (fun x hx => hH x (nT t ht x hx)) (fun _ z => z.elim) fun _ z => z, h.dS, pw.2.1, fun t ht => h.dST t (mT t ht), fun i x q => ok x (h.oS i x q), fun t ht x q => ok x (h.oT t (mT t ht) x q), fun x hx => ⟨tr' x (h.fr x hx).1, (h.fr x hx).2⟩, h.ff, fun i x hx => ⟨tr' x (h.lt i x hx).1, (h.lt i x hx).2⟩, fun x e n => ?_, fun x e => tr' x (h.tk x e), h.fx⟩ hv (fun x hx => ?_) (fun t ht x hx z => nT t ht x z (hT x hx)) fun i x hx z => nS i x z (hT x hx)
  · obtain ⟨w, e1, e2⟩ := h.sl i u e
    exact ⟨w, e1, e2.mono (fun _ z => z) (fun x hx => hH x (nF x hx)) (fun x hx => hH x (nS i x hx)) (fun x hx => hH x (nL i x hx)) fun _ z => z⟩
  · have nn : ¬ ∃ u ∈ Us, u.T x := fun ⟨u, hu, z⟩ => (h.oT u (mU u hu) x z).or.elim n e
    rw [hH x nn]
    exact h.ag x e n
  · obtain ⟨u, hu, z⟩ := hT x hx
    exact ok x (h.oT u (mU u hu) x z)
/-- what a loop goes through is locked -/
theorem Sx.lock {o1 : Ow1} (h : Sx K E F H S L σ env Ts) (hg : getE env i = some (.p o1)) (hb : o1.dt.box = true) (hn : o1.isImm = false) : Sx K E F H (fun j => if j = i then noA else S j) (fun j => if j = i then (fun x => S i x ∨ L i x) else L j) σ (env.set i (some (.lk o1.dt))) Ts := by
  have hi := getE_lt hg
  obtain ⟨w, ew, ow⟩ := h.sl i _ hg
  have sub : ∀ j x, (if j = i then noA else S j) x → S j x ∧ j ≠ i := fun j x z => by
    by_cases e : j = i
    · rw [if_pos e] at z; exact z.elim
    · rw [if_neg e] at z; exact ⟨z, e⟩
  have lk : ∀ j x, (if j = i then (fun x => S i x ∨ L i x) else L j) x → S i x ∨ L j x := fun j x z => by
    by_cases e : j = i
    · rw [if_pos e] at z; rw [e]; exact z
    · rw [if_neg e] at z; exact .inr z
  refine ⟨by simpa using h.len, fun j u e => ?_, h.tm, fun j k x a b => h.dS j k x (sub j x a).1 (sub k x b).1, h.dT, fun u hu j x a b => h.dST u hu j x a (sub j x b).1, fun j x q => ?_, fun u hu x q => ?_, h.fr, h.ff, fun j x hx => ?_, h.ag, h.tk, h.fx⟩
  · rw [getE_set hi] at e
    by_cases ej : j = i
    · subst ej
      rw [if_pos rfl] at e
      cases e
      rw [if_pos rfl, if_pos rfl]
      refine ⟨w, ew, fun _ z => z, hb, .inr ⟨?_, O1V.bv ow⟩⟩
      cases o1 with
      | imm d => cases hn
      | lst ds =>
        obtain ⟨a, vs, e, s, _⟩ := ow
        exact ⟨a, e, .inl ((s a).mpr rfl)⟩
      | dic ds =>
        obtain ⟨a, e, s, _⟩ := ow
        exact ⟨a, e, .inl ((s a).mpr rfl)⟩
    · rw [if_neg ej] at e
      rw [if_neg ej, if_neg ej]
      exact h.sl j u e
  · obtain ⟨a, ne⟩ := sub j x q
    have z := h.oS j x a
    exact ⟨z.tr, z.nf, fun k hk => (lk k x hk).elim (fun y => ne (h.dS j i x a y)) fun y => z.nl k y, z.or⟩
  · have z := h.oT u hu x q
    exact ⟨z.tr, z.nf, fun k hk => (lk k x hk).elim (fun y => h.dST u hu i x q y) fun y => z.nl k y, z.or⟩
  · rcases lk j x hx with y | y
    · exact ⟨(h.oS i x y).tr, (h.oS i x y).nf⟩
    · exact h.lt j x y
/-- it is unlocked again: what stands there is what stood there -/
theorem Sx.unlock {o1 : Ow1} {S0 L0 : As} (h : Sx K E F H S L σ env Ts) (hi : i < env.length) (hv : σ[i]? = some (some v)) (ho : O1V K F H S0 v o1) (hS : ∀ x, S0 x → L i x ∧ (E.P x ∨ E.H x = none) ∧ (∀ j, j ≠ i → ¬ L j x) ∧ ¬ L0 x)
    (hL0 : ∀ x, L0 x → L i x) :
    Sx K E F H (fun j => if j = i then S0 else S j) (fun j => if j = i then L0 else L j) σ (env.set i (some (.p o1))) Ts := by
  have nS : ∀ j x, S j x → ¬ S0 x := fun j x a b => (h.oS j x a).nl i (hS x b).1
  have hT : ∀ t ∈ Ts, ∀ x, t.T x → ¬ S0 x := fun t ht x a b => (h.oT t ht x a).nl i (hS x b).1
  have hL : ∀ x, L0 x → H x ≠ none ∧ ¬ F x := fun x a => h.lt i x (hL0 x a)
  have hLS : ∀ j x, S j x → ¬ L0 x := fun j x a b => (h.oS j x a).nl i (hL0 x b)
  have hLT : ∀ t ∈ Ts, ∀ x, t.T x → ¬ L0 x := fun t ht x a b => (h.oT t ht x a).nl i (hL0 x b)
  have lk : ∀ j x, (if j = i then L0 else L j) x → (j = i ∧ L0 x) ∨ (j ≠ i ∧ L j x) := fun j x z => by
    by_cases e : j = i
    · rw [if_pos e] at z; exact .inl ⟨e, z⟩
    · rw [if_neg e] at z; exact .inr ⟨e, z⟩
  have sb : ∀ j x, (if j = i then S0 else S j) x → (j = i ∧ S0 x) ∨ (j ≠ i ∧ S j x) := fun j x z => by
    by_cases e : j = i
    · rw [if_pos e] at z; exact .inl ⟨e, z⟩
    · rw [if_neg e] at z; exact .inr ⟨e, z⟩
  refine ⟨by simpa using h.len, fun j u e => ?_, h.tm, fun j k x a b => ?_, h.dT, fun u hu j x a b => (sb j x b).elim (fun y => hT u hu x a y.2) fun y => h.dST u hu j x a y.2, fun j x q => ?_, fun u hu x q => ?_, h.fr, h.ff, fun j x hx => (lk j x hx).elim (fun y => hL x y.2) fun y => h.lt j x y.2, h.ag, h.tk, h.fx⟩
  · rw [getE_set hi] at e
    by_cases ej : j = i
    · subst ej
      rw [if_pos rfl] at e
      cases e
      rw [if_pos rfl, if_pos rfl]
      exact ⟨v, hv, ho⟩
    · rw [if_neg ej] at e
      rw [if_neg ej, if_neg ej]
      exact h.sl j u e
  · rcases sb j x a with y | y
    · rcases sb k x b with z | z
      · rw [y.1, z.1]
      · exact absurd y.2 (nS k x z.2)
    · rcases sb k x b with z | z
      · exact absurd z.2 (nS j x y.2)
      · exact h.dS j k x y.2 z.2
  · rcases sb j x q with y | y
    · obtain ⟨a, b, c, d⟩ := hS x y.2
      exact ⟨(h.lt i x a).1, (h.lt i x a).2, fun k hk => (lk k x hk).elim (fun z => d z.2) fun z => c k z.1 z.2, b⟩
    · have z := h.oS j x y.2
      exact ⟨z.tr, z.nf, fun k hk => (lk k x hk).elim (fun w => hLS j x y.2 w.2) fun w => z.nl k w.2, z.or⟩
  · have z := h.oT u hu x q
    exact ⟨z.tr, z.nf, fun k hk => (lk k x hk).elim (fun w => hLT u hu x q w.2) fun w => z.nl k w.2, z.or⟩
/-- a slot's value is named anew -/
theorem Sx.reset (h : Sx K E F H S L σ env Ts) (hi : i < env.length) (hv : σ[i]? = some (some v)) (ho : OV K F H (L i) noA v o) : Sx K E F H (fun j => if j = i then noA else S j) L σ (env.set i (some o)) Ts := by
  have sub : ∀ j x, (if j = i then noA else S j) x → S j x := fun j x z => by
    by_cases e : j = i
    · rw [if_pos e] at z; exact z.elim
    · rw [if_neg e] at z; exact z
  refine ⟨by simpa using h.len, fun j u e => ?_, h.tm, fun j k x a b => h.dS j k x (sub j x a) (sub k x b), h.dT, fun u hu j x a b => h.dST u hu j x a (sub j x b), fun j x q => h.oS j x (sub j x q), h.oT, h.fr, h.ff, h.lt, h.ag, h.tk, h.fx⟩
  rw [getE_set hi] at e
  by_cases ej : j = i
  · subst ej
    rw [if_pos rfl] at e
    cases e
    rw [if_pos rfl]
    exact ⟨v, hv, ho⟩
  · rw [if_neg ej] at e
    rw [if_neg ej]
    exact h.sl j u e
/-- what locking a slot has done, and how it is undone -/
structure Lkd (K : PySem.W.Frag) (E : En0) (F : As) (H : Hp) (S L : Nat → As) (σ : L2.St) (env : En) (Ts : List Tp) (i : Nat) (S1 L1 : Nat → As) (env1 : En) : Prop where
  s1 : Sx K E F H S1 L1 σ env1 Ts
  sub : ∀ j x, S1 j x → S j x
  len : env1.length = env.length
  oth : ∀ j, j ≠ i → getE env1 j = getE env j
  back : ∀ {F2 : As} {H2 : Hp} {S2 : Nat → As} {σ2 : L2.St} {env2 : En} {Us : List Tp}, Sx K E F2 H2 S2 L1 σ2 env2 Us → σ2[i]? = σ[i]? → (∀ x, H x ≠ none → (∀ j, ¬ S1 j x) → H2 x = H x) → (∀ x, F x → F2 x) → i < env2.length →
    ∃ S3, Sx K E F2 H2 S3 L σ2 (env2.set i (env.getD i none)) Us
theorem getD_of {env : En} {i : Nat} {o : Ow} (h : getE env i = some o) : env.getD i none = some o := by
  have := getE_some h
  rw [List.getD_eq_getElem?_getD, this]; rfl
theorem lock_slot {env1 : En} {d : Dt} (h : Sx K E F H S L σ env Ts) (hg : getE env i = some o) (hd : o.vw = some d) (hl : lockE env (.v i) = some env1) : ∃ S1 L1, Lkd K E F H S L σ env Ts i S1 L1 env1 := by
  simp only [lockE, hg] at hl
  have kF : ∀ {H2 : Hp} {S1 : Nat → As}, (∀ j x, S1 j x → S j x) → (∀ x, H x ≠ none → (∀ j, ¬ S1 j x) → H2 x = H x) → ∀ x, F x → H2 x = H x := fun hs hp x hx => hp x (h.fr x hx).1 fun j z => (h.oS j x (hs j x z)).nf hx
  have kL : ∀ {H2 : Hp} {S1 : Nat → As}, (∀ j x, S1 j x → S j x) → (∀ x, H x ≠ none → (∀ j, ¬ S1 j x) → H2 x = H x) → ∀ x, L i x → H2 x = H x := fun hs hp x hx => hp x (h.lt i x hx).1 fun j z => (h.oS j x (hs j x z)).nl i hx
  -- a slot whose object is not locked anew
  have soft : (∀ o1, o = .p o1 → ∃ c, o1 = .imm c) → env1 = env → ∃ S1 L1, Lkd K E F H S L σ env Ts i S1 L1 env1 := fun hs he => by
    subst he
    refine ⟨S, L, h, fun _ _ z => z, rfl, fun _ _ => rfl, fun {F2 H2 S2 σ2 env2 Us} s2 hσ hp hF hi => ?_⟩
    obtain ⟨v, ev, ov⟩ := h.sl i o hg
    rw [getD_of hg]
    have kF' := kF (S1 := S) (fun _ _ z => z) hp
    have kL' := kL (S1 := S) (fun _ _ z => z) hp
    refine ⟨_, s2.reset (v := v) (o := o) hi (by rw [hσ]; exact ev) ?_⟩
    have on : OV K F H (L i) noA v o := by
      cases o with
      | p o1 =>
        obtain ⟨c, rfl⟩ := hs o1 rfl
        exact ⟨fun _ z => z, ov.2⟩
      | lk c => exact ⟨fun _ z => z, ov.2⟩
      | rc fs => cases hd
    exact on.mono hF kF' (fun _ z => z.elim) kL' fun _ z => z
  cases o with
  | lk c => cases hl; exact soft (fun _ q => (nomatch q)) rfl
  | rc fs => cases hd
  | p o1 =>
    cases o1 with
    | imm c => cases hl; exact soft (fun o1 q => by cases q; exact ⟨c, rfl⟩) rfl
    | lst ds =>
      cases hl
      have s1 := h.lock hg rfl rfl
      refine ⟨_, _, s1, fun j x z => ?_, by simp, fun j hj => by rw [getE_set (getE_lt hg), if_neg hj], fun {F2 H2 S2 σ2 env2 Us} s2 hσ hp hF hi => ?_⟩
      · by_cases e : j = i
        · rw [if_pos e] at z; exact z.elim
        · rw [if_neg e] at z; exact z
      · obtain ⟨v, ev, ov⟩ := h.sl i _ hg
        rw [getD_of hg]
        have sb : ∀ j x, (if j = i then noA else S j) x → S j x := fun j x z => by
          by_cases e : j = i
          · rw [if_pos e] at z; exact z.elim
          · rw [if_neg e] at z; exact z
        have kS : ∀ x, S i x → H2 x = H x := fun x hx => hp x (h.oS i x hx).tr fun j z => by
          by_cases e : j = i
          · rw [if_pos e] at z; exact z
          · rw [if_neg e] at z; exact e (h.dS j i x z hx)
        have q := s2.unlock (i := i) (v := v) (o1 := .lst ds) (S0 := S i) (L0 := L i) hi (by rw [hσ]; exact ev) (O1V.mono (o := .lst ds) hF (kF sb hp) kS ov) (fun x hx => ⟨by rw [if_pos rfl]; exact .inl hx, (h.oS i x hx).or, fun j hj => by rw [if_neg hj]; exact (h.oS i x hx).nl j, (h.oS i x hx).nl i⟩) fun x hx => by rw [if_pos rfl]; exact .inr hx
        have eL : (fun j => if j = i then L i else (if j = i then (fun x => S i x ∨ L i x) else L j)) = L := by
          funext j
          by_cases e : j = i
          · rw [if_pos e, e]
          · rw [if_neg e, if_neg e]
        rw [eL] at q
        exact ⟨_, q⟩
    | dic ds =>
      cases hl
      have s1 := h.lock hg rfl rfl
      refine ⟨_, _, s1, fun j x z => ?_, by simp, fun j hj => by rw [getE_set (getE_lt hg), if_neg hj], fun {F2 H2 S2 σ2 env2 Us} s2 hσ hp hF hi => ?_⟩
      · by_cases e : j = i
        · rw [if_pos e] at z; exact z.elim
        · rw [if_neg e] at z; exact z
      · obtain ⟨v, ev, ov⟩ := h.sl i _ hg
        rw [getD_of hg]
        have sb : ∀ j x, (if j = i then noA else S j) x → S j x := fun j x z => by
          by_cases e : j = i
          · rw [if_pos e] at z; exact z.elim
          · rw [if_neg e] at z; exact z
        have kS : ∀ x, S i x → H2 x = H x := fun x hx => hp x (h.oS i x hx).tr fun j z => by
          by_cases e : j = i
          · rw [if_pos e] at z; exact z
          · rw [if_neg e] at z; exact e (h.dS j i x z hx)
        have q := s2.unlock (i := i) (v := v) (o1 := .dic ds) (S0 := S i) (L0 := L i) hi (by rw [hσ]; exact ev) (O1V.mono (o := .dic ds) hF (kF sb hp) kS ov) (fun x hx => ⟨by rw [if_pos rfl]; exact .inl hx, (h.oS i x hx).or, fun j hj => by rw [if_neg hj]; exact (h.oS i x hx).nl j, (h.oS i x hx).nl i⟩) fun x hx => by rw [if_pos rfl]; exact .inr hx
        have eL : (fun j => if j = i then L i else (if j = i then (fun x => S i x ∨ L i x) else L j)) = L := by
          funext j
          by_cases e : j = i
          · rw [if_pos e, e]
          · rw [if_neg e, if_neg e]
        rw [eL] at q
        exact ⟨_, q⟩
/-- the state as a new beginning: nothing at hand -/
def snapE (H : Hp) (F : As) (S : Nat → As) (fix : List (Nat × V)) : En0 := ⟨H, F, fun x => ∃ i, S i x, fix⟩
theorem Sx.snap {fix : List (Nat × V)} (h : Sx K E F H S L σ env Ts) (hf : ∀ p ∈ fix, σ[p.1]? = some (some p.2)) : Sx K (snapE H F S fix) F H S L σ env [] :=
  ⟨h.len, h.sl, fun _ ht => (nomatch ht), h.dS, .nil, fun _ ht => (nomatch ht), fun i x q => ⟨(h.oS i x q).tr, (h.oS i x q).nf, (h.oS i x q).nl, .inl ⟨i, q⟩⟩, fun _ ht => (nomatch ht), fun x hx => ⟨(h.fr x hx).1, .inl hx⟩, fun _ hx => hx, h.lt, fun _ _ _ => rfl, fun _ hx => hx, hf⟩
/-- back: what was at hand still is -/
theorem Sx.back {fix : List (Nat × V)} {F1 : As} {H1 : Hp} {S1 : Nat → As} {σ1 : L2.St} {env1 : En} {Us : List Tp} (h : Sx K E F H S L σ env Ts) (h1 : Sx K (snapE H F S fix) F1 H1 S1 L σ1 env1 Us) (hf : ∀ p ∈ E.fix, p ∈ fix) : Sx K E F1 H1 S1 L σ1 env1 (Us ++ Ts) := by
  have nP : ∀ t ∈ Ts, ∀ x, t.T x → ¬ (snapE H F S fix).P x := fun t ht x a ⟨i, b⟩ => h.dST t ht i x a b
  have kT : ∀ t ∈ Ts, ∀ x, t.T x → H1 x = H x := fun t ht x a => h1.ag x (h.oT t ht x a).tr (nP t ht x a)
  have kF : ∀ x, F x → H1 x = H x := fun x a => h1.ag x (h.fr x a).1 fun ⟨i, b⟩ => (h.oS i x b).nf a
  have orr : ∀ x, ((snapE H F S fix).P x ∨ H x = none) → (E.P x ∨ E.H x = none) := fun x z => by
    rcases z with ⟨i, q⟩ | q
    · exact (h.oS i x q).or
    · cases r : E.H x with
      | none => exact .inr rfl
      | some u => exact absurd q (h.tk x (by rw [r]; simp))
  have ok : ∀ x, Okx (snapE H F S fix) F1 H1 L x → Okx E F1 H1 L x := fun x q => ⟨q.tr, q.nf, q.nl, orr x q.or⟩
  have okT : ∀ t ∈ Ts, ∀ x, t.T x → Okx E F1 H1 L x := fun t ht x a => by
    have q := h.oT t ht x a
    refine ⟨by rw [kT t ht x a]; exact q.tr, fun z => ?_, q.nl, q.or⟩
    rcases (h1.fr x z).2 with y | y | y
    · exact q.nf y
    · exact nP t ht x a y
    · exact q.tr y
  have dUT : ∀ u ∈ Us, ∀ t ∈ Ts, ∀ x, u.T x → ¬ t.T x := fun u hu t ht x a b => (h1.oT u hu x a).or.elim (nP t ht x b) (h.oT t ht x b).tr
  have dST' : ∀ t ∈ Ts, ∀ i x, t.T x → ¬ S1 i x := fun t ht i x a b => (h1.oS i x b).or.elim (nP t ht x a) (h.oT t ht x a).tr
  refine ⟨h1.len, h1.sl, fun t ht => ?_, h1.dS, List.pairwise_append.mpr ⟨h1.dT, h.dT, fun u hu t ht x a b => dUT u hu t ht x a b⟩, fun t ht => ?_, fun i x q => ok x (h1.oS i x q), fun t ht => ?_, fun x hx => ⟨(h1.fr x hx).1, ?_⟩, fun x hx => h1.ff x (h.ff x hx), h1.lt, fun x e n => ?_, fun x e => h1.tk x (h.tk x e), fun p hp => h1.fx p (hf p hp)⟩
  · rcases List.mem_append.mp ht with q | q
    · exact h1.tm t q
    · exact (h.tm t q).mono h1.ff kF (kT t q) (fun _ z => z.elim) fun _ z => z
  · rcases List.mem_append.mp ht with q | q
    · exact h1.dST t q
    · exact dST' t q
  · rcases List.mem_append.mp ht with q | q
    · exact fun x a => ok x (h1.oT t q x a)
    · exact okT t q
  · rcases (h1.fr x hx).2 with y | y | y
    · exact (h.fr x y).2
    · exact .inr (orr x (.inl y))
    · exact .inr (orr x (.inr y))
  · have nP' : ¬ (snapE H F S fix).P x := fun ⟨i, q⟩ => (h.oS i x q).or.elim n e
    rw [h1.ag x (h.tk x e) nP']
    exact h.ag x e n
/-- a comprehension's own names are forgotten meanwhile -/
def wipeS (S : Nat → As) (vs : List Nat) : Nat → As := fun j x => j ∉ vs ∧ S j x
theorem wipeE_len (env : En) : ∀ vs : List Nat, (wipeE env vs).length = env.length
  | [] => rfl
  | v :: vs => by unfold wipeE; rw [List.length_set, wipeE_len env vs]
theorem wipeE_get {env : En} {o : Ow} {j : Nat} : ∀ {vs : List Nat}, getE (wipeE env vs) j = some o → j ∉ vs ∧ getE env j = some o
  | [], h => ⟨by simp, h⟩
  | v :: vs, h => by
    unfold wipeE at h
    by_cases hv : v < (wipeE env vs).length
    · rw [getE_set hv] at h
      by_cases e : j = v
      · rw [if_pos e] at h; cases h
      · rw [if_neg e] at h
        obtain ⟨h1, h2⟩ := wipeE_get h
        exact ⟨by simp [e, h1], h2⟩
    · rw [List.set_eq_of_length_le (by omega)] at h
      obtain ⟨h1, h2⟩ := wipeE_get h
      refine ⟨?_, h2⟩
      have := getE_lt h
      rw [List.mem_cons, not_or]
      exact ⟨by omega, h1⟩
theorem backE_len (e0 env : En) : ∀ vs : List Nat, (backE e0 env vs).length = env.length
  | [] => rfl
  | v :: vs => by unfold backE; rw [List.length_set, backE_len e0 env vs]
theorem backE_get {e0 env : En} {j : Nat} (hl : env.length = e0.length) : ∀ {vs : List Nat}, getE (backE e0 env vs) j = if j ∈ vs then getE e0 j else getE env j
  | [] => by simp [backE]
  | v :: vs => by
    unfold backE
    by_cases hv : v < (backE e0 env vs).length
    · rw [getE_set hv]
      by_cases e : j = v
      · subst e
        rw [if_pos rfl, if_pos List.mem_cons_self]
        unfold getE
        rw [List.getD_eq_getElem?_getD]
        cases q : e0[j]? with
        | none => rfl
        | some o => cases o <;> rfl
      · rw [if_neg e, backE_get hl]
        simp [e]
    · rw [List.set_eq_of_length_le (by omega), backE_get hl]
      rw [backE_len] at hv
      by_cases e : j = v
      · subst e
        have n1 : getE env j = none := by
          cases q : getE env j with
          | none => rfl
          | some o => exact absurd (getE_lt q) hv
        have n2 : getE e0 j = none := by
          cases q : getE e0 j with
          | none => rfl
          | some o => exact absurd (getE_lt q) (by omega)
        simp [n1, n2]
      · simp [e]
theorem wipe_get {σ : L2.St} {i : Nat} {vs : List Nat} (h : i ∉ vs) : (wipe σ vs)[i]? = σ[i]? := wipe_out h
theorem Sx.wiped {vs : List Nat} (h : Sx K E F H S L σ env Ts) : Sx K (snapE H F (wipeS S vs) []) F H (wipeS S vs) L (wipe σ vs) (wipeE env vs) [] := by
  refine ⟨by rw [wipeE_len, wipe_length]; exact h.len, fun j u e => ?_, fun _ ht => (nomatch ht), fun i j x a b => h.dS i j x a.2 b.2, .nil, fun _ ht => (nomatch ht), fun i x q => ⟨(h.oS i x q.2).tr, (h.oS i x q.2).nf, (h.oS i x q.2).nl, .inl ⟨i, q⟩⟩, fun _ ht => (nomatch ht), fun x hx => ⟨(h.fr x hx).1, .inl hx⟩, fun _ hx => hx, h.lt, fun _ _ _ => rfl, fun _ hx => hx, fun _ hp => (nomatch hp)⟩
  obtain ⟨h1, h2⟩ := wipeE_get e
  obtain ⟨v, e1, e2⟩ := h.sl j u h2
  refine ⟨v, by rw [wipe_get h1]; exact e1, ?_⟩
  have es : wipeS S vs j = S j := by
    funext x
    exact propext ⟨fun z => z.2, fun z => ⟨h1, z⟩⟩
  rw [es]
  exact e2
theorem Sx.unwiped {vs : List Nat} {F1 : As} {H1 : Hp} {S1 : Nat → As} {env1 : En} {Us : List Tp} (h : Sx K E F H S L σ env Ts) (h1 : Sx K (snapE H F (wipeS S vs) []) F1 H1 S1 L (wipe σ vs) env1 Us) :
    Sx K E F1 H1 (fun j x => if j ∈ vs then S j x else S1 j x) L σ (backE env env1 vs) (Us ++ Ts) := by
  have hl : env1.length = env.length := by rw [h1.len, wipe_length]; exact h.len.symm
  have nPo : ∀ j, j ∈ vs → ∀ x, S j x → ¬ (snapE H F (wipeS S vs) []).P x := fun j hj x a ⟨i, b⟩ => b.1 (by rw [h.dS i j x b.2 a]; exact hj)
  have nP : ∀ t ∈ Ts, ∀ x, t.T x → ¬ (snapE H F (wipeS S vs) []).P x := fun t ht x a ⟨i, b⟩ => h.dST t ht i x a b.2
  have kT : ∀ t ∈ Ts, ∀ x, t.T x → H1 x = H x := fun t ht x a => h1.ag x (h.oT t ht x a).tr (nP t ht x a)
  have kO : ∀ j, j ∈ vs → ∀ x, S j x → H1 x = H x := fun j hj x a => h1.ag x (h.oS j x a).tr (nPo j hj x a)
  have kF : ∀ x, F x → H1 x = H x := fun x a => h1.ag x (h.fr x a).1 fun ⟨i, b⟩ => (h.oS i x b.2).nf a
  have kL : ∀ i x, L i x → H1 x = H x := fun i x a => h1.ag x (h.lt i x a).1 fun ⟨j, b⟩ => (h.oS j x b.2).nl i a
  have orr : ∀ x, ((snapE H F (wipeS S vs) []).P x ∨ H x = none) → (E.P x ∨ E.H x = none) := fun x z => by
    rcases z with ⟨i, q⟩ | q
    · exact (h.oS i x q.2).or
    · cases r : E.H x with
      | none => exact .inr rfl
      | some u => exact absurd q (h.tk x (by rw [r]; simp))
  have ok : ∀ x, Okx (snapE H F (wipeS S vs) []) F1 H1 L x → Okx E F1 H1 L x := fun x q => ⟨q.tr, q.nf, q.nl, orr x q.or⟩
  have nf1 : ∀ x, ¬ F x → H x ≠ none → ¬ (snapE H F (wipeS S vs) []).P x → ¬ F1 x := fun x a b c z => by
    rcases (h1.fr x z).2 with y | y | y
    · exact a y
    · exact c y
    · exact b y
  have okT : ∀ t ∈ Ts, ∀ x, t.T x → Okx E F1 H1 L x := fun t ht x a => by
    have q := h.oT t ht x a
    exact ⟨by rw [kT t ht x a]; exact q.tr, nf1 x q.nf q.tr (nP t ht x a), q.nl, q.or⟩
  have okO : ∀ j, j ∈ vs → ∀ x, S j x → Okx E F1 H1 L x := fun j hj x a => by
    have q := h.oS j x a
    exact ⟨by rw [kO j hj x a]; exact q.tr, nf1 x q.nf q.tr (nPo j hj x a), q.nl, q.or⟩
  have s1o : ∀ k x, S1 k x → ∀ j, j ∈ vs → ¬ S j x := fun k x a j hj b => (h1.oS k x a).or.elim (nPo j hj x b) (h.oS j x b).tr
  have s1t : ∀ k x, S1 k x → ∀ t ∈ Ts, ¬ t.T x := fun k x a t ht b => (h1.oS k x a).or.elim (nP t ht x b) (h.oT t ht x b).tr
  have uo : ∀ u ∈ Us, ∀ x, u.T x → ∀ j, j ∈ vs → ¬ S j x := fun u hu x a j hj b => (h1.oT u hu x a).or.elim (nPo j hj x b) (h.oS j x b).tr
  have ut : ∀ u ∈ Us, ∀ x, u.T x → ∀ t ∈ Ts, ¬ t.T x := fun u hu x a t ht b => (h1.oT u hu x a).or.elim (nP t ht x b) (h.oT t ht x b).tr
  refine ⟨by rw [backE_len, hl]; exact h.len, fun j o e => ?_, fun t ht => ?_, fun i j x a b => ?_, List.pairwise_append.mpr ⟨h1.dT, h.dT, fun u hu t ht x a => ut u hu x a t ht⟩, fun t ht i x a b => ?_, fun i x a => ?_, fun t ht => ?_, fun x hx => ⟨(h1.fr x hx).1, ?_⟩, fun x hx => h1.ff x (h.ff x hx), h1.lt, fun x e n => ?_, fun x e => h1.tk x (h.tk x e), h.fx⟩
  · rw [backE_get hl] at e
    by_cases hj : j ∈ vs
    · rw [if_pos hj] at e
      obtain ⟨v, e1, e2⟩ := h.sl j o e
      refine ⟨v, e1, ?_⟩
      simp only [if_pos hj]
      exact e2.mono h1.ff kF (kO j hj) (kL j) fun _ z => z
    · rw [if_neg hj] at e
      obtain ⟨v, e1, e2⟩ := h1.sl j o e
      refine ⟨v, by rw [wipe_get hj] at e1; exact e1, ?_⟩
      simp only [if_neg hj]
      exact e2
  · rcases List.mem_append.mp ht with q | q
    · exact h1.tm t q
    · exact (h.tm t q).mono h1.ff kF (kT t q) (fun _ z => z.elim) fun _ z => z
  · by_cases hi : i ∈ vs
    · simp only [if_pos hi] at a
      by_cases hj : j ∈ vs
      · simp only [if_pos hj] at b
        exact h.dS i j x a b
      · simp only [if_neg hj] at b
        exact absurd a (s1o j x b i hi)
    · simp only [if_neg hi] at a
      by_cases hj : j ∈ vs
      · simp only [if_pos hj] at b
        exact absurd b (s1o i x a j hj)
      · simp only [if_neg hj] at b
        exact h1.dS i j x a b
  · by_cases hi : i ∈ vs
    · simp only [if_pos hi] at b
      rcases List.mem_append.mp ht with q | q
      · exact uo t q x a i hi b
      · exact h.dST t q i x a b
    · simp only [if_neg hi] at b
      rcases List.mem_append.mp ht with q | q
      · exact h1.dST t q i x a b
      · exact s1t i x b t q a
  · by_cases hi : i ∈ vs
    · simp only [if_pos hi] at a
      exact okO i hi x a
    · simp only [if_neg hi] at a
      exact ok x (h1.oS i x a)
  · rcases List.mem_append.mp ht with q | q
    · exact fun x a => ok x (h1.oT t q x a)
    · exact okT t q
  · rcases (h1.fr x hx).2 with y | y | y
    · exact (h.fr x y).2
    · exact .inr (orr x (.inl y))
    · exact .inr (orr x (.inr y))
  · have nP' : ¬ (snapE H F (wipeS S vs) []).P x := fun ⟨i, q⟩ => (h.oS i x q.2).or.elim n e
    rw [h1.ag x (h.tk x e) nP']
    exact h.ag x e n
/-- what is seen of a slot, of a value at hand -/
theorem Sx.view {d : Dt} (h : Sx K E F H S L σ env Ts) (hg : getE env i = some o) (e : o.vw = some d) : ∃ v, σ[i]? = some (some v) ∧ BV K F H v d := by
  obtain ⟨w, ew, ow⟩ := h.sl i _ hg
  exact ⟨w, ew, ow.bv e⟩
end
end Pd
set_option Elab.async false
set_option linter.all false
set_option maxRecDepth 100000
set_option maxHeartbeats 4000000
/-! Part 3: the pure operations, each by values. -/
namespace Pd
open PySem PySem.Spec PyProof.Rows L2

/-- Q holds of each new value that stands for o -/
def RN (K : PySem.W.Frag) (F : As) (H : Hp) (o : Ow1) (Q : VK) : Prop :=
  ∀ (v : V) (F' : As) (H' : Hp) (T : As), (∀ x, F x → F' x) → (∀ x, F' x → F x ∨ (H x = none ∧ H' x ≠ none)) → (∀ x, H x ≠ none → H' x = H x) → (∀ x, T x → H x = none ∧ H' x ≠ none ∧ ¬ F' x) → O1V K F' H' T v o → Q v H'
abbrev Bvs (K : PySem.W.Frag) (F : As) (H : Hp) : List V → List Dt → Prop := Paired (BV K F H)
/-- the reading of a pure operation upon values -/
def rQ (K : PySem.W.Frag) (q : Pr) : List V → Hp → VK → Prop := fun vs H Q => ∃ F ds o, (∀ x, F x → H x ≠ none) ∧ Bvs K F H vs ds ∧ q.sem ds = some o ∧ RN K F H o Q

section
variable {K : PySem.W.Frag} {F : As} {H : Hp} {Q : VK} {v : V} {d : Dt} {o : Ow1}
theorem RN.at (h : RN K F H (.imm d) Q) (hd : DV K F H v d) : Q v H :=
  h v F H (fun _ => False) (fun _ z => z) (fun _ z => .inl z) (fun _ _ => rfl) (fun _ z => z.elim) ⟨fun _ z => z, hd⟩
theorem RN.newL {ds : List Dt} {vs : List V} {p : Addr} (h : RN K F H (.lst ds) Q) (ft : ∀ x, F x → H x ≠ none) (hp : H p = none) (hv : DVs K F H vs ds) : Q (.ref p) (upd H p (.lst vs)) := by
  have ne : ∀ x, H x ≠ none → x ≠ p := fun x hx e => by subst e; exact hx hp
  refine h (.ref p) F _ (fun x => x = p) (fun _ z => z) (fun _ z => .inl z) (fun x hx => upd_ne (ne x hx)) (fun x hx => ?_) ⟨p, vs, rfl, fun _ => Iff.rfl, upd_same, hv.mono (fun _ z => z) fun x hx => upd_ne (ne x (ft x hx))⟩
  subst hx
  exact ⟨hp, by rw [upd_same]; simp, fun z => ft _ z hp⟩
theorem RN.newT {ds : List Dt} {vs : List V} {p : Addr} (h : RN K F H (.imm (.tup ds)) Q) (ft : ∀ x, F x → H x ≠ none) (hp : H p = none) (hv : DVs K F H vs ds) : Q (.ref p) (upd H p (.tup vs)) := by
  have ne : ∀ x, H x ≠ none → x ≠ p := fun x hx e => by subst e; exact hx hp
  refine h (.ref p) (fun x => F x ∨ x = p) _ (fun _ => False) (fun _ z => .inl z) (fun x z => z.imp id fun e => ?_) (fun x hx => upd_ne (ne x hx)) (fun x hx => hx.elim) ⟨fun _ z => z, .tup ⟨.inr rfl, upd_same⟩ (hv.mono (fun _ z => .inl z) fun x hx => upd_ne (ne x (ft x hx)))⟩
  subst e
  exact ⟨hp, by rw [upd_same]; simp⟩
theorem bvs1 {vs : List V} {a : Dt} (h : Bvs K F H vs [a]) : ∃ x, vs = [x] ∧ BV K F H x a := by
  cases h with
  | cons r t =>
    cases t
    exact ⟨_, rfl, r⟩
theorem bvs_of1 {ds : List Dt} (h : Bvs K F H [v] ds) : ∃ a, ds = [a] ∧ BV K F H v a := by
  cases h with
  | cons r t =>
    cases t
    exact ⟨_, rfl, r⟩
theorem bvs_of2 {w : V} {ds : List Dt} (h : Bvs K F H [v, w] ds) : ∃ a b, ds = [a, b] ∧ BV K F H v a ∧ BV K F H w b := by
  cases h with
  | cons r t =>
    cases t with
    | cons r2 t =>
      cases t
      exact ⟨_, _, rfl, r, r2⟩
theorem bv_int {i : Int} (h : BV K F H v (.int i)) : v = .int i := by cases h; rfl
theorem bv_bl {i : Bool} (h : BV K F H v (.bl i)) : v = .bl i := by cases h; rfl
theorem bv_str {i : Str} (h : BV K F H v (.str i)) : v = .str i := by cases h; rfl
theorem bv_non (h : BV K F H v .non) : v = .non := by cases h; rfl
theorem bv_tup {ds : List Dt} (h : BV K F H v (.tup ds)) : ∃ a vs, v = .ref a ∧ StT K F H a vs ∧ DVs K F H vs ds := by
  have h' : DV K F H v (.tup ds) := h
  cases h' with
  | tup q hs => exact ⟨_, _, rfl, q, hs⟩
theorem bv_scr {ds : List Int} (h : BV K F H v (.scr ds)) : ∃ a, v = .ref a ∧ StS K F H a (ds.map V.int) := by
  have h' : DV K F H v (.scr ds) := h
  cases h' with
  | scr q => exact ⟨_, rfl, q⟩

/-! ### data as the library has it -/
mutual
theorem dv_dp : ∀ {d : Dt} {v : V} {e : PyData}, DV K F H v d → d.py = some e → Dp K H v e
  | _, _, _, .non, h => by cases h; exact .non
  | _, _, _, .bl b, h => by cases h; exact .bl b
  | _, _, _, .int b, h => by cases h; exact .int b
  | _, _, _, .str b, h => by cases h; exact .str b
  | .tup ds, _, _, .tup q hs, h => by
    simp only [Dt.py] at h
    split at h
    · rename_i ys e
      cases h
      exact .tup q.sq (dvs_dp hs e)
    · cases h
  | .lst ds, _, _, .lst f q hs, h => by
    simp only [Dt.py] at h
    split at h
    · rename_i ys e
      cases h
      exact .lst (.of q) (dvs_dp hs e)
    · cases h
  | _, _, _, .scr q, h => by simp [Dt.py] at h
  | _, _, _, .dk _ _ _, h => by simp [Dt.py] at h
  | _, _, _, .dt _ _ _, h => by simp [Dt.py] at h
theorem dvs_dp : ∀ {ds : List Dt} {vs : List V} {es : List PyData}, DVs K F H vs ds → pyL ds = some es → DpAll K H vs es
  | _, _, _, .nil, h => by cases h; exact .nil
  | d :: ds, _, _, .cons q qs, h => by
    simp only [pyL] at h
    split at h
    · rename_i y e
      split at h
      · rename_i ys e2
        cases h
        exact .cons (dv_dp q e) (dvs_dp qs e2)
      · cases h
    · cases h
end
theorem bv_dp {d : Dt} {e : PyData} (h : BV K F H v d) (he : d.py = some e) : Dp K H v e := by
  cases d with
  | lst ds =>
    obtain ⟨a, vs, rfl, q, hs⟩ := h
    simp only [Dt.py] at he
    split at he
    · rename_i ys e
      cases he
      exact .lst (.of q) (dvs_dp hs e)
    · cases he
  | dic ds => simp [Dt.py] at he
  | non => exact dv_dp h he
  | bl b => exact dv_dp h he
  | int b => exact dv_dp h he
  | str b => exact dv_dp h he
  | tup b => exact dv_dp h he
  | scr b => exact dv_dp h he
end

section
variable {X : Cx}

/-! ### + -/
theorem oq_add : OpR X (binaryOp .Add) (fun x y => rQ X.K .add [x, y]) := by
  intro ps sh σ H x y v u Q I rx ry ⟨F, ds, o, ft, hv, hs, rn⟩
  obtain ⟨a, b, rfl, ha, hb⟩ := bvs_of2 hv
  cases a <;> cases b <;> first
    | (exfalso; simp [Pr.sem] at hs; done)
    | skip
  · obtain rfl := bv_int ha
    obtain rfl := bv_int hb
    cases hs
    exact op_add ps sh σ H _ _ v u Q I rx ry ⟨_, _, rfl, rfl, rn.at (.int _)⟩
  · obtain rfl := bv_str ha
    obtain rfl := bv_str hb
    simp only [Pr.sem, i1] at hs
    split at hs
    · rename_i hl
      cases hs
      exact op_add_str ps sh σ H _ _ v u Q I rx ry ⟨_, _, rfl, rfl, hl, rn.at (.str _)⟩
    · cases hs
  · obtain ⟨p, vs, rfl, hp, hvs⟩ := bv_tup ha
    obtain ⟨q, ws, rfl, hq, hws⟩ := bv_tup hb
    simp only [Pr.sem, i1] at hs
    split at hs
    · rename_i hl
      cases hs
      refine op_catA ps sh σ H _ _ v u Q I rx ry ⟨_, _, _, _, rfl, rfl, hp.sq, hq.sq, by rw [hvs.len, hws.len]; exact hl, fun e => ?_, fun _ e => ?_, fun _ _ p hp => ?_⟩
      · subst e
        cases hvs
        exact rn.at (.tup hq hws)
      · subst e
        cases hws
        rw [List.append_nil] at rn
        exact rn.at (.tup hp hvs)
      · exact rn.newT ft hp (hvs.app hws)
    · cases hs
  · obtain ⟨p, vs, rfl, hp, hvs⟩ := ha
    obtain ⟨q, ws, rfl, hq, hws⟩ := hb
    simp only [Pr.sem] at hs
    split at hs
    · rename_i hl
      cases hs
      exact op_cat ps sh σ H _ _ v u Q I rx ry ⟨_, _, _, _, rfl, rfl, hp, hq, by rw [hvs.len, hws.len]; exact hl, fun p hp => rn.newL ft hp (hvs.app hws)⟩
    · cases hs
theorem oq_sub : OpR X (binaryOp .Sub) (fun x y => rQ X.K .sub [x, y]) := by
  intro ps sh σ H x y v u Q I rx ry ⟨F, ds, o, ft, hv, hs, rn⟩
  obtain ⟨a, b, rfl, ha, hb⟩ := bvs_of2 hv
  cases a <;> cases b <;> first
    | (exfalso; simp [Pr.sem] at hs; done)
    | skip
  obtain rfl := bv_int ha
  obtain rfl := bv_int hb
  cases hs
  exact op_sub ps sh σ H _ _ v u Q I rx ry ⟨_, _, rfl, rfl, rn.at (.int _)⟩

/-! ### tuple * int, in each way -/
theorem tmul_same (l : Addr) (items : Array Value) (n : Nat) (dd : Option Addr) (sl : Array (Option Value)) (x : Int) (u : Tok) (c0 : (decide (x < -(2 ^ 63)) || decide (x ≥ 2 ^ 63)) = false) (c1 : (items.isEmpty || x == 1) = true) :
    Meets (Builtin.«tuple.__mul__» ⟨[.ref l, .int x u], []⟩) (fun _ R s => s.heap.get? l = some { cls := .type "tuple", dict := dd, data := .seq items n, slots := sl } ∧
      R (.ok (.ret (Value.ref l))) { s with heap := s.heap, toks := s.toks }) :=
  .of_wp fun prog w A R s h => by
    obtain ⟨hp, g, d, tk, os⟩ := s
    obtain ⟨hl, h⟩ := h
    have f1 := AutoSeq1.idx_int
    wp_walk using wpAny_loadPart' hl
    repeat (first
      | (refine wpAny_ite_false (decide_eq_false (by rw [c0]; exact Bool.false_ne_true)) ?_; wp_walk using wpAny_loadPart' hl)
      | (refine wpAny_ite_true (decide_eq_true (by rw [c1])) ?_; wp_walk using wpAny_loadPart' hl))
    exact ⟨_, rfl, h⟩
theorem tmul_none (l : Addr) (items : Array Value) (n : Nat) (dd : Option Addr) (sl : Array (Option Value)) (x : Int) (u : Tok) (c0 : (decide (x < -(2 ^ 63)) || decide (x ≥ 2 ^ 63)) = false) (c1 : (items.isEmpty || x == 1) = false) (c2 : (decide (x ≤ 0) || items.isEmpty) = true) :
    Meets (Builtin.«tuple.__mul__» ⟨[.ref l, .int x u], []⟩) (fun _ R s => s.heap.get? l = some { cls := .type "tuple", dict := dd, data := .seq items n, slots := sl } ∧
      R (.ok (.ret (Value.ref s.heap.objs.size))) { s with heap := s.heap.push { cls := Value.type "tuple", data := Data.seq #[] }, toks := s.toks }) :=
  .of_wp fun prog w A R s h => by
    obtain ⟨hp, g, d, tk, os⟩ := s
    obtain ⟨hl, h⟩ := h
    have f1 := AutoSeq1.idx_int
    wp_walk using wpAny_loadPart' hl
    repeat (first
      | (refine wpAny_ite_false (decide_eq_false (by rw [c0]; exact Bool.false_ne_true)) ?_; wp_walk using wpAny_loadPart' hl)
      | (refine wpAny_ite_false (decide_eq_false (by rw [c1]; exact Bool.false_ne_true)) ?_; wp_walk using wpAny_loadPart' hl)
      | (refine wpAny_ite_true (decide_eq_true (by rw [c2])) ?_; wp_walk using wpAny_loadPart' hl))
    exact ⟨_, rfl, h⟩
/-- t * k: the tuple itself, nothing, or a new one -/
def rRepA (K : PySem.W.Frag) : R2 := fun x y H Q => ∃ l k xs, x = .ref l ∧ y = .int k ∧ SqT K H l xs ∧ -(2 ^ 63) ≤ k ∧ k < 2 ^ 63 ∧ xs.length * k.toNat ≤ sizeLine ∧
  ((xs = [] ∨ k = 1) → Q (.ref l) H) ∧ ∀ p, H p = none → Q (.ref p) (upd H p (.tup (List.replicate k.toNat xs).flatten))
theorem op_repA : OpR X (binaryOp .Mult) (rRepA X.K) := by
  intro ps sh σ H x y v u Q I rx ry ⟨l, k, xs, ex, ey, hT, h1, h2, hz, q1, q2⟩
  subst ex ey
  cases rx
  obtain ⟨t, rfl⟩ := ry
  obtain ⟨its, r, ⟨⟨cls, dd, data, sl⟩, ho, hc, n, hd⟩, hs⟩ := I.tuple hT
  simp only at hc hd
  subst hc hd
  have hle : its.length = xs.length := r.length.symm
  have hsz0 : its.toArray.size = xs.length := by rw [List.size_toArray, hle]
  have hie : its.toArray.isEmpty = xs.isEmpty := by
    cases r <;> rfl
  have c0 : (decide (k < -(2 ^ 63)) || decide (k ≥ 2 ^ 63)) = false := by
    rw [decide_eq_false (by omega), decide_eq_false (by omega)] <;> rfl
  have main : ∀ {B : Result → Shared → Prop}, Meets (Builtin.«tuple.__mul__» ⟨[.ref l, .int k t], []⟩) (fun _ R s => s.heap.get? l = some { cls := .type "tuple", dict := dd, data := .seq its.toArray n, slots := sl } ∧ B = B) → True := fun _ => trivial
  refine wpAny_binaryOp_repeat_ref (T := "tuple") (U := "int") (by decide) ⟨_, ho, rfl⟩ (fun s' => typeIs_int s' k t) noFill_tuple_mul F.fills_int_mul F.slot_int_rmul repeat_tuple F.slot_int_index.lookup
    (call_meets F.slot_int_rmul (typeIs_int sh k t) F.entry_int_rmul (F.args_int_rmul_2 _ _) (int_rmul_tuple k t l its.toArray n dd sl)
      ⟨ho, rfl, ⟨_, ho, rfl⟩, ?_⟩)
  by_cases hc : xs = [] ∨ k = 1
  · have c1 : (its.toArray.isEmpty || k == 1) = true := by
      rw [hie]
      rcases hc with e | e
      · subst e; rfl
      · subst e; simp
    exact call_meets F.slot_tuple_mul ⟨_, ho, rfl⟩ F.entry_tuple_mul (F.args_tuple_mul_2 _ _) (tmul_same l its.toArray n dd sl k t c0 c1) ⟨ho, .ref l, H, I, rfl, q1 hc⟩
  · have hx : xs.isEmpty = false := by
      cases xs with
      | nil => exact absurd (.inl rfl) hc
      | cons a b => rfl
    have hk1 : k ≠ 1 := fun e => hc (.inr e)
    have c1 : (its.toArray.isEmpty || k == 1) = false := by
      rw [hie, hx, Bool.false_or]
      exact beq_eq_false_iff_ne.mpr hk1
    by_cases hk : k ≤ 0
    · have c2 : (decide (k ≤ 0) || its.toArray.isEmpty) = true := by rw [decide_eq_true hk]; rfl
      have e0 : k.toNat = 0 := by omega
      refine call_meets F.slot_tuple_mul ⟨_, ho, rfl⟩ F.entry_tuple_mul (F.args_tuple_mul_2 _ _) (tmul_none l its.toArray n dd sl k t c0 c1 c2) ⟨ho, ?_⟩
      have qq := q2 sh.heap.objs.size (I.hok.fresh (Nat.le_refl _))
      rw [e0] at qq
      refine ⟨.ref sh.heap.objs.size, _, I.laid (t' := sh.toks) (o := .tup []) (fun b ob q => Heap.get?_push_of_some _ q) (Nat.le_refl _) ?_, rfl, qq⟩
      exact ⟨Nat.zero_le _, [], .nil, IsTup.new _ _⟩
    · have c2 : (decide (k ≤ 0) || its.toArray.isEmpty) = false := by
        rw [hie, hx, Bool.or_false]
        exact decide_eq_false hk
      have hm : ((its.toArray.size : Nat) : Int) * k ≤ (sizeLine : Nat) := by
        rw [hsz0]
        have a1 : ((xs.length : Nat) : Int) * k = ((xs.length * k.toNat : Nat) : Int) := by
          rw [Int.natCast_mul, Int.toNat_of_nonneg (by omega)]
        rw [a1]
        exact Int.ofNat_le.mpr hz
      have flen : (List.replicate k.toNat its).flatten.length ≤ sizeLine := by
        rw [PyProof.Rows.lm_len_rep_flat, hle, Nat.mul_comm]; exact hz
      have c4 : Builtin.Tuple.tupleTooMany (((its.toArray.size : Nat) : Int) * k) = false := by
        unfold Builtin.Tuple.tupleTooMany
        exact decide_eq_false (by omega)
      have c3 : ¬ ((its.toArray.size : Nat) : Int) * k > (2 ^ 63 - 1) / 8 := by
        rw [sizeLine_eq] at hm
        omega
      refine call_meets F.slot_tuple_mul ⟨_, ho, rfl⟩ F.entry_tuple_mul (F.args_tuple_mul_2 _ _) (tuple_mulW l its.toArray n dd sl k t c0 c1 c2 c3 c4 (by rw [size_rep, List.size_toArray]; exact flen)) ⟨ho, ?_⟩
      rw [size_rep]
      refine ⟨.ref sh.heap.objs.size, _, I.laid (t' := sh.toks) (o := .tup (List.replicate k.toNat xs).flatten) (fun b ob q => Heap.get?_push_of_some _ q) (Nat.le_refl _) ?_, rfl, q2 _ (I.hok.fresh (Nat.le_refl _))⟩
      exact ⟨by rw [PyProof.Rows.lm_len_rep_flat, Nat.mul_comm]; exact hz, _, r.rep k.toNat, IsTup.new _ _⟩
theorem okMul_ok {a b : Int} (h : okMul a b = true) : CMul a b ∨ CMulW a b := by
  unfold okMul at h
  simp only [Bool.or_eq_true, decide_eq_true_eq] at h
  rcases h with (h | h) | h
  · exact .inl (.inl ⟨by omega, by omega⟩)
  · exact .inl (.inr ⟨by omega, by omega⟩)
  · exact .inr h
theorem rep_one {α : Type} (xs : List α) : (List.replicate (1 : Int).toNat xs).flatten = xs := by simp
theorem oq_mul : OpR X (binaryOp .Mult) (fun x y => rQ X.K .mul [x, y]) := by
  intro ps sh σ H x y v u Q I rx ry ⟨F, ds, o, ft, hv, hs, rn⟩
  obtain ⟨a, b, rfl, ha, hb⟩ := bvs_of2 hv
  cases a <;> cases b <;> first
    | (exfalso; simp [Pr.sem] at hs; done)
    | skip
  · obtain rfl := bv_int ha
    obtain rfl := bv_int hb
    simp only [Pr.sem, i1] at hs
    split at hs
    · rename_i hl
      cases hs
      rcases okMul_ok hl with hl | hl
      · exact op_mul ps sh σ H _ _ v u Q I rx ry ⟨_, _, rfl, rfl, hl, rn.at (.int _)⟩
      · exact op_mulW ps sh σ H _ _ v u Q I rx ry ⟨_, _, rfl, rfl, hl, rn.at (.int _)⟩
    · cases hs
  · obtain ⟨p, vs, rfl, hp, hvs⟩ := bv_tup ha
    obtain rfl := bv_int hb
    simp only [Pr.sem, i1] at hs
    split at hs
    · rename_i hl
      cases hs
      refine op_repA ps sh σ H _ _ v u Q I rx ry ⟨_, _, _, rfl, rfl, hp.sq, hl.1, hl.2.1, by rw [hvs.len]; exact hl.2.2, fun e => ?_, fun p hp => rn.newT ft hp (hvs.rep _)⟩
      rcases e with e | e
      · subst e
        cases hvs
        have e0 : ∀ n : Nat, (List.replicate n ([] : List Dt)).flatten = [] := fun n => by simp
        rw [e0] at rn
        exact rn.at (.tup hp .nil)
      · subst e
        rw [rep_one] at rn
        exact rn.at (.tup hp hvs)
    · cases hs
  · obtain ⟨p, vs, rfl, hp, hvs⟩ := ha
    obtain rfl := bv_int hb
    simp only [Pr.sem] at hs
    split at hs
    · rename_i hl
      cases hs
      exact op_rep ps sh σ H _ _ v u Q I rx ry ⟨_, _, _, rfl, rfl, hp, hl.1, hl.2.1, by rw [hvs.len]; exact hl.2.2, fun p hp => rn.newL ft hp (hvs.rep _)⟩
    · cases hs
theorem oq_fdiv : OpR X (binaryOp .FloorDiv) (fun x y => rQ X.K .fdiv [x, y]) := by
  intro ps sh σ H x y v u Q I rx ry ⟨F, ds, o, ft, hv, hs, rn⟩
  obtain ⟨a, b, rfl, ha, hb⟩ := bvs_of2 hv
  cases a <;> cases b <;> first
    | (exfalso; simp [Pr.sem] at hs; done)
    | skip
  obtain rfl := bv_int ha
  obtain rfl := bv_int hb
  simp only [Pr.sem, i1] at hs
  split at hs
  · rename_i hl
    cases hs
    exact op_fdivW ps sh σ H _ _ v u Q I rx ry ⟨_, _, rfl, rfl, hl, rn.at (.int _)⟩
  · cases hs
theorem oq_mod : OpR X (binaryOp .Mod) (fun x y => rQ X.K .mod [x, y]) := by
  intro ps sh σ H x y v u Q I rx ry ⟨F, ds, o, ft, hv, hs, rn⟩
  obtain ⟨a, b, rfl, ha, hb⟩ := bvs_of2 hv
  cases a <;> cases b <;> first
    | (exfalso; simp [Pr.sem] at hs; done)
    | skip
  obtain rfl := bv_int ha
  obtain rfl := bv_int hb
  simp only [Pr.sem, i1] at hs
  split at hs
  · rename_i hl
    cases hs
    exact op_mod ps sh σ H _ _ v u Q I rx ry ⟨_, _, rfl, rfl, hl, rn.at (.int _)⟩
  · cases hs
theorem oq_pow : OpR X (binaryOp .Pow) (fun x y => rQ X.K .pow [x, y]) := by
  intro ps sh σ H x y v u Q I rx ry ⟨F, ds, o, ft, hv, hs, rn⟩
  obtain ⟨a, b, rfl, ha, hb⟩ := bvs_of2 hv
  cases a <;> cases b <;> first
    | (exfalso; simp [Pr.sem] at hs; done)
    | skip
  obtain rfl := bv_int ha
  obtain rfl := bv_int hb
  simp only [Pr.sem, i1] at hs
  split at hs
  · rename_i hl
    cases hs
    exact op_pow ps sh σ H _ _ v u Q I rx ry ⟨_, _, rfl, rfl, hl, rn.at (.int _)⟩
  · cases hs
theorem uq_neg : UnR X (unaryOp .USub) (fun x => rQ X.K .neg [x]) := by
  intro ps sh σ H x v Q I rx ⟨F, ds, o, ft, hv, hs, rn⟩
  obtain ⟨a, rfl, ha⟩ := bvs_of1 hv
  cases a <;> first
    | (exfalso; simp [Pr.sem] at hs; done)
    | skip
  obtain rfl := bv_int ha
  cases hs
  exact un_neg ps sh σ H _ v Q I rx ⟨_, rfl, rn.at (.int _)⟩

/-! ### comparisons -/
theorem eqvD_some {a b : Dt} {r : Bool} (h : eqvD a b = some r) : ∃ x y, a.py = some x ∧ b.py = some y ∧ SeqAt.shaped x = true ∧ SeqAt.shaped y = true ∧ r = PyData.eqv x y := by
  unfold eqvD at h
  split at h
  · rename_i x y e1 e2
    split at h
    · rename_i hc
      cases h
      rw [Bool.and_eq_true] at hc
      exact ⟨x, y, e1, e2, hc.1, hc.2, rfl⟩
    · cases h
  · cases h
theorem oq_eq (hu : X.A.units + 64 < cLine) : OpR X (compareOp .Eq) (fun x y => rQ X.K .eq [x, y]) := by
  intro ps sh σ H x y v u Q I rx ry ⟨F, ds, o, ft, hv, hs, rn⟩
  obtain ⟨a, b, rfl, ha, hb⟩ := bvs_of2 hv
  simp only [Pr.sem, i1] at hs
  split at hs
  · rename_i r hr
    cases hs
    obtain ⟨c, d, e1, e2, s1, s2, rfl⟩ := eqvD_some hr
    exact op_eqD hu ps sh σ H _ _ v u Q I rx ry ⟨c, d, bv_dp ha e1, bv_dp hb e2, s1, s2, rn.at (.bl _)⟩
  · cases hs
theorem oq_ne (hu : X.A.units + 64 < cLine) : OpR X (compareOp .NotEq) (fun x y => rQ X.K .ne [x, y]) := by
  intro ps sh σ H x y v u Q I rx ry ⟨F, ds, o, ft, hv, hs, rn⟩
  obtain ⟨a, b, rfl, ha, hb⟩ := bvs_of2 hv
  simp only [Pr.sem, i1] at hs
  split at hs
  · rename_i r hr
    cases hs
    obtain ⟨c, d, e1, e2, s1, s2, rfl⟩ := eqvD_some hr
    exact op_neD hu ps sh σ H _ _ v u Q I rx ry ⟨c, d, bv_dp ha e1, bv_dp hb e2, s1, s2, rn.at (.bl _)⟩
  · cases hs
theorem lexLt_eq : ∀ a b : List Int, lexLt a b = HT.lexLt a b
  | [], [] => rfl
  | [], _ :: _ => rfl
  | _ :: _, [] => rfl
  | x :: xs, y :: ys => by
    rw [HT.lexLt_cons, ← lexLt_eq xs ys]
    rfl
theorem oq_lt (hu : X.A.units < cLine) : OpR X (compareOp .Lt) (fun x y => rQ X.K .lt [x, y]) := by
  intro ps sh σ H x y v u Q I rx ry ⟨F, ds, o, ft, hv, hs, rn⟩
  obtain ⟨a, b, rfl, ha, hb⟩ := bvs_of2 hv
  cases a <;> cases b <;> first
    | (exfalso; simp [Pr.sem] at hs; done)
    | skip
  · obtain rfl := bv_int ha
    obtain rfl := bv_int hb
    cases hs
    exact op_lt ps sh σ H _ _ v u Q I rx ry ⟨_, _, rfl, rfl, rn.at (.bl _)⟩
  · obtain ⟨p, vs, rfl, hp, hvs⟩ := bv_tup ha
    obtain ⟨q, ws, rfl, hq, hws⟩ := bv_tup hb
    simp only [Pr.sem, i1] at hs
    split at hs
    · rename_i m n e1 e2
      cases hs
      rw [toInts_eq e1] at hvs
      rw [toInts_eq e2] at hws
      have e1 := dvs_ints_inv hvs
      have e2 := dvs_ints_inv hws
      subst e1 e2
      refine op_ltT hu ps sh σ H _ _ v u Q I rx ry ⟨_, _, _, _, rfl, rfl, hp.sq, hq.sq, ?_⟩
      rw [← lexLt_eq]
      exact rn.at (.bl _)
    · cases hs
theorem oq_le : OpR X (compareOp .LtE) (fun x y => rQ X.K .le [x, y]) := by
  intro ps sh σ H x y v u Q I rx ry ⟨F, ds, o, ft, hv, hs, rn⟩
  obtain ⟨a, b, rfl, ha, hb⟩ := bvs_of2 hv
  cases a <;> cases b <;> first
    | (exfalso; simp [Pr.sem] at hs; done)
    | skip
  obtain rfl := bv_int ha
  obtain rfl := bv_int hb
  cases hs
  exact op_le ps sh σ H _ _ v u Q I rx ry ⟨_, _, rfl, rfl, rn.at (.bl _)⟩
theorem oq_gt : OpR X (compareOp .Gt) (fun x y => rQ X.K .gt [x, y]) := by
  intro ps sh σ H x y v u Q I rx ry ⟨F, ds, o, ft, hv, hs, rn⟩
  obtain ⟨a, b, rfl, ha, hb⟩ := bvs_of2 hv
  cases a <;> cases b <;> first
    | (exfalso; simp [Pr.sem] at hs; done)
    | skip
  obtain rfl := bv_int ha
  obtain rfl := bv_int hb
  cases hs
  exact op_gt ps sh σ H _ _ v u Q I rx ry ⟨_, _, rfl, rfl, rn.at (.bl _)⟩
theorem oq_ge : OpR X (compareOp .GtE) (fun x y => rQ X.K .ge [x, y]) := by
  intro ps sh σ H x y v u Q I rx ry ⟨F, ds, o, ft, hv, hs, rn⟩
  obtain ⟨a, b, rfl, ha, hb⟩ := bvs_of2 hv
  cases a <;> cases b <;> first
    | (exfalso; simp [Pr.sem] at hs; done)
    | skip
  obtain rfl := bv_int ha
  obtain rfl := bv_int hb
  cases hs
  exact op_ge ps sh σ H _ _ v u Q I rx ry ⟨_, _, rfl, rfl, rn.at (.bl _)⟩
theorem bv_isN {K : PySem.W.Frag} {F : As} {H : Hp} {x : V} {a : Dt} (h : BV K F H x a) : decide (x = V.non) = a.isN := by
  cases a with
  | non => cases h; rfl
  | bl b => cases h; rfl
  | int b => cases h; rfl
  | str b => cases h; rfl
  | tup b => obtain ⟨_, _, rfl, _⟩ := bv_tup h; rfl
  | lst b => obtain ⟨_, _, rfl, _⟩ := h; rfl
  | dic b => obtain ⟨_, rfl, _⟩ := h; rfl
  | scr b => obtain ⟨_, rfl, _⟩ := bv_scr h; rfl
theorem oq_isN : OpR X (compareOp .Is) (fun x y H Q => y = .non ∧ rQ X.K .isN [x] H Q) := by
  intro ps sh σ H x y v u Q I rx ry ⟨ey, F, ds, o, ft, hv, hs, rn⟩
  obtain ⟨a, rfl, ha⟩ := bvs_of1 hv
  simp only [Pr.sem, i1] at hs
  cases hs
  refine op_isN ps sh σ H x y v u Q I rx ry ⟨ey, ?_⟩
  rw [bv_isN ha]
  exact rn.at (.bl _)
theorem oq_notN : OpR X (compareOp .IsNot) (fun x y H Q => y = .non ∧ rQ X.K .notN [x] H Q) := by
  intro ps sh σ H x y v u Q I rx ry ⟨ey, F, ds, o, ft, hv, hs, rn⟩
  obtain ⟨a, rfl, ha⟩ := bvs_of1 hv
  simp only [Pr.sem, i1] at hs
  cases hs
  refine op_notN ps sh σ H x y v u Q I rx ry ⟨ey, ?_⟩
  rw [bv_isN ha]
  exact rn.at (.bl _)
theorem oq_isB {k : Bool} : OpR X (compareOp .Is) (fun x y H Q => y = .bl k ∧ rQ X.K (.isB k) [x] H Q) := by
  intro ps sh σ H x y v u Q I rx ry ⟨ey, F, ds, o, ft, hv, hs, rn⟩
  obtain ⟨a, rfl, ha⟩ := bvs_of1 hv
  cases a <;> first
    | (exfalso; simp [Pr.sem] at hs; done)
    | skip
  obtain rfl := bv_bl ha
  cases hs
  refine op_isBl ps sh σ H _ y v u Q I rx ry ⟨_, _, rfl, ey, ?_⟩
  rw [← Bool.beq_eq_decide_eq]
  exact rn.at (.bl _)

/-! ### in -/
theorem inD_some {x : Dt} {ds : List Dt} {r : Bool} (h : inD x ds = some r) : ∃ d es, x.py = some d ∧ pyL ds = some es ∧ SeqAt.shaped d = true ∧ SeqAt.shaped (.list es) = true ∧ r = es.any fun z => PyData.eqv z d := by
  unfold inD at h
  split at h
  · rename_i d es e1 e2
    split at h
    · rename_i hc
      cases h
      rw [Bool.and_eq_true] at hc
      exact ⟨d, es, e1, e2, hc.1, hc.2, rfl⟩
    · cases h
  · cases h
theorem bv_flat {K : PySem.W.Frag} {F : As} {H : Hp} {x : V} {a : Dt} (h : BV K F H x a) (f : flatD a = true) : flatV x = true := by
  cases a with
  | non => cases h; rfl
  | int b => cases h; rfl
  | str b => cases h; rfl
  | bl b => simp [flatD] at f
  | tup b => simp [flatD] at f
  | lst b => simp [flatD] at f
  | dic b => simp [flatD] at f
  | scr b => simp [flatD] at f
theorem bv_eqF {K : PySem.W.Frag} {F : As} {H : Hp} {x y : V} {a b : Dt} (h : BV K F H x a) (f : flatD a = true) (g : BV K F H y b) (f' : flatD b = true) : eqV x y = eqF a b := by
  cases a <;> first
    | (simp [flatD] at f; done)
    | skip
  all_goals cases b <;> first
    | (simp [flatD] at f'; done)
    | skip
  all_goals (cases h; cases g; rfl)
theorem dvs_flat {K : PySem.W.Frag} {F : As} {H : Hp} {x : V} {a : Dt} (h : BV K F H x a) (f : flatD a = true) : ∀ {ds : List Dt} {vs : List V}, DVs K F H vs ds → ds.all flatD = true → vs.all flatV = true ∧ inV x vs = ds.any fun z => eqF z a
  | _, _, .nil, _ => ⟨rfl, rfl⟩
  | d :: ds, _, .cons q qs, g => by
    rw [List.all_cons, Bool.and_eq_true] at g
    obtain ⟨e1, e2⟩ := dvs_flat h f qs g.2
    refine ⟨by rw [List.all_cons, bv_flat q.bv g.1, e1]; rfl, ?_⟩
    unfold inV at e2 ⊢
    rw [List.any_cons, List.any_cons, e2, bv_eqF q.bv g.1 h f]
theorem key_go : ∀ {ds : List Dt} {ks : List Key}, Dt.key.go ds = some ks → ds = ks.map kD
  | [], _, h => by cases h; rfl
  | .int i :: ds, _, h => by
    simp only [Dt.key.go] at h
    split at h
    · rename_i ks e
      cases h
      rw [key_go e]; rfl
    · cases h
  | .str i :: ds, _, h => by
    simp only [Dt.key.go] at h
    split at h
    · rename_i ks e
      cases h
      rw [key_go e]; rfl
    · cases h
  | .non :: _, _, h => by simp [Dt.key.go] at h
  | .bl _ :: _, _, h => by simp [Dt.key.go] at h
  | .tup _ :: _, _, h => by simp [Dt.key.go] at h
  | .lst _ :: _, _, h => by simp [Dt.key.go] at h
  | .dic _ :: _, _, h => by simp [Dt.key.go] at h
  | .scr _ :: _, _, h => by simp [Dt.key.go] at h
theorem go_key (ks : List Key) : Dt.key.go (ks.map kD) = some ks := by
  induction ks with
  | nil => rfl
  | cons k ks ih =>
    rw [List.map_cons]
    cases k <;> simp only [kD, Dt.key.go, ih]
theorem key_kD (k : Key) : (kD k).key = some (.inl k) := by cases k <;> rfl
theorem key_tkD (ks : List Key) : (tkD ks).key = some (.inr ks) := by
  show (Dt.key.go (ks.map kD)).map Sum.inr = _
  rw [go_key]; rfl
theorem key_inl {d : Dt} {k : Key} (h : d.key = some (.inl k)) : d = kD k := by
  cases d with
  | int i => cases h; rfl
  | str i => cases h; rfl
  | tup xs =>
    simp only [Dt.key] at h
    cases e : Dt.key.go xs with
    | none => rw [e] at h; cases h
    | some ks => rw [e] at h; cases h
  | non => cases h
  | bl b => cases h
  | lst b => cases h
  | dic b => cases h
  | scr b => cases h
theorem key_inr {d : Dt} {ks : List Key} (h : d.key = some (.inr ks)) : d = tkD ks := by
  cases d with
  | tup xs =>
    simp only [Dt.key] at h
    cases e : Dt.key.go xs with
    | none => rw [e] at h; cases h
    | some ks' =>
      rw [e] at h
      cases h
      unfold tkD
      rw [key_go e]
  | int i => cases h
  | str i => cases h
  | non => cases h
  | bl b => cases h
  | lst b => cases h
  | dic b => cases h
  | scr b => cases h
theorem bv_kD {K : PySem.W.Frag} {F : As} {H : Hp} {x : V} {k : Key} (h : BV K F H x (kD k)) : x = kV k := by
  cases k with
  | inl i => exact bv_int h
  | inr i => exact bv_str h
theorem dvs_kD {K : PySem.W.Frag} {F : As} {H : Hp} : ∀ {ks : List Key} {vs : List V}, DVs K F H vs (ks.map kD) → vs = ks.map kV
  | [], _, .nil => rfl
  | k :: ks, _, .cons q qs => by
    rw [List.map_cons, ← dvs_kD qs, bv_kD (k := k) q.bv]
theorem bv_tkD {K : PySem.W.Frag} {F : As} {H : Hp} {x : V} {ks : List Key} (h : BV K F H x (tkD ks)) : ∃ b, x = .ref b ∧ H b = some (.tup (ks.map kV)) := by
  obtain ⟨a, vs, rfl, hp, hvs⟩ := bv_tup h
  rw [← dvs_kD hvs]
  exact ⟨a, rfl, hp.2⟩
theorem DKs.find {K : PySem.W.Frag} {F : As} {H : Hp} {k : Key} : ∀ {ds : List (Dt × Dt)} {kvs : List (Key × V)}, DKs K F H kvs ds → (findK (.inl k) ds = none ∧ valV kvs k = none) ∨ ∃ d v, findK (.inl k) ds = some d ∧ valV kvs k = some v ∧ DV K F H v d
  | _, _, .nil => .inl ⟨rfl, rfl⟩
  | _, _, .cons (k := k') (v := v) (d := d) q qs => by
    by_cases e : k' = k
    · subst e
      exact .inr ⟨d, v, by simp [findK, key_kD], valV_pos rfl, q⟩
    · have ne : ¬ (kD k').key = some (.inl k) := by rw [key_kD]; intro z; cases z; exact e rfl
      rcases qs.find (k := k) with ⟨a, b⟩ | ⟨d', v', a, b, c⟩
      · exact .inl ⟨by simp [findK, ne, a], by rw [valV_neg e, b]⟩
      · exact .inr ⟨d', v', by simp [findK, ne, a], by rw [valV_neg e, b], c⟩
theorem DTs.find {K : PySem.W.Frag} {F : As} {H : Hp} {k : List Key} : ∀ {ds : List (Dt × Dt)} {kvs : List (List Key × V)}, DTs K F H kvs ds → (findK (.inr k) ds = none ∧ valV kvs k = none) ∨ ∃ d v, findK (.inr k) ds = some d ∧ valV kvs k = some v ∧ DV K F H v d
  | _, _, .nil => .inl ⟨rfl, rfl⟩
  | _, _, .cons (k := k') (v := v) (d := d) q qs => by
    by_cases e : k' = k
    · subst e
      exact .inr ⟨d, v, by simp [findK, key_tkD], valV_pos rfl, q⟩
    · have ne : ¬ (tkD k').key = some (.inr k) := by rw [key_tkD]; intro z; cases z; exact e rfl
      rcases qs.find (k := k) with ⟨a, b⟩ | ⟨d', v', a, b, c⟩
      · exact .inl ⟨by simp [findK, ne, a], by rw [valV_neg e, b]⟩
      · exact .inr ⟨d', v', by simp [findK, ne, a], by rw [valV_neg e, b], c⟩
end
end Pd
set_option Elab.async false
set_option linter.all false
set_option maxRecDepth 100000
set_option maxHeartbeats 4000000
namespace Pd
open PySem PySem.Spec PyProof.Rows L2
section
variable {X : Cx} {pn : List (Addr × Obj)} {σ : L2.St} {H : Hp} {sh : Shared} {p : Addr}
/-! ### an empty dict is one of each kind -/
theorem emp_dT (I : L2.Inv X pn σ H sh) (e : H p = some (.dK [])) : L2.Inv X pn σ (upd H p (.dT [])) sh := by
  have ok := I.hok p _ e
  obtain ⟨z, hy, vs, kv, o, es, ep, h1, h2, h3, h4, h5, h6⟩ := (show ObjOk X.prog X.w H sh.heap p (.dK []) from ok)
  cases kv
  have he : es.toList = [] := by
    generalize es.toList = l at h5
    cases h5; rfl
  exact I.write (h' := sh.heap) (t' := sh.toks) (x := p) (e := p) (by rw [e]; exact trivial) (.inl rfl) (fun _ _ _ q => q) ⟨o, h1⟩ ⟨z, hy, [], .nil, o, es, ep, h1, h2, h3, he, List.nodup_nil⟩
theorem emp_dK (I : L2.Inv X pn σ H sh) (e : H p = some (.dT [])) : L2.Inv X pn σ (upd H p (.dK [])) sh := by
  have ok := I.hok p _ e
  obtain ⟨z, hy, xs, r, o, es, ep, h1, h2, h3, h4, h5⟩ := (show ObjOk X.prog X.w H sh.heap p (.dT []) from ok)
  cases r
  have he : es.toList = [] := h4
  have he2 : es = #[] := by
    have := congrArg List.toArray he
    simpa using this
  refine I.write (h' := sh.heap) (t' := sh.toks) (x := p) (e := p) (by rw [e]; exact trivial) (.inl rfl) (fun _ _ _ q => q) ⟨o, h1⟩ ⟨z, hy, [], .nil, o, es, ep, h1, h2, h3, ?_, ?_, List.nodup_nil⟩
  · intro x hx
    subst he2
    simp at hx
  · rw [he]; exact .nil
theorem upd_back {o o' : HO} (e : H p = some o) : upd (upd H p o') p o = H := by
  rw [upd_upd]
  funext b
  unfold upd
  split
  · rename_i h; rw [h, e]
  · rfl
/-- what a dict holds at a key: seen in a heap that is as good -/
theorem dg_any {F : As} {x y : V} {r : Dt} {k : Sum Key (List Key)} {kvs : List (Dt × Dt)} (I : L2.Inv X pn σ H sh) (hd : BV X.K F H y (.dic kvs)) (hx : BV X.K F H x r) (hk : r.key = some k) (ok : kOk k kvs = true) :
    ∃ p H2 o, y = .ref p ∧ L2.Inv X pn σ H2 sh ∧ (∀ s', L2.Inv X pn σ H2 s' → L2.Inv X pn σ H s') ∧ DGet H2 p x o ∧ o.isSome = (findK k kvs).isSome ∧ ∀ d, findK k kvs = some d → ∃ v, o = some v ∧ DV X.K F H v d := by
  obtain ⟨p, rfl, hd⟩ := hd
  rcases hd with ⟨ks, hp, hks⟩ | ⟨ks, hp, hks⟩
  · cases k with
    | inl k =>
      have er := key_inl hk
      subst er
      have ex := bv_kD hx
      subst ex
      refine ⟨p, H, valV ks k, rfl, I, fun _ z => z, .inl ⟨ks, k, hp.rd, rfl, rfl⟩, ?_, fun d e => ?_⟩
      · rcases hks.find (k := k) with ⟨a, b⟩ | ⟨d', v', a, b, c⟩
        · rw [a, b] <;> rfl
        · rw [a, b] <;> rfl
      · rcases hks.find (k := k) with ⟨a, b⟩ | ⟨d', v', a, b, c⟩
        · rw [a] at e; cases e
        · rw [a] at e; cases e
          exact ⟨v', b, c⟩
    | inr k =>
      have er := key_inr hk
      subst er
      obtain ⟨b, rfl, hb⟩ := bv_tkD hx
      cases hks with
      | nil =>
        rcases hp with e0 | ⟨n, _⟩
        · have hne : b ≠ p := fun z => by rw [z, e0] at hb; cases hb
          refine ⟨p, upd H p (.dT []), none, rfl, emp_dT I e0, fun s' I' => ?_, .inr ⟨[], k, b, .inl upd_same, rfl, by rw [upd_ne hne]; exact hb, rfl⟩, rfl, fun d e => by cases e⟩
          have q := emp_dK I' upd_same
          rw [upd_back e0] at q
          exact q
        · exact absurd rfl n
      | cons q qs =>
        exfalso
        simp only [kOk, key_kD] at ok
        cases ok
  · cases k with
    | inr k =>
      have er := key_inr hk
      subst er
      obtain ⟨b, rfl, hb⟩ := bv_tkD hx
      refine ⟨p, H, valV ks k, rfl, I, fun _ z => z, .inr ⟨ks, k, b, hp.rd, rfl, hb, rfl⟩, ?_, fun d e => ?_⟩
      · rcases hks.find (k := k) with ⟨a, b⟩ | ⟨d', v', a, b, c⟩
        · rw [a, b] <;> rfl
        · rw [a, b] <;> rfl
      · rcases hks.find (k := k) with ⟨a, b⟩ | ⟨d', v', a, b, c⟩
        · rw [a] at e; cases e
        · rw [a] at e; cases e
          exact ⟨v', b, c⟩
    | inl k =>
      have er := key_inl hk
      subst er
      have ex := bv_kD hx
      subst ex
      cases hks with
      | nil =>
        rcases hp with e0 | ⟨n, _⟩
        · refine ⟨p, upd H p (.dK []), none, rfl, emp_dK I e0, fun s' I' => ?_, .inl ⟨[], k, .inl upd_same, rfl, rfl⟩, rfl, fun d e => by cases e⟩
          have q := emp_dT I' upd_same
          rw [upd_back e0] at q
          exact q
        · exact absurd rfl n
      | cons q qs =>
        exfalso
        simp only [kOk, key_tkD] at ok
        cases ok

theorem oq_in (hu : X.A.units + 65 < cLine) : OpR X (compareOp .In) (fun x y => rQ X.K .isIn [x, y]) := by
  intro ps sh σ H x y v u Q I rx ry ⟨F, ds, o, ft, hv, hs, rn⟩
  obtain ⟨a, b, rfl, ha, hb⟩ := bvs_of2 hv
  cases b <;> first
    | (exfalso; simp [Pr.sem] at hs; done)
    | skip
  · rename_i es
    simp only [Pr.sem, i1] at hs
    split at hs
    · rename_i hf
      cases hs
      rw [Bool.and_eq_true] at hf
      obtain ⟨p, vs, rfl, hp, hvs⟩ := bv_tup hb
      obtain ⟨e1, e2⟩ := dvs_flat ha hf.1 hvs hf.2
      refine op_in_seq ps sh σ H x _ v u Q I rx ry ⟨p, vs, rfl, .inr hp.sq, bv_flat ha hf.1, e1, ?_⟩
      rw [if_neg Bool.false_ne_true, e2]
      exact rn.at (.bl _)
    · cases hs
  · rename_i zs
    simp only [Pr.sem, i1] at hs
    split at hs
    · rename_i r hr
      cases hs
      obtain ⟨d, es, e1, e2, s1, s2, rfl⟩ := inD_some hr
      have hl : (Dt.lst zs).py = some (.list es) := by simp only [Dt.py, e2]
      exact op_inD hu ps sh σ H x y v u Q I rx ry ⟨d, es, bv_dp ha e1, bv_dp hb hl, s1, s2, rn.at (.bl _)⟩
    · cases hs
  · simp only [Pr.sem, i1] at hs
    split at hs
    · rename_i k hk
      split at hs
      · rename_i ok
        cases hs
        obtain ⟨p, H2, o, rfl, I2, bk, g, e, _⟩ := dg_any I hb ha hk ok
        obtain rfl : u = Value.ref p := ry
        exact d_in (by omega) I2 g rx fun s' I' => ⟨.bl o.isSome, H, bk s' I', rfl, by rw [e]; exact rn.at (.bl _)⟩
      · cases hs
    · cases hs
theorem oq_notIn (hu : X.A.units + 65 < cLine) : OpR X (compareOp .NotIn) (fun x y => rQ X.K .notIn [x, y]) := by
  intro ps sh σ H x y v u Q I rx ry ⟨F, ds, o, ft, hv, hs, rn⟩
  obtain ⟨a, b, rfl, ha, hb⟩ := bvs_of2 hv
  cases b <;> first
    | (exfalso; simp [Pr.sem] at hs; done)
    | skip
  · rename_i es
    simp only [Pr.sem, i1] at hs
    split at hs
    · rename_i hf
      cases hs
      rw [Bool.and_eq_true] at hf
      obtain ⟨p, vs, rfl, hp, hvs⟩ := bv_tup hb
      obtain ⟨e1, e2⟩ := dvs_flat ha hf.1 hvs hf.2
      refine op_notIn_seq ps sh σ H x _ v u Q I rx ry ⟨p, vs, rfl, .inr hp.sq, bv_flat ha hf.1, e1, ?_⟩
      rw [if_pos rfl, e2]
      exact rn.at (.bl _)
    · cases hs
  · rename_i zs
    simp only [Pr.sem, i1] at hs
    split at hs
    · rename_i r hr
      cases hs
      obtain ⟨d, es, e1, e2, s1, s2, rfl⟩ := inD_some hr
      have hl : (Dt.lst zs).py = some (.list es) := by simp only [Dt.py, e2]
      exact op_notInD hu ps sh σ H x y v u Q I rx ry ⟨d, es, bv_dp ha e1, bv_dp hb hl, s1, s2, rn.at (.bl _)⟩
    · cases hs
  · simp only [Pr.sem, i1] at hs
    split at hs
    · rename_i k hk
      split at hs
      · rename_i ok
        cases hs
        obtain ⟨p, H2, o, rfl, I2, bk, g, e, _⟩ := dg_any I hb ha hk ok
        obtain rfl : u = Value.ref p := ry
        exact d_notIn (by omega) I2 g rx fun s' I' => ⟨.bl (!o.isSome), H, bk s' I', rfl, by rw [e]; exact rn.at (.bl _)⟩
      · cases hs
    · cases hs

/-! ### xs[i] -/
theorem atD_atI {K : PySem.W.Frag} {F : As} {H : Hp} {ds : List Dt} {vs : List V} {i : Int} {d : Dt} (h : DVs K F H vs ds) (e : atD ds i = some d) : ∃ v, atI vs i = some v ∧ DV K F H v d := by
  unfold atD at e
  unfold atI ixN
  split at e
  · rename_i h0
    obtain ⟨v, e1, e2⟩ := h.get e
    have hl := (List.getElem?_eq_some_iff.mp e1).1
    refine ⟨v, ?_, e2⟩
    rw [if_pos h0, if_pos (by omega)]
    exact e1
  · rename_i h0
    split at e
    · rename_i h1
      rw [← h.len] at e h1
      obtain ⟨v, e1, e2⟩ := h.get e
      refine ⟨v, ?_, e2⟩
      rw [if_neg h0, if_pos h1]
      exact e1
    · cases e
theorem iq_ix (hu : X.A.units + 1 < cLine) : IxR X (fun x y => rQ X.K .ix [x, y]) := by
  intro value slice ps sh σ H x y v u Q I rx ry ⟨F, ds, o, ft, hv, hs, rn⟩ hsub
  obtain ⟨a, b, rfl, ha, hb⟩ := bvs_of2 hv
  cases a <;> first
    | (exfalso; simp [Pr.sem] at hs; done)
    | skip
  · cases b <;> first
      | (exfalso; simp [Pr.sem] at hs; done)
      | skip
    obtain ⟨p, vs, rfl, hp, hvs⟩ := bv_tup ha
    obtain rfl := bv_int hb
    simp only [Pr.sem, i1] at hs
    split at hs
    · rename_i d hd
      cases hs
      obtain ⟨w, e1, e2⟩ := atD_atI hvs hd
      exact ix_tup value slice ps sh σ H _ _ v u Q I rx ry ⟨p, vs, _, w, rfl, rfl, hp.sq, e1, rn.at e2⟩ hsub
    · cases hs
  · cases b <;> first
      | (exfalso; simp [Pr.sem] at hs; done)
      | skip
    obtain ⟨p, vs, rfl, hp, hvs⟩ := ha
    obtain rfl := bv_int hb
    simp only [Pr.sem, i1] at hs
    split at hs
    · rename_i d hd
      cases hs
      obtain ⟨w, e1, e2⟩ := atD_atI hvs hd
      exact ix_list value slice ps sh σ H _ _ v u Q I rx ry ⟨p, vs, _, w, rfl, rfl, .of hp, e1, rn.at e2⟩ hsub
    · cases hs
  · simp only [Pr.sem, i1] at hs
    split at hs
    · rename_i k hk
      split at hs
      · rename_i ok
        split at hs
        · rename_i d hd
          cases hs
          obtain ⟨p, H2, o, rfl, I2, bk, g, e, q⟩ := dg_any I ha hb hk ok
          obtain ⟨w, rfl, hw⟩ := q d hd
          obtain rfl : v = Value.ref p := rx
          unfold subscriptTail
          refine wpAny_bind ?_
          have hT := dict_typeIs I2 g
          rw [getitemInPython_of_ne hT.not_modules]
          refine wpAny_bind (wpAny_specialOf hT PySem.F.slot_dict_getitem.lookup ?_)
          have fin : wpAny (model X.prog X.w) X.A (subscripted slice false (.ref p) u) (fun r s₃ => wpAny (model X.prog X.w) X.A (letTemporaryGo value (.ref p) r >>= fun _ => pure r) (EP X ps σ Q) X.xe s₃) X.xe sh := by
            rw [hsub]
            exact wpAny_operating (d_getItem hu I2 g ry fun w' s' I' rw' => wpAny_bind (wpAny_letTemporaryGo (wpAny_pure ⟨w, H, bk s' I', rw', rn.at hw⟩)))
          first
            | exact wpAny_pure (wpAny_bind fin)
            | exact wpAny_bind (wpAny_pure (wpAny_bind fin))
            | exact wpAny_bind fin
        · cases hs
      · cases hs
    · cases hs

/-! ### slices -/
def cutS : Dt → Option Int → Option Int → Option Ow1
  | .lst a, lo, hi => some (.lst (cutD a lo hi))
  | .tup a, lo, hi => some (.imm (.tup (cutD a lo hi)))
  | _, _, _ => none
theorem cutD_eq {α : Type} (xs : List α) (lo hi : Option Int) (n : Nat) (hn : xs.length = n) :
    (xs.drop (match lo with | none => 0 | some v => cutN n 0 v)).take ((match hi with | none => n | some v => cutN n 0 v) - (match lo with | none => 0 | some v => cutN n 0 v)) = (xs.drop (HT.sIx n 0 lo)).take (HT.sIx n n hi - HT.sIx n 0 lo) := by
  cases lo <;> cases hi <;> rfl
theorem dvs_cut {K : PySem.W.Frag} {F : As} {H : Hp} {ds : List Dt} {vs : List V} (h : DVs K F H vs ds) (lo hi : Option Int) : DVs K F H (cutV vs lo hi) (cutD ds lo hi) := by
  have e : cutD ds lo hi = (ds.drop (HT.sIx ds.length 0 lo)).take (HT.sIx ds.length ds.length hi - HT.sIx ds.length 0 lo) := cutD_eq ds lo hi ds.length rfl
  unfold cutV
  rw [e, ← h.len]
  exact (h.drop _).take _
theorem sq_cut : SlR X (fun x lo hi H Q => ∃ F d o, (∀ x, F x → H x ≠ none) ∧ BV X.K F H x d ∧ cutS d lo hi = some o ∧ RN X.K F H o Q) := by
  intro ps sh σ H x v vl vu lo hi sl Q I rx hsl pl pu ⟨F, d, o, ft, hv, hs, rn⟩
  cases d <;> first
    | (exfalso; simp [cutS] at hs; done)
    | skip
  · cases hs
    obtain ⟨p, vs, rfl, hp, hvs⟩ := bv_tup hv
    have hc := dvs_cut hvs lo hi
    refine sl_tupA ps sh σ H _ v vl vu lo hi sl Q I rx hsl pl pu ⟨p, vs, rfl, hp.sq, fun e => ?_, fun _ q hq => rn.newT ft hq hc⟩
    have e1 : cutV vs lo hi = vs := by
      unfold cutV
      rw [e.1, e.2]
      simp
    rw [e1] at hc
    exact rn.at (.tup hp hc)
  · cases hs
    obtain ⟨p, vs, rfl, hp, hvs⟩ := hv
    exact sl_list ps sh σ H _ v vl vu lo hi sl Q I rx hsl pl pu ⟨p, vs, rfl, .of hp, fun q hq => rn.newL ft hq (dvs_cut hvs lo hi)⟩

/-! ### calls -/
theorem vals_of1 {x : V} {us : List Value} (h : Vals [x] us) : ∃ u, us = [u] ∧ RelV x u := vals1 h
theorem cq_len : CallR X (.builtin "len") (rQ X.K .len) := by
  intro ps sh σ H xs us Q I r ⟨F, ds, o, ft, hv, hs, rn⟩
  match ds, hv, hs with
  | [a], hv, hs =>
    obtain ⟨x, rfl, ha⟩ := bvs1 hv
    cases a <;> first
      | (exfalso; simp [Pr.sem] at hs; done)
      | skip
    · obtain rfl := bv_str ha
      simp only [Pr.sem, i1] at hs
      split at hs
      · rename_i hl
        cases hs
        exact call_len_str ps sh σ H _ us Q I r ⟨_, rfl, hl, rn.at (.int _)⟩
      · cases hs
    · obtain ⟨p, vs, rfl, hp, hvs⟩ := bv_tup ha
      cases hs
      refine call_len_seq ps sh σ H _ us Q I r ⟨p, vs, rfl, .inr hp.sq, ?_⟩
      rw [hvs.len]
      exact rn.at (.int _)
    · obtain ⟨p, vs, rfl, hp, hvs⟩ := ha
      cases hs
      refine call_len_seq ps sh σ H _ us Q I r ⟨p, vs, rfl, .inl (.of hp), ?_⟩
      rw [hvs.len]
      exact rn.at (.int _)
    · obtain ⟨p, rfl, hd⟩ := ha
      cases hs
      rcases hd with ⟨ks, hp, hks⟩ | ⟨ks, hp, hks⟩
      · obtain ⟨u, rfl, ru⟩ := vals1 r
        cases ru
        exact d_len I hp.rd fun t s' I' => ⟨.int ks.length, H, I', ⟨t, rfl⟩, by rw [hks.len]; exact rn.at (.int _)⟩
      · obtain ⟨u, rfl, ru⟩ := vals1 r
        cases ru
        obtain ⟨z, hy, ys, rel, dd⟩ := dt_rd I.hok hp.rd
        have hl : ks.length = ys.length := Paired.length rel
        refine call_len_dictH hy dd (by rw [← hl]; rw [sizeLine_eq] at z; omega) ?_
        rw [← hl]
        exact ⟨.int ks.length, H, I.tok _, ⟨_, rfl⟩, by rw [hks.len]; exact rn.at (.int _)⟩
    · obtain ⟨p, rfl, hp⟩ := bv_scr ha
      cases hs
      refine call_len_seq ps sh σ H _ us Q I r ⟨p, _, rfl, .inl hp.sq, ?_⟩
      rw [List.length_map]
      exact rn.at (.int _)
  | [], _, hs => simp [Pr.sem] at hs
  | _ :: _ :: _, _, hs => simp [Pr.sem] at hs
theorem cq_abs : CallR X (.builtin "abs") (rQ X.K .abs) := by
  intro ps sh σ H xs us Q I r ⟨F, ds, o, ft, hv, hs, rn⟩
  match ds, hv, hs with
  | [.int a], hv, hs =>
    obtain ⟨x, rfl, ha⟩ := bvs1 hv
    obtain rfl := bv_int ha
    cases hs
    exact call_abs ps sh σ H _ us Q I r ⟨_, rfl, rn.at (.int _)⟩
theorem cq_max2 (hc : X.calm = true) : CallR X (.builtin "max") (rQ X.K .max2) := by
  intro ps sh σ H xs us Q I r ⟨F, ds, o, ft, hv, hs, rn⟩
  match ds, hv, hs with
  | [.int a, .int b], .cons ha (.cons hb .nil), hs =>
    obtain rfl := bv_int ha
    obtain rfl := bv_int hb
    cases hs
    exact call_max2 hc ps sh σ H _ us Q I r ⟨_, _, rfl, rn.at (.int _)⟩
theorem cq_min2 (hc : X.calm = true) : CallR X (.builtin "min") (rQ X.K .min2) := by
  intro ps sh σ H xs us Q I r ⟨F, ds, o, ft, hv, hs, rn⟩
  match ds, hv, hs with
  | [.int a, .int b], .cons ha (.cons hb .nil), hs =>
    obtain rfl := bv_int ha
    obtain rfl := bv_int hb
    cases hs
    exact call_min2 hc ps sh σ H _ us Q I r ⟨_, _, rfl, rn.at (.int _)⟩
theorem cq_int : CallR X (.type "int") (rQ X.K .int) := by
  intro ps sh σ H xs us Q I r ⟨F, ds, o, ft, hv, hs, rn⟩
  match ds, hv, hs with
  | [.int a], hv, hs =>
    obtain ⟨x, rfl, ha⟩ := bvs1 hv
    obtain rfl := bv_int ha
    cases hs
    exact call_int1 ps sh σ H _ us Q I r (.inl ⟨_, rfl, rn.at (.int _)⟩)
  | [.bl a], hv, hs =>
    obtain ⟨x, rfl, ha⟩ := bvs1 hv
    obtain rfl := bv_bl ha
    cases hs
    exact call_int1 ps sh σ H _ us Q I r (.inr ⟨_, rfl, rn.at (.int _)⟩)
theorem cq_tuple : CallR X (.type "tuple") (rQ X.K .tuple) := by
  intro ps sh σ H xs us Q I r ⟨F, ds, o, ft, hv, hs, rn⟩
  match ds, hv, hs with
  | [.lst a], hv, hs =>
    obtain ⟨x, rfl, ha⟩ := bvs1 hv
    obtain ⟨p, vs, rfl, hp, hvs⟩ := ha
    cases hs
    exact call_tuple_of ps sh σ H _ us Q I r ⟨p, vs, rfl, .inl ⟨.of hp, fun q hq => rn.newT ft hq hvs⟩⟩
  | [.tup a], hv, hs =>
    obtain ⟨x, rfl, ha⟩ := bvs1 hv
    obtain ⟨p, vs, rfl, hp, hvs⟩ := bv_tup ha
    cases hs
    exact call_tuple_of ps sh σ H _ us Q I r ⟨p, vs, rfl, .inr ⟨hp.sq, rn.at (.tup hp hvs)⟩⟩
theorem cq_list : CallR X (.type "list") (rQ X.K .list) := by
  intro ps sh σ H xs us Q I r ⟨F, ds, o, ft, hv, hs, rn⟩
  match ds, hv, hs with
  | [.lst a], hv, hs =>
    obtain ⟨x, rfl, ha⟩ := bvs1 hv
    obtain ⟨p, vs, rfl, hp, hvs⟩ := ha
    cases hs
    exact call_list_of ps sh σ H _ us Q I r ⟨p, vs, rfl, .inl (.of hp), fun q hq => rn.newL ft hq hvs⟩
  | [.tup a], hv, hs =>
    obtain ⟨x, rfl, ha⟩ := bvs1 hv
    obtain ⟨p, vs, rfl, hp, hvs⟩ := bv_tup ha
    cases hs
    exact call_list_of ps sh σ H _ us Q I r ⟨p, vs, rfl, .inr hp.sq, fun q hq => rn.newL ft hq hvs⟩
theorem insI_perm (x : Int) : ∀ l : List Int, (insI x l).Perm (x :: l)
  | [] => .refl _
  | y :: ys => by
    unfold insI
    split
    · exact .refl _
    · exact ((insI_perm x ys).cons y).trans (.swap x y ys)
theorem sortI_perm : ∀ l : List Int, (sortI l).Perm l
  | [] => .refl _
  | x :: xs => (insI_perm x _).trans ((sortI_perm xs).cons x)
theorem insI_sort (x : Int) : ∀ {l : List Int}, l.Pairwise (· ≤ ·) → (insI x l).Pairwise (· ≤ ·)
  | [], _ => List.pairwise_singleton _ _
  | y :: ys, h => by
    have hp := List.pairwise_cons.mp h
    unfold insI
    split
    · rename_i hxy
      refine List.pairwise_cons.mpr ⟨fun z hz => ?_, h⟩
      rcases List.mem_cons.mp hz with e | e
      · rw [e]; exact hxy
      · exact Int.le_trans hxy (hp.1 z e)
    · rename_i hxy
      refine List.pairwise_cons.mpr ⟨fun z hz => ?_, insI_sort x hp.2⟩
      rcases List.mem_cons.mp ((insI_perm x ys).mem_iff.mp hz) with e | e
      · rw [e]; omega
      · exact hp.1 z e
theorem sortI_sort : ∀ l : List Int, (sortI l).Pairwise (· ≤ ·)
  | [] => .nil
  | x :: xs => insI_sort x (sortI_sort xs)
theorem cq_sorted : CallR X (.builtin "sorted") (rQ X.K .sorted) := by
  intro ps sh σ H xs us Q I r ⟨F, ds, o, ft, hv, hs, rn⟩
  match ds, hv, hs with
  | [.lst a], hv, hs =>
    obtain ⟨x, rfl, ha⟩ := bvs1 hv
    obtain ⟨p, vs, rfl, hp, hvs⟩ := ha
    simp only [Pr.sem] at hs
    split at hs
    · rename_i is e
      cases hs
      rw [toInts_eq e] at hvs
      have e2 := dvs_ints_inv hvs
      subst e2
      refine cr_sortedI ps sh σ H _ us Q I r ⟨p, is, rfl, .of hp, fun ns' q h1 h2 hq => ?_⟩
      have e3 : ns' = sortI is := PySem.W.ksm_same (h1.trans (sortI_perm is).symm) h2 (sortI_sort is)
      subst e3
      exact rn.newL ft hq (dvs_ints _)
    · cases hs
theorem cq_sum (hc : X.calm = true) : CallR X (.builtin "sum") (rQ X.K .sum) := by
  intro ps sh σ H xs us Q I r ⟨F, ds, o, ft, hv, hs, rn⟩
  match ds, hv, hs with
  | [.lst a], hv, hs =>
    obtain ⟨x, rfl, ha⟩ := bvs1 hv
    obtain ⟨p, vs, rfl, hp, hvs⟩ := ha
    simp only [Pr.sem, i1] at hs
    split at hs
    · rename_i is e
      cases hs
      rw [toInts_eq e] at hvs
      have e2 := dvs_ints_inv hvs
      subst e2
      exact cr_sum hc ps sh σ H _ us Q I r ⟨p, is, rfl, .of hp, rn.at (.int _)⟩
    · cases hs
theorem mostL_is : ∀ (l : List Int) (m : Int), mostL m l ∈ m :: l ∧ ∀ x ∈ m :: l, x ≤ mostL m l
  | [], m => ⟨by simp [mostL], fun x hx => by simp at hx; simp [mostL, hx]⟩
  | y :: ys, m => by
    unfold mostL
    split
    · rename_i h
      obtain ⟨h1, h2⟩ := mostL_is ys y
      refine ⟨List.mem_cons_of_mem _ h1, fun x hx => ?_⟩
      rcases List.mem_cons.mp hx with e | e
      · rw [e]
        exact Int.le_trans (Int.le_of_lt h) (h2 y List.mem_cons_self)
      · exact h2 x e
    · rename_i h
      obtain ⟨h1, h2⟩ := mostL_is ys m
      refine ⟨?_, fun x hx => ?_⟩
      · rcases List.mem_cons.mp h1 with e | e
        · rw [e]; exact List.mem_cons_self
        · exact List.mem_cons_of_mem _ (List.mem_cons_of_mem _ e)
      · rcases List.mem_cons.mp hx with e | e
        · rw [e]; exact h2 m List.mem_cons_self
        · rcases List.mem_cons.mp e with e | e
          · rw [e]
            have := h2 m List.mem_cons_self
            omega
          · exact h2 x (List.mem_cons_of_mem _ e)
theorem leastL_is : ∀ (l : List Int) (m : Int), leastL m l ∈ m :: l ∧ ∀ x ∈ m :: l, leastL m l ≤ x
  | [], m => ⟨by simp [leastL], fun x hx => by simp at hx; simp [leastL, hx]⟩
  | y :: ys, m => by
    unfold leastL
    split
    · rename_i h
      obtain ⟨h1, h2⟩ := leastL_is ys y
      refine ⟨List.mem_cons_of_mem _ h1, fun x hx => ?_⟩
      rcases List.mem_cons.mp hx with e | e
      · rw [e]
        exact Int.le_trans (h2 y List.mem_cons_self) (Int.le_of_lt h)
      · exact h2 x e
    · rename_i h
      obtain ⟨h1, h2⟩ := leastL_is ys m
      refine ⟨?_, fun x hx => ?_⟩
      · rcases List.mem_cons.mp h1 with e | e
        · rw [e]; exact List.mem_cons_self
        · exact List.mem_cons_of_mem _ (List.mem_cons_of_mem _ e)
      · rcases List.mem_cons.mp hx with e | e
        · rw [e]; exact h2 m List.mem_cons_self
        · rcases List.mem_cons.mp e with e | e
          · rw [e]
            have := h2 m List.mem_cons_self
            omega
          · exact h2 x (List.mem_cons_of_mem _ e)
theorem cq_maxL (hc : X.calm = true) : CallR X (.builtin "max") (rQ X.K .maxL) := by
  intro ps sh σ H xs us Q I r ⟨F, ds, o, ft, hv, hs, rn⟩
  match ds, hv, hs with
  | [.lst a], hv, hs =>
    obtain ⟨x, rfl, ha⟩ := bvs1 hv
    obtain ⟨p, vs, rfl, hp, hvs⟩ := ha
    simp only [Pr.sem, i1] at hs
    split at hs
    · rename_i i is e
      cases hs
      rw [toInts_eq e] at hvs
      have e2 := dvs_ints_inv hvs
      subst e2
      refine cr_max hc ps sh σ H _ us Q I r ⟨p, i :: is, rfl, .of hp, by simp, fun m h1 h2 => ?_⟩
      obtain ⟨g1, g2⟩ := mostL_is is i
      have e3 : m = mostL i is := Int.le_antisymm (g2 m h1) (h2 _ g1)
      subst e3
      exact rn.at (.int _)
    · cases hs
theorem cq_minL (hc : X.calm = true) : CallR X (.builtin "min") (rQ X.K .minL) := by
  intro ps sh σ H xs us Q I r ⟨F, ds, o, ft, hv, hs, rn⟩
  match ds, hv, hs with
  | [.lst a], hv, hs =>
    obtain ⟨x, rfl, ha⟩ := bvs1 hv
    obtain ⟨p, vs, rfl, hp, hvs⟩ := ha
    simp only [Pr.sem, i1] at hs
    split at hs
    · rename_i i is e
      cases hs
      rw [toInts_eq e] at hvs
      have e2 := dvs_ints_inv hvs
      subst e2
      refine cr_min hc ps sh σ H _ us Q I r ⟨p, i :: is, rfl, .of hp, by simp, fun m h1 h2 => ?_⟩
      obtain ⟨g1, g2⟩ := leastL_is is i
      have e3 : m = leastL i is := Int.le_antisymm (h2 _ g1) (g2 m h1)
      subst e3
      exact rn.at (.int _)
    · cases hs
theorem cq_any (hc : X.calm = true) : CallR X (.builtin "any") (rQ X.K .any) := by
  intro ps sh σ H xs us Q I r ⟨F, ds, o, ft, hv, hs, rn⟩
  match ds, hv, hs with
  | [.lst a], hv, hs =>
    obtain ⟨x, rfl, ha⟩ := bvs1 hv
    obtain ⟨p, vs, rfl, hp, hvs⟩ := ha
    simp only [Pr.sem, i1] at hs
    split at hs
    · rename_i is e
      cases hs
      rw [toBls_eq e] at hvs
      have e2 := dvs_bls_inv hvs
      subst e2
      exact cr_any hc ps sh σ H _ us Q I r ⟨p, is, rfl, .of hp, rn.at (.bl _)⟩
    · cases hs
theorem cq_all (hc : X.calm = true) : CallR X (.builtin "all") (rQ X.K .all) := by
  intro ps sh σ H xs us Q I r ⟨F, ds, o, ft, hv, hs, rn⟩
  match ds, hv, hs with
  | [.lst a], hv, hs =>
    obtain ⟨x, rfl, ha⟩ := bvs1 hv
    obtain ⟨p, vs, rfl, hp, hvs⟩ := ha
    simp only [Pr.sem, i1] at hs
    split at hs
    · rename_i is e
      cases hs
      rw [toBls_eq e] at hvs
      have e2 := dvs_bls_inv hvs
      subst e2
      exact cr_all hc ps sh σ H _ us Q I r ⟨p, is, rfl, .of hp, rn.at (.bl _)⟩
    · cases hs
theorem cq_repr (hg : X.A.guards = some []) (hu : X.A.units + 100 < cLine) : CallR X (.builtin "repr") (rQ X.K .repr) := by
  intro ps sh σ H xs us Q I r ⟨F, ds, o, ft, hv, hs, rn⟩
  match ds, hv, hs with
  | [a], hv, hs =>
    obtain ⟨x, rfl, ha⟩ := bvs1 hv
    obtain ⟨u, rfl, ru⟩ := vals1 r
    simp only [Pr.sem, i1] at hs
    split at hs
    · rename_i d hd
      split at hs
      · rename_i hc
        cases hs
        simp only [Bool.and_eq_true, Bool.not_eq_true', decide_eq_true_eq] at hc
        obtain ⟨⟨⟨c1, c2⟩, c3⟩, c4⟩ := hc
        have fin : ∀ (s' : Shared) (t : Tok), L2.Inv X ps σ H s' → EP X ps σ Q (.str d.shown t) s' := fun s' t I' => ⟨.str d.shown, H, I', ⟨t, rfl⟩, rn.at (.str _)⟩
        have hdp := bv_dp ha hd
        cases hdp with
        | non =>
          cases ru
          exact PySem.P.repr_of_none (fin _ _ (I.tok _))
        | bl b =>
          cases ru
          have q := fin { sh with toks := sh.toks + 1 } sh.toks (I.tok _)
          exact PySem.P.repr_of_bool q
        | int i =>
          obtain ⟨t, rfl⟩ := ru
          have c1' : decide (i.natAbs.log2 < 1920) = true := c1
          exact PySem.P.repr_of_int (of_decide_eq_true c1') (fin { sh with toks := sh.toks + 1 } sh.toks (I.tok _))
        | str y =>
          obtain ⟨t, rfl⟩ := ru
          exact PySem.P.repr_of_str (fin { sh with toks := sh.toks + 1 } sh.toks (I.tok _)) c4
        | lst h1 h2 =>
          obtain ⟨as, rd⟩ := Dp.reads I _ _ u (.lst h1 h2) ru
          cases ru
          exact repr_of_reads' rd c1 (PyData.noDict_hsm c2) hg (by omega) (fun _ _ e => e) (fun h' t tk hk => fin _ _ (I.kept hk)) c4
        | tup h1 h2 =>
          obtain ⟨as, rd⟩ := Dp.reads I _ _ u (.tup h1 h2) ru
          cases ru
          exact repr_of_reads' rd c1 (PyData.noDict_hsm c2) hg (by omega) (fun _ _ e => e) (fun h' t tk hk => fin _ _ (I.kept hk)) c4
      · cases hs
    · cases hs
  | [], _, hs => simp [Pr.sem] at hs
  | _ :: _ :: _, _, hs => simp [Pr.sem] at hs
theorem cq_str : CallR X (.type "str") (rQ X.K .str) := by
  intro ps sh σ H xs us Q I r ⟨F, ds, o, ft, hv, hs, rn⟩
  match ds, hv, hs with
  | [.int a], hv, hs =>
    obtain ⟨x, rfl, ha⟩ := bvs1 hv
    obtain rfl := bv_int ha
    simp only [Pr.sem, i1] at hs
    split at hs
    · rename_i hl
      cases hs
      exact call_str_int ps sh σ H _ us Q I r ⟨_, rfl, hl, rn.at (.str _)⟩
    · cases hs
  | [.str a], hv, hs =>
    obtain ⟨x, rfl, ha⟩ := bvs1 hv
    obtain rfl := bv_str ha
    cases hs
    exact SkE.call_str_str ps sh σ H _ us Q I r ⟨_, rfl, rn.at (.str _)⟩
end
end Pd
set_option Elab.async false
set_option linter.all false
set_option maxRecDepth 100000
set_option maxHeartbeats 4000000
/-! Part 5: expressions. -/
namespace Pd
open PySem PySem.Spec PyProof.Rows L2

def Wp {α : Type} (r : Rs α) (q : α → En → Prop) (x : Dt → En → Prop) : Prop :=
  match r with
  | .ok a e => q a e
  | .exc d e => x d e
  | .no => False
theorem Wp.imp {α : Type} {r : Rs α} {q q' : α → En → Prop} {x x' : Dt → En → Prop} (h : Wp r q x) (hq : ∀ a e, r = .ok a e → q a e → q' a e) (hx : ∀ d e, x d e → x' d e) : Wp r q' x' := by
  cases r with
  | ok a e => exact hq a e rfl h
  | exc d e => exact hx d e h
  | no => exact h

/-- how an exception stands for data -/
abbrev Xv := PySem.W.Frag → As → Hp → Value → Option Addr → Dt → Prop
/-- what is wanted of an exception that leaves -/
def Xw (K : PySem.W.Frag) (xv : Xv) (W : WX) (E : En0) (L : Nat → As) (σ : L2.St) (Ts : List Tp) (d : Dt) (env : En) : Prop :=
  ∀ F H S c od, Sx K E F H S L σ env Ts → xv K F H c od d → W c od σ H
theorem Xw.pop {K : PySem.W.Frag} {xv : Xv} {W : WX} {E : En0} {L : Nat → As} {σ : L2.St} {t : Tp} {Ts : List Tp} {d : Dt} {env : En} (h : Xw K xv W E L σ Ts d env) : Xw K xv W E L σ (t :: Ts) d env :=
  fun F H S c od s x => h F H S c od s.pop x

section
variable (K : PySem.W.Frag) (xv : Xv) (W : WX)
def RdE (f : En → Rs Ow) : TE := fun σ H Q => ∃ E F S L env Ts, Sx K E F H S L σ env Ts ∧ Wp (f env) (fun o e => ∀ v F' H' S' T, Sx K E F' H' S' L σ e (⟨v, o, T⟩ :: Ts) → Q v H') (Xw K xv W E L σ Ts)
/-- a value seen through a slot, or at hand -/
def OpOk (σ : L2.St) (v : V) (Ts : List Tp) : Tm → List Tp → Prop
  | .inl i, Us => σ[i]? = some (some v) ∧ Us = Ts
  | .inr o, Us => ∃ T, Us = ⟨v, o, T⟩ :: Ts
def RdP (f : En → Rs Tm) : TE := fun σ H Q => ∃ E F S L env Ts, Sx K E F H S L σ env Ts ∧ Wp (f env) (fun t e => ∀ v F' H' S' Us, OpOk σ v Ts t Us → Sx K E F' H' S' L σ e Us → Q v H') (Xw K xv W E L σ Ts)
inductive OpV (σ : L2.St) : List V → List Tm → List Tp → Prop
  | nil : OpV σ [] [] []
  | slot {i : Nat} {v : V} {vs : List V} {ts : List Tm} {Us : List Tp} : σ[i]? = some (some v) → OpV σ vs ts Us → OpV σ (v :: vs) (.inl i :: ts) Us
  | temp {v : V} {o : Ow} {T : As} {vs : List V} {ts : List Tm} {Us : List Tp} : OpV σ vs ts Us → OpV σ (v :: vs) (.inr o :: ts) (⟨v, o, T⟩ :: Us)
def RdA (f : En → Rs (List Tm)) : TA := fun σ H Q => ∃ E F S L env Ts, Sx K E F H S L σ env Ts ∧ Wp (f env) (fun ts e => ∀ vs Us F' H' S', Sx K E F' H' S' L σ e (Us.reverse ++ Ts) → OpV σ vs ts Us → Q vs H') (Xw K xv W E L σ Ts)
inductive ImV : List V → List Dt → List Tp → Prop
  | nil : ImV [] [] []
  | cons {v : V} {d : Dt} {vs : List V} {ds : List Dt} {Us : List Tp} : ImV vs ds Us → ImV (v :: vs) (d :: ds) (⟨v, im d, fun _ => False⟩ :: Us)
def RdS (f : En → Rs (List Dt)) : TA := fun σ H Q => ∃ E F S L env Ts, Sx K E F H S L σ env Ts ∧ Wp (f env) (fun ds e => ∀ vs Us F' H' S', Sx K E F' H' S' L σ e (Us.reverse ++ Ts) → ImV vs ds Us → Q vs H') (Xw K xv W E L σ Ts)
inductive OwV : List V → List Ow1 → List Tp → Prop
  | nil : OwV [] [] []
  | cons {v : V} {o : Ow1} {T : As} {vs : List V} {os : List Ow1} {Us : List Tp} : OwV vs os Us → OwV (v :: vs) (o :: os) (⟨v, .p o, T⟩ :: Us)
def RdW (f : En → Rs (List Ow1)) : TA := fun σ H Q => ∃ E F S L env Ts, Sx K E F H S L σ env Ts ∧ Wp (f env) (fun os e => ∀ vs Us F' H' S', Sx K E F' H' S' L σ e (Us.reverse ++ Ts) → OwV vs os Us → Q vs H') (Xw K xv W E L σ Ts)
def RdB (f : En → Rs Bool) : TT := fun σ H Q => ∃ E F S L env Ts, Sx K E F H S L σ env Ts ∧ Wp (f env) (fun b e => ∀ F' H' S', Sx K E F' H' S' L σ e Ts → Q b H') (Xw K xv W E L σ Ts)
end

theorem _root_.L2.PE.imp {X : Cx} {e : PySem.Expr} {t t' : TE} (h : PE X e t) (q : ∀ σ H Q, t' σ H Q → t σ H Q) : PE X e t' := ⟨fun ps s σ H Q I hw => h.run ps s σ H Q I (q σ H Q hw)⟩
theorem _root_.L2.PA.imp {X : Cx} {es : List PySem.Expr} {t t' : TA} (h : PA X es t) (q : ∀ σ H Q, t' σ H Q → t σ H Q) : PA X es t' := ⟨fun pos ps s σ H Q I hw => h.run pos ps s σ H Q I (q σ H Q hw)⟩
theorem _root_.L2.PT.imp {X : Cx} {e : PySem.Expr} {t t' : TT} (h : PT X e t) (q : ∀ σ H Q, t' σ H Q → t σ H Q) : PT X e t' := ⟨fun ps s σ H Q I hw => h.run ps s σ H Q I (q σ H Q hw)⟩
theorem _root_.L2.PW.imp {X : Cx} {e : PySem.Expr} {t t' : TT} (h : PW X e t) (q : ∀ σ H Q, t' σ H Q → t σ H Q) : PW X e t' := ⟨fun wh ps s σ H Q I hw => h.run wh ps s σ H Q I (q σ H Q hw)⟩

section
variable {K : PySem.W.Frag} {xv : Xv} {W : WX} {C : Cl} {σ : L2.St} {H : Hp}

/-! ### operands -/
theorem rdp_slot {i : Nat} {Q : VK} (h : RdP K xv W (evp C (.v i)) σ H Q) : tVar i σ H Q := by
  obtain ⟨E, F, S, L, env, Ts, s, w⟩ := h
  simp only [evp] at w
  split at w
  · rename_i o hg
    obtain ⟨v, e1, e2⟩ := s.sl i o hg
    exact ⟨v, e1, w v F H S Ts ⟨e1, rfl⟩ s⟩
  · exact w.elim
theorem rdp_ex {x : Ex} {Q : VK} (h : RdP K xv W (evp C (.e x)) σ H Q) : RdE K xv W (ev C x) σ H Q := by
  obtain ⟨E, F, S, L, env, Ts, s, w⟩ := h
  refine ⟨E, F, S, L, env, Ts, s, ?_⟩
  simp only [evp] at w
  split at w
  · rename_i o e1 hx
    rw [hx]
    exact fun v F' H' S' T s' => w v F' H' S' _ ⟨T, rfl⟩ s'
  · rename_i d e1 hx
    rw [hx]
    exact w
  · exact w.elim
theorem rda_nil {Q : List V → Hp → Prop} (h : RdA K xv W (evo C .nil) σ H Q) : Q [] H := by
  obtain ⟨E, F, S, L, env, Ts, s, w⟩ := h
  simp only [evo] at w
  exact w [] [] F H S s .nil
theorem rda_cons {o : Op} {os : Ops} {Q : List V → Hp → Prop} (h : RdA K xv W (evo C (.cons o os)) σ H Q) : RdP K xv W (evp C o) σ H fun v H1 => RdA K xv W (evo C os) σ H1 fun vs H2 => Q (v :: vs) H2 := by
  obtain ⟨E, F, S, L, env, Ts, s, w⟩ := h
  refine ⟨E, F, S, L, env, Ts, s, ?_⟩
  simp only [evo] at w
  split at w
  · rename_i t e1 hx
    rw [hx]
    intro v F' H' S' Us ok s'
    refine ⟨E, F', S', L, e1, Us, s', ?_⟩
    split at w
    · rename_i ts e2 hy
      rw [hy]
      intro vs Us' F'' H'' S'' s'' ov
      cases t with
      | inl i =>
        obtain ⟨hv, rfl⟩ := ok
        exact w (v :: vs) Us' F'' H'' S'' s'' (.slot hv ov)
      | inr ow =>
        obtain ⟨T, rfl⟩ := ok
        refine w (v :: vs) (⟨v, ow, T⟩ :: Us') F'' H'' S'' ?_ (.temp ov)
        simpa using s''
    · rename_i d e2 hy
      rw [hy]
      cases t with
      | inl i =>
        obtain ⟨hv, rfl⟩ := ok
        exact w
      | inr ow =>
        obtain ⟨T, rfl⟩ := ok
        exact Xw.pop w
    · exact w.elim
  · rename_i d e1 hx
    rw [hx]
    exact w
  · exact w.elim
theorem opv_views {E : En0} {F : As} {S : Nat → As} {L : Nat → As} {env : En} {Rs : List Tp} (s : Sx K E F H S L σ env Rs) {ts : List Tm} {vs : List V} {Us : List Tp} (ov : OpV σ vs ts Us) :
    ∀ {ds : List Dt}, (∀ u ∈ Us, u ∈ Rs) → vws env ts = some ds → Bvs K F H vs ds := by
  induction ov with
  | nil =>
    intro ds hu e
    simp only [vws] at e
    cases e
    exact .nil
  | @slot i v vs ts Us hv r ih =>
    intro ds hu e
    simp only [vws, Tm.vw] at e
    split at e
    · rename_i d hd
      split at e
      · rename_i ds' he
        cases e
        split at hd
        · rename_i o hg
          obtain ⟨w, ew, bw⟩ := s.view hg hd
          rw [hv] at ew
          cases ew
          exact .cons bw (ih hu he)
        · cases hd
      · cases e
    · cases e
  | @temp v o T vs ts Us r ih =>
    intro ds hu e
    simp only [vws, Tm.vw] at e
    split at e
    · rename_i d hd
      split at e
      · rename_i ds' he
        cases e
        exact .cons ((s.tm _ (hu _ List.mem_cons_self)).bv hd) (ih (fun u hm => hu u (List.mem_cons_of_mem _ hm)) he)
      · cases e
    · cases e
/-- a pure operation upon its operands -/
theorem rd_prim {q : Pr} {os : Ops} {Q : VK} (h : RdE K xv W (ev C (.pr q os)) σ H Q) : RdA K xv W (evo C os) σ H fun vs H1 => rQ K q vs H1 Q := by
  obtain ⟨E, F, S, L, env, Ts, s, w⟩ := h
  refine ⟨E, F, S, L, env, Ts, s, ?_⟩
  simp only [ev] at w
  split at w
  · rename_i ts e1 hx
    rw [hx]
    split at w
    · rename_i ds hd
      split at w
      · rename_i o ho
        intro vs Us F' H' S' s' ov
        refine ⟨F', ds, o, fun x hx => (s'.fr x hx).1, opv_views s' ov (fun u hu => List.mem_append_left _ (List.mem_reverse.mpr hu)) hd, ho, fun v F2 H2 T c1 c2 c3 c4 hv => ?_⟩
        have s2 : Sx K E F2 H2 S' L σ e1 (⟨v, .p o, T⟩ :: (Us.reverse ++ Ts)) := s'.fresh c1 c2 c3 c4 hv
        exact w v F2 H2 S' T (s2.sub ((List.sublist_append_right _ _).cons_cons _))
      · exact w.elim
    · exact w.elim
  · rename_i d e1 hx
    rw [hx]
    exact w
  · exact w.elim

/-! ### constants, names -/
theorem rd_cst {d : Dt} {v : V} {Q : VK} (hv : ∀ F H, DV K F H v d) (h : RdE K xv W (ev C (.cst d)) σ H Q) : tC v σ H Q := by
  obtain ⟨E, F, S, L, env, Ts, s, w⟩ := h
  simp only [ev] at w
  exact w v F H S _ (s.pushI (hv F H))
theorem rd_var {i : Nat} {Q : VK} (h : RdE K xv W (ev C (.var i)) σ H Q) : tVar i σ H Q := by
  obtain ⟨E, F, S, L, env, Ts, s, w⟩ := h
  simp only [ev] at w
  split at w
  · rename_i d hg
    obtain ⟨v, e1, e2⟩ := s.sl i _ hg
    exact ⟨v, e1, w v F H S _ (s.pushI e2.2)⟩
  · rename_i o hne hg
    obtain ⟨s1, v, e1, e2⟩ := s.frz hg
    exact ⟨v, e1, w v _ H _ _ (s1.pushI e2)⟩
  · exact w.elim

/-! ### displays -/
theorem dt?_p {o : Ow} {d : Dt} (h : o.dt? = some d) : ∃ o1, o = .p o1 ∧ o1.dt = d := by
  cases o with
  | p o => exact ⟨o, rfl, by simpa [Ow.dt?] using h⟩
  | lk _ => cases h
  | rc _ => cases h
theorem rds_nil {Q : List V → Hp → Prop} (h : RdS K xv W (evs C .nil) σ H Q) : Q [] H := by
  obtain ⟨E, F, S, L, env, Ts, s, w⟩ := h
  simp only [evs] at w
  exact w [] [] F H S s .nil
theorem rds_cons {x : Ex} {xs : Exs} {Q : List V → Hp → Prop} (h : RdS K xv W (evs C (.cons x xs)) σ H Q) : RdE K xv W (ev C x) σ H fun v H1 => RdS K xv W (evs C xs) σ H1 fun vs H2 => Q (v :: vs) H2 := by
  obtain ⟨E, F, S, L, env, Ts, s, w⟩ := h
  refine ⟨E, F, S, L, env, Ts, s, ?_⟩
  simp only [evs] at w
  split at w
  · rename_i o e1 hx
    rw [hx]
    split at w
    · rename_i d hd
      obtain ⟨o1, rfl, rfl⟩ := dt?_p hd
      intro v F' H' S' T s'
      obtain ⟨s1, dv⟩ := s'.frzT
      refine ⟨E, _, S', L, e1, _, s1.pushI dv, ?_⟩
      split at w
      · rename_i ds e2 hy
        rw [hy]
        intro vs Us F'' H'' S'' s'' iv
        refine w (v :: vs) _ F'' H'' S'' ?_ (.cons iv)
        simpa using s''
      · rename_i d e2 hy
        rw [hy]
        exact Xw.pop w
      · exact w.elim
    · exact w.elim
  · rename_i d e1 hx
    rw [hx]
    exact w
  · exact w.elim
theorem imv_dvs {E : En0} {F : As} {S : Nat → As} {L : Nat → As} {env : En} {Rs : List Tp} (s : Sx K E F H S L σ env Rs) : ∀ {vs : List V} {ds : List Dt} {Us : List Tp}, (∀ u ∈ Us, u ∈ Rs) → ImV vs ds Us → DVs K F H vs ds
  | _, _, _, _, .nil => .nil
  | _, _, _, hu, .cons r => .cons ((s.tm _ (hu _ List.mem_cons_self)).2) (imv_dvs s (fun u hm => hu u (List.mem_cons_of_mem _ hm)) r)
theorem rd_tup {es : Exs} {Q : VK} (h : RdE K xv W (ev C (.tup es)) σ H Q) : tTup (RdS K xv W (evs C es)) σ H Q := by
  obtain ⟨E, F, S, L, env, Ts, s, w⟩ := h
  refine ⟨E, F, S, L, env, Ts, s, ?_⟩
  simp only [ev] at w
  split at w
  · rename_i ds e1 hx
    rw [hx]
    split at w
    · rename_i hl
      intro vs Us F' H' S' s' iv
      have dv := imv_dvs s' (fun u hu => List.mem_append_left _ (List.mem_reverse.mpr hu)) iv
      refine ⟨by rw [dv.len]; exact hl, fun p hp => ?_⟩
      have rn : RN K F' H' (.imm (.tup ds)) Q := fun v F2 H2 T c1 c2 c3 c4 hv => by
        have s2 : Sx K E F2 H2 S' L σ e1 (⟨v, im (.tup ds), T⟩ :: (Us.reverse ++ Ts)) := s'.fresh c1 c2 c3 c4 hv
        exact w v F2 H2 S' T (s2.sub ((List.sublist_append_right _ _).cons_cons _))
      exact rn.newT (fun x hx => (s'.fr x hx).1) hp dv
    · exact w.elim
  · rename_i d e1 hx
    rw [hx]
    exact w
  · exact w.elim
theorem rd_lst {es : Exs} {Q : VK} (h : RdE K xv W (ev C (.lst es)) σ H Q) : tLst (RdS K xv W (evs C es)) σ H Q := by
  obtain ⟨E, F, S, L, env, Ts, s, w⟩ := h
  refine ⟨E, F, S, L, env, Ts, s, ?_⟩
  simp only [ev] at w
  split at w
  · rename_i ds e1 hx
    rw [hx]
    split at w
    · rename_i hl
      intro vs Us F' H' S' s' iv
      have dv := imv_dvs s' (fun u hu => List.mem_append_left _ (List.mem_reverse.mpr hu)) iv
      refine ⟨by rw [dv.len]; exact hl, fun p hp => ?_⟩
      have rn : RN K F' H' (.lst ds) Q := fun v F2 H2 T c1 c2 c3 c4 hv => by
        have s2 : Sx K E F2 H2 S' L σ e1 (⟨v, .p (.lst ds), T⟩ :: (Us.reverse ++ Ts)) := s'.fresh c1 c2 c3 c4 hv
        exact w v F2 H2 S' T (s2.sub ((List.sublist_append_right _ _).cons_cons _))
      exact rn.newL (fun x hx => (s'.fr x hx).1) hp dv
    · exact w.elim
  · rename_i d e1 hx
    rw [hx]
    exact w
  · exact w.elim
theorem rdw_nil {Q : List V → Hp → Prop} (h : RdW K xv W (evw C .nil) σ H Q) : Q [] H := by
  obtain ⟨E, F, S, L, env, Ts, s, w⟩ := h
  simp only [evw] at w
  exact w [] [] F H S s .nil
theorem rdw_cons {x : Ex} {xs : Exs} {Q : List V → Hp → Prop} (h : RdW K xv W (evw C (.cons x xs)) σ H Q) : RdE K xv W (ev C x) σ H fun v H1 => RdW K xv W (evw C xs) σ H1 fun vs H2 => Q (v :: vs) H2 := by
  obtain ⟨E, F, S, L, env, Ts, s, w⟩ := h
  refine ⟨E, F, S, L, env, Ts, s, ?_⟩
  simp only [evw] at w
  split at w
  · rename_i o e1 hx
    rw [hx]
    intro v F' H' S' T s'
    refine ⟨E, F', S', L, e1, _, s', ?_⟩
    split at w
    · rename_i os e2 hy
      rw [hy]
      intro vs Us F'' H'' S'' s'' iv
      refine w (v :: vs) (⟨v, .p o, T⟩ :: Us) F'' H'' S'' ?_ (.cons iv)
      simpa using s''
    · rename_i d e2 hy
      rw [hy]
      exact Xw.pop w
    · exact w.elim
  · exact w.elim
  · rename_i d e1 hx
    rw [hx]
    exact w
  · exact w.elim
theorem rd_dnew {Q : VK} (h : RdE K xv W (ev C .dnew) σ H Q) : tDNewK σ H Q := by
  obtain ⟨E, F, S, L, env, Ts, s, w⟩ := h
  simp only [ev] at w
  intro p hp
  have ne : ∀ x, H x ≠ none → x ≠ p := fun x hx e => by subst e; exact hx hp
  refine w (.ref p) F _ S (fun x => x = p) (s.fresh (fun _ z => z) (fun _ z => .inl z) (fun x hx => upd_ne (ne x hx)) (fun x hx => ?_) ?_)
  · subst hx
    exact ⟨hp, by rw [upd_same]; simp, fun z => (s.fr _ z).1 hp⟩
  · exact ⟨p, rfl, fun _ => Iff.rfl, .inl ⟨[], upd_same, .nil⟩⟩

/-! ### tests -/
theorem bv_tru {F : As} {v : V} {d : Dt} {b : Bool} (h : BV K F H v d) (e : d.tru = some b) : TruV K v H b := by
  cases d with
  | non => cases h; cases e; rfl
  | bl c => cases h; cases e; rfl
  | int c => cases h; cases e; rfl
  | str c =>
    cases h
    simp only [Dt.tru] at e
    split at e
    · rename_i hl
      cases e
      refine ⟨hl, ?_⟩
      cases c.length <;> rfl
    · cases e
  | tup ds =>
    obtain ⟨a, vs, rfl, hp, hvs⟩ := bv_tup h
    cases e
    exact .inr (.inl ⟨vs, hp.sq, by cases hvs <;> rfl⟩)
  | lst ds =>
    obtain ⟨a, vs, rfl, hp, hvs⟩ := h
    cases e
    exact .inl ⟨vs, .of hp, by cases hvs <;> rfl⟩
  | dic ds => cases e
  | scr ds => cases e
theorem rd_tr {o : Op} {Q : Bool → Hp → Prop} (h : RdB K xv W (evt C (.tr o)) σ H Q) : RdP K xv W (evp C o) σ H fun v H1 => ∃ b, TruV K v H1 b ∧ Q b H1 := by
  obtain ⟨E, F, S, L, env, Ts, s, w⟩ := h
  refine ⟨E, F, S, L, env, Ts, s, ?_⟩
  simp only [evt] at w
  split at w
  · rename_i t e1 hx
    rw [hx]
    split at w
    · rename_i d hd
      split at w
      · rename_i b hb
        intro v F' H' S' Us ok s'
        cases t with
        | inl i =>
          obtain ⟨hv, rfl⟩ := ok
          simp only [Tm.vw] at hd
          split at hd
          · rename_i o hg
            obtain ⟨y, ey, bv⟩ := s'.view hg hd
            rw [hv] at ey
            cases ey
            exact ⟨b, bv_tru bv hb, w F' H' S' s'⟩
          · cases hd
        | inr ow =>
          obtain ⟨T, rfl⟩ := ok
          exact ⟨b, bv_tru ((s'.tm _ List.mem_cons_self).bv hd) hb, w F' H' S' s'.pop⟩
      · exact w.elim
    · exact w.elim
  · rename_i d e1 hx
    rw [hx]
    exact w
  · exact w.elim
theorem rd_tand {a b : Te} {Q : Bool → Hp → Prop} (h : RdB K xv W (evt C (.land a b)) σ H Q) : tAnd (RdB K xv W (evt C a)) (RdB K xv W (evt C b)) σ H Q := by
  obtain ⟨E, F, S, L, env, Ts, s, w⟩ := h
  refine ⟨E, F, S, L, env, Ts, s, ?_⟩
  simp only [evt] at w
  split at w
  · rename_i e1 hx
    rw [hx]
    intro F' H' S' s'
    rw [if_pos rfl]
    exact ⟨E, F', S', L, e1, Ts, s', w⟩
  · rename_i e1 hx
    rw [hx]
    intro F' H' S' s'
    rw [if_neg Bool.false_ne_true]
    exact w F' H' S' s'
  · rename_i d e1 hx
    rw [hx]
    exact w
  · exact w.elim
theorem rd_tor {a b : Te} {Q : Bool → Hp → Prop} (h : RdB K xv W (evt C (.lor a b)) σ H Q) : tOr (RdB K xv W (evt C a)) (RdB K xv W (evt C b)) σ H Q := by
  obtain ⟨E, F, S, L, env, Ts, s, w⟩ := h
  refine ⟨E, F, S, L, env, Ts, s, ?_⟩
  simp only [evt] at w
  split at w
  · rename_i e1 hx
    rw [hx]
    intro F' H' S' s'
    rw [if_neg Bool.false_ne_true]
    exact ⟨E, F', S', L, e1, Ts, s', w⟩
  · rename_i e1 hx
    rw [hx]
    intro F' H' S' s'
    rw [if_pos rfl]
    exact w F' H' S' s'
  · rename_i d e1 hx
    rw [hx]
    exact w
  · exact w.elim
theorem rd_tnot {a : Te} {Q : Bool → Hp → Prop} (h : RdB K xv W (evt C (.lnot a)) σ H Q) : tNot (RdB K xv W (evt C a)) σ H Q := by
  obtain ⟨E, F, S, L, env, Ts, s, w⟩ := h
  refine ⟨E, F, S, L, env, Ts, s, ?_⟩
  simp only [evt] at w
  split at w
  · rename_i b e1 hx
    rw [hx]
    exact w
  · rename_i d e1 hx
    rw [hx]
    exact w
  · exact w.elim
theorem rd_cond {t : Te} {a b : Ex} {Q : VK} (h : RdE K xv W (ev C (.cond t a b)) σ H Q) : tIf (RdB K xv W (evt C t)) (RdE K xv W (ev C a)) (RdE K xv W (ev C b)) σ H Q := by
  obtain ⟨E, F, S, L, env, Ts, s, w⟩ := h
  refine ⟨E, F, S, L, env, Ts, s, ?_⟩
  simp only [ev] at w
  split at w
  · rename_i e1 hx
    rw [hx]
    intro F' H' S' s'
    rw [if_pos rfl]
    exact ⟨E, F', S', L, e1, Ts, s', w⟩
  · rename_i e1 hx
    rw [hx]
    intro F' H' S' s'
    rw [if_neg Bool.false_ne_true]
    exact ⟨E, F', S', L, e1, Ts, s', w⟩
  · rename_i d e1 hx
    rw [hx]
    exact w
  · exact w.elim
theorem rd_land {a b : Ex} {Q : VK} (h : RdE K xv W (ev C (.land a b)) σ H Q) : tAndV (RdE K xv W (ev C a)) (RdE K xv W (ev C b)) σ H Q := by
  obtain ⟨E, F, S, L, env, Ts, s, w⟩ := h
  refine ⟨E, F, S, L, env, Ts, s, ?_⟩
  simp only [ev] at w
  split at w
  · rename_i e1 hx
    rw [hx]
    intro v F' H' S' T s'
    have q := (s'.tm _ List.mem_cons_self).2
    cases q
    refine ⟨true, rfl, ?_⟩
    exact ⟨E, F', S', L, e1, Ts, s'.pop, w⟩
  · rename_i e1 hx
    rw [hx]
    intro v F' H' S' T s'
    have q := (s'.tm _ List.mem_cons_self).2
    cases q
    exact ⟨false, rfl, w _ F' H' S' T s'⟩
  · exact w.elim
  · rename_i d e1 hx
    rw [hx]
    exact w
  · exact w.elim
theorem rd_lor {a b : Ex} {Q : VK} (h : RdE K xv W (ev C (.lor a b)) σ H Q) : tOrV (RdE K xv W (ev C a)) (RdE K xv W (ev C b)) σ H Q := by
  obtain ⟨E, F, S, L, env, Ts, s, w⟩ := h
  refine ⟨E, F, S, L, env, Ts, s, ?_⟩
  simp only [ev] at w
  split at w
  · rename_i e1 hx
    rw [hx]
    intro v F' H' S' T s'
    have q := (s'.tm _ List.mem_cons_self).2
    cases q
    refine ⟨false, rfl, ?_⟩
    exact ⟨E, F', S', L, e1, Ts, s'.pop, w⟩
  · rename_i e1 hx
    rw [hx]
    intro v F' H' S' T s'
    have q := (s'.tm _ List.mem_cons_self).2
    cases q
    exact ⟨true, rfl, w _ F' H' S' T s'⟩
  · exact w.elim
  · rename_i d e1 hx
    rw [hx]
    exact w
  · exact w.elim
theorem rd_lnot {o : Op} {Q : VK} (h : RdE K xv W (ev C (.lnot o)) σ H Q) : tNotT K (RdP K xv W (evp C o)) σ H Q := by
  obtain ⟨E, F, S, L, env, Ts, s, w⟩ := h
  refine ⟨E, F, S, L, env, Ts, s, ?_⟩
  simp only [ev] at w
  split at w
  · rename_i t e1 hx
    rw [hx]
    split at w
    · rename_i d hd
      split at w
      · rename_i b hb
        intro v F' H' S' Us ok s'
        cases t with
        | inl i =>
          obtain ⟨hv, rfl⟩ := ok
          simp only [Tm.vw] at hd
          split at hd
          · rename_i o hg
            obtain ⟨y, ey, bv⟩ := s'.view hg hd
            rw [hv] at ey
            cases ey
            exact ⟨b, bv_tru bv hb, w _ F' H' S' _ (s'.pushI (.bl _))⟩
          · cases hd
        | inr ow =>
          obtain ⟨T, rfl⟩ := ok
          exact ⟨b, bv_tru ((s'.tm _ List.mem_cons_self).bv hd) hb, w _ F' H' S' _ (s'.pop.pushI (.bl _))⟩
      · exact w.elim
    · exact w.elim
  · rename_i d e1 hx
    rw [hx]
    exact w
  · exact w.elim
end
end Pd
set_option Elab.async false
set_option linter.all false
set_option maxRecDepth 100000
set_option maxHeartbeats 4000000
/-! Part 6: records, what changes its object. -/
namespace Pd
open PySem PySem.Spec PyProof.Rows L2

section
variable {K : PySem.W.Frag} {xv : Xv} {W : WX} {C : Cl} {σ : L2.St} {H : Hp} {F : As}
abbrev sk (kvs : List (Str × V)) : List (Key × V) := kvs.map fun (p : Str × V) => ((.inr p.1 : Key), p.2)
theorem lookup_ix {α : Type} {f : Str} {o : α} : ∀ {fs : List (Str × α)}, fs.lookup f = some o → ∃ j : Nat, fs[j]? = some (f, o)
  | [], h => by simp at h
  | (g, x) :: r, h => by
    rw [List.lookup_cons] at h
    cases e : f == g with
    | true =>
      rw [e] at h
      cases h
      exact ⟨0, by rw [beq_iff_eq.mp e]; rfl⟩
    | false =>
      rw [e] at h
      obtain ⟨j, hj⟩ := lookup_ix h
      exact ⟨j + 1, by simpa using hj⟩
theorem nm_inj {α : Type} {f : Str} : ∀ {fs : List (Str × α)} {i j : Nat} {x y : α}, (fs.map (·.1)).Nodup → fs[i]? = some (f, x) → fs[j]? = some (f, y) → i = j := fun {fs i j x y} nd h1 h2 => by
  have e1 : (fs.map (·.1))[i]? = some f := by rw [List.getElem?_map, h1]; rfl
  have e2 : (fs.map (·.1))[j]? = some f := by rw [List.getElem?_map, h2]; rfl
  obtain ⟨l1, q1⟩ := List.getElem?_eq_some_iff.mp e1
  obtain ⟨l2, q2⟩ := List.getElem?_eq_some_iff.mp e2
  exact (List.getElem_inj nd).mp (q1.trans q2.symm)
theorem valV_sk {f : Str} {w : V} : ∀ {kvs : List (Str × V)} {j : Nat}, (kvs.map (·.1)).Nodup → kvs[j]? = some (f, w) → valV (sk kvs) (.inr f) = some w
  | [], _, _, h => by simp at h
  | (g, x) :: r, 0, nd, h => by
    simp at h
    obtain ⟨rfl, rfl⟩ := h
    exact valV_pos rfl
  | (g, x) :: r, j + 1, nd, h => by
    have h' : r[j]? = some (f, w) := by simpa using h
    have np := List.nodup_cons.mp nd
    have ne : ¬ (Sum.inr g : Key) = Sum.inr f := fun e => np.1 (List.mem_map.mpr ⟨(f, w), List.mem_of_getElem? h', by cases e; rfl⟩)
    show valV ((Sum.inr g, x) :: sk r) (.inr f) = some w
    rw [valV_neg ne]
    exact valV_sk np.2 h'
theorem put_sk {f : Str} {w y : V} : ∀ {kvs : List (Str × V)} {j : Nat}, (kvs.map (·.1)).Nodup → kvs[j]? = some (f, w) → putK (sk kvs) (.inr f) y = sk (kvs.set j (f, y)) := fun {kvs j} nd h => by
  have hv := valV_sk nd h
  have ha : ((sk kvs).any fun kv => decide (kv.1 = (.inr f : Key))) = true := by rw [valV_any, hv]; rfl
  unfold putK
  rw [if_pos ha]
  clear ha hv
  induction kvs generalizing j with
  | nil => simp at h
  | cons p r ih =>
    obtain ⟨g, x⟩ := p
    have np := List.nodup_cons.mp nd
    cases j with
    | zero =>
      simp at h
      obtain ⟨rfl, rfl⟩ := h
      have rest : ∀ l : List (Str × V), g ∉ l.map (·.1) → (sk l).map (fun kv => if kv.1 = (.inr g : Key) then (kv.1, y) else kv) = sk l := by
        intro l
        induction l with
        | nil => intro _; rfl
        | cons q l ih2 =>
          intro hn
          obtain ⟨n1, n2⟩ := not_or.mp (fun z => hn (List.mem_cons.mpr z))
          show (if (.inr q.1 : Key) = .inr g then _ else _) :: (sk l).map _ = _
          rw [if_neg (fun e => n1 (by cases e; rfl)), ih2 n2]
          rfl
      show (if (.inr g : Key) = .inr g then _ else _) :: (sk r).map _ = _
      rw [if_pos rfl, rest r np.1]
      rfl
    | succ j =>
      have h' : r[j]? = some (f, w) := by simpa using h
      have ne : ¬ (Sum.inr g : Key) = Sum.inr f := fun e => np.1 (List.mem_map.mpr ⟨(f, w), List.mem_of_getElem? h', by cases e; rfl⟩)
      show (if (.inr g : Key) = .inr f then _ else _) :: (sk r).map _ = _
      rw [if_neg ne, ih np.2 h']
      rfl
theorem setRec_eq {f : Str} {x o : Ow1} : ∀ {fs : List (Str × Ow1)} {j : Nat}, (fs.map (·.1)).Nodup → fs[j]? = some (f, x) → setRec f o fs = fs.set j (f, o)
  | [], _, _, h => by simp at h
  | (g, y) :: r, 0, nd, h => by
    simp at h
    obtain ⟨rfl, rfl⟩ := h
    simp [setRec]
  | (g, y) :: r, j + 1, nd, h => by
    have h' : r[j]? = some (f, x) := by simpa using h
    have np := List.nodup_cons.mp nd
    have ne : ¬ g = f := fun e => np.1 (List.mem_map.mpr ⟨(f, x), List.mem_of_getElem? h', by rw [e]⟩)
    simp [setRec, ne, setRec_eq np.2 h']
theorem fsv_names {Sf : Nat → As} {kvs : List (Str × V)} {fs : List (Str × Ow1)} (h : FsV K F H Sf kvs fs) : kvs.map (·.1) = fs.map (·.1) := by
  apply List.ext_getElem?
  intro i
  rw [List.getElem?_map, List.getElem?_map]
  cases e : fs[i]? with
  | none =>
    have : kvs[i]? = none := by
      rw [List.getElem?_eq_none_iff] at e ⊢
      rw [h.len]; exact e
    rw [this]; rfl
  | some p =>
    obtain ⟨w, h1, _⟩ := h.nm i p e
    rw [h1]; rfl
theorem names_set {α : Type} {f : Str} {o x : α} {fs : List (Str × α)} {j : Nat} (h : fs[j]? = some (f, x)) : (fs.set j (f, o)).map (·.1) = fs.map (·.1) := by
  apply List.ext_getElem?
  intro i
  rw [List.getElem?_map, List.getElem?_map]
  by_cases e : j = i
  · subst e
    have hl := (List.getElem?_eq_some_iff.mp h).1
    rw [List.getElem?_set_self hl, h]; rfl
  · rw [List.getElem?_set_ne e]
/-- a field of a record -/
structure FldAt (K : PySem.W.Frag) (F : As) (H : Hp) (S : As) (v : V) (fs : List (Str × Ow1)) (f : Str) (o : Ow1) (a : Addr) (kvs : List (Str × V)) (Sf : Nat → As) (j : Nat) (w : V) : Prop where
  ev : v = .ref a
  at_ : H a = some (.dK (sk kvs))
  fs' : FsV K F H Sf kvs fs
  dj : ∀ i j x, Sf i x → Sf j x → i = j
  na : ∀ i, ¬ Sf i a
  sx : ∀ x, S x ↔ x = a ∨ ∃ i, i < fs.length ∧ Sf i x
  nd : (fs.map (·.1)).Nodup
  nk : (kvs.map (·.1)).Nodup
  ix : fs[j]? = some (f, o)
  iw : kvs[j]? = some (f, w)
  ow : O1V K F H (Sf j) w o
theorem rc_fld {L S : As} {v : V} {fs : List (Str × Ow1)} {f : Str} {o : Ow1} (h : OV K F H L S v (.rc fs)) (hf : fs.lookup f = some o) : ∃ a kvs Sf j w, FldAt K F H S v fs f o a kvs Sf j w := by
  obtain ⟨a, kvs, Sf, e, q, r, d1, d2, s, nd⟩ := h
  obtain ⟨j, hj⟩ := lookup_ix hf
  obtain ⟨w, h1, h2⟩ := r.nm j _ hj
  exact ⟨a, kvs, Sf, j, w, e, q, r, d1, d2, s, nd, by rw [fsv_names r]; exact nd, hj, h1, h2⟩
theorem FldAt.get {S : As} {v : V} {fs : List (Str × Ow1)} {f : Str} {o : Ow1} {a : Addr} {kvs : List (Str × V)} {Sf : Nat → As} {j : Nat} {w : V} (A : FldAt K F H S v fs f o a kvs Sf j w) : DGet H a (.str f) (some w) := by
  have q := DGet.k (k := (.inr f : Key)) A.at_
  rw [valV_sk A.nk A.iw] at q
  exact q
theorem rd_fld {i : Nat} {f : Str} {Q : VK} (h : RdE K xv W (ev C (.fld i f)) σ H Q) : tDGet (tVar i) (tC (.str f)) σ H Q := by
  obtain ⟨E, F, S, L, env, Ts, s, w⟩ := h
  simp only [ev] at w
  split at w
  · rename_i fs hg
    split at w
    · rename_i d hf
      obtain ⟨v, e1, e2⟩ := s.sl i _ hg
      obtain ⟨a, kvs, Sf, j, y, A⟩ := rc_fld e2 hf
      exact ⟨v, e1, a, y, A.ev, A.get, w y F H S _ (s.pushI A.ow.2)⟩
    · exact w.elim
  · exact w.elim
theorem rd_lenF {i : Nat} {f : Str} {Q : VK} (h : RdE K xv W (ev C (.lenF i f)) σ H Q) : tCB (fun xs H Q => ∃ p ys, xs = [.ref p] ∧ (SqL K H p ys ∨ SqT K H p ys) ∧ Q (.int ys.length) H) (tCons (tDGet (tVar i) (tC (.str f))) tNil) σ H Q := by
  obtain ⟨E, F, S, L, env, Ts, s, w⟩ := h
  simp only [ev] at w
  split at w
  · rename_i fs hg
    split at w
    · rename_i d hf
      obtain ⟨v, e1, e2⟩ := s.sl i _ hg
      obtain ⟨a, kvs, Sf, j, y, A⟩ := rc_fld e2 hf
      obtain ⟨b, vs, rfl, _, hb, hvs⟩ := A.ow
      refine ⟨v, e1, a, _, A.ev, A.get, b, vs, rfl, .inl (.of hb), ?_⟩
      rw [hvs.len]
      exact w _ F H S _ (s.pushI (.int _))
    · exact w.elim
  · exact w.elim
/-- a list that a field holds alone has changed -/
theorem FldAt.put {S : As} {v : V} {fs : List (Str × Ow1)} {f : Str} {ds ds' : List Dt} {a b : Addr} {kvs : List (Str × V)} {Sf : Nat → As} {j : Nat} {vs' : List V} (A : FldAt K F H S v fs f (.lst ds) a kvs Sf j (.ref b)) (hF : ∀ x, F x → ¬ S x) (hv : DVs K F H vs' ds') :
    OV K F (upd H b (.lst vs')) noA S v (.rc (setRec f (.lst ds') fs)) ∧ S b := by
  obtain ⟨b', vs, eb, sb, hb, hvs⟩ := A.ow
  cases eb
  have sj : Sf j b := (sb b).mpr rfl
  have hl := (List.getElem?_eq_some_iff.mp A.ix).1
  have Sb : S b := (A.sx b).mpr (.inr ⟨j, hl, sj⟩)
  have nab : a ≠ b := fun e => A.na j (by rw [e]; exact sj)
  have kF : ∀ x, F x → upd H b (.lst vs') x = H x := fun x hx => upd_ne fun e => hF x hx (by rw [e]; exact Sb)
  refine ⟨?_, Sb⟩
  rw [setRec_eq A.nd A.ix]
  refine ⟨a, kvs, Sf, A.ev, by rw [upd_ne nab]; exact A.at_, ⟨by rw [List.length_set]; exact A.fs'.len, fun k p hp => ?_⟩, A.dj, A.na, fun x => by rw [List.length_set]; exact A.sx x, by rw [names_set A.ix]; exact A.nd⟩
  by_cases e : j = k
  · subst e
    rw [List.getElem?_set_self hl] at hp
    cases hp
    exact ⟨.ref b, A.iw, b, vs', rfl, sb, upd_same, hv.mono (fun _ z => z) kF⟩
  · rw [List.getElem?_set_ne e] at hp
    obtain ⟨y, h1, h2⟩ := A.fs'.nm k p hp
    exact ⟨y, h1, h2.mono (fun _ z => z) kF fun x hx => upd_ne fun ex => e (A.dj j k x (by rw [ex]; exact sj) hx)⟩
/-- a field has another value, that is shared -/
theorem FldAt.set {S : As} {v : V} {fs : List (Str × Ow1)} {f : Str} {o : Ow1} {a : Addr} {kvs : List (Str × V)} {Sf : Nat → As} {j : Nat} {w y : V} {d : Dt} (A : FldAt K F H S v fs f o a kvs Sf j w) (hF : ∀ x, F x → ¬ S x) (hv : DV K F H y d) :
    ∃ S1, (∀ x, S1 x → S x) ∧ OV K F (upd H a (.dK (putK (sk kvs) (.inr f) y))) noA S1 v (.rc (setRec f (.imm d) fs)) ∧ S a := by
  have hl := (List.getElem?_eq_some_iff.mp A.ix).1
  have hk := (List.getElem?_eq_some_iff.mp A.iw).1
  have Sa : S a := (A.sx a).mpr (.inl rfl)
  have kF : ∀ x, F x → upd H a (.dK (putK (sk kvs) (.inr f) y)) x = H x := fun x hx => upd_ne fun e => hF x hx (by rw [e]; exact Sa)
  have sub : ∀ i x, (if i = j then noA else Sf i) x → Sf i x := fun i x q => by
    by_cases e : i = j
    · rw [if_pos e] at q; exact q.elim
    · rw [if_neg e] at q; exact q
  refine ⟨fun x => x = a ∨ ∃ i, i < fs.length ∧ (if i = j then noA else Sf i) x, fun x hx => (A.sx x).mpr (hx.imp id fun ⟨i, hi, q⟩ => ⟨i, hi, sub i x q⟩), ?_, Sa⟩
  rw [setRec_eq A.nd A.ix, put_sk A.nk A.iw]
  refine ⟨a, kvs.set j (f, y), fun i => if i = j then noA else Sf i, A.ev, upd_same, ⟨by rw [List.length_set, List.length_set]; exact A.fs'.len, fun k p hp => ?_⟩, fun i k x p q => A.dj i k x (sub i x p) (sub k x q), fun i q => A.na i (sub i a q), fun x => by rw [List.length_set], by rw [names_set A.ix]; exact A.nd⟩
  by_cases e : j = k
  · subst e
    rw [List.getElem?_set_self hl] at hp
    cases hp
    refine ⟨y, List.getElem?_set_self hk, ?_⟩
    rw [if_pos rfl]
    exact ⟨fun _ z => z, hv.mono (fun _ z => z) fun x hx => by rw [← put_sk A.nk A.iw]; exact kF x hx⟩
  · rw [List.getElem?_set_ne e] at hp
    obtain ⟨u, h1, h2⟩ := A.fs'.nm k p hp
    refine ⟨u, by rw [List.getElem?_set_ne e]; exact h1, ?_⟩
    rw [if_neg (Ne.symm e)]
    exact h2.mono (fun _ z => z) (fun x hx => by rw [← put_sk A.nk A.iw]; exact kF x hx) fun x hx => upd_ne fun ex => A.na k (by rw [← ex]; exact hx)
theorem last_get {vs : List V} {ds : List Dt} {d : Dt} (h : DVs K F H vs ds) (e : ds.getLast? = some d) : ∃ y, vs[vs.length - 1]? = some y ∧ DV K F H y d := by
  rw [List.getLast?_eq_getElem?, ← h.len] at e
  exact h.get e
theorem ov_noA {L S : As} {v : V} {o : Ow} (h : OV K F H noA S v o) : OV K F H L S v o := h.mono (fun _ z => z) (fun _ _ => rfl) (fun _ _ => rfl) (fun _ _ => rfl) fun _ z => z.elim
theorem rd_popF {i : Nat} {f : Str} {Q : VK} (h : RdE K xv W (ev C (.popF i f)) σ H Q) : tBM0 K "list" rPop (tDGet (tVar i) (tC (.str f))) σ H Q := by
  obtain ⟨E, F, S, L, env, Ts, s, w⟩ := h
  simp only [ev] at w
  split at w
  · rename_i fs hg
    split at w
    · rename_i ds hf
      split at w
      · rename_i d hd
        obtain ⟨v, e1, e2⟩ := s.sl i _ hg
        obtain ⟨a, kvs, Sf, j, y, A⟩ := rc_fld e2 hf
        obtain ⟨b, vs, rfl, sb, hb, hvs⟩ := id A.ow
        obtain ⟨y, hy, dy⟩ := last_get hvs hd
        refine ⟨v, e1, a, _, A.ev, A.get, .inl ⟨rfl, vs, .of hb⟩, b, vs, y, rfl, rfl, hb, hy, ?_⟩
        have hF : ∀ x, F x → ¬ S i x := fun x hx z => (s.oS i x z).nf hx
        obtain ⟨o', Sb⟩ := A.put hF hvs.init
        have s1 := s.write (o' := .rc (setRec f (.lst ds.dropLast) fs)) (S1 := S i) (H' := upd H b (.lst vs.dropLast)) hg (fun _ z => z) (fun x hx => upd_ne fun e => hx (by rw [e]; exact Sb)) (fun x hx => by
          by_cases e : x = b
          · rw [e, upd_same]; simp
          · rw [upd_ne e]; exact (s.oS i x hx).tr) fun v' hv' => by rw [e1] at hv'; cases hv'; exact ov_noA o'
        exact w y F _ _ _ (s1.pushI (dy.mono (fun _ z => z) fun x hx => upd_ne fun e => hF x hx (by rw [e]; exact Sb)))
      · exact w.elim
    · exact w.elim
  · exact w.elim

/-! ### lists that a slot holds alone -/
theorem lst_write {E : En0} {S : Nat → As} {L : Nat → As} {env : En} {Ts : List Tp} {i : Nat} {ds ds' : List Dt} {a : Addr} {vs' : List V} (s : Sx K E F H S L σ env Ts) (hg : getE env i = some (.p (.lst ds))) (hv : σ[i]? = some (some (.ref a))) (hS : ∀ x, S i x ↔ x = a) (hn : DVs K F H vs' ds') :
    Sx K E F (upd H a (.lst vs')) (fun j => if j = i then S i else S j) L σ (env.set i (some (.p (.lst ds')))) Ts ∧ ∀ x, F x → upd H a (.lst vs') x = H x := by
  have kF : ∀ x, F x → upd H a (.lst vs') x = H x := fun x hx => upd_ne fun e => (s.oS i x ((hS x).mpr e)).nf hx
  refine ⟨s.write hg (fun _ z => z) (fun x hx => upd_ne fun e => hx ((hS x).mpr e)) (fun x hx => ?_) fun v hv' => ?_, kF⟩
  · rw [(hS x).mp hx, upd_same]; simp
  · rw [hv] at hv'
    cases hv'
    exact ⟨a, vs', rfl, hS, upd_same, hn.mono (fun _ z => z) kF⟩
theorem isLst_some {o : Option Ow} (h : isLst o = true) : ∃ ds, o = some (.p (.lst ds)) := by
  match o, h with
  | some (.p (.lst ds)), _ => exact ⟨ds, rfl⟩
theorem rd_pop {i : Nat} {Q : VK} (h : RdE K xv W (ev C (.pop i)) σ H Q) : tBM0 K "list" rPop (tVar i) σ H Q := by
  obtain ⟨E, F, S, L, env, Ts, s, w⟩ := h
  simp only [ev] at w
  split at w
  · rename_i ds hg
    split at w
    · rename_i d hd
      obtain ⟨v, e1, a, vs, rfl, sa, ha, hvs⟩ := s.sl i _ hg
      obtain ⟨y, hy, dy⟩ := last_get hvs hd
      obtain ⟨s1, kF⟩ := lst_write s hg e1 sa hvs.init
      exact ⟨_, e1, .inl ⟨rfl, vs, .of ha⟩, a, vs, y, rfl, rfl, ha, hy, w y F _ _ _ (s1.pushI (dy.mono (fun _ z => z) kF))⟩
    · exact w.elim
  · exact w.elim
theorem rd_popAt {i : Nat} {x : Ex} {Q : VK} (h : RdE K xv W (ev C (.popAt i x)) σ H Q) : tBM K "list" rPopAt (tVar i) (tCons (RdE K xv W (ev C x)) tNil) σ H Q := by
  obtain ⟨E, F, S, L, env, Ts, s, w⟩ := h
  simp only [ev] at w
  split at w
  · rename_i hl
    obtain ⟨ds0, hg0⟩ := isLst_some hl
    obtain ⟨v, e1, a, vs0, rfl, sa0, ha0, hvs0⟩ := s.sl i _ hg0
    refine ⟨_, e1, .inl ⟨rfl, vs0, .of ha0⟩, E, F, S, L, env, Ts, s, ?_⟩
    split at w
    · rename_i k e' hx
      rw [hx]
      intro y F' H' S' T s'
      have dy : DV K F' H' y (.int k) := (s'.tm _ List.mem_cons_self).2
      cases dy
      split at w
      · rename_i ds hg
        split at w
        · rename_i hk
          split at w
          · rename_i d hd
            obtain ⟨v', e1', b, vs, rfl, sa, ha, hvs⟩ := s'.sl i _ hg
            rw [e1] at e1'
            cases e1'
            obtain ⟨y, hy, dy⟩ := hvs.get hd
            have hlt := (List.getElem?_eq_some_iff.mp hy).1
            obtain ⟨s1, kF⟩ := lst_write s'.pop hg e1 sa (hvs.era k.toNat)
            have hsq : seqIndex? k vs.length = some k.toNat := (ixN_seq (n := vs.length) (i := k) (j := k.toNat) (by unfold ixN; rw [if_pos hk.1, if_pos (by omega)])).1
            exact ⟨a, vs, k, k.toNat, y, rfl, rfl, ha, by omega, hk.2, hsq, hy, w y F' _ _ _ (s1.pushI (dy.mono (fun _ z => z) kF))⟩
          · exact w.elim
        · exact w.elim
      · exact w.elim
    · exact w.elim
    · rename_i d e' hx
      rw [hx]
      exact w
    · exact w.elim
  · exact w.elim
theorem rd_app {i : Nat} {x : Ex} {Q : VK} (h : RdE K xv W (ev C (.app i x)) σ H Q) : tBM K "list" rAppend (tVar i) (tCons (RdE K xv W (ev C x)) tNil) σ H Q := by
  obtain ⟨E, F, S, L, env, Ts, s, w⟩ := h
  simp only [ev] at w
  split at w
  · rename_i hl
    obtain ⟨ds0, hg0⟩ := isLst_some hl
    obtain ⟨v, e1, a, vs0, rfl, sa0, ha0, hvs0⟩ := s.sl i _ hg0
    refine ⟨_, e1, .inl ⟨rfl, vs0, .of ha0⟩, E, F, S, L, env, Ts, s, ?_⟩
    split at w
    · rename_i o e' hx
      rw [hx]
      intro y F' H' S' T s'
      split at w
      · rename_i d ds hd hg
        split at w
        · rename_i hz
          obtain ⟨o1, rfl, rfl⟩ := dt?_p hd
          obtain ⟨s1, dv⟩ := s'.frzT
          obtain ⟨v', e1', b, vs, rfl, sa, ha, hvs⟩ := s1.sl i _ hg
          rw [e1] at e1'
          cases e1'
          obtain ⟨s2, kF⟩ := lst_write s1 hg e1 sa (hvs.app (.one dv))
          exact ⟨a, vs, y, rfl, rfl, ha, by rw [hvs.len]; exact hz, w _ _ _ _ _ (s2.pushI .non)⟩
        · exact w.elim
      · exact w.elim
    · rename_i d e' hx
      rw [hx]
      exact w
    · exact w.elim
  · exact w.elim
end
end Pd
set_option Elab.async false
set_option linter.all false
set_option maxRecDepth 100000
set_option maxHeartbeats 4000000
/-! Part 7: enumerate of a tuple. -/
namespace Pd
open PySem PySem.Spec PyProof.Rows L2
theorem draws_tuple {prog : Program} {w : World} {A : Around} (hh : A.handled = none) (it l : Addr) (hne : l ≠ it) (items : Array Value) :
    Draws prog w A it [it, l] items.size (fun i v => items[i]? = some v) (fun i h => h.IsTupleIter it l i ∧ h.IsTuple l items) where
  live := fun _ _ st => let ⟨o, ho, _⟩ := st.1; ⟨o, ho⟩
  frame := fun _ _ _ st hk => ⟨let ⟨o, ho, r⟩ := st.1; ⟨o, hk it (by simp) o ho, r⟩, let ⟨o, ho, r⟩ := st.2; ⟨o, hk l (by simp) o ho, r⟩⟩
  item := fun i s Q E hi st hQ => by
    refine RZ.nextOf_tuple_item st.1 st.2 (x := items[i]) (by simp [hi]) fun h' hit' hs' => ?_
    refine hQ _ h' s.toks (by simp [hi]) ⟨hit', ?_⟩ hs'
    obtain ⟨o, ho, r⟩ := st.2
    exact ⟨o, (hs'.2 l hne).trans ho, r⟩
  done := fun s Q E st hE => RZ.nextOf_tuple_end hh st.1 st.2 (by simp) hE
open AutoSeq1 (wpAny_loadPart') in
theorem meets_enumerate_newT (l : Addr) (items : Array Value) (n : Nat) (dct : Option Addr) (sl : Array (Option Value)) :
    Meets (Builtin.«enumerate.__new__» ⟨[.type "enumerate", .ref l], []⟩) (fun _ R s => s.heap.get? l = some { cls := .type "tuple", dict := dct, data := .seq items n, slots := sl } ∧
      R (.ok (.ret (.ref (s.heap.push { cls := .type "tuple_iterator", data := .fields #[.ref l, .int 0 0] }).objs.size)))
        { s with heap := (s.heap.push { cls := .type "tuple_iterator", data := .fields #[.ref l, .int 0 0] }).push { cls := .type "enumerate", data := .fields #[.none, .bool false, .ref s.heap.objs.size, rawInt 0, .none, .none] } }) :=
  .of_wp fun prog w A R s h => by
    obtain ⟨hp, g, d, tk, os⟩ := s; obtain ⟨hl, h⟩ := h
    have hsub := sub_enumerate
    have hT : Heap.IsTuple (Shared.heap ⟨hp, g, d, tk, os⟩) l items := ⟨_, hl, rfl, n, rfl⟩
    wp_walk using wpAny_loadPart' hl
    refine wpAny_stack_any fun st => wpAny_pure ?_
    split
    · rename_i c _ _ _ _ _
      cases (c == Value.type "enumerate")
      all_goals
        wp_walk using wpAny_loadPart' hl, wpAny_pyIter_tuple hT
        exact ⟨_, rfl, h⟩
    · wp_walk using wpAny_loadPart' hl, wpAny_pyIter_tuple hT
      exact ⟨_, rfl, h⟩
section
variable {prog : Program} {w : World} {A : Around} {E : Value → Shared → Prop} {s : Shared}
theorem call_enumerate_tuple {l : Addr} {items : Array Value} {Q : Value → Shared → Prop} (hL : s.heap.IsTuple l items)
    (h : ∀ h', IsEnum h' (s.heap.objs.size + 1) s.heap.objs.size 0 .none → h'.IsTupleIter s.heap.objs.size l 0 → h'.objs.size = s.heap.objs.size + 2 →
      (∀ b o, s.heap.get? b = some o → h'.get? b = some o) → Q (.ref (s.heap.objs.size + 1)) { s with heap := h' }) :
    wpAny (model prog w) A (call (.type "enumerate") [.ref l]) Q E s := by
  obtain ⟨⟨c, dct, dt, sl⟩, hl, hc, n, hd⟩ := hL
  obtain rfl : c = .type "tuple" := hc
  obtain rfl : dt = .seq items n := hd
  refine callType_new F.called_enumerate (by decide) (F.typeCall_enumerate_1 _) (F.newCall_enumerate_1 _) (fun obj => F.args_object_init_2 obj _) F.entry_enumerate_new
    (meets_enumerate_newT l items n dct sl) ⟨hl, ?_⟩
  have hz : (s.heap.push { cls := .type "tuple_iterator", data := .fields #[.ref l, .int 0 0] }).objs.size = s.heap.objs.size + 1 := Heap.size_push ..
  show _ ∧ _
  rw [hz]
  have he : IsEnum ((s.heap.push { cls := .type "tuple_iterator", data := .fields #[.ref l, .int 0 0] }).push
      { cls := .type "enumerate", data := .fields #[.none, .bool false, .ref s.heap.objs.size, rawInt 0, .none, .none] }) (s.heap.objs.size + 1) s.heap.objs.size 0 .none := by
    have q := Heap.get?_push_size (s.heap.push { cls := .type "tuple_iterator", data := .fields #[.ref l, .int 0 0] })
      (o := { cls := .type "enumerate", data := .fields #[.none, .bool false, .ref s.heap.objs.size, rawInt 0, .none, .none] }) rfl
    rw [hz] at q; exact q
  refine ⟨⟨_, he, rfl⟩, h _ he ⟨_, Heap.get?_push_of_some _ (Heap.get?_push_size _ rfl), rfl, rfl⟩ (by rw [Heap.size_push, hz]) fun b o x => Heap.get?_push_of_some _ (Heap.get?_push_of_some _ x)⟩
end
/-- the tuple at a, each item in a new pair with its number -/
def ItT (K : PySem.W.Frag) (a : Addr) : It :=
  ⟨fun i H => ∃ (xs : List V) (x : V), SqT K H a xs ∧ xs[i]? = some x, fun i H v H' => ∃ T x, v = .ref T ∧ H T = none ∧ H' = upd H T (.tup [.int (i : Nat), x]) ∧ ∀ xs, SqT K H a xs → xs[i]? = some x, fun i H => ∃ xs : List V, SqT K H a xs ∧ xs.length = i⟩
theorem turn_enumT {P : Program} {w : World} {K : PySem.W.Frag} {elts : List PySem.Expr} {kk : Nat} {tpos : Pos} (a e it : Addr) (hai : a ≠ it) (hae : a ≠ e) :
    Turn P w K (.Tuple elts kk tpos) (ItT K a) [e, it] e (fun i h => (∃ old, IsEnum h e it ((i : Nat) : Int) old) ∧ h.IsTupleIter it a i ∧ e ≠ it) where
  mem := by simp
  obj := fun i h st b hb => by
    obtain ⟨⟨old, he⟩, ⟨o, ho, hc, hd⟩, _⟩ := st
    have e' : b = e ∨ b = it := by simpa using hb
    rcases e' with z | z
    · rw [z]; exact ⟨_, he, fun v q => nomatch q⟩
    · rw [z]; exact ⟨o, ho, fun v q => by rw [hd] at q; cases q⟩
  keep := fun i h h' st k => let ⟨⟨old, he⟩, ⟨o, ho, r⟩, hne⟩ := st; ⟨⟨old, k e (by simp) _ he⟩, ⟨o, k it (by simp) o ho, r⟩, hne⟩
  item := by
    intro X hP hw hK hc i ps s σ H E I hf st hg
    subst hP hw hK
    obtain ⟨⟨old, he⟩, hit, hne⟩ := st
    obtain ⟨xs, x, hq, hx⟩ := hg
    obtain ⟨its, rv, p, hz⟩ := I.tuple hq
    obtain ⟨u, hu, ru⟩ := rv.get hx
    have hel : e < s.heap.objs.size := Heap.lt_size he
    have hil : it < s.heap.objs.size := by obtain ⟨_, q, _⟩ := hit; exact Heap.lt_size q
    have hlt : i < its.toArray.size := by
      have := (List.getElem?_eq_some_iff.mp hu).1
      simpa using this
    refine wpAny_pyNext_enum_itemD (draws_tuple (A := X.A.in1) (I.ok.hd hc) it a hai its.toArray) he ⟨hit, p⟩ hlt hne (by simp [hne, Ne.symm hae]) fun x' h' tk hx' ho hst' hT hsz hk => ?_
    have ex : x' = u := by
      have z : its[i]? = some x' := by simpa using hx'
      rw [hu] at z
      cases z; rfl
    subst ex
    refine ⟨_, rfl, wpAny_letOwnedTupleGo_enum (s := { s with heap := h', toks := tk + 1 }) ho fun h'' he' sb => ?_⟩
    have hT2 : h''.get? s.heap.objs.size = some { cls := .type "tuple", data := .seq #[.int i tk, x'] } := (sb.2 _ (Nat.ne_of_gt hel)).trans hT
    have new : ObjOk X.prog X.w (upd H s.heap.objs.size (.tup [.int (i : Nat), x])) h'' s.heap.objs.size (.tup [.int (i : Nat), x]) :=
      ⟨by show 2 ≤ sizeLine; decide, [.int i tk, x'], .cons ⟨_, rfl⟩ (.cons ru .nil), ⟨_, hT2, rfl, _, rfl⟩⟩
    have I1 : L2.Inv X ps σ (upd H s.heap.objs.size (.tup [.int (i : Nat), x])) { s with heap := h'', toks := tk + 1 } :=
      I.turnedNew (ch := [e, it]) (fun b ob hb q => (sb.2 b (fun z => hb (by simp [z]))).trans (hk b ob (fun z => hb (by simp [z])) (fun z => hb (by simp [z])) q)) hf (Nat.le_refl _) new
    refine ⟨.ref s.heap.objs.size, _, I1, rfl, ⟨_, x, rfl, I.hok.fresh (Nat.le_refl _), rfl, fun ys hy => by rw [I.tuple_inj hy hq]; exact hx⟩, ⟨⟨x', ?_⟩, ?_, hne⟩, fun b hb => ?_⟩
    · have e1 : ((i + 1 : Nat) : Int) = (i : Int) + 1 := by omega
      rw [e1]; exact he'
    · obtain ⟨o, ho, r⟩ := hst'.1
      exact ⟨o, (sb.2 it (Ne.symm hne)).trans ho, r⟩
    · have hb' : b < s.heap.objs.size := by
        have e' : b = e ∨ b = it := by simpa using hb
        rcases e' with z | z
        · rw [z]; exact hel
        · rw [z]; exact hil
      rw [upd_ne (Nat.ne_of_lt hb')]
      exact (hf b hb).1
  done := by
    intro X hP hw hK hc i ps s σ H E I hf st hg
    subst hP hw hK
    obtain ⟨⟨old, he⟩, hit, hne⟩ := st
    obtain ⟨xs, hq, hx⟩ := hg
    obtain ⟨its, rv, p, hz⟩ := I.tuple hq
    obtain ⟨f0, f1, f2, f3, f4, f5⟩ := hf it (by simp)
    have hl := rv.length
    have hn : its.toArray.size = i := by rw [List.size_toArray]; omega
    exact wpAny_pyNext_enum_endD (draws_tuple (A := X.A.in1) (I.ok.hd hc) it a hai its.toArray) he (by rw [hn]; exact ⟨hit, p⟩) fun h' eb => ⟨rfl, I.turned (t' := s.toks) (fun b o hb q => eb b o hb q) f0 f1 f3 f4 f5⟩
  self := fun A i s Q E st h => let ⟨⟨_, he⟩, _⟩ := st; wpAny_pyIter_enum he h
def iEnT (K : PySem.W.Frag) (ta : TA) : TI := fun σ H R => ta σ H fun vs H1 => ∃ a xs, vs = [.ref a] ∧ SqT K H1 a xs ∧ R (ItT K a) H1
theorem pi_enumT {X : Cx} {e : PySem.Expr} {ta : TA} {p pos tpos : Pos} {elts : List PySem.Expr} {kk : Nat} (hg : Gl X "enumerate") (hm : X.mg "enumerate" = none) (ha : PA X [e] ta) (hs : starEach [e] X.env = [(false, eval e X.env)]) :
    PI X (.Tuple elts kk tpos) (.Call (.Name "enumerate" p) [e] [] pos) (iEnT X.K ta) := by
  refine ⟨fun ps s σ H R I h => ?_⟩
  refine Call_ (ld_blt I hg hm boot_enumerate (PyProof.Rows.callWith_type1 (thn (ha.run pos ps s σ H _ I h) fun us s1 ⟨vs, H1, I1, r1, q1⟩ => ?_) hs rfl))
  obtain ⟨a, xs, ex, hq, q⟩ := q1
  subst ex
  cases r1 with
  | cons r rr =>
    cases rr
    cases r
    obtain ⟨its, rv, p', hz⟩ := I1.tuple hq
    have hal : a < s1.heap.objs.size := by obtain ⟨_, q, _⟩ := p'; exact Heap.lt_size q
    refine call_enumerate_tuple p' fun h' he hit hsz hk => wpAny_pyIter_enum he ?_
    have I2 : L2.Inv X ps σ H1 { s1 with heap := h' } := I1.kept (t' := s1.toks) hk
    refine ⟨s1.heap.objs.size + 1, [s1.heap.objs.size + 1, s1.heap.objs.size], _, _, H1, rfl, I2, turn_enumT a (s1.heap.objs.size + 1) s1.heap.objs.size (Nat.ne_of_lt hal) (Nat.ne_of_lt (Nat.lt_succ_of_lt hal)), ⟨⟨.none, he⟩, hit, Nat.succ_ne_self _⟩, fun b hb => ?_, q⟩
    have e' : b = s1.heap.objs.size + 1 ∨ b = s1.heap.objs.size := by simpa using hb
    have hle : s1.heap.objs.size ≤ b := by
      rcases e' with z | z
      · rw [z]; exact Nat.le_add_right _ _
      · rw [z]; exact Nat.le_refl _
    exact I1.fpOk hle (I1.hok.fresh hle)
end Pd
set_option Elab.async false
set_option linter.all false
set_option maxRecDepth 100000
set_option maxHeartbeats 4000000
/-! Part 8: calls. -/
namespace Pd
open PySem PySem.Spec PyProof.Rows L2
section
variable {K : PySem.W.Frag} {E : En0} {F F' : As} {H H' : Hp} {S S' : Nat → As} {L L' : Nat → As} {σ : L2.St} {env : En} {Ts : List Tp} {t : Tp} {i : Nat} {v : V} {o : Ow} {T : As}
theorem Sx.perm {Us : List Tp} (h : Sx K E F H S L σ env Ts) (p : Us.Perm Ts) : Sx K E F H S L σ env Us :=
  ⟨h.len, h.sl, fun t ht => h.tm t (p.mem_iff.mp ht), h.dS, (List.Perm.pairwise_iff (fun {a b} hab x hb ha => hab x ha hb) p).mpr h.dT, fun t ht => h.dST t (p.mem_iff.mp ht), h.oS, fun t ht => h.oT t (p.mem_iff.mp ht), h.fr, h.ff, h.lt, h.ag, h.tk, h.fx⟩
/-- a value at hand goes (back) into a slot that bears it -/
theorem Sx.put (h : Sx K E F H S L σ env (⟨v, o, T⟩ :: Ts)) (hv : σ[i]? = some (some v)) : Sx K E F H (fun j => if j = i then T else S j) L σ (env.set i (some o)) Ts := by
  have hi : i < env.length := by rw [h.len]; exact (List.getElem?_eq_some_iff.mp hv).1
  have dd : ∀ j x, T x → ¬ S j x := fun j x hx => h.dST _ List.mem_cons_self j x hx
  refine ⟨by simpa using h.len, fun j u e => ?_, fun u hu => h.tm u (List.mem_cons_of_mem _ hu), fun j k x a b => ?_, (List.pairwise_cons.mp h.dT).2, fun u hu j x a b => ?_, fun j x a => ?_, fun u hu => h.oT u (List.mem_cons_of_mem _ hu), h.fr, h.ff, h.lt, h.ag, h.tk, h.fx⟩
  · rw [getE_set hi] at e
    by_cases ej : j = i
    · subst ej
      rw [if_pos rfl] at e
      cases e
      refine ⟨v, hv, ?_⟩
      rw [if_pos rfl]
      exact (h.tm _ List.mem_cons_self).mono (fun _ z => z) (fun _ _ => rfl) (fun _ _ => rfl) (fun _ _ => rfl) fun _ z => z.elim
    · rw [if_neg ej] at e
      obtain ⟨w, e1, e2⟩ := h.sl j u e
      refine ⟨w, e1, ?_⟩
      rw [if_neg ej]
      exact e2
  · by_cases ej : j = i
    · by_cases ek : k = i
      · rw [ej, ek]
      · rw [if_pos ej] at a; rw [if_neg ek] at b
        exact absurd b (dd k x a)
    · by_cases ek : k = i
      · rw [if_neg ej] at a; rw [if_pos ek] at b
        exact absurd a (dd j x b)
      · rw [if_neg ej] at a; rw [if_neg ek] at b
        exact h.dS j k x a b
  · by_cases ej : j = i
    · rw [if_pos ej] at b
      exact (List.pairwise_cons.mp h.dT).1 u hu x b a
    · rw [if_neg ej] at b
      exact h.dST u (List.mem_cons_of_mem _ hu) j x a b
  · by_cases ej : j = i
    · rw [if_pos ej] at a
      exact h.oT _ List.mem_cons_self x a
    · rw [if_neg ej] at a
      exact h.oS j x a
/-- a slot is forgotten -/
theorem Sx.drop (h : Sx K E F H S L σ env Ts) : Sx K E F H (fun j => if j = i then noA else S j) L σ (env.set i none) Ts := by
  have sub : ∀ j x, (if j = i then noA else S j) x → S j x := fun j x z => by
    by_cases e : j = i
    · rw [if_pos e] at z; exact z.elim
    · rw [if_neg e] at z; exact z
  refine ⟨by simpa using h.len, fun j u e => ?_, h.tm, fun j k x a b => h.dS j k x (sub j x a) (sub k x b), h.dT, fun u hu j x a b => h.dST u hu j x a (sub j x b), fun j x q => h.oS j x (sub j x q), h.oT, h.fr, h.ff, h.lt, h.ag, h.tk, h.fx⟩
  by_cases hi : i < env.length
  · rw [getE_set hi] at e
    by_cases ej : j = i
    · rw [if_pos ej] at e; cases e
    · rw [if_neg ej] at e
      rw [if_neg ej]
      exact h.sl j u e
  · rw [List.set_eq_of_length_le (by omega)] at e
    have := getE_lt e
    rw [if_neg (by omega)]
    exact h.sl j u e
/-- back from somewhere that may change P alone: Vs are what comes from there -/
theorem Sx.back' {P : As} {fix : List (Nat × V)} {F1 : As} {H1 : Hp} {S1 L1 : Nat → As} {σ1 : L2.St} {env1 : En} {Us Vs : List Tp} (h : Sx K E F H S L σ env Ts) (h1 : Sx K ⟨H, F, P, fix⟩ F1 H1 S1 L1 σ1 env1 Us)
    (pS : ∀ i x, S i x → ¬ P x) (pT : ∀ t ∈ Ts, ∀ x, t.T x → ¬ P x) (pF : ∀ x, F x → ¬ P x) (pL : ∀ i x, L i x → ¬ P x) (pO : ∀ x, P x → E.P x ∨ E.H x = none)
    (vT : ∀ u ∈ Vs, OV K F1 H1 noA u.T u.v u.o) (vO : ∀ u ∈ Vs, ∀ x, u.T x → H1 x ≠ none ∧ ¬ F1 x ∧ (P x ∨ H x = none)) (vD : Vs.Pairwise fun t u => ∀ x, t.T x → ¬ u.T x) : Sx K E F1 H1 S L σ env (Vs ++ Ts) := by
  have kT : ∀ t ∈ Ts, ∀ x, t.T x → H1 x = H x := fun t ht x a => h1.ag x (h.oT t ht x a).tr (pT t ht x a)
  have kS : ∀ i x, S i x → H1 x = H x := fun i x a => h1.ag x (h.oS i x a).tr (pS i x a)
  have kF : ∀ x, F x → H1 x = H x := fun x a => h1.ag x (h.fr x a).1 (pF x a)
  have kL : ∀ i x, L i x → H1 x = H x := fun i x a => h1.ag x (h.lt i x a).1 (pL i x a)
  have orr : ∀ x, (P x ∨ H x = none) → (E.P x ∨ E.H x = none) := fun x z => by
    rcases z with q | q
    · exact pO x q
    · cases r : E.H x with
      | none => exact .inr rfl
      | some u => exact absurd q (h.tk x (by rw [r]; simp))
  have nf1 : ∀ x, ¬ F x → H x ≠ none → ¬ P x → ¬ F1 x := fun x a b c z => by
    rcases (h1.fr x z).2 with y | y | y
    · exact a y
    · exact c y
    · exact b y
  have okS : ∀ i x, S i x → Okx E F1 H1 L x := fun i x a => by
    have q := h.oS i x a
    exact ⟨by rw [kS i x a]; exact q.tr, nf1 x q.nf q.tr (pS i x a), q.nl, q.or⟩
  have okT : ∀ t ∈ Ts, ∀ x, t.T x → Okx E F1 H1 L x := fun t ht x a => by
    have q := h.oT t ht x a
    exact ⟨by rw [kT t ht x a]; exact q.tr, nf1 x q.nf q.tr (pT t ht x a), q.nl, q.or⟩
  refine ⟨h.len, fun i o e => ?_, fun t ht => ?_, h.dS, List.pairwise_append.mpr ⟨vD, h.dT, fun u hu t ht x a b => ?_⟩, fun t ht i x a b => ?_, okS, fun t ht x a => ?_, fun x hx => ⟨(h1.fr x hx).1, ?_⟩, fun x hx => h1.ff x (h.ff x hx), fun i x a => ?_, fun x e n => ?_, fun x e => h1.tk x (h.tk x e), h.fx⟩
  · obtain ⟨v, e1, e2⟩ := h.sl i o e
    exact ⟨v, e1, e2.mono h1.ff kF (kS i) (kL i) fun _ z => z⟩
  · rcases List.mem_append.mp ht with q | q
    · exact vT t q
    · exact (h.tm t q).mono h1.ff kF (kT t q) (fun _ z => z.elim) fun _ z => z
  · exact (vO u hu x a).2.2.elim (pT t ht x b) (h.oT t ht x b).tr
  · rcases List.mem_append.mp ht with q | q
    · exact (vO t q x a).2.2.elim (pS i x b) (h.oS i x b).tr
    · exact h.dST t q i x a b
  · rcases List.mem_append.mp ht with q | q
    · obtain ⟨a1, a2, a3⟩ := vO t q x a
      exact ⟨a1, a2, fun i z => a3.elim (pL i x z) (h.lt i x z).1, orr x a3⟩
    · exact okT t q x a
  · rcases (h1.fr x hx).2 with y | y | y
    · exact (h.fr x y).2
    · exact .inr (orr x (.inl y))
    · exact .inr (orr x (.inr y))
  · rw [kL i x a]
    exact ⟨(h.lt i x a).1, nf1 x (h.lt i x a).2 (h.lt i x a).1 (pL i x a)⟩
  · have nP : ¬ P x := fun z => (pO x z).elim n e
    rw [h1.ag x (h.tk x e) nP]
    exact h.ag x e n

/-! ### arguments -/
inductive ArgV : List V → List Ow → List Tp → Prop
  | nil : ArgV [] [] []
  | cons {v : V} {o : Ow} {T : As} {vs : List V} {os : List Ow} {Us : List Tp} : ArgV vs os Us → ArgV (v :: vs) (o :: os) (⟨v, o, T⟩ :: Us)
theorem ArgV.at {vs : List V} {os : List Ow} {Us : List Tp} (h : ArgV vs os Us) : vs.length = os.length ∧ Us.length = os.length ∧ ∀ (k : Nat) (o : Ow), os[k]? = some o → ∃ v T, vs[k]? = some v ∧ Us[k]? = some ⟨v, o, T⟩ := by
  induction h with
  | nil => exact ⟨rfl, rfl, fun k o e => by simp at e⟩
  | @cons v o T vs os Us r ih =>
    refine ⟨by simp [ih.1], by simp [ih.2.1], fun k o' e => ?_⟩
    cases k with
    | zero => simp at e; subst e; exact ⟨v, T, rfl, rfl⟩
    | succ k => exact ih.2.2 k o' (by simpa using e)
theorem mid_perm {α : Type} (a : α) (xs ys zs : List α) : (xs ++ ((ys ++ [a]) ++ zs)).Perm (a :: (xs ++ (ys ++ zs))) := by
  have e : xs ++ ((ys ++ [a]) ++ zs) = (xs ++ ys) ++ a :: zs := by simp
  rw [e, ← List.append_assoc]
  exact List.perm_middle
theorem args_ok : ∀ {ms : List Md} {ts : List Tm} {vs : List V} {Us Ws : List Tp} {env : En} {as : List Ow} {e2 : En} {F : As} {S : Nat → As}, Sx K E F H S L σ env (Us ++ (Ws ++ Ts)) → OpV σ vs ts Us → args ms ts env = some (as, e2) →
    ∃ F1 S1 Xs, Sx K E F1 H S1 L σ e2 (Ws ++ (Xs ++ Ts)) ∧ ArgV vs as Xs
  | [], [], _, _, Ws, env, as, e2, F, S, s, ov, e => by
    cases ov
    simp only [args] at e
    cases e
    exact ⟨F, S, [], s, .nil⟩
  | .mu :: ms, .inl i :: ts, _, _, Ws, env, as, e2, F, S, s, ov, e => by
    cases ov with
    | @slot _ v vs _ Us hv r =>
    simp only [args] at e
    split at e
    · cases e
    · rename_i o hne hg
      split at e
      · rename_i as' e' he
        cases e
        obtain ⟨v', e1, s1⟩ := s.take hg (fun d z => hne d z)
        rw [hv] at e1
        cases e1
        obtain ⟨F1, S1, Xs, s2, a2⟩ := args_ok (Ws := Ws ++ [⟨v, o, S i⟩]) (s1.perm (mid_perm _ _ _ _)) r he
        exact ⟨F1, S1, ⟨v, o, S i⟩ :: Xs, by simpa using s2, .cons a2⟩
      · cases e
    · cases e
  | .sh :: ms, .inl i :: ts, _, _, Ws, env, as, e2, F, S, s, ov, e => by
    cases ov with
    | @slot _ v vs _ Us hv r =>
    simp only [args] at e
    split at e
    · rename_i o hg
      split at e
      · rename_i as' e' he
        cases e
        obtain ⟨s0, v', e1, dv⟩ := s.frz hg
        rw [hv] at e1
        cases e1
        have s1 := s0.pushI dv
        obtain ⟨F1, S1, Xs, s2, a2⟩ := args_ok (Ws := Ws ++ [⟨v, im o.dt, fun _ => False⟩]) (s1.perm (mid_perm _ _ _ _)) r he
        exact ⟨F1, S1, ⟨v, im o.dt, fun _ => False⟩ :: Xs, by simpa using s2, .cons a2⟩
      · cases e
    · cases e
  | .mu :: ms, .inr o :: ts, _, _, Ws, env, as, e2, F, S, s, ov, e => by
    cases ov with
    | @temp v _ T vs _ Us r =>
    have q : ∃ as', args ms ts env = some (as', e2) ∧ as = o :: as' := by
      cases o with
      | lk d => simp [args] at e
      | p o =>
        simp only [args] at e
        split at e
        · rename_i as' e' he
          cases e
          exact ⟨as', he, rfl⟩
        · cases e
      | rc fs =>
        simp only [args] at e
        split at e
        · rename_i as' e' he
          cases e
          exact ⟨as', he, rfl⟩
        · cases e
    obtain ⟨as', he, rfl⟩ := q
    obtain ⟨F1, S1, Xs, s2, a2⟩ := args_ok (Ws := Ws ++ [⟨v, o, T⟩]) (s.perm (mid_perm _ _ _ _)) r he
    exact ⟨F1, S1, ⟨v, o, T⟩ :: Xs, by simpa using s2, .cons a2⟩
  | .sh :: ms, .inr (.p o) :: ts, _, _, Ws, env, as, e2, F, S, s, ov, e => by
    cases ov with
    | @temp v _ T vs _ Us r =>
    simp only [args] at e
    split at e
    · rename_i as' e' he
      cases e
      obtain ⟨s0, dv⟩ := Sx.frzT s
      have s1 := s0.pushI dv
      obtain ⟨F1, S1, Xs, s2, a2⟩ := args_ok (Ws := Ws ++ [⟨v, im o.dt, fun _ => False⟩]) (s1.perm (mid_perm _ _ _ _)) r he
      exact ⟨F1, S1, ⟨v, im o.dt, fun _ => False⟩ :: Xs, by simpa using s2, .cons a2⟩
    · cases e
  | .sh :: ms, .inr (.lk _) :: ts, _, _, Ws, env, as, e2, F, S, s, ov, e => by simp [args] at e
  | .sh :: ms, .inr (.rc _) :: ts, _, _, Ws, env, as, e2, F, S, s, ov, e => by simp [args] at e
  | [], _ :: _, _, _, Ws, env, as, e2, F, S, s, ov, e => by simp [args] at e
  | .mu :: _, [], _, _, Ws, env, as, e2, F, S, s, ov, e => by simp [args] at e
  | .sh :: _, [], _, _, Ws, env, as, e2, F, S, s, ov, e => by simp [args] at e
theorem args_len : ∀ {ms : List Md} {ts : List Tm} {env : En} {as : List Ow} {e2 : En}, args ms ts env = some (as, e2) → as.length = ms.length
  | [], [], _, _, _, e => by simp only [args] at e; cases e; rfl
  | .mu :: ms, .inl i :: ts, env, as, e2, e => by
    simp only [args] at e
    split at e
    · cases e
    · split at e
      · rename_i he; cases e; simp [args_len he]
      · cases e
    · cases e
  | .sh :: ms, .inl i :: ts, env, as, e2, e => by
    simp only [args] at e
    split at e
    · split at e
      · rename_i he; cases e; simp [args_len he]
      · cases e
    · cases e
  | .mu :: ms, .inr (.lk d) :: ts, env, as, e2, e => by simp [args] at e
  | .mu :: ms, .inr (.p d) :: ts, env, as, e2, e => by
    simp only [args] at e
    split at e
    · rename_i he; cases e; simp [args_len he]
    · cases e
  | .mu :: ms, .inr (.rc d) :: ts, env, as, e2, e => by
    simp only [args] at e
    split at e
    · rename_i he; cases e; simp [args_len he]
    · cases e
  | .sh :: ms, .inr (.p d) :: ts, env, as, e2, e => by
    simp only [args] at e
    split at e
    · rename_i he; cases e; simp [args_len he]
    · cases e
  | .sh :: ms, .inr (.lk d) :: ts, env, as, e2, e => by simp [args] at e
  | .sh :: ms, .inr (.rc d) :: ts, env, as, e2, e => by simp [args] at e
  | [], _ :: _, env, as, e2, e => by simp [args] at e
  | .mu :: _, [], env, as, e2, e => by simp [args] at e
  | .sh :: _, [], env, as, e2, e => by simp [args] at e
def scOf (Ws : List Tp) : Nat → As := fun k x => ∃ t, Ws[k]? = some t ∧ t.T x
/-- the callee's state at its entry -/
theorem Sx.enter {vs : List V} {as : List Ow} {Ws : List Tp} (h : Sx K E F H S L σ env (Ws ++ Ts)) (a : ArgV vs as Ws) : Sx K (snapE H F (scOf Ws) []) F H (scOf Ws) (fun _ => noA) (vs.map some) (as.map some) [] := by
  obtain ⟨l1, l2, at_⟩ := a.at
  have mW : ∀ {k : Nat} {t : Tp}, Ws[k]? = some t → t ∈ Ws ++ Ts := fun e => List.mem_append_left _ (List.mem_of_getElem? e)
  refine ⟨by simp [l1], fun k o e => ?_, fun _ ht => (nomatch ht), fun j k x ⟨t, e1, t1⟩ ⟨u, e2, u1⟩ => ?_, .nil, fun _ ht => (nomatch ht), fun k x hx => ?_, fun _ ht => (nomatch ht), fun x hx => ⟨(h.fr x hx).1, .inl hx⟩, fun _ hx => hx, fun _ _ z => z.elim, fun _ _ _ => rfl, fun _ hx => hx, fun _ hp => (nomatch hp)⟩
  · have e0 := getE_some e
    rw [List.getElem?_map] at e0
    cases q : as[k]? with
    | none => rw [q] at e0; cases e0
    | some o' =>
      rw [q] at e0
      cases e0
      obtain ⟨v, T, ev, eT⟩ := at_ k o q
      refine ⟨v, by rw [List.getElem?_map, ev]; rfl, ?_⟩
      have es : scOf Ws k = T := by
        funext x
        refine propext ⟨fun ⟨t, e1, t1⟩ => ?_, fun z => ⟨_, eT, z⟩⟩
        rw [eT] at e1
        cases e1
        exact t1
      rw [es]
      exact h.tm _ (mW eT)
  · have pw := (List.pairwise_append.mp h.dT).1
    obtain ⟨hj, ej⟩ := List.getElem?_eq_some_iff.mp e1
    obtain ⟨hk, ek⟩ := List.getElem?_eq_some_iff.mp e2
    rcases Nat.lt_trichotomy j k with c | c | c
    · exact absurd u1 (by have := (List.pairwise_iff_getElem.mp pw) j k hj hk c x; rw [ej, ek] at this; exact this t1)
    · exact c
    · exact absurd t1 (by have := (List.pairwise_iff_getElem.mp pw) k j hk hj c x; rw [ej, ek] at this; exact this u1)
  · have ⟨t, e1, t1⟩ := hx
    have q := h.oT t (mW e1) x t1
    exact ⟨q.tr, q.nf, fun _ z => z.elim, .inl ⟨k, hx⟩⟩
/-- what comes back of the arguments -/
def outT (S1 : Nat → As) : Nat → List V → En → List Tp
  | k, v :: vs, some o :: os => ⟨v, o, S1 k⟩ :: outT S1 (k + 1) vs os
  | k, _ :: vs, none :: os => outT S1 (k + 1) vs os
  | _, _, _ => []
theorem outT_mem {S1 : Nat → As} : ∀ {k : Nat} {vs : List V} {os : En} {t : Tp}, t ∈ outT S1 k vs os → ∃ j v o, vs[j]? = some v ∧ os[j]? = some (some o) ∧ t = ⟨v, o, S1 (k + j)⟩
  | k, v :: vs, some o :: os, t, h => by
    rcases List.mem_cons.mp (show t ∈ ⟨v, o, S1 k⟩ :: outT S1 (k + 1) vs os from h) with e | h
    · exact ⟨0, v, o, rfl, rfl, e⟩
    · obtain ⟨j, v', o', e1, e2, e3⟩ := outT_mem h
      exact ⟨j + 1, v', o', by simpa using e1, by simpa using e2, by rw [e3]; congr 2; omega⟩
  | k, v :: vs, none :: os, t, h => by
    obtain ⟨j, v', o', e1, e2, e3⟩ := outT_mem (show t ∈ outT S1 (k + 1) vs os from h)
    exact ⟨j + 1, v', o', by simpa using e1, by simpa using e2, by rw [e3]; congr 2; omega⟩
  | k, [], os, t, h => by cases os <;> (simp [outT] at h)
  | k, v :: vs, [], t, h => by simp [outT] at h
theorem outT_pair {S1 : Nat → As} (d : ∀ i j x, S1 i x → S1 j x → i = j) : ∀ (k : Nat) (vs : List V) (os : En), (outT S1 k vs os).Pairwise fun t u => ∀ x, t.T x → ¬ u.T x
  | k, v :: vs, some o :: os => by
    refine List.pairwise_cons.mpr ⟨fun u hu x a b => ?_, outT_pair d (k + 1) vs os⟩
    obtain ⟨j, v', o', _, _, e3⟩ := outT_mem hu
    subst e3
    have := d _ _ x a b
    omega
  | k, v :: vs, none :: os => outT_pair d (k + 1) vs os
  | k, [], os => by cases os <;> exact .nil
  | k, v :: vs, [] => .nil
theorem Sx.leave {vs : List V} {as : List Ow} {Ws Us : List Tp} {F1 : As} {H1 : Hp} {S1 : Nat → As} {outs : En} (h : Sx K E F H S L σ env (Ws ++ Ts)) (h1 : Sx K (snapE H F (scOf Ws) []) F1 H1 S1 (fun _ => noA) (vs.map some) outs Us) :
    Sx K E F1 H1 S L σ env ((outT S1 0 vs outs ++ Us) ++ Ts) := by
  have pw := List.pairwise_append.mp h.dT
  have mW : ∀ {k : Nat} {t : Tp}, Ws[k]? = some t → t ∈ Ws := fun e => List.mem_of_getElem? e
  refine (h.sub (List.sublist_append_right _ _)).back' (P := fun x => ∃ i, scOf Ws i x) (fix := []) h1 (fun i x a ⟨k, t, e, b⟩ => h.dST t (List.mem_append_left _ (mW e)) i x b a) (fun t ht x a ⟨k, u, e, b⟩ => pw.2.2 u (mW e) t ht x b a)
    (fun x a ⟨k, u, e, b⟩ => (h.oT u (List.mem_append_left _ (mW e)) x b).nf a) (fun i x a ⟨k, u, e, b⟩ => (h.oT u (List.mem_append_left _ (mW e)) x b).nl i a) (fun x ⟨k, u, e, b⟩ => (h.oT u (List.mem_append_left _ (mW e)) x b).or) (fun u hu => ?_) (fun u hu x a => ?_) ?_
  · rcases List.mem_append.mp hu with q | q
    · obtain ⟨j, v, o, e1, e2, rfl⟩ := outT_mem q
      obtain ⟨w, e3, e4⟩ := h1.sl j o (getE_of e2)
      rw [List.getElem?_map, e1] at e3
      cases e3
      rw [Nat.zero_add]
      exact e4
    · exact h1.tm u q
  · rcases List.mem_append.mp hu with q | q
    · obtain ⟨j, v, o, e1, e2, rfl⟩ := outT_mem q
      have z := h1.oS _ x a
      exact ⟨z.tr, z.nf, z.or⟩
    · have z := h1.oT u q x a
      exact ⟨z.tr, z.nf, z.or⟩
  · refine List.pairwise_append.mpr ⟨outT_pair h1.dS 0 vs outs, h1.dT, fun t ht u hu x a b => ?_⟩
    obtain ⟨j, v, o, e1, e2, rfl⟩ := outT_mem ht
    exact h1.dST u hu _ x b a
theorem backs_ok {S1 : Nat → As} {vs : List V} {ts : List Tm} {Us : List Tp} (ov : OpV σ vs ts Us) : ∀ {k : Nat} {ms : List Md} {os : En} {env : En} {S : Nat → As}, Sx K E F H S L σ env (outT S1 k vs os ++ Ts) → ∃ S', Sx K E F H S' L σ (backs ms ts os env) Ts := by
  induction ov with
  | nil =>
    intro k ms os env S s
    have e : outT S1 k [] os = [] := by cases os <;> rfl
    rw [e] at s
    refine ⟨S, ?_⟩
    have e2 : backs ms [] os env = env := by cases ms <;> simp [backs]
    rw [e2]; exact s
  | @slot i v vs ts Us hv r ih =>
    intro k ms os env S s
    cases os with
    | nil =>
      have e2 : backs ms (.inl i :: ts) [] env = env := by cases ms <;> simp [backs]
      rw [e2]
      exact ⟨S, s⟩
    | cons o os =>
      cases ms with
      | nil => exact ⟨S, by simp only [backs]; exact s.sub (List.sublist_append_right _ _)⟩
      | cons m ms =>
        cases m with
        | mu =>
          simp only [backs]
          cases o with
          | none => exact ih (k := k + 1) (Sx.drop s)
          | some o => exact ih (k := k + 1) (Sx.put (T := S1 k) s hv)
        | sh =>
          simp only [backs]
          cases o with
          | none => exact ih (k := k + 1) s
          | some o => exact ih (k := k + 1) (Sx.pop s)
  | @temp v o' T vs ts Us r ih =>
    intro k ms os env S s
    cases os with
    | nil =>
      have e2 : backs ms (.inr o' :: ts) [] env = env := by cases ms <;> simp [backs]
      rw [e2]
      exact ⟨S, s⟩
    | cons o os =>
      cases ms with
      | nil => exact ⟨S, by simp only [backs]; exact s.sub (List.sublist_append_right _ _)⟩
      | cons m ms =>
        have e2 : backs (m :: ms) (.inr o' :: ts) (o :: os) env = backs ms ts os env := by cases m <;> simp [backs]
        rw [e2]
        cases o with
        | none => exact ih (k := k + 1) s
        | some o => exact ih (k := k + 1) (Sx.pop s)
end

/-! ### calls -/
/-- what a def promises: its arguments stand for data, and so does what it hands back -/
def spF (K : PySem.W.Frag) (xv : Xv) (np : Nat) (fn : List Ow → Cr) : Sp := fun vs H Q X => vs.length = np ∧ ∃ F Sc as, Sx K (snapE H F Sc []) F H Sc (fun _ => noA) (vs.map some) (as.map some) [] ∧ match fn as with
  | .ret o outs => ∀ v F' H' S' T, Sx K (snapE H F Sc []) F' H' S' (fun _ => noA) (vs.map some) outs [⟨v, o, T⟩] → Q v H'
  | .exc d outs => ∀ c od F' H' S', Sx K (snapE H F Sc []) F' H' S' (fun _ => noA) (vs.map some) outs [] → xv K F' H' c od d → X c od H'
  | .no => False
section
variable {K : PySem.W.Frag} {xv : Xv} {W : WX} {C : Cl} {σ : L2.St} {H : Hp}
theorem rd_call {f np : Nat} {os : Ops} {Q : VK} (hnp : (C.md f).length = np) (h : RdE K xv W (ev C (.call f os)) σ H Q) : tCallS (spF K xv np (C.fn f)) (WE W) (RdA K xv W (evo C os)) σ H Q := by
  obtain ⟨E, F, S, L, env, Ts, s, w⟩ := h
  refine ⟨E, F, S, L, env, Ts, s, ?_⟩
  simp only [ev] at w
  split at w
  · rename_i ts e1 hx
    rw [hx]
    intro vs Us F' H' S' s' ov
    split at w
    · rename_i as e2 ha
      obtain ⟨F1, S1, Xs, s1, av⟩ := args_ok (Ws := []) (s'.perm (Us := Us ++ ([] ++ Ts)) (by simpa using (List.reverse_perm Us).symm.append_right Ts)) ov ha
      have s1 : Sx K E F1 H' S1 L σ e2 (Xs ++ Ts) := s1
      refine ⟨by rw [av.at.1, args_len ha, hnp], F1, scOf Xs, as, s1.enter av, ?_⟩
      split at w
      · rename_i o outs hc
        try rw [hc]
        intro v F2 H2 S2 T h2
        have s2 := s1.leave (as := as) h2
        rw [List.append_assoc] at s2
        obtain ⟨S3, s3⟩ := backs_ok (ms := C.md f) ov s2
        exact w v F2 H2 S3 T s3
      · rename_i d outs hc
        try rw [hc]
        intro c od F2 H2 S2 h2 hd
        have s2 := s1.leave (as := as) h2
        rw [List.append_nil] at s2
        obtain ⟨S3, s3⟩ := backs_ok (ms := C.md f) ov s2
        exact w F2 H2 S3 c od s3 hd
      · exact w.elim
    · exact w.elim
  · rename_i d e1 hx
    rw [hx]
    exact w
  · exact w.elim
end
end Pd
set_option Elab.async false
set_option linter.all false
set_option maxRecDepth 100000
set_option maxHeartbeats 4000000
/-! Part 9: what is gone through; list comprehensions. -/
namespace Pd
open PySem PySem.Spec PyProof.Rows L2
section
variable {K : PySem.W.Frag} {E : En0} {F F' : As} {H H' : Hp} {S S' : Nat → As} {L L' : Nat → As} {σ : L2.St} {env : En} {Ts : List Tp} {t : Tp} {i : Nat} {v : V} {o : Ow} {T : As}
/-- stored, whether the slot is there or not -/
theorem Sx.store' (h : Sx K E F H S L σ env (⟨v, o, T⟩ :: Ts)) (hx : ∀ p ∈ E.fix, p.1 ≠ i) : ∃ S', Sx K E F H S' L (σ.set i (some v)) (env.set i (some o)) Ts := by
  by_cases hi : i < env.length
  · exact ⟨_, h.store hi hx⟩
  · rw [List.set_eq_of_length_le (by rw [← h.len]; omega), List.set_eq_of_length_le (by omega)]
    exact ⟨_, h.pop⟩
/-- the slots vs are forgotten -/
theorem Sx.forget {vs : List Nat} (h : Sx K E F H S L σ env Ts) (hx : ∀ p ∈ E.fix, p.1 ∉ vs) : Sx K E F H (wipeS S vs) L (wipe σ vs) (wipeE env vs) Ts := by
  refine ⟨by rw [wipeE_len, wipe_length]; exact h.len, fun j u e => ?_, h.tm, fun i j x a b => h.dS i j x a.2 b.2, h.dT, fun t ht i x a b => h.dST t ht i x a b.2, fun i x q => h.oS i x q.2, h.oT, h.fr, h.ff, h.lt, h.ag, h.tk, fun p hp => ?_⟩
  · obtain ⟨h1, h2⟩ := wipeE_get e
    obtain ⟨v, e1, e2⟩ := h.sl j u h2
    refine ⟨v, by rw [wipe_get h1]; exact e1, ?_⟩
    have es : wipeS S vs j = S j := by
      funext x
      exact propext ⟨fun z => z.2, fun z => ⟨h1, z⟩⟩
    rw [es]
    exact e2
  · rw [wipe_get (hx p hp)]
    exact h.fx p hp
/-! ### locks -/
/-- the slots is are locked -/
structure Lks (K : PySem.W.Frag) (E : En0) (F : As) (H : Hp) (S L : Nat → As) (σ : L2.St) (env : En) (Ts : List Tp) (is : List Nat) (S1 L1 : Nat → As) (env1 : En) : Prop where
  s1 : Sx K E F H S1 L1 σ env1 Ts
  sub : ∀ j x, S1 j x → S j x
  emp : ∀ i ∈ is, ∀ x, ¬ S1 i x
  back : ∀ {F2 : As} {H2 : Hp} {S2 : Nat → As} {σ2 : L2.St} {env2 : En} {Us : List Tp}, Sx K E F2 H2 S2 L1 σ2 env2 Us → (∀ i ∈ is, σ2[i]? = σ[i]?) → (∀ x, H x ≠ none → (∀ j, ¬ S1 j x) → H2 x = H x) → (∀ x, F x → F2 x) →
    ∃ S3, Sx K E F2 H2 S3 L σ2 (backE env env2 is) Us
theorem lks_nil (h : Sx K E F H S L σ env Ts) : Lks K E F H S L σ env Ts [] S L env := ⟨h, fun _ _ z => z, fun _ hi => (nomatch hi), fun s2 _ _ _ => ⟨_, s2⟩⟩
theorem lock_emp {env1 : En} {d : Dt} {S1 L1 : Nat → As} {σ' : L2.St} {F1 : As} (hg : getE env i = some o) (hd : o.vw = some d) (hl : lockE env (.v i) = some env1) (h1 : Sx K E F1 H S1 L1 σ' env1 Ts) : ∀ x, ¬ S1 i x := by
  simp only [lockE, hg] at hl
  have hi := getE_lt hg
  cases o with
  | lk c =>
    cases hl
    obtain ⟨w, _, ow⟩ := h1.sl i _ hg
    exact ow.1
  | rc fs => cases hd
  | p o1 =>
    cases o1 with
    | imm c =>
      cases hl
      obtain ⟨w, _, ow⟩ := h1.sl i _ hg
      exact ow.1
    | lst ds =>
      cases hl
      obtain ⟨w, _, ow⟩ := h1.sl i (.lk (.lst ds)) (by rw [getE_set hi, if_pos rfl])
      exact ow.1
    | dic ds =>
      cases hl
      obtain ⟨w, _, ow⟩ := h1.sl i (.lk (.dic ds)) (by rw [getE_set hi, if_pos rfl])
      exact ow.1
theorem slot_lt {σ2 : L2.St} (h : Sx K E F H S L σ env Ts) (hg : getE env i = some o) (e : σ2[i]? = σ[i]?) : i < σ2.length := by
  obtain ⟨v, e1, _⟩ := h.sl i o hg
  rw [e1] at e
  exact (List.getElem?_eq_some_iff.mp e).1
theorem lks_one {env1 : En} {d : Dt} (h : Sx K E F H S L σ env Ts) (hg : getE env i = some o) (hd : o.vw = some d) (hl : lockE env (.v i) = some env1) : ∃ S1 L1, Lks K E F H S L σ env Ts [i] S1 L1 env1 := by
  obtain ⟨S1, L1, k⟩ := lock_slot h hg hd hl
  refine ⟨S1, L1, k.s1, k.sub, fun j hj => ?_, fun s2 hσ hp hF => ?_⟩
  · obtain rfl : j = i := by simpa using hj
    exact lock_emp hg hd hl k.s1
  · have hi := slot_lt h hg (hσ i List.mem_cons_self)
    exact k.back s2 (hσ i List.mem_cons_self) hp hF (by rw [backE_len, s2.len]; exact hi)
theorem lks_two {a b : Nat} {oa ob : Ow} {da db : Dt} {e1 e2 : En} (h : Sx K E F H S L σ env Ts) (ga : getE env a = some oa) (va : oa.vw = some da) (gb : getE env b = some ob) (vb : ob.vw = some db) (la : lockE env (.v a) = some e1) (lb : lockE e1 (.v b) = some e2) :
    ∃ S1 L1, Lks K E F H S L σ env Ts [a, b] S1 L1 e2 := by
  have ha := getE_lt ga
  have hb := getE_lt gb
  obtain ⟨S1, L1, k⟩ := lock_slot h ga va la
  have gb' : ∃ ob', getE e1 b = some ob' ∧ ∃ db', ob'.vw = some db' := by
    by_cases e : b = a
    · subst e
      rw [ga] at gb
      cases gb
      simp only [lockE, ga] at la
      cases oa with
      | lk c => cases la; exact ⟨_, ga, _, va⟩
      | rc fs => cases va
      | p o1 =>
        cases o1 with
        | imm c => cases la; exact ⟨_, ga, _, va⟩
        | lst ds => cases la; exact ⟨.lk (.lst ds), by rw [getE_set ha, if_pos rfl], _, rfl⟩
        | dic ds => cases la; exact ⟨.lk (.dic ds), by rw [getE_set ha, if_pos rfl], _, rfl⟩
    · exact ⟨ob, by rw [k.oth b e]; exact gb, db, vb⟩
  obtain ⟨ob', gb', db', vb'⟩ := gb'
  obtain ⟨S2, L2, k2⟩ := lock_slot k.s1 gb' vb' lb
  refine ⟨S2, L2, k2.s1, fun j x z => k.sub j x (k2.sub j x z), fun j hj x z => ?_, fun {F2 H2 S3 σ2 env2 Us} s2 hσ hp hF => ?_⟩
  · rcases List.mem_cons.mp hj with e | hj
    · subst e
      exact lock_emp ga va la k.s1 x (k2.sub _ x z)
    · obtain rfl : j = b := by simpa using hj
      exact lock_emp gb' vb' lb k2.s1 x z
  · have ha' := slot_lt h ga (hσ a (by simp))
    have hb' := slot_lt h gb (hσ b (by simp))
    obtain ⟨S4, s4⟩ := k2.back s2 (hσ b (by simp)) hp hF (by rw [s2.len]; exact hb')
    obtain ⟨S5, s5⟩ := k.back s4 (hσ a (by simp)) (fun x hx hn => hp x hx fun j z => hn j (k2.sub j x z)) hF (by rw [List.length_set, s2.len]; exact ha')
    refine ⟨S5, ?_⟩
    have e : backE env env2 [a, b] = (env2.set b (e1.getD b none)).set a (env.getD a none) := by
      show (env2.set b (env.getD b none)).set a (env.getD a none) = _
      by_cases e : b = a
      · subst e
        rw [List.set_set, List.set_set]
      · have : e1.getD b none = env.getD b none := by
          rw [getD_of gb]
          exact getD_of (by rw [k.oth b e]; exact gb)
        rw [this]
    rw [e]
    exact s5
/-- a list of slots to go through -/
theorem backE_wipe (e0 env : En) : ∀ (vs : List Nat), env.length = e0.length → backE e0 (wipeE env vs) vs = backE e0 env vs := fun vs hl => by
  apply List.ext_getElem?
  intro j
  have A : ∀ (vs : List Nat) (env : En), env.length = e0.length → (backE e0 env vs)[j]? = if j ∈ vs then e0[j]? else env[j]? := by
    intro vs env hl
    induction vs with
    | nil => simp [backE]
    | cons v vs ih =>
      unfold backE
      by_cases e : j = v
      · subst e
        rw [if_pos List.mem_cons_self]
        by_cases hj : j < (backE e0 env vs).length
        · rw [List.getElem?_set_self hj]
          rw [backE_len, hl] at hj
          rw [List.getD_eq_getElem?_getD, List.getElem?_eq_getElem hj]
          rfl
        · rw [List.getElem?_eq_none (by rw [List.length_set]; omega)]
          rw [backE_len, hl] at hj
          rw [List.getElem?_eq_none (by omega)]
      · rw [List.getElem?_set_ne (Ne.symm e), ih]
        simp [e]
  have B : ∀ (vs : List Nat), j ∉ vs → (wipeE env vs)[j]? = env[j]? := by
    intro vs
    induction vs with
    | nil => intro _; rfl
    | cons v vs ih =>
      intro hn
      unfold wipeE
      rw [List.getElem?_set_ne (fun e => hn (by rw [e]; exact List.mem_cons_self)), ih (fun z => hn (List.mem_cons_of_mem _ z))]
  rw [A _ _ (by rw [wipeE_len]; exact hl), A _ _ hl]
  by_cases e : j ∈ vs
  · rw [if_pos e, if_pos e]
  · rw [if_neg e, if_neg e, B vs e]

/-! ### what is gone through -/
/-- J yields what stands for ds, as long as nothing but P changes -/
structure JOk (K : PySem.W.Frag) (J : It) (ds : List Dt) (F : As) (H : Hp) (P : As) : Prop where
  go : ∀ (i : Nat) (F2 : As) (H2 : Hp) (d : Dt), (∀ x, F x → F2 x) → (∀ x, H x ≠ none → ¬ P x → H2 x = H x) → (∀ x, F2 x → H2 x ≠ none) → ds[i]? = some d → J.go i H2 ∧ ∀ x H', J.yld i H2 x H' →
    ∃ F', (∀ x, F2 x → F' x) ∧ (∀ x, F' x → F2 x ∨ (H2 x = none ∧ H' x ≠ none)) ∧ (∀ x, H2 x ≠ none → H' x = H2 x) ∧ DV K F' H' x d
  stop : ∀ (F2 : As) (H2 : Hp), (∀ x, F x → F2 x) → (∀ x, H x ≠ none → ¬ P x → H2 x = H x) → J.stop ds.length H2
/-- nothing but what other slots than is hold alone -/
def Pok (S : Nat → As) (is : List Nat) (P : As) : Prop := ∀ x, P x → ∃ j, j ∉ is ∧ S j x
theorem jok_list {a : Addr} {vs : List V} {ds : List Dt} {P : As} (ha : H a = some (.lst vs)) (hP : ¬ P a) (hv : DVs K F H vs ds) (hF : ∀ x, F x → H x ≠ none ∧ ¬ P x) : JOk K (Itl K a) ds F H P := by
  refine ⟨fun i F2 H2 d f p t e => ?_, fun F2 H2 f p => ?_⟩
  · have h2 : H2 a = some (.lst vs) := (p a (by rw [ha]; simp) hP).trans ha
    obtain ⟨v, e1, dv⟩ := hv.get e
    refine ⟨⟨vs, v, .of h2, e1⟩, fun x H' y => ?_⟩
    obtain ⟨rfl, y⟩ := y
    have := y vs (.of h2)
    rw [e1] at this
    cases this
    exact ⟨F2, fun _ z => z, fun _ z => .inl z, fun _ _ => rfl, dv.mono f fun x hx => p x (hF x hx).1 (hF x hx).2⟩
  · have h2 : H2 a = some (.lst vs) := (p a (by rw [ha]; simp) hP).trans ha
    exact ⟨vs, .of h2, by rw [hv.len]; exact Nat.le_refl _⟩
theorem jok_tup {a : Addr} {vs : List V} {ds : List Dt} {P : As} (ha : H a = some (.tup vs)) (hP : ¬ P a) (hv : DVs K F H vs ds) (hF : ∀ x, F x → H x ≠ none ∧ ¬ P x) : JOk K (Itt K a) ds F H P := by
  refine ⟨fun i F2 H2 d f p t e => ?_, fun F2 H2 f p => ?_⟩
  · have h2 : H2 a = some (.tup vs) := (p a (by rw [ha]; simp) hP).trans ha
    obtain ⟨v, e1, dv⟩ := hv.get e
    refine ⟨⟨vs, v, .of h2, e1⟩, fun x H' y => ?_⟩
    obtain ⟨rfl, y⟩ := y
    have := y vs (.of h2)
    rw [e1] at this
    cases this
    exact ⟨F2, fun _ z => z, fun _ z => .inl z, fun _ _ => rfl, dv.mono f fun x hx => p x (hF x hx).1 (hF x hx).2⟩
  · have h2 : H2 a = some (.tup vs) := (p a (by rw [ha]; simp) hP).trans ha
    exact ⟨vs, .of h2, by rw [hv.len]; exact Nat.le_refl _⟩
theorem jok_scr {a : Addr} {is : List Int} {P : As} (ha : StS K F H a (is.map V.int)) (hF : ∀ x, F x → H x ≠ none ∧ ¬ P x) : JOk K (Itl K a) (is.map Dt.int) F H P := by
  have st : ∀ H2 : Hp, (∀ x, H x ≠ none → ¬ P x → H2 x = H x) → SqL K H2 a (is.map V.int) := fun H2 p => by
    rcases ha with ⟨f, r⟩ | k
    · exact .inl (rd_same r (p a (hF a f).1 (hF a f).2))
    · exact .inr k
  refine ⟨fun i F2 H2 d f p t e => ?_, fun F2 H2 f p => ?_⟩
  · rw [List.getElem?_map] at e
    cases q : is[i]? with
    | none => rw [q] at e; cases e
    | some j =>
      rw [q] at e
      cases e
      have e1 : (is.map V.int)[i]? = some (.int j) := by rw [List.getElem?_map, q]; rfl
      refine ⟨⟨_, _, st H2 p, e1⟩, fun x H' y => ?_⟩
      obtain ⟨rfl, y⟩ := y
      have := y _ (st _ p)
      rw [e1] at this
      cases this
      exact ⟨F2, fun _ z => z, fun _ z => .inl z, fun _ _ => rfl, .int j⟩
  · exact ⟨_, st H2 p, by simp⟩
theorem jok_rng {lo : Int} {n : Nat} {P : As} : JOk K (Itr lo n) (rngD lo n) F H P := by
  refine ⟨fun i F2 H2 d f p t e => ?_, fun F2 H2 f p => ?_⟩
  · unfold rngD at e
    rw [List.getElem?_map] at e
    by_cases hi : i < n
    · rw [List.getElem?_range hi] at e
      cases e
      refine ⟨hi, fun x H' y => ?_⟩
      obtain ⟨rfl, rfl⟩ := y
      exact ⟨F2, fun _ z => z, fun _ z => .inl z, fun _ _ => rfl, .int _⟩
    · rw [List.getElem?_eq_none (by simpa using hi)] at e
      cases e
  · show n ≤ (rngD lo n).length
    unfold rngD
    simp
end
end Pd
set_option Elab.async false
set_option linter.all false
set_option maxRecDepth 100000
set_option maxHeartbeats 4000000
/-! Part 10: what is gone through; list comprehensions (the readings). -/
namespace Pd
open PySem PySem.Spec PyProof.Rows L2
section
variable {K : PySem.W.Frag} {E : En0} {F F' : As} {H H' : Hp} {S S' : Nat → As} {L L' : Nat → As} {σ : L2.St} {env : En} {Ts : List Tp} {t : Tp} {i : Nat} {v : V} {o : Ow} {T : As}
def opSl : Op → List Nat
  | .v i => [i]
  | .e _ => []
def SlOk (env : En) (is : List Nat) : Prop := ∀ i ∈ is, ∃ o d, getE env i = some o ∧ o.vw = some d
theorem lks_ir {it : Ir} {e2 : En} (h : Sx K E F H S L σ env Ts) (hs : SlOk env (slotI it)) (hl : lckI it env = some e2) : ∃ S1 L1, Lks K E F H S L σ env Ts (slotI it) S1 L1 e2 := by
  have one : ∀ (o : Op), SlOk env (opSl o) → lockE env o = some e2 → ∃ S1 L1, Lks K E F H S L σ env Ts (opSl o) S1 L1 e2 := fun o hs hl => by
    cases o with
    | v i =>
      obtain ⟨o, d, g, vd⟩ := hs i List.mem_cons_self
      exact lks_one h g vd hl
    | e x =>
      simp only [lockE] at hl
      cases hl
      exact ⟨S, L, lks_nil h⟩
  cases it with
  | op o =>
    have e : slotI (.op o) = (opSl o) := by cases o <;> rfl
    rw [e] at hs ⊢
    exact one o hs hl
  | enum o =>
    have e : slotI (.enum o) = (opSl o) := by cases o <;> rfl
    rw [e] at hs ⊢
    exact one o hs hl
  | rng1 a => simp only [lckI] at hl; cases hl; exact ⟨S, L, lks_nil h⟩
  | rng2 a b => simp only [lckI] at hl; cases hl; exact ⟨S, L, lks_nil h⟩
  | zip a b =>
    simp only [lckI] at hl
    split at hl
    · rename_i e1 h1
      cases a with
      | v i =>
        cases b with
        | v j =>
          obtain ⟨o1, d1, g1, v1⟩ := hs i (by simp [slotI])
          obtain ⟨o2, d2, g2, v2⟩ := hs j (by simp [slotI])
          exact lks_two h g1 v1 g2 v2 h1 hl
        | e y =>
          simp only [lockE] at hl
          cases hl
          obtain ⟨o1, d1, g1, v1⟩ := hs i (by simp [slotI])
          exact lks_one h g1 v1 h1
      | e x =>
        simp only [lockE] at h1
        cases h1
        cases b with
        | v j =>
          obtain ⟨o2, d2, g2, v2⟩ := hs j (by simp [slotI])
          exact lks_one h g2 v2 hl
        | e y =>
          simp only [lockE] at hl
          cases hl
          exact ⟨S, L, lks_nil h⟩
    · cases hl
end
section
variable (K : PySem.W.Frag) (xv : Xv) (W : WX) (C : Cl)
/-- the reading of what a loop goes through -/
def RdI (it : Ir) : TI := fun σ H R => ∃ E F S L env Ts, Sx K E F H S L σ env Ts ∧ Wp (evi C it env) (fun ds e1 => ∀ J F' H' S' Us, Sx K E F' H' S' L σ e1 (Us ++ Ts) → SlOk e1 (slotI it) → (∀ P, Pok S' (slotI it) P → JOk K J ds F' H' P) → R J H') (Xw K xv W E L σ Ts)
end
def iSeq (K : PySem.W.Frag) (tl : TE) : TI := fun σ H R => tl σ H fun x H1 => ∃ a, x = .ref a ∧ (((∃ xs, SqL K H1 a xs) ∧ R (Itl K a) H1) ∨ ((∃ xs, SqT K H1 a xs) ∧ R (Itt K a) H1))
theorem pi_seq {X : Cx} {tg l : PySem.Expr} {tl : TE} (hl : PE X l tl) : PI X tg l (iSeq X.K tl) := by
  refine ⟨fun pins s σ H R I h => ?_⟩
  refine thn (hl.run pins s σ H _ I h) fun v s1 ⟨x, H1, I1, r1, q1⟩ => ?_
  obtain ⟨a, e, q⟩ := q1
  subst e
  cases r1
  rcases q with ⟨⟨xs, hq⟩, q⟩ | ⟨⟨xs, hq⟩, q⟩
  · obtain ⟨its, rv, p, hz⟩ := I1.list hq
    refine wpAny_pyIter_list p.isList ?_
    refine ⟨s1.heap.objs.size, [s1.heap.objs.size], _, _, H1, rfl, I1.kept (t' := s1.toks) fun b o e => Heap.get?_push_of_some _ e, turn_list a _, ⟨_, Heap.get?_push_size _ rfl, rfl, rfl⟩, fun b hb => ?_, q⟩
    have e : b = s1.heap.objs.size := by simpa using hb
    subst e
    exact I1.fpOk (Nat.le_refl _) (I1.hok.fresh (Nat.le_refl _))
  · obtain ⟨its, rv, p, hz⟩ := I1.tuple hq
    refine wpAny_pyIter_tuple (show s1.heap.IsTuple a its.toArray from p) ?_
    refine ⟨s1.heap.objs.size, [s1.heap.objs.size], _, _, H1, rfl, I1.kept (t' := s1.toks) fun b o e => Heap.get?_push_of_some _ e, turn_tuple a _, ⟨_, Heap.get?_push_size _ rfl, rfl, rfl⟩, fun b hb => ?_, q⟩
    have e : b = s1.heap.objs.size := by simpa using hb
    subst e
    exact I1.fpOk (Nat.le_refl _) (I1.hok.fresh (Nat.le_refl _))
def iEn (K : PySem.W.Frag) (ta : TA) : TI := fun σ H R => ta σ H fun vs H1 => ∃ a, vs = [.ref a] ∧ ((∃ xs, SqL K H1 a xs ∧ R (Ite K a) H1) ∨ (∃ xs, SqT K H1 a xs ∧ R (ItT K a) H1))
theorem pi_en {X : Cx} {e : PySem.Expr} {ta : TA} {p pos tpos : Pos} {elts : List PySem.Expr} {kk : Nat} (hg : Gl X "enumerate") (hm : X.mg "enumerate" = none) (ha : PA X [e] ta) (hs : starEach [e] X.env = [(false, eval e X.env)]) :
    PI X (.Tuple elts kk tpos) (.Call (.Name "enumerate" p) [e] [] pos) (iEn X.K ta) := by
  refine ⟨fun ps s σ H R I h => ?_⟩
  refine Call_ (ld_blt I hg hm boot_enumerate (PyProof.Rows.callWith_type1 (thn (ha.run pos ps s σ H _ I h) fun us s1 ⟨vs, H1, I1, r1, q1⟩ => ?_) hs rfl))
  obtain ⟨a, ex, q⟩ := q1
  subst ex
  cases r1 with
  | cons r rr =>
    cases rr
    cases r
    rcases q with ⟨xs, hq, q⟩ | ⟨xs, hq, q⟩
    · obtain ⟨its, rv, p', hz⟩ := I1.list hq
      refine call_enumerate_list p'.isList fun h' he hit hsz hk => wpAny_pyIter_enum he ?_
      have I2 : L2.Inv X ps σ H1 { s1 with heap := h' } := I1.kept (t' := s1.toks) hk
      refine ⟨s1.heap.objs.size + 1, [s1.heap.objs.size + 1, s1.heap.objs.size], _, _, H1, rfl, I2, turn_enum a (s1.heap.objs.size + 1) s1.heap.objs.size, ⟨⟨.none, he⟩, hit, Nat.succ_ne_self _⟩, fun b hb => ?_, q⟩
      have e' : b = s1.heap.objs.size + 1 ∨ b = s1.heap.objs.size := by simpa using hb
      have hle : s1.heap.objs.size ≤ b := by
        rcases e' with z | z
        · rw [z]; exact Nat.le_add_right _ _
        · rw [z]; exact Nat.le_refl _
      exact I1.fpOk hle (I1.hok.fresh hle)
    · obtain ⟨its, rv, p', hz⟩ := I1.tuple hq
      have hal : a < s1.heap.objs.size := by obtain ⟨_, q, _⟩ := p'; exact Heap.lt_size q
      refine call_enumerate_tuple p' fun h' he hit hsz hk => wpAny_pyIter_enum he ?_
      have I2 : L2.Inv X ps σ H1 { s1 with heap := h' } := I1.kept (t' := s1.toks) hk
      refine ⟨s1.heap.objs.size + 1, [s1.heap.objs.size + 1, s1.heap.objs.size], _, _, H1, rfl, I2, turn_enumT a (s1.heap.objs.size + 1) s1.heap.objs.size (Nat.ne_of_lt hal) (Nat.ne_of_lt (Nat.lt_succ_of_lt hal)), ⟨⟨.none, he⟩, hit, Nat.succ_ne_self _⟩, fun b hb => ?_, q⟩
      have e' : b = s1.heap.objs.size + 1 ∨ b = s1.heap.objs.size := by simpa using hb
      have hle : s1.heap.objs.size ≤ b := by
        rcases e' with z | z
        · rw [z]; exact Nat.le_add_right _ _
        · rw [z]; exact Nat.le_refl _
      exact I1.fpOk hle (I1.hok.fresh hle)
section
variable {K : PySem.W.Frag} {F : As} {H : Hp}
/-- a pair with its number -/
theorem enumD_get : ∀ {ds : List Dt} {k i : Nat} {d : Dt}, (enumD k ds)[i]? = some d → ∃ e, ds[i]? = some e ∧ d = .tup [.int ((k + i : Nat) : Int), e]
  | [], k, i, d, h => by simp [enumD] at h
  | e :: ds, k, 0, d, h => by
    simp [enumD] at h
    subst h
    exact ⟨e, rfl, by simp⟩
  | e :: ds, k, i + 1, d, h => by
    obtain ⟨e', h1, h2⟩ := enumD_get (k := k + 1) (i := i) (show (enumD (k + 1) ds)[i]? = some d by simpa [enumD] using h)
    refine ⟨e', by simpa using h1, ?_⟩
    rw [h2]
    congr 4
    omega
theorem enumD_len : ∀ (ds : List Dt) (k : Nat), (enumD k ds).length = ds.length
  | [], _ => rfl
  | _ :: ds, k => by simp [enumD, enumD_len ds]
theorem new_pair {K : PySem.W.Frag} {F2 : As} {H2 : Hp} {T : Addr} {vs : List V} {ds : List Dt} (t : ∀ x, F2 x → H2 x ≠ none) (hT : H2 T = none) (hv : DVs K F2 H2 vs ds) :
    ∃ F' : As, (∀ x, F2 x → F' x) ∧ (∀ x, F' x → F2 x ∨ (H2 x = none ∧ upd H2 T (.tup vs) x ≠ none)) ∧ (∀ x, H2 x ≠ none → upd H2 T (.tup vs) x = H2 x) ∧ DV K F' (upd H2 T (.tup vs)) (.ref T) (.tup ds) := by
  have ne : ∀ x, H2 x ≠ none → x ≠ T := fun x hx e => by subst e; exact hx hT
  refine ⟨fun x => F2 x ∨ x = T, fun x hx => .inl hx, fun x hx => ?_, fun x hx => upd_ne (ne x hx), ?_⟩
  · rcases hx with z | z
    · exact .inl z
    · subst z
      exact .inr ⟨hT, by rw [upd_same]; simp⟩
  · exact .tup ⟨.inr rfl, upd_same⟩ (hv.mono (fun x hx => .inl hx) fun x hx => upd_ne (ne x (t x hx)))
theorem jok_enL {a : Addr} {vs : List V} {ds : List Dt} {P : As} (st : ∀ H2 : Hp, (∀ x, H x ≠ none → ¬ P x → H2 x = H x) → SqL K H2 a vs) (hv : DVs K F H vs ds) (hF : ∀ x, F x → H x ≠ none ∧ ¬ P x) : JOk K (Ite K a) (enumD 0 ds) F H P := by
  refine ⟨fun i F2 H2 d f p t e => ?_, fun F2 H2 f p => ?_⟩
  · obtain ⟨d', e1, rfl⟩ := enumD_get e
    obtain ⟨v, e2, dv⟩ := hv.get e1
    refine ⟨⟨vs, v, st H2 p, e2⟩, fun x H' y => ?_⟩
    obtain ⟨T, y, rfl, hT, rfl, q⟩ := y
    have := q vs (st H2 p)
    rw [e2] at this
    cases this
    rw [Nat.zero_add]
    exact new_pair t hT (.cons (.int _) (.one (dv.mono f fun x hx => p x (hF x hx).1 (hF x hx).2)))
  · exact ⟨vs, st H2 p, by rw [enumD_len, hv.len]; exact Nat.le_refl _⟩
theorem jok_enT {a : Addr} {vs : List V} {ds : List Dt} {P : As} (ha : H a = some (.tup vs)) (hP : ¬ P a) (hv : DVs K F H vs ds) (hF : ∀ x, F x → H x ≠ none ∧ ¬ P x) : JOk K (ItT K a) (enumD 0 ds) F H P := by
  have st : ∀ H2 : Hp, (∀ x, H x ≠ none → ¬ P x → H2 x = H x) → H2 a = some (.tup vs) := fun H2 p => (p a (by rw [ha]; simp) hP).trans ha
  refine ⟨fun i F2 H2 d f p t e => ?_, fun F2 H2 f p => ?_⟩
  · obtain ⟨d', e1, rfl⟩ := enumD_get e
    obtain ⟨v, e2, dv⟩ := hv.get e1
    refine ⟨⟨vs, v, .of (st H2 p), e2⟩, fun x H' y => ?_⟩
    obtain ⟨T, y, rfl, hT, rfl, q⟩ := y
    have := q vs (.of (st H2 p))
    rw [e2] at this
    cases this
    rw [Nat.zero_add]
    exact new_pair t hT (.cons (.int _) (.one (dv.mono f fun x hx => p x (hF x hx).1 (hF x hx).2)))
  · exact ⟨vs, .of (st H2 p), by rw [enumD_len, hv.len]⟩
end
section
variable {K : PySem.W.Frag} {xv : Xv} {W : WX} {C : Cl} {σ : L2.St} {H : Hp}
/-- where a sequence stands, seen of a slot or of a value at hand -/
inductive SeqAt (K : PySem.W.Frag) (F : As) (H : Hp) (P : As → Prop) : V → List Dt → Prop
  | lst {a : Addr} {vs : List V} {ds : List Dt} : H a = some (.lst vs) → (∀ Q, P Q → ¬ Q a) → DVs K F H vs ds → SeqAt K F H P (.ref a) ds
  | tup {a : Addr} {vs : List V} {ds : List Dt} : H a = some (.tup vs) → (∀ Q, P Q → ¬ Q a) → DVs K F H vs ds → SeqAt K F H P (.ref a) ds
  | scr {a : Addr} {is : List Int} : StS K F H a (is.map V.int) → SeqAt K F H P (.ref a) (is.map Dt.int)
theorem seq_of {F : As} {v : V} {d : Dt} {ds : List Dt} {P : As → Prop} (hb : BV K F H v d) (hs : seqD d = some ds) (hF : ∀ Q, P Q → ∀ x, F x → ¬ Q x) (hl : ∀ a es, v = .ref a → d = .lst es → ∀ Q, P Q → ¬ Q a) : SeqAt K F H P v ds := by
  cases d with
  | lst es =>
    cases hs
    obtain ⟨a, vs, rfl, ha, hv⟩ := hb
    exact .lst ha (hl a ds rfl rfl) hv
  | tup es =>
    cases hs
    obtain ⟨a, vs, rfl, ha, hv⟩ := bv_tup hb
    exact .tup ha.2 (fun Q hQ => hF Q hQ a ha.1) hv
  | scr is =>
    cases hs
    obtain ⟨a, rfl, ha⟩ := bv_scr hb
    exact .scr ha
  | non => cases hs
  | bl b => cases hs
  | int b => cases hs
  | str b => cases hs
  | dic b => cases hs
theorem seq_slot {E : En0} {F : As} {S L : Nat → As} {env : En} {Ts : List Tp} {i : Nat} {o : Ow} {v : V} {d : Dt} {ds : List Dt} {is : List Nat} (s : Sx K E F H S L σ env Ts) (hi : i ∈ is) (hg : getE env i = some o) (hv : σ[i]? = some (some v)) (hd : o.vw = some d) (hs : seqD d = some ds) : SeqAt K F H (Pok S is) v ds := by
  obtain ⟨w, ew, ow⟩ := s.sl i o hg
  rw [hv] at ew
  cases ew
  have hF : ∀ Q, Pok S is Q → ∀ x, F x → ¬ Q x := fun Q hQ x hx z => let ⟨j, _, hj⟩ := hQ x z; (s.oS j x hj).nf hx
  refine seq_of (ow.bv hd) hs hF fun a es ev ed Q hQ z => ?_
  subst ed
  obtain ⟨j, hj, sj⟩ := hQ a z
  cases o with
  | rc fs => cases hd
  | lk c =>
    cases hd
    obtain ⟨_, _, q⟩ := ow
    rcases q with q | ⟨⟨b, eb, lb⟩, q⟩
    · rw [ev] at q
      cases q with
      | lst f _ _ => exact (s.oS j a sj).nf f
    · rw [ev] at eb
      cases eb
      exact (s.oS j a sj).nl i lb
  | p o1 =>
    cases o1 with
    | imm c =>
      cases hd
      have q := ow.2
      rw [ev] at q
      cases q with
      | lst f _ _ => exact (s.oS j a sj).nf f
    | lst c =>
      cases hd
      obtain ⟨b, vs, eb, sb, _⟩ := ow
      rw [ev] at eb
      cases eb
      have := s.dS j i a sj ((sb a).mpr rfl)
      rw [this] at hj
      exact hj hi
    | dic c => cases hd
theorem seq_temp {E : En0} {F : As} {S L : Nat → As} {env : En} {Ts : List Tp} {o : Ow} {v : V} {T : As} {d : Dt} {ds : List Dt} {is : List Nat} (s : Sx K E F H S L σ env (⟨v, o, T⟩ :: Ts)) (hd : o.vw = some d) (hs : seqD d = some ds) : SeqAt K F H (Pok S is) v ds := by
  have ow := s.tm _ List.mem_cons_self
  have hF : ∀ Q, Pok S is Q → ∀ x, F x → ¬ Q x := fun Q hQ x hx z => let ⟨j, _, hj⟩ := hQ x z; (s.oS j x hj).nf hx
  refine seq_of (ow.bv hd) hs hF fun a es ev ed Q hQ z => ?_
  subst ed
  obtain ⟨j, hj, sj⟩ := hQ a z
  have ev : v = .ref a := ev
  cases o with
  | rc fs => cases hd
  | lk c =>
    cases hd
    obtain ⟨_, _, q⟩ := ow
    rcases q with q | ⟨⟨b, eb, lb⟩, q⟩
    · rw [show v = _ from ev] at q
      cases q with
      | lst f _ _ => exact (s.oS j a sj).nf f
    · exact lb.elim
  | p o1 =>
    cases o1 with
    | imm c =>
      cases hd
      have q := ow.2
      rw [show v = _ from ev] at q
      cases q with
      | lst f _ _ => exact (s.oS j a sj).nf f
    | lst c =>
      cases hd
      obtain ⟨b, vs, eb, sb, _⟩ := ow
      rw [show v = _ from ev] at eb
      cases eb
      exact s.dST _ List.mem_cons_self j a ((sb a).mpr rfl) sj
    | dic c => cases hd
theorem evp_v {i : Nat} {env e1 : En} {t : Tm} (h : evp C (.v i) env = .ok t e1) : t = .inl i ∧ e1 = env ∧ ∃ o, getE env i = some o := by
  simp only [evp] at h
  split at h
  · rename_i o hg
    cases h
    exact ⟨rfl, rfl, o, hg⟩
  · cases h
theorem evp_e {x : Ex} {env e1 : En} {t : Tm} (h : evp C (.e x) env = .ok t e1) : ∃ o, t = .inr o := by
  simp only [evp] at h
  split at h
  · cases h; exact ⟨_, rfl⟩
  · cases h
  · cases h
theorem hF_of {E : En0} {F : As} {S L : Nat → As} {env : En} {Ts : List Tp} {is : List Nat} {P : As} (s : Sx K E F H S L σ env Ts) (hP : Pok S is P) : ∀ x, F x → H x ≠ none ∧ ¬ P x := fun x hx => ⟨(s.fr x hx).1, fun z => let ⟨j, _, hj⟩ := hP x z; (s.oS j x hj).nf hx⟩
theorem rdi_op {o : Op} {R : It → Hp → Prop} (h : RdI K xv W C (.op o) σ H R) : iSeq K (RdP K xv W (evp C o)) σ H R := by
  obtain ⟨E, F, S, L, env, Ts, s, w⟩ := h
  refine ⟨E, F, S, L, env, Ts, s, ?_⟩
  simp only [evi] at w
  have fin : ∀ {F' : As} {H' : Hp} {S' : Nat → As} {e1 : En} {Us : List Tp} {v : V} {ds : List Dt}, Sx K E F' H' S' L σ e1 (Us ++ Ts) → SlOk e1 (slotI (.op o)) → SeqAt K F' H' (Pok S' (slotI (.op o))) v ds →
      (∀ J F' H' S' Us, Sx K E F' H' S' L σ e1 (Us ++ Ts) → SlOk e1 (slotI (.op o)) → (∀ P, Pok S' (slotI (.op o)) P → JOk K J ds F' H' P) → R J H') → ∃ a, v = .ref a ∧ (((∃ xs, SqL K H' a xs) ∧ R (Itl K a) H') ∨ ((∃ xs, SqT K H' a xs) ∧ R (Itt K a) H')) := fun {F' H' S' e1 Us v ds} s' ok q w => by
    cases q with
    | @lst a vs _ ha hP hv => exact ⟨a, rfl, .inl ⟨⟨vs, .of ha⟩, w _ F' H' S' Us s' ok fun P hp => jok_list ha (hP P hp) hv (hF_of s' hp)⟩⟩
    | @tup a vs _ ha hP hv => exact ⟨a, rfl, .inr ⟨⟨vs, .of ha⟩, w _ F' H' S' Us s' ok fun P hp => jok_tup ha (hP P hp) hv (hF_of s' hp)⟩⟩
    | @scr a is ha => exact ⟨a, rfl, .inl ⟨⟨_, ha.sq⟩, w _ F' H' S' Us s' ok fun P hp => jok_scr ha (hF_of s' hp)⟩⟩
  split at w
  · rename_i t e1 hx
    rw [hx]
    split at w
    · rename_i d hd
      split at w
      · rename_i ds hs
        intro v F' H' S' Us ok s'
        cases o with
        | v i =>
          obtain ⟨rfl, rfl, o, hg⟩ := evp_v hx
          obtain ⟨hv, rfl⟩ := ok
          simp only [Tm.vw, hg] at hd
          refine fin (Us := []) s' (fun j hj => ?_) (seq_slot s' (by simp [slotI]) hg hv hd hs) w
          have : j = i := by simpa [slotI] using hj
          subst this
          exact ⟨o, d, hg, hd⟩
        | e x =>
          obtain ⟨o, rfl⟩ := evp_e hx
          obtain ⟨T, rfl⟩ := ok
          exact fin (Us := [⟨v, o, T⟩]) s' (fun j hj => (nomatch hj)) (seq_temp s' hd hs) w
      · exact w.elim
    · exact w.elim
  · rename_i d e1 hx
    rw [hx]
    exact w
  · exact w.elim
def tOp1 (tp : TE) : TA := fun σ H Q => tp σ H fun x H1 => Q [x] H1
theorem rdi_enum {o : Op} {R : It → Hp → Prop} (h : RdI K xv W C (.enum o) σ H R) : iEn K (tOp1 (RdP K xv W (evp C o))) σ H R := by
  obtain ⟨E, F, S, L, env, Ts, s, w⟩ := h
  refine ⟨E, F, S, L, env, Ts, s, ?_⟩
  simp only [evi] at w
  have fin : ∀ {F' : As} {H' : Hp} {S' : Nat → As} {e1 : En} {Us : List Tp} {v : V} {ds : List Dt}, Sx K E F' H' S' L σ e1 (Us ++ Ts) → SlOk e1 (slotI (.enum o)) → SeqAt K F' H' (Pok S' (slotI (.enum o))) v ds →
      (∀ J F' H' S' Us, Sx K E F' H' S' L σ e1 (Us ++ Ts) → SlOk e1 (slotI (.enum o)) → (∀ P, Pok S' (slotI (.enum o)) P → JOk K J (enumD 0 ds) F' H' P) → R J H') → ∃ a, [v] = [.ref a] ∧ ((∃ xs, SqL K H' a xs ∧ R (Ite K a) H') ∨ (∃ xs, SqT K H' a xs ∧ R (ItT K a) H')) := fun {F' H' S' e1 Us v ds} s' ok q w => by
    cases q with
    | @lst a vs _ ha hP hv => exact ⟨a, rfl, .inl ⟨vs, .of ha, w _ F' H' S' Us s' ok fun P hp => jok_enL (fun H2 p => .of ((p a (by rw [ha]; simp) (hP P hp)).trans ha)) hv (hF_of s' hp)⟩⟩
    | @tup a vs _ ha hP hv => exact ⟨a, rfl, .inr ⟨vs, .of ha, w _ F' H' S' Us s' ok fun P hp => jok_enT ha (hP P hp) hv (hF_of s' hp)⟩⟩
    | @scr a is ha => 
      refine ⟨a, rfl, .inl ⟨_, ha.sq, w _ F' H' S' Us s' ok fun P hp => jok_enL (fun H2 p => ?_) (dvs_ints is) (hF_of s' hp)⟩⟩
      rcases ha with ⟨f, r⟩ | k
      · exact .inl (rd_same r (p a ((hF_of s' hp) a f).1 ((hF_of s' hp) a f).2))
      · exact .inr k
  split at w
  · rename_i t e1 hx
    rw [hx]
    split at w
    · rename_i d hd
      split at w
      · rename_i ds hs
        intro v F' H' S' Us ok s'
        cases o with
        | v i =>
          obtain ⟨rfl, rfl, o, hg⟩ := evp_v hx
          obtain ⟨hv, rfl⟩ := ok
          simp only [Tm.vw, hg] at hd
          refine fin (Us := []) s' (fun j hj => ?_) (seq_slot s' (by simp [slotI]) hg hv hd hs) w
          have : j = i := by simpa [slotI] using hj
          subst this
          exact ⟨o, d, hg, hd⟩
        | e x =>
          obtain ⟨o, rfl⟩ := evp_e hx
          obtain ⟨T, rfl⟩ := ok
          exact fin (Us := [⟨v, o, T⟩]) s' (fun j hj => (nomatch hj)) (seq_temp s' hd hs) w
      · exact w.elim
    · exact w.elim
  · rename_i d e1 hx
    rw [hx]
    exact w
  · exact w.elim
theorem rdi_rng1 {x : Ex} {R : It → Hp → Prop} (h : RdI K xv W C (.rng1 x) σ H R) : iRng1 (tCons (RdE K xv W (ev C x)) tNil) σ H R := by
  obtain ⟨E, F, S, L, env, Ts, s, w⟩ := h
  refine ⟨E, F, S, L, env, Ts, s, ?_⟩
  simp only [evi] at w
  split at w
  · rename_i n e1 hx
    rw [hx]
    split at w
    · rename_i hn
      intro v F' H' S' T s'
      have q := (s'.tm _ List.mem_cons_self).2
      cases q
      exact ⟨n, rfl, hn.1, hn.2, w _ F' H' S' [] s'.pop (fun _ hj => (nomatch hj)) fun P _ => jok_rng⟩
    · exact w.elim
  · exact w.elim
  · rename_i d e1 hx
    rw [hx]
    exact w
  · exact w.elim
theorem rdi_rng2 {x y : Ex} {R : It → Hp → Prop} (h : RdI K xv W C (.rng2 x y) σ H R) : iRng2 (tCons (RdE K xv W (ev C x)) (tCons (RdE K xv W (ev C y)) tNil)) σ H R := by
  obtain ⟨E, F, S, L, env, Ts, s, w⟩ := h
  refine ⟨E, F, S, L, env, Ts, s, ?_⟩
  simp only [evi] at w
  split at w
  · rename_i m e1 hx
    rw [hx]
    intro v F' H' S' T s'
    have q := (s'.tm _ List.mem_cons_self).2
    cases q
    refine ⟨E, F', S', L, e1, Ts, s'.pop, ?_⟩
    split at w
    · rename_i n e2 hy
      rw [hy]
      split at w
      · rename_i hn
        intro v F' H' S' T s'
        have q := (s'.tm _ List.mem_cons_self).2
        cases q
        exact ⟨m, n, rfl, hn, w _ F' H' S' [] s'.pop (fun _ hj => (nomatch hj)) fun P _ => jok_rng⟩
      · exact w.elim
    · exact w.elim
    · rename_i d e2 hy
      rw [hy]
      exact w
    · exact w.elim
  · exact w.elim
  · rename_i d e1 hx
    rw [hx]
    exact w
  · exact w.elim
end
end Pd
set_option Elab.async false
set_option linter.all false
set_option maxRecDepth 100000
set_option maxHeartbeats 4000000
/-! Part 11: list comprehensions. -/
namespace Pd
open PySem PySem.Spec PyProof.Rows L2
section
variable {K : PySem.W.Frag} {E : En0} {F F' : As} {H H' : Hp} {S S' : Nat → As} {L L' : Nat → As} {σ : L2.St} {env : En} {Ts : List Tp} {t : Tp} {i : Nat} {v : V} {o : Ow} {T : As}
/-- a target -/
def gNames : List Nat → TGs
  | [] => gNil
  | i :: is => gCons (gName i) (gNames is)
def gOf (K : PySem.W.Frag) : Tg → TG
  | .nm i => gName i
  | .tp is => gTup K is.length (gNames is)
def tgSl : Tg → List Nat
  | .nm i => [i]
  | .tp is => is
theorem wipe_set {σ : L2.St} {j : Nat} {x : Option V} : ∀ {vs : List Nat}, j ∈ vs → wipe (σ.set j x) vs = wipe σ vs := fun {vs} h => by
  have len : ∀ (σ : L2.St) (vs : List Nat), (wipe σ vs).length = σ.length := wipe_length
  apply List.ext_getElem?
  intro k
  have A : ∀ (vs : List Nat) (σ : L2.St), (wipe σ vs)[k]? = if k ∈ vs then (if k < σ.length then some none else none) else σ[k]? := by
    intro vs σ
    induction vs with
    | nil => simp [wipe]
    | cons v vs ih =>
      unfold wipe
      by_cases e : k = v
      · subst e
        rw [if_pos List.mem_cons_self]
        by_cases hk : k < (wipe σ vs).length
        · rw [List.getElem?_set_self hk, if_pos (by rw [← len σ vs]; exact hk)]
        · rw [List.getElem?_eq_none (by rw [List.length_set]; omega), if_neg (by rw [← len σ vs]; exact hk)]
      · rw [List.getElem?_set_ne (Ne.symm e), ih]
        simp [e]
  rw [A, A]
  by_cases e : k ∈ vs
  · rw [if_pos e, if_pos e, List.length_set]
  · rw [if_neg e, if_neg e, List.getElem?_set_ne (fun z => e (by rw [← z]; exact h))]
theorem go_ok {own : List Nat} {σ0 : L2.St} {ds : List Dt} : ∀ {is : List Nat} {vs : List V} {σ : L2.St} {env : En} {S : Nat → As}, Sx K E F H S L σ env Ts → DVs K F H vs ds → is.length = ds.length → (∀ p ∈ E.fix, p.1 ∉ is) → (∀ i ∈ is, i ∈ own) → wipe σ own = σ0 →
    gNames is vs σ H fun σ' H' => H' = H ∧ wipe σ' own = σ0 ∧ σ'.length = σ.length ∧ ∃ S', Sx K E F H S' L σ' (tgSet.go is ds env) Ts := by
  induction ds with
  | nil =>
    intro is vs σ env S s hv hl hx ho hw
    cases is with
    | nil =>
      cases hv
      exact ⟨rfl, rfl, hw, rfl, S, s⟩
    | cons i is => simp at hl
  | cons d ds ih =>
    intro is vs σ env S s hv hl hx ho hw
    cases is with
    | nil => simp at hl
    | cons i is =>
      cases hv with
      | @cons v vs _ _ h1 h2 =>
        obtain ⟨S1, s1⟩ := (s.pushI h1).store' (i := i) fun p hp e => hx p hp (by rw [e]; exact List.mem_cons_self)
        refine ⟨v, vs, rfl, ?_⟩
        have q := ih (is := is) s1 h2 (by simpa using hl) (fun p hp z => hx p hp (List.mem_cons_of_mem _ z)) (fun j hj => ho j (List.mem_cons_of_mem _ hj)) (by rw [wipe_set (ho i List.mem_cons_self)]; exact hw)
        have len : (σ.set i (some v)).length = σ.length := List.length_set
        rw [len] at q
        exact q
/-- the target is set -/
theorem tg_ok {own : List Nat} {tg : Tg} {d : Dt} {e' : En} (s : Sx K E F H S L σ env Ts) (hv : DV K F H v d) (ht : tgSet tg d env = some e') (hx : ∀ p ∈ E.fix, p.1 ∉ tgSl tg) (ho : ∀ i ∈ tgSl tg, i ∈ own) :
    gOf K tg v σ H fun σ' H' => H' = H ∧ wipe σ' own = wipe σ own ∧ σ'.length = σ.length ∧ ∃ S', Sx K E F H S' L σ' e' Ts := by
  cases tg with
  | nm i =>
    simp only [tgSet] at ht
    cases ht
    obtain ⟨S1, s1⟩ := (s.pushI hv).store' (i := i) fun p hp e => hx p hp (by rw [e]; exact List.mem_cons_self)
    exact ⟨rfl, wipe_set (ho i List.mem_cons_self), List.length_set, S1, s1⟩
  | tp is =>
    cases d with
    | tup ds =>
      simp only [tgSet] at ht
      split at ht
      · rename_i hl
        cases ht
        cases hv with
        | @tup a vs _ st hvs => exact ⟨a, vs, rfl, st.sq, by rw [hvs.len, hl], go_ok s hvs hl hx ho rfl⟩
      · cases ht
    | _ => simp [tgSet] at ht
/-- the list at hand has grown -/
theorem Sx.grow {D : Addr} {acc : List Dt} {Tv : As} {o1 : Ow1} {TD : As} (h : Sx K E F H S L σ env (⟨v, .p o1, Tv⟩ :: ⟨.ref D, .p (.lst acc), TD⟩ :: Ts)) :
    ∃ vs F', H D = some (.lst vs) ∧ vs.length = acc.length ∧ Sx K E F' (upd H D (.lst (vs ++ [v]))) S L σ env (⟨.ref D, .p (.lst (acc ++ [o1.dt])), TD⟩ :: Ts) := by
  obtain ⟨s1, dv⟩ := h.frzT
  obtain ⟨a, vs, ea, sa, ha, hvs⟩ := s1.tm _ List.mem_cons_self
  cases ea
  have sa : ∀ x, TD x ↔ x = D := sa
  have nF : ∀ x, (F x ∨ Tv x) → x ≠ D := fun x hx e => (s1.oT _ List.mem_cons_self x ((sa x).mpr e)).nf hx
  refine ⟨vs, _, ha, hvs.len, Sx.fuse (Us := [⟨.ref D, .p (.lst acc), TD⟩]) s1 (fun x hn => upd_ne fun e => hn ⟨_, List.mem_cons_self, (sa x).mpr e⟩) (fun x ⟨u, hu, hx⟩ => ?_) (fun x hx => ⟨_, List.mem_cons_self, hx⟩) ?_⟩
  · obtain rfl : u = _ := by simpa using hu
    rw [(sa x).mp hx, upd_same]; simp
  · exact ⟨D, vs ++ [v], rfl, sa, upd_same, (hvs.app (.one dv)).mono (fun _ z => z) fun x hx => upd_ne (nF x hx)⟩
end
def noWX : WX := fun _ _ _ _ => False
section
variable (K : PySem.W.Frag) (xv : Xv) (C : Cl)
def ttOf : Tes → TT
  | .nil => tYes
  | .one t => RdB K xv noWX (evt C t)
end
section
variable {K : PySem.W.Frag} {xv : Xv} {W : WX} {C : Cl} {σ : L2.St} {H : Hp}
theorem rd_tests {ifs : Tes} {Q : Bool → Hp → Prop} (h : RdB K xv noWX (evf C ifs) σ H Q) : ttOf K xv C ifs σ H Q := by
  cases ifs with
  | nil =>
    obtain ⟨E, F, S, L, env, Ts, s, w⟩ := h
    simp only [evf] at w
    exact w F H S s
  | one t =>
    obtain ⟨E, F, S, L, env, Ts, s, w⟩ := h
    simp only [evf] at w
    exact ⟨E, F, S, L, env, Ts, s, w⟩
theorem rd_lc {el : Ex} {tg : Tg} {it : Ir} {ifs : Tes} {own : List Nat} {Q : VK} (ho : ∀ i ∈ tgSl tg, i ∈ own) (h : RdE K xv W (ev C (.lc el tg it ifs own)) σ H Q) :
    tLc (RdI K xv W C it) (gOf K tg) (ttOf K xv C ifs) (RdE K xv noWX (ev C el)) own σ H Q := by
  obtain ⟨E, F, S, L, env, Ts, s, w⟩ := h
  refine ⟨E, F, S, L, env, Ts, s, ?_⟩
  simp only [ev] at w
  generalize hst : (fun d e => match tgSet tg d (wipeE e own) with
          | some e3 => match evf C ifs e3 with
            | .ok true e4 => match ev C el e4 with
              | .ok o e5 => match o.dt? with | some y => Rs.ok (some y) e5 | none => .no
              | .exc x e5 => .exc x e5
              | .no => .no
            | .ok false e4 => .ok none e4
            | .exc x e4 => .exc x e4
            | .no => .no
          | none => .no) = st at w
  split at w
  · rename_i ds e1 hx
    rw [hx]
    intro J F' H' S' Us s' sl hJ D hD
    split at w
    · rename_i e2 hlk
      obtain ⟨S1, L1, lk⟩ := lks_ir s' sl hlk
      -- the block's beginning
      have hJ := hJ (fun x => ∃ i, wipeS S1 own i x) fun x ⟨j, z⟩ => ⟨j, fun hj => lk.emp j hj x z.2, lk.sub j x z.2⟩
      have b0 := lk.s1.wiped (vs := own)
      let EB := snapE H' F' (wipeS S1 own) []
      let H0 := upd H' D (.lst [])
      have ne : ∀ x, H' x ≠ none → x ≠ D := fun x hx e => by subst e; exact hx hD
      have b1 : Sx K EB F' H0 (wipeS S1 own) L1 (wipe σ own) (wipeE e2 own) [⟨.ref D, .p (.lst []), fun x => x = D⟩] :=
        b0.fresh (fun _ z => z) (fun _ z => .inl z) (fun x hx => upd_ne (ne x hx)) (fun x hx => by
          subst hx
          exact ⟨hD, by show upd H' x (.lst []) x ≠ none; rw [upd_same]; simp, fun z => (s'.fr _ z).1 hD⟩) ⟨D, [], rfl, fun _ => Iff.rfl, upd_same, .nil⟩
      let WW : Nat → Nat → Hp → Prop := fun i m H => m = ds.length - i ∧ i ≤ ds.length ∧ ∃ F2 S2 env2 acc, Sx K EB F2 H S2 L1 (wipe σ own) (wipeE env2 own) [⟨.ref D, .p (.lst acc), fun x => x = D⟩] ∧ env2.length = σ.length ∧
        match lcGo st (ds.drop i) acc env2 with
        | .ok ys e6 => ∀ v F' H' S' T, Sx K E F' H' S' L σ (backE e1 (backE e2 e6 own) (slotI it)) (⟨v, .p (.lst ys), T⟩ :: Ts) → Q v H'
        | _ => False
      have le2 : e2.length = σ.length := lk.s1.len
      refine ⟨WW, ⟨ds.length, by simp, Nat.zero_le _, F', _, e2, [], b1, le2, ?_⟩, ?_⟩
      · rw [List.drop_zero]
        split at w
        · rename_i ys e6 hl
          try rw [hl]
          exact w
        · exact w.elim
      · rintro i m H2 ⟨rfl, hi, F2, S2, env2, acc, b2, l2, w2⟩
        have hFF : ∀ x, F' x → F2 x := b2.ff
        have hHH : ∀ x, H' x ≠ none → (¬ ∃ j, wipeS S1 own j x) → H2 x = H' x := b2.ag
        by_cases hlt : i < ds.length
        · refine .inr ?_
          obtain ⟨d, hd⟩ : ∃ d, ds[i]? = some d := ⟨ds[i], by simp [hlt]⟩
          obtain ⟨g, y⟩ := hJ.go i F2 H2 d hFF hHH (fun x hx => (b2.fr x hx).1) hd
          refine ⟨g, fun H' => WW (i + 1) (ds.length - (i + 1)) H', fun H' z => ⟨_, by omega, z⟩, fun x H3 hy => ?_⟩
          obtain ⟨F3, c1, c2, c3, dv⟩ := y x H3 hy
          have b3 := b2.change c1 c2 c3
          have hdr : ds.drop i = d :: ds.drop (i + 1) := by
            rw [List.drop_eq_getElem_cons hlt]
            congr 1
            have := List.getElem?_eq_getElem hlt
            rw [this] at hd
            exact Option.some.inj hd
          rw [hdr] at w2
          unfold lcGo at w2
          have hsd := congrFun (congrFun hst d) env2
          rw [← hsd] at w2
          try dsimp only at w2
          cases ht : tgSet tg d (wipeE env2 own) with
          | none => rw [ht] at w2; exact w2.elim
          | some e3 =>
            rw [ht] at w2
            dsimp only at w2
            have tk := tg_ok (own := own) b3 dv ht (fun _ hp => (nomatch hp)) ho
            have mono : ∀ {Q Q' : L2.St → Hp → Prop}, (∀ σ' H', Q σ' H' → Q' σ' H') → gOf K tg x (wipe σ own) H3 Q → gOf K tg x (wipe σ own) H3 Q' := fun {Q Q'} hq h => by
              have names : ∀ (is : List Nat) (vs : List V) (σ : L2.St) (H : Hp), gNames is vs σ H Q → gNames is vs σ H Q' := by
                intro is
                induction is with
                | nil => intro vs σ H h; exact ⟨h.1, hq _ _ h.2⟩
                | cons i is ih =>
                  intro vs σ H h
                  obtain ⟨v, r, e, h⟩ := h
                  exact ⟨v, r, e, ih _ _ _ h⟩
              cases tg with
              | nm i => exact hq _ _ h
              | tp is =>
                obtain ⟨a, xs, e, q, l, h⟩ := h
                exact ⟨a, xs, e, q, l, names _ _ _ _ h⟩
            refine mono (fun σ' H4 hz => ?_) tk
            obtain ⟨rfl, hw, hlen, S4, s4⟩ := hz
            have ww : wipe (wipe σ own) own = wipe σ own := by
              apply List.ext_getElem?
              intro k
              by_cases hk : k ∈ own
              · cases q : (wipe (wipe σ own) own)[k]? with
                | none =>
                  have l1 := List.getElem?_eq_none_iff.mp q
                  rw [wipe_length, wipe_length] at l1
                  rw [List.getElem?_eq_none (by rw [wipe_length]; exact l1)]
                | some z =>
                  have l1 := (List.getElem?_eq_some_iff.mp q).1
                  rw [wipe_length, wipe_length] at l1
                  cases z with
                  | some z => exact absurd hk (wipe_some q).2
                  | none =>
                    cases q2 : (wipe σ own)[k]? with
                    | none => rw [List.getElem?_eq_none_iff, wipe_length] at q2; omega
                    | some z2 =>
                      cases z2 with
                      | none => rfl
                      | some z2 => exact absurd hk (wipe_some q2).2
              · rw [wipe_out hk]
            rw [ww] at hw
            refine ⟨hw, rd_tests ⟨EB, F3, S4, L1, e3, _, s4, ?_⟩⟩
            cases hf : evf C ifs e3 with
            | no => rw [hf] at w2; exact w2.elim
            | exc xx ee => rw [hf] at w2; exact w2.elim
            | ok b e4 =>
              rw [hf] at w2
              intro F5 H5 S5 s5
              cases b with
              | false =>
                rw [if_neg Bool.false_ne_true]
                dsimp only at w2
                have fg := s5.forget (vs := own) (fun _ hp => (nomatch hp))
                rw [hw] at fg
                exact ⟨rfl, by omega, F5, _, e4, acc, fg, by rw [s5.len, hlen, wipe_length], w2⟩
              | true =>
                rw [if_pos rfl]
                dsimp only at w2
                refine ⟨EB, F5, S5, L1, e4, _, s5, ?_⟩
                cases he : ev C el e4 with
                | no => rw [he] at w2; exact w2.elim
                | exc xx ee => rw [he] at w2; exact w2.elim
                | ok o e5 =>
                  rw [he] at w2
                  dsimp only at w2
                  intro v F6 H6 S6 T s6
                  cases hdt : o.dt? with
                  | none => rw [hdt] at w2; exact w2.elim
                  | some yv =>
                    rw [hdt] at w2
                    dsimp only at w2
                    obtain ⟨o1, rfl, rfl⟩ := dt?_p hdt
                    obtain ⟨vs, F7, hDv, hlv, s7⟩ := s6.grow
                    by_cases hz : acc.length < sizeLine
                    · rw [if_pos hz] at w2
                      have fg := s7.forget (vs := own) (fun _ hp => (nomatch hp))
                      rw [hw] at fg
                      exact ⟨vs, hDv, by rw [hlv]; exact hz, rfl, by omega, F7, _, e5, _, fg, by rw [s7.len, hlen, wipe_length], w2⟩
                    · rw [if_neg hz] at w2
                      exact w2.elim
        · have ei : i = ds.length := by omega
          subst ei
          refine .inl ⟨hJ.stop F2 H2 hFF hHH, ?_⟩
          rw [List.drop_length] at w2
          simp only [lcGo] at w2
          have u := lk.s1.unwiped (vs := own) b2
          have le : env2.length = e2.length := by rw [l2, le2]
          rw [backE_wipe e2 env2 own le] at u
          have hag : ∀ x, H' x ≠ none → (∀ j, ¬ S1 j x) → H2 x = H' x := fun x hx hn => hHH x hx fun ⟨j, z⟩ => hn j z.2
          obtain ⟨S3, s3⟩ := lk.back u (fun _ _ => rfl) hag hFF
          exact w2 _ F2 H2 S3 (fun x => x = D) (s3.sub ((List.sublist_append_right Us Ts).cons_cons _))
    · exact w.elim
  · rename_i d e1 hx
    rw [hx]
    exact w
  · exact w.elim
end
end Pd
set_option Elab.async false
set_option linter.all false
set_option maxRecDepth 100000
set_option maxHeartbeats 4000000
/-! Part 12: rules for statements, by values. -/
namespace Pd
open PySem PySem.Spec PyProof.Rows L2
section
variable {X : Cx} {pos : Pos}
/-- o[i] = v of a list or a dict; an empty dict takes keys of either kind -/
def rSetO : TSet := fun o i v H Q => ∃ a, o = .ref a ∧
  ((∃ xs k j, i = .int k ∧ H a = some (.lst xs) ∧ ixN xs.length k = some j ∧ Q (upd H a (.lst (xs.set j v)))) ∨
   (∃ kvs k, (H a = some (.dK kvs) ∨ (H a = some (.dT []) ∧ kvs = [])) ∧ i = kV k ∧ kvs.length < sizeLine ∧ Q (upd H a (.dK (putK kvs k v)))) ∨
   (∃ kvs k b, (H a = some (.dT kvs) ∨ (H a = some (.dK []) ∧ kvs = [])) ∧ i = .ref b ∧ b ≠ a ∧ H b = some (.tup (k.map kV)) ∧ kvs.length < sizeLine ∧ Q (upd H a (.dT (putK kvs k v)))))
theorem set_any (hu : X.A.units + 1 < cLine) : PSet X rSetO := by
  intro pins s σ H o i v ov iv u Q I ro ri rv h
  obtain ⟨a, eo, h⟩ := h
  subst eo
  cases (show ov = Value.ref a from ro)
  rcases h with ⟨xs, k, j, ei, ha, hj, q⟩ | ⟨kvs, k, ha, ei, hl, q⟩ | ⟨kvs, k, b, ha, ei, hne, hb, hl, q⟩
  · exact set_list pins s σ H (.ref a) i v _ iv u Q I rfl ri rv ⟨a, xs, k, j, rfl, ei, ha, hj, q⟩
  · subst ei
    rcases ha with ha | ⟨ha, rfl⟩
    · exact d_setItem hu I (DPut.k ha hl) ri rv fun s' I' => ⟨_, I', q⟩
    · refine d_setItem hu (emp_dK I ha) (DPut.k upd_same hl) ri rv fun s' I' => ⟨_, I', ?_⟩
      rw [upd_upd]
      exact q
  · subst ei
    rcases ha with ha | ⟨ha, rfl⟩
    · exact d_setItem hu I (DPut.t ha hb hl) ri rv fun s' I' => ⟨_, I', q⟩
    · refine d_setItem hu (emp_dT I ha) (DPut.t upd_same (by rw [upd_ne hne]; exact hb) hl) ri rv fun s' I' => ⟨_, I', ?_⟩
      rw [upd_upd]
      exact q

/-! ### a, b, .. = x, y, .. -/
inductive NmL (X : Cx) : List PySem.Expr → List Nat → Prop
  | nil : NmL X [] []
  | cons {x : Str} {p : Pos} {ts : List PySem.Expr} {i : Nat} {is : List Nat} : X.N[i]? = some x → Loc X.env.scope x → (X.fn x = true ∨ X.env.scope.names.lookup x = some .local) → NmL X ts is → NmL X (.Name x p :: ts) (i :: is)
def setN : L2.St → List Nat → List V → L2.St
  | σ, i :: is, v :: vs => setN (σ.set i (some v)) is vs
  | σ, _, _ => σ
theorem NmL.len {ts : List PySem.Expr} {is : List Nat} (h : NmL X ts is) : (assignEach ts X.env).length = is.length ∧ (assignEach ts X.env).findIdx? (·.1) = none := by
  induction h with
  | nil => exact ⟨rfl, rfl⟩
  | cons _ _ _ _ ih =>
    unfold assignEach
    refine ⟨by simp [ih.1], ?_⟩
    rw [List.findIdx?_cons]
    simp [ih.2]
theorem store_all {ts : List PySem.Expr} {is : List Nat} (hN : X.N.Nodup) (h : NmL X ts is) : ∀ {pins : List (Addr × Obj)} {s : Shared} {σ : L2.St} {H : Hp} {vs : List V} {us : List Value} {Q : Unit → Shared → Prop}, L2.Inv X pins σ H s → Vals vs us → vs.length = is.length →
    (∀ s', L2.Inv X pins (setN σ is vs) H s' → Q () s') → wpAny (model X.prog X.w) X.A (assignInOrder ((assignEach ts X.env).map (·.2)) us) Q X.xe s := by
  induction h with
  | nil =>
    intro pins s σ H vs us Q I r hl q
    cases vs with
    | nil =>
      cases r
      exact assignInOrder_nil (q s I)
    | cons v vs => simp at hl
  | @cons x p ts i is hi hx hf _ ih =>
    intro pins s σ H vs us Q I r hl q
    cases vs with
    | nil => simp at hl
    | cons v vs =>
      cases r with
      | cons r rr =>
        unfold assignEach
        rw [List.map_cons]
        exact assignInOrder_cons (wpAny_assign_Name (store_ok I hN hi hx r (fun s2 I2 => ih I2 rr (by simpa using hl) q) hf))
def tParN (is : List Nat) (ta : TA) : TS := fun D σ H => ta σ H fun vs H1 => vs.length = is.length ∧ D.nx (setN σ is vs) H1
def foldOk (es : List PySem.Expr) : Bool := es.all (foldedForSure 8) || !(es.all (constantsAlone 8))
inductive BdL (X : Cx) : List Str → List Nat → Prop
  | nil : BdL X [] []
  | cons {x : Str} {ns : List Str} {i : Nat} {is : List Nat} : X.N[i]? = some x → X.env.scope.names.lookup x = some .local → BdL X ns is → BdL X (x :: ns) (i :: is)
theorem BdL.len {ns : List Str} {is : List Nat} (h : BdL X ns is) : ns.length = is.length := by
  induction h with
  | nil => rfl
  | cons _ _ _ ih => simp [ih]
theorem NmL.names {ts : List PySem.Expr} {is : List Nat} (h : NmL X ts is) (line : Nat) : ∀ ns : List Str, ns = ts.filterMap (fun | .Name id pos => if X.env.kindOf id == some .local && pos.line == line then some id else none | _ => none) → ns.length = ts.length → BdL X ns is := by
  induction h with
  | nil =>
    intro ns e hl
    subst e
    exact .nil
  | @cons x p ts i is hi hx hf _ ih =>
    intro ns e hl
    have le : ∀ l : List PySem.Expr, (l.filterMap (fun | .Name id pos => if X.env.kindOf id == some .local && pos.line == line then some id else none | _ => none)).length ≤ l.length := fun l => List.length_filterMap_le _ _
    rw [List.filterMap_cons] at e
    by_cases c : (X.env.kindOf x == some .local && p.line == line) = true
    · simp only [c, if_true] at e
      subst e
      refine .cons hi ?_ (ih _ rfl (by simpa using hl))
      have := (Bool.and_eq_true _ _ ▸ c).1
      have : X.env.kindOf x = some .local := by simpa using this
      exact this
    · simp only [c] at e
      have e' : ns = ts.filterMap (fun | .Name id pos => if X.env.kindOf id == some .local && pos.line == line then some id else none | _ => none) := by simpa using e
      have := le ts
      rw [← e'] at this
      simp at hl
      omega
theorem swap_cases {ts es : List PySem.Expr} {kt : Nat} {pt pt2 : Pos} {k2 : Nat} {is : List Nat} (h : NmL X ts is) (hf : foldOk es = true) (hb : X.env.blockKind = .function) :
    swappedStores [.Tuple ts kt pt] (.Tuple es k2 pt2) X.env = pure none ∨ ∃ ns, swappedStores [.Tuple ts kt pt] (.Tuple es k2 pt2) X.env = pure (some ns) ∧ (ns.length = 2 ∨ ns.length = 3) ∧ BdL X ns is := by
  unfold swappedStores
  dsimp only
  split
  · exact .inl rfl
  · rename_i c1
    split
    · exact .inl rfl
    · split
      · exact .inl rfl
      · rename_i c3
        split
        · exact .inl rfl
        · split
          · rename_i c4 c5
            exfalso
            unfold foldOk at hf
            simp [c4, c5] at hf
          · rename_i c4 c5
            simp only [Bool.or_eq_true, not_or, bne_iff_ne, ne_eq, Decidable.not_not] at c3
            refine .inr ⟨_, rfl, ?_, h.names _ _ rfl c3.1⟩
            have e := c3.1

            have c1' : (ts.length == 2 || ts.length == 3) = true := by
              cases z : (ts.length == 2 || ts.length == 3) with
              | true => rfl
              | false => exact absurd (by rw [z]; rfl) c1
            rw [e]
            simpa using c1'
theorem set_swap2 {σ : L2.St} {i j : Nat} {v w : V} (h : i ≠ j) : setN σ [i, j] [v, w] = setN σ [j, i] [w, v] := by
  show (σ.set i _).set j _ = (σ.set j _).set i _
  rw [List.set_comm _ _ h]
/-- a, b, .. = x, y, .. : plain names -/
theorem ps_parN {ts es : List PySem.Expr} {kt k2 : Nat} {pt pt2 : Pos} {is : List Nat} {ta : TA} (hc : X.calm = true) (hN : X.N.Nodup) (ht : NmL X ts is) (hd : is.Nodup) (ha : PA X es ta) (hf : foldOk es = true) (hb : X.env.blockKind = .function) (hz : is.length ≤ 1000) :
    PS X (.Assign [.Tuple ts kt pt] (.Tuple es k2 pt2) pos) (tParN is ta) := by
  refine ⟨fun pins s σ H D I h => ?_⟩
  rw [exec_Assign_arm]
  refine wpAny_bind (wpAny_standAt ?_)
  have hs : swapsWithSole [.Tuple ts kt pt] (.Tuple es k2 pt2) pos.line X.env = pure false := rfl
  rw [hs]
  refine wpAny_bind (wpAny_pure ?_)
  rw [if_neg (by decide)]
  refine wpAny_bind (Tuple_ (thn (ha.run _ pins s σ H _ I h) fun us s1 ⟨vs, H1, I1, r1, q1⟩ => ?_))
  obtain ⟨hl, q1⟩ := q1
  have hlu : us.length = is.length := by rw [← r1.length]; exact hl
  refine wpAny_newObj_type ?_ (by show us.toArray.size ≤ sizeLine; rw [List.size_toArray, hlu]; exact Nat.le_trans hz (by decide))
  have I2 : L2.Inv X pins σ H1 { s1 with heap := s1.heap.push { cls := .type "tuple", data := .seq us.toArray } } := I1.kept (t' := s1.toks) fun b o e => Heap.get?_push_of_some _ e
  rcases swap_cases (kt := kt) (pt := pt) (pt2 := pt2) (k2 := k2) ht hf hb with hw | ⟨ns, hw, h23, bl⟩
  · rw [hw]
    refine wpAny_bind (wpAny_pure ?_)
    show wpAny (model X.prog X.w) X.A (do assign (.Tuple ts kt pt) X.env (.ref s1.heap.objs.size); pure Flow.next) _ _ _
    refine wpAny_bind (assign_Tuple_tuple (items := us.toArray) (I.ok.hd hc) (IsTup.new s1.heap _) (by rw [ht.len.1, List.size_toArray, hlu]) ht.len.2 fun h' hx' => ?_)
    have I3 := I2.kept (h' := h') (t' := s1.toks) fun b o e => hx' b o (Nat.ne_of_lt (Heap.lt_size e)) e
    exact store_all hN ht I3 (by simpa using r1) hl fun s3 I4 => wpAny_pure ⟨_, H1, I4, q1⟩
  · rw [hw]
    refine wpAny_bind (wpAny_pure ?_)
    have hnl : ns.length = is.length := by
      exact bl.len
    show wpAny (model X.prog X.w) X.A (do rule "assign.swapped-stores"; let items ← unpackItems (.ref s1.heap.objs.size) ns.length none; assignInOrder (ns.reverse.map fun n => bindName X.env n) items.reverse; pure Flow.next) _ _ _
    have hus : us.toArray.size = ns.length := by rw [List.size_toArray, hlu, hnl]
    rw [← hus]
    refine wpAny_bind (wpAny_rule (wpAny_bind (unpackItems_tuple (items := us.toArray) (I.ok.hd hc) (IsTup.new s1.heap _) fun h' hx' => ?_)))
    have I3 := I2.kept (h' := h') (t' := s1.toks) fun b o e => hx' b o (Nat.ne_of_lt (Heap.lt_size e)) e
    have fin : ∀ {σ' : L2.St} {s3 : Shared}, L2.Inv X pins σ' H1 s3 → σ' = setN σ is vs → SP X pins D .next s3 := fun I4 e => by subst e; exact ⟨_, H1, I4, q1⟩
    cases bl with
    | nil => simp at h23
    | @cons x ns i is hi hx bl =>
    cases bl with
    | nil => simp at h23
    | @cons y ns j is hj hy bl =>
    cases bl with
    | nil =>
      match vs, hl with
      | [v, w], _ =>
        obtain ⟨u1, u2, rfl, rv, rw'⟩ : ∃ u1 u2, us = [u1, u2] ∧ RelV v u1 ∧ RelV w u2 := by
          cases r1 with
          | cons p q =>
            cases q with
            | cons p' q' =>
              cases q'
              exact ⟨_, _, rfl, p, p'⟩
        show wpAny _ _ (assignInOrder [fun v => bindName X.env y v, fun v => bindName X.env x v] [u2, u1] >>= fun _ => pure Flow.next) _ _ _
        refine wpAny_bind (assignInOrder_cons (wpAny_bindName (store_ok I3 hN hj (.inl hy) rw' (fun s2 I4 => ?_) (.inr hy))))
        refine assignInOrder_cons (wpAny_bindName (store_ok I4 hN hi (.inl hx) rv (fun s3 I5 => assignInOrder_nil (wpAny_pure (fin I5 ?_))) (.inr hx)))
        show (σ.set j _).set i _ = (σ.set i _).set j _
        rw [List.set_comm]
        simp at hd
        exact fun e => hd e.symm
    | @cons z ns k is hk hzl bl =>
    cases bl with
    | nil =>
      match vs, hl with
      | [v, w, o], _ =>
        obtain ⟨u1, u2, u3, rfl, rv, rw', ro⟩ : ∃ u1 u2 u3, us = [u1, u2, u3] ∧ RelV v u1 ∧ RelV w u2 ∧ RelV o u3 := by
          cases r1 with
          | cons p q =>
            cases q with
            | cons p' q' =>
              cases q' with
              | cons p'' q'' =>
                cases q''
                exact ⟨_, _, _, rfl, p, p', p''⟩
        show wpAny _ _ (assignInOrder [fun v => bindName X.env z v, fun v => bindName X.env y v, fun v => bindName X.env x v] [u3, u2, u1] >>= fun _ => pure Flow.next) _ _ _
        refine wpAny_bind (assignInOrder_cons (wpAny_bindName (store_ok I3 hN hk (.inl hzl) ro (fun s2 I4 => ?_) (.inr hzl))))
        refine assignInOrder_cons (wpAny_bindName (store_ok I4 hN hj (.inl hy) rw' (fun s3 I5 => ?_) (.inr hy)))
        refine assignInOrder_cons (wpAny_bindName (store_ok I5 hN hi (.inl hx) rv (fun s4 I6 => assignInOrder_nil (wpAny_pure (fin I6 ?_))) (.inr hx)))
        simp only [List.nodup_cons, List.mem_cons, List.not_mem_nil, not_or, or_false] at hd
        show ((σ.set k _).set j _).set i _ = ((σ.set i _).set j _).set k _
        rw [List.set_comm (i := k) _ _ (fun e => hd.2.1 e.symm), List.set_comm (i := k) _ _ (fun e => hd.1.2 e.symm), List.set_comm (i := j) _ _ (fun e => hd.1.1 e.symm)]
    | cons _ _ bl => simp at h23
end
end Pd
set_option Elab.async false
set_option linter.all false
set_option maxRecDepth 100000
set_option maxHeartbeats 4000000
/-! Part 13: displays of dicts, records; stars. -/
namespace Pd
open PySem PySem.Spec PyProof.Rows L2
section
variable {K : PySem.W.Frag} {F : As} {H : Hp}
theorem DKs.any {k : Key} : ∀ {kvs : List (Key × V)} {ds : List (Dt × Dt)}, DKs K F H kvs ds → (ds.any fun p => decide (p.1.key = some (.inl k))) = (kvs.any fun kv => decide (kv.1 = k))
  | _, _, .nil => rfl
  | _, _, .cons (k := q) _ t => by
    rw [List.any_cons, List.any_cons, DKs.any t]
    congr 1
    rw [key_kD]
    simp
theorem DKs.mapk {k : Key} {v : V} {d : Dt} (hv : DV K F H v d) : ∀ {kvs : List (Key × V)} {ds : List (Dt × Dt)}, DKs K F H kvs ds → DKs K F H (kvs.map fun kv => if kv.1 = k then (kv.1, v) else kv) (ds.map fun p => if p.1.key = some (.inl k) then (p.1, d) else p)
  | _, _, .nil => .nil
  | _, _, .cons (k := q) (v := w) (d := e) h t => by
    rw [List.map_cons, List.map_cons]
    by_cases c : q = k
    · subst c
      simp only [key_kD, if_true]
      exact .cons hv (t.mapk hv)
    · have c' : ¬ (some (Sum.inl q) : Option (Sum Key (List Key))) = some (.inl k) := fun e => c (by cases e; rfl)
      simp only [key_kD, c, c', if_false]
      exact .cons h (t.mapk hv)
theorem DKs.snoc {k : Key} {v : V} {d : Dt} (hv : DV K F H v d) : ∀ {kvs : List (Key × V)} {ds : List (Dt × Dt)}, DKs K F H kvs ds → DKs K F H (kvs ++ [(k, v)]) (ds ++ [(kD k, d)])
  | _, _, .nil => .cons hv .nil
  | _, _, .cons h t => .cons h (t.snoc hv)
theorem DKs.put {k : Key} {v : V} {d : Dt} {kvs : List (Key × V)} {ds : List (Dt × Dt)} (h : DKs K F H kvs ds) (hv : DV K F H v d) : DKs K F H (putK kvs k v) (putD (.inl k) (kD k) d ds) := by
  unfold putK putD
  rw [h.any]
  split
  · exact h.mapk hv
  · exact h.snoc hv
theorem DTs.any {k : List Key} : ∀ {kvs : List (List Key × V)} {ds : List (Dt × Dt)}, DTs K F H kvs ds → (ds.any fun p => decide (p.1.key = some (.inr k))) = (kvs.any fun kv => decide (kv.1 = k))
  | _, _, .nil => rfl
  | _, _, .cons (k := q) _ t => by
    rw [List.any_cons, List.any_cons, DTs.any t]
    congr 1
    rw [key_tkD]
    simp
theorem DTs.mapk {k : List Key} {v : V} {d : Dt} (hv : DV K F H v d) : ∀ {kvs : List (List Key × V)} {ds : List (Dt × Dt)}, DTs K F H kvs ds → DTs K F H (kvs.map fun kv => if kv.1 = k then (kv.1, v) else kv) (ds.map fun p => if p.1.key = some (.inr k) then (p.1, d) else p)
  | _, _, .nil => .nil
  | _, _, .cons (k := q) (v := w) (d := e) h t => by
    rw [List.map_cons, List.map_cons]
    by_cases c : q = k
    · subst c
      simp only [key_tkD, if_true]
      exact .cons hv (t.mapk hv)
    · have c' : ¬ (some (Sum.inr q) : Option (Sum Key (List Key))) = some (.inr k) := fun e => c (by cases e; rfl)
      simp only [key_tkD, c, c', if_false]
      exact .cons h (t.mapk hv)
theorem DTs.snoc {k : List Key} {v : V} {d : Dt} (hv : DV K F H v d) : ∀ {kvs : List (List Key × V)} {ds : List (Dt × Dt)}, DTs K F H kvs ds → DTs K F H (kvs ++ [(k, v)]) (ds ++ [(tkD k, d)])
  | _, _, .nil => .cons hv .nil
  | _, _, .cons h t => .cons h (t.snoc hv)
theorem DTs.put {k : List Key} {v : V} {d : Dt} {kvs : List (List Key × V)} {ds : List (Dt × Dt)} (h : DTs K F H kvs ds) (hv : DV K F H v d) : DTs K F H (putK kvs k v) (putD (.inr k) (tkD k) d ds) := by
  unfold putK putD
  rw [h.any]
  split
  · exact h.mapk hv
  · exact h.snoc hv
theorem put_new {κ : Type} [DecidableEq κ] {kvs : List (κ × V)} {k : κ} {v : V} (h : ∀ p ∈ kvs, p.1 ≠ k) : putK kvs k v = kvs ++ [(k, v)] := by
  unfold putK
  rw [if_neg]
  intro z
  rw [List.any_eq_true] at z
  obtain ⟨p, hp, e⟩ := z
  exact h p hp (by simpa using e)
theorem merge_new : ∀ {more kvs : List (Key × V)}, ((kvs ++ more).map (·.1)).Nodup → mergeK kvs more = kvs ++ more
  | [], kvs, _ => by simp [mergeK]
  | p :: more, kvs, h => by
    have e : putK kvs p.1 p.2 = kvs ++ [p] := put_new fun q hq e => by
      rw [List.map_append, List.nodup_append] at h
      exact h.2.2 _ (List.mem_map.mpr ⟨q, hq, rfl⟩) _ (List.mem_map.mpr ⟨p, List.mem_cons_self, rfl⟩) e
    show mergeK (putK kvs p.1 p.2) more = _
    rw [e, merge_new (by simpa using h)]
    simp
theorem mk_ok : ∀ {ds : List Dt} {vs : List V} {acc acc' : List (Dt × Dt)} {kvs : List (Key × V)}, DVs K F H vs ds → DKs K F H kvs acc → mkD ds acc = some acc' → ∃ more : List (Key × V), vs = more.flatMap (fun p => [kV p.1, p.2]) ∧ 2 * more.length = ds.length ∧ DKs K F H (mergeK kvs more) acc'
  | [], _, acc, acc', kvs, h, a, e => by
    cases h
    simp only [mkD] at e
    cases e
    exact ⟨[], rfl, rfl, a⟩
  | [d], _, acc, acc', kvs, h, a, e => by simp [mkD] at e
  | k :: d :: r, _, acc, acc', kvs, h, a, e => by
    cases h with
    | @cons x xs _ _ hx h =>
    cases h with
    | @cons v vs _ _ hv h =>
    simp only [mkD] at e
    split at e
    · rename_i q hq
      have ek := key_inl hq
      subst ek
      obtain ⟨more, e1, e2, e3⟩ := mk_ok h (a.put (k := q) hv) e
      refine ⟨(q, v) :: more, ?_, by simp; omega, e3⟩
      rw [bv_kD hx.bv, e1]
      rfl
    · cases e
end
section
variable (K : PySem.W.Frag) (xv : Xv) (W : WX) (C : Cl)
def trsR : List Str → Exs → List (TE × TE)
  | k :: ks, .cons e es => (tC (.str k), RdE K xv W (ev C e)) :: trsR ks es
  | _, _ => []
def trsD : Exs → List (TE × TE)
  | .cons k (.cons e es) => (RdE K xv W (ev C k), RdE K xv W (ev C e)) :: trsD es
  | _ => []
end
section
variable {K : PySem.W.Frag} {xv : Xv} {W : WX} {C : Cl} {σ : L2.St} {H : Hp}
theorem RdE.mono {f : En → Rs Ow} {Q Q' : VK} (h : RdE K xv W f σ H Q) (q : ∀ v H', Q v H' → Q' v H') : RdE K xv W f σ H Q' := by
  obtain ⟨E, F, S, L, env, Ts, s, w⟩ := h
  exact ⟨E, F, S, L, env, Ts, s, w.imp (fun o e _ z v F' H' S' T s' => q _ _ (z v F' H' S' T s')) fun _ _ z => z⟩
theorem RdP.mono {f : En → Rs Tm} {Q Q' : VK} (h : RdP K xv W f σ H Q) (q : ∀ v H', Q v H' → Q' v H') : RdP K xv W f σ H Q' := by
  obtain ⟨E, F, S, L, env, Ts, s, w⟩ := h
  exact ⟨E, F, S, L, env, Ts, s, w.imp (fun o e _ z v F' H' S' Us ok s' => q _ _ (z v F' H' S' Us ok s')) fun _ _ z => z⟩
def pairs2 : List V → List (V × V)
  | x :: y :: r => (x, y) :: pairs2 r
  | _ => []
/-- keys and values by turns -/
def dOk : Exs → Bool
  | .nil => true
  | .cons _ (.cons _ es) => dOk es
  | _ => false
def exsLen : Exs → Nat
  | .nil => 0
  | .cons _ es => exsLen es + 1
  | .star _ es => exsLen es
theorem rdw_pairs : ∀ {ks : List Str} {es : Exs} {H : Hp} {Q : List (V × V) → Hp → Prop}, exsLen es = ks.length → RdW K xv W (evw C es) σ H (fun vs H1 => vs.length = ks.length ∧ Q ((ks.map V.str).zip vs) H1) → tPairs (trsR K xv W C ks es) σ H Q
  | [], .nil, H, Q, hl, h => by
    have q := rdw_nil h
    exact q.2
  | k :: ks, .cons e es, H, Q, hl, h => by
    have q := rdw_cons h
    refine RdE.mono q fun v H1 q1 => ?_
    refine rdw_pairs (ks := ks) (es := es) (by simpa [exsLen] using hl) ?_
    obtain ⟨E, F, S, L, env, Ts, s, w⟩ := q1
    refine ⟨E, F, S, L, env, Ts, s, w.imp (fun o e _ z vs Us F' H' S' s' ov => ?_) fun _ _ z => z⟩
    obtain ⟨z1, z2⟩ := z vs Us F' H' S' s' ov
    exact ⟨by simpa using z1, z2⟩
  | [], .cons e es, H, Q, hl, h => by simp [exsLen] at hl
  | k :: ks, .nil, H, Q, hl, h => by simp [exsLen] at hl
  | ks, .star o es, H, Q, hl, h => by
    obtain ⟨E, F, S, L, env, Ts, s, w⟩ := h
    simp only [evw] at w
    exact w.elim
theorem OwV.at {vs : List V} {os : List Ow1} {Us : List Tp} (h : OwV vs os Us) : vs.length = os.length ∧ Us.length = os.length ∧ ∀ (k : Nat) (o : Ow1), os[k]? = some o → ∃ v T, vs[k]? = some v ∧ Us[k]? = some ⟨v, .p o, T⟩ := by
  induction h with
  | nil => exact ⟨rfl, rfl, fun k o e => by simp at e⟩
  | @cons v o T vs os Us r ih =>
    refine ⟨by simp [ih.1], by simp [ih.2.1], fun k o' e => ?_⟩
    cases k with
    | zero => simp at e; subst e; exact ⟨v, T, rfl, rfl⟩
    | succ k => exact ih.2.2 k o' (by simpa using e)
theorem zip_get {α β : Type} : ∀ {as : List α} {bs : List β} {i : Nat} {p : α × β}, (as.zip bs)[i]? = some p → as[i]? = some p.1 ∧ bs[i]? = some p.2
  | [], bs, i, p, h => by simp at h
  | a :: as, [], i, p, h => by simp at h
  | a :: as, b :: bs, 0, p, h => by simp at h; subst h; exact ⟨rfl, rfl⟩
  | a :: as, b :: bs, i + 1, p, h => by
    obtain ⟨h1, h2⟩ := zip_get (i := i) (show (as.zip bs)[i]? = some p by simpa using h)
    exact ⟨by simpa using h1, by simpa using h2⟩
theorem get_zip {α β : Type} : ∀ {as : List α} {bs : List β} {i : Nat} {a : α} {b : β}, as[i]? = some a → bs[i]? = some b → (as.zip bs)[i]? = some (a, b)
  | [], bs, i, a, b, h, _ => by simp at h
  | x :: as, [], i, a, b, _, h => by simp at h
  | x :: as, y :: bs, 0, a, b, h1, h2 => by simp at h1 h2; subst h1 h2; rfl
  | x :: as, y :: bs, i + 1, a, b, h1, h2 => by
    simpa using get_zip (as := as) (bs := bs) (i := i) (by simpa using h1) (by simpa using h2)
theorem rd_rcd {ks : List Str} {es : Exs} {Q : VK} (hl : exsLen es = ks.length) (h : RdE K xv W (ev C (.rcd ks es)) σ H Q) : tDisp (trsR K xv W C ks es) σ H Q := by
  obtain ⟨E, F, S, L, env, Ts, s, w⟩ := h
  intro p hp
  refine rdw_pairs hl ?_
  have ne : ∀ x, H x ≠ none → x ≠ p := fun x hx e => by subst e; exact hx hp
  have s0 : Sx K E F (upd H p (.dK [])) S L σ env (⟨.ref p, .rc [], fun x => x = p⟩ :: Ts) := s.fresh (fun _ z => z) (fun _ z => .inl z) (fun x hx => upd_ne (ne x hx)) (fun x hx => by
      subst hx
      exact ⟨hp, by rw [upd_same]; simp, fun z => (s.fr _ z).1 hp⟩)
    ⟨p, [], fun _ => noA, rfl, upd_same, ⟨rfl, fun i q e => by simp at e⟩, fun _ _ _ z => z.elim, fun _ z => z, fun x => by simp, List.nodup_nil⟩
  refine ⟨E, F, S, L, env, _, s0, ?_⟩
  simp only [ev] at w
  split at w
  · rename_i os e1 hx
    rw [hx]
    split at w
    · rename_i hc
      obtain ⟨c1, c2, c3⟩ := hc
      intro vs Us F' H' S' s' ov
      obtain ⟨l1, l2, at_⟩ := ov.at
      have hvk : vs.length = ks.length := by rw [l1, c1]
      refine ⟨hvk, ?_⟩
      obtain ⟨a, kv0, Sf0, ea, h0, r0, _⟩ := s'.tm ⟨.ref p, .rc [], fun x => x = p⟩ (by simp)
      cases ea
      have k0 : kv0 = [] := by
        have := r0.len
        cases kv0 with
        | nil => rfl
        | cons _ _ => simp at this
      subst k0
      refine ⟨h0, (ks.map (fun k => (.inr k : Key))).zip vs, ?_, ?_, ?_⟩
      · rw [List.zip_map_left, List.zip_map_left, List.map_map]
        rfl
      · rw [List.length_zip, List.length_map, hvk, Nat.min_self]; exact c3
      · have ek : (ks.map (fun k => (.inr k : Key))).zip vs = sk (ks.zip vs) := by rw [List.zip_map_left]; rfl
        have en : (sk (ks.zip vs)).map (·.1) = ks.map (fun k => (.inr k : Key)) := by
          have e : (ks.zip vs).map Prod.fst = ks := by rw [List.map_fst_zip]; omega
          have e2 : (sk (ks.zip vs)).map (·.1) = ((ks.zip vs).map Prod.fst).map (fun k => (.inr k : Key)) := by
            rw [List.map_map, List.map_map]; rfl
          rw [e2, e]
        have nd : ((([] : List (Key × V)) ++ sk (ks.zip vs)).map (·.1)).Nodup := by
          rw [List.nil_append, en]
          exact List.Pairwise.map _ (fun a b hab e => hab (by cases e; rfl)) c2
        rw [ek, merge_new nd, List.nil_append]
        have s1 : Sx K E F' H' S' L σ e1 ((⟨.ref p, .rc [], fun x => x = p⟩ :: Us) ++ Ts) := s'.perm (by
          refine List.Perm.trans ?_ (List.perm_middle (l₁ := Us.reverse)).symm
          exact ((List.reverse_perm Us).symm.append_right Ts).cons _)
        have tmU : ∀ {i : Nat} {u : Tp}, Us[i]? = some u → u ∈ (⟨.ref p, .rc [], fun x => x = p⟩ :: Us) ++ Ts := fun e => List.mem_append_left _ (List.mem_cons_of_mem _ (List.mem_of_getElem? e))
        have hU : ∀ {i : Nat} {u : Tp}, Us[i]? = some u → ¬ u.T p := fun {i u} e z => by
          have pw := (List.pairwise_append.mp s1.dT).1
          exact (List.pairwise_cons.mp pw).1 u (List.mem_of_getElem? e) p rfl z
        have nF : ∀ x, F' x → x ≠ p := fun x hx e => (s1.oT ⟨.ref p, .rc [], fun x => x = p⟩ (by simp) x e).nf hx
        refine w (.ref p) F' _ S' (fun x => x = p ∨ ∃ i, i < (ks.zip os).length ∧ scOf Us i x) (s1.fuse (Us := ⟨.ref p, .rc [], fun x => x = p⟩ :: Us) (fun x hn => upd_ne fun e => hn ⟨_, List.mem_cons_self, e⟩) (fun x ⟨u, hu, hx⟩ => ?_) (fun x hx => ?_) ?_)
        · by_cases e : x = p
          · rw [e, upd_same]; simp
          · rw [upd_ne e]
            exact (s1.oT u (List.mem_append_left _ hu) x hx).tr
        · rcases hx with e | ⟨i, _, u, hu, z⟩
          · exact ⟨_, List.mem_cons_self, e⟩
          · exact ⟨u, List.mem_cons_of_mem _ (List.mem_of_getElem? hu), z⟩
        · refine ⟨p, ks.zip vs, scOf Us, rfl, upd_same, ⟨by rw [List.length_zip, List.length_zip, l1], fun i q hq => ?_⟩, fun i j x ⟨u, e1, u1⟩ ⟨u', e2, u2⟩ => ?_, fun i ⟨u, e, z⟩ => hU e z, fun x => Iff.rfl, ?_⟩
          · obtain ⟨hk, ho⟩ := zip_get hq
            obtain ⟨v, T, ev, eT⟩ := at_ i q.2 ho
            refine ⟨v, get_zip hk ev, ?_⟩
            have es : scOf Us i = T := by
              funext x
              refine propext ⟨fun ⟨t, e1, t1⟩ => ?_, fun z => ⟨_, eT, z⟩⟩
              rw [eT] at e1
              cases e1
              exact t1
            rw [es]
            have tm : O1V K F' H' T v q.2 := s1.tm _ (tmU eT)
            exact tm.mono (fun _ z => z) (fun x hx => upd_ne (nF x hx)) fun x hx => upd_ne fun e => hU eT (by rw [← e]; exact hx)
          · have pw := (List.pairwise_cons.mp (List.pairwise_append.mp s1.dT).1).2
            obtain ⟨hj, ej⟩ := List.getElem?_eq_some_iff.mp e1
            obtain ⟨hk, ek⟩ := List.getElem?_eq_some_iff.mp e2
            rcases Nat.lt_trichotomy i j with c | c | c
            · exact absurd u2 (by have := (List.pairwise_iff_getElem.mp pw) i j hj hk c x; rw [ej, ek] at this; exact this u1)
            · exact c
            · exact absurd u1 (by have := (List.pairwise_iff_getElem.mp pw) j i hk hj c x; rw [ej, ek] at this; exact this u2)
          · have : (ks.zip os).map Prod.fst = ks := by rw [List.map_fst_zip]; omega
            rw [show ((ks.zip os).map (·.1)) = ks from this]
            exact c2
    · exact w.elim
  · rename_i d e1 hx
    rw [hx]
    exact Xw.pop w
  · exact w.elim
theorem rds_pairs : ∀ {n : Nat} {es : Exs} {H : Hp} {Q : List (V × V) → Hp → Prop}, exsLen es ≤ n → RdS K xv W (evs C es) σ H (fun vs H1 => Q (pairs2 vs) H1) → dOk es = true → tPairs (trsD K xv W C es) σ H Q
  | _, .nil, H, Q, _, h, _ => rds_nil h
  | _, .cons k .nil, H, Q, _, h, d => by simp [dOk] at d
  | _, .cons k (.star _ _), H, Q, _, h, d => by simp [dOk] at d
  | _, .star _ _, H, Q, _, h, d => by simp [dOk] at d
  | n, .cons k (.cons e es), H, Q, hn, h, d => by
    have q := rds_cons h
    refine RdE.mono q fun x H1 q1 => RdE.mono (rds_cons q1) fun y H2 q2 => ?_
    match n, hn with
    | n + 2, hn => exact rds_pairs (n := n) (es := es) (by simp [exsLen] at hn; omega) q2 (by simpa [dOk] using d)
    | 1, hn => simp [exsLen] at hn
    | 0, hn => simp [exsLen] at hn
theorem pairs2_flat : ∀ (more : List (Key × V)), pairs2 (more.flatMap (fun p => [kV p.1, p.2])) = more.map fun p => (kV p.1, p.2)
  | [] => rfl
  | p :: r => by
    show (kV p.1, p.2) :: pairs2 (r.flatMap _) = _
    rw [pairs2_flat r]; rfl
theorem rd_dmk {es : Exs} {Q : VK} (hd : dOk es = true) (h : RdE K xv W (ev C (.dmk es)) σ H Q) : tDisp (trsD K xv W C es) σ H Q := by
  obtain ⟨E, F, S, L, env, Ts, s, w⟩ := h
  intro p hp
  refine rds_pairs (n := exsLen es) (Nat.le_refl _) ?_ hd
  have ne : ∀ x, H x ≠ none → x ≠ p := fun x hx e => by subst e; exact hx hp
  have s0 : Sx K E F (upd H p (.dK [])) S L σ env (⟨.ref p, .rc [], fun x => x = p⟩ :: Ts) := s.fresh (fun _ z => z) (fun _ z => .inl z) (fun x hx => upd_ne (ne x hx)) (fun x hx => by
      subst hx
      exact ⟨hp, by rw [upd_same]; simp, fun z => (s.fr _ z).1 hp⟩) ⟨p, [], fun _ => noA, rfl, upd_same, ⟨rfl, fun i q e => by simp at e⟩, fun _ _ _ z => z.elim, fun _ z => z, fun x => by simp, List.nodup_nil⟩
  refine ⟨E, F, S, L, env, _, s0, ?_⟩
  simp only [ev] at w
  split at w
  · rename_i ds e1 hx
    rw [hx]
    split at w
    · rename_i kvs hm
      split at w
      · rename_i hz
        intro vs Us F' H' S' s' iv
        have dv := imv_dvs s' (fun u hu => List.mem_append_left _ (List.mem_reverse.mpr hu)) iv
        obtain ⟨more, e1', e2, e3⟩ := mk_ok dv .nil hm
        have s1 : Sx K E F' H' S' L σ e1 ([⟨.ref p, .rc [], fun x => x = p⟩] ++ Ts) := s'.sub (List.sublist_append_right _ _)
        obtain ⟨a, kv0, Sf0, ea, h0', r0, _⟩ := s1.tm ⟨.ref p, .rc [], fun x => x = p⟩ (by simp)
        cases ea
        have k0 : kv0 = [] := by
          have := r0.len
          cases kv0 with
          | nil => rfl
          | cons _ _ => simp at this
        subst k0
        have nF : ∀ x, F' x → x ≠ p := fun x hx e => (s1.oT ⟨.ref p, .rc [], fun x => x = p⟩ (by simp) x e).nf hx
        refine ⟨h0', more, ?_, by omega, ?_⟩
        · rw [e1', pairs2_flat]
        · refine w (.ref p) F' _ S' (fun x => x = p) (s1.fuse (Us := [⟨.ref p, .rc [], fun x => x = p⟩]) (fun x hn => upd_ne fun e => hn ⟨_, List.mem_cons_self, e⟩) (fun x ⟨u, hu, hx⟩ => ?_) (fun x hx => ⟨_, List.mem_cons_self, hx⟩) ?_)
          · obtain rfl : u = _ := by simpa using hu
            rw [show x = p from hx, upd_same]; simp
          · exact ⟨p, rfl, fun _ => Iff.rfl, .inl ⟨_, upd_same, e3.mono (fun _ z => z) fun x hx => upd_ne (nF x hx)⟩⟩
      · exact w.elim
    · exact w.elim
  · rename_i d e1 hx
    rw [hx]
    exact Xw.pop w
  · exact w.elim
theorem rds_star {o : Op} {xs : Exs} {Q : List V → Hp → Prop} (h : RdS K xv W (evs C (.star o xs)) σ H Q) : StX.tStar K (RdP K xv W (evp C o)) (RdS K xv W (evs C xs)) σ H Q := by
  obtain ⟨E, F, S, L, env, Ts, s, w⟩ := h
  refine ⟨E, F, S, L, env, Ts, s, ?_⟩
  simp only [evs] at w
  split at w
  · rename_i t e1 hx
    rw [hx]
    split at w
    · rename_i d hd
      split at w
      · rename_i ds1 hs
        intro v F' H' S' Us ok s'
        have bv : BV K F' H' v d := by
          cases t with
          | inl i =>
            obtain ⟨hv, rfl⟩ := ok
            simp only [Tm.vw] at hd
            split at hd
            · rename_i o hg
              obtain ⟨y, ey, bv⟩ := s'.view hg hd
              rw [hv] at ey
              cases ey
              exact bv
            · cases hd
          | inr ow =>
            obtain ⟨T, rfl⟩ := ok
            exact (s'.tm _ List.mem_cons_self).bv hd
        have st : ∃ p vs, v = .ref p ∧ (SqT K H' p vs ∨ SqL K H' p vs) ∧ DVs K F' H' vs ds1 := by
          cases d with
          | lst es =>
            cases hs
            obtain ⟨a, vs, rfl, ha, hv⟩ := bv
            exact ⟨a, vs, rfl, .inr (.of ha), hv⟩
          | tup es =>
            cases hs
            obtain ⟨a, vs, rfl, ha, hv⟩ := bv_tup bv
            exact ⟨a, vs, rfl, .inl ha.sq, hv⟩
          | scr is =>
            cases hs
            obtain ⟨a, rfl, ha⟩ := bv_scr bv
            exact ⟨a, _, rfl, .inr ha.sq, dvs_ints is⟩
          | non => cases hs
          | bl b => cases hs
          | int b => cases hs
          | str b => cases hs
          | dic b => cases hs
        obtain ⟨p, vs, rfl, hq, dv⟩ := st
        refine ⟨p, vs, rfl, hq, ?_⟩
        have push : ∀ {vs : List V} {ds1 : List Dt} (Us : List Tp), DVs K F' H' vs ds1 → Sx K E F' H' S' L σ e1 Us → ∃ Vs, Sx K E F' H' S' L σ e1 (Vs.reverse ++ Us) ∧ ∀ {vs2 : List V} {ds2 : List Dt} {Us2 : List Tp}, ImV vs2 ds2 Us2 → ImV (vs ++ vs2) (ds1 ++ ds2) (Vs ++ Us2) := by
          intro vs
          induction vs with
          | nil =>
            intro ds1 Us dv s
            cases dv
            exact ⟨[], s, fun z => z⟩
          | cons v vs ih =>
            intro ds1 Us dv s
            cases dv with
            | cons h t =>
              obtain ⟨Vs, s2, im2⟩ := ih _ t (s.pushI h)
              exact ⟨_ :: Vs, by simpa using s2, fun z => .cons (im2 z)⟩
        obtain ⟨Vs, s2, im2⟩ := push Us dv s'
        refine ⟨E, F', S', L, e1, _, s2, ?_⟩
        have sub : Ts.Sublist Us := by
          cases t with
          | inl i => obtain ⟨_, rfl⟩ := ok; exact List.Sublist.refl _
          | inr ow => obtain ⟨T, rfl⟩ := ok; exact List.sublist_cons_self _ _
        split at w
        · rename_i ds e2 hy
          rw [hy]
          intro ys Us' F'' H'' S'' s'' iv
          refine w (vs ++ ys) (Vs ++ Us') F'' H'' S'' ?_ (im2 iv)
          rw [List.reverse_append, List.append_assoc]
          exact s''.sub ((List.Sublist.refl _).append ((List.Sublist.refl _).append sub))
        · rename_i d e2 hy
          rw [hy]
          intro F H S c od sx hxv
          exact w F H S c od (sx.sub (sub.trans (List.sublist_append_right _ _))) hxv
        · exact w.elim
      · exact w.elim
    · exact w.elim
  · rename_i d e1 hx
    rw [hx]
    exact w
  · exact w.elim
end
end Pd
set_option Elab.async false
set_option linter.all false
set_option maxRecDepth 100000
set_option maxHeartbeats 4000000
/-! Part 14: statements. -/
namespace Pd
open PySem PySem.Spec PyProof.Rows L2
mutual
/-- the slots that a statement may store in -/
def wrS : Sm → List Nat
  | .asg i _ => [i]
  | .asgT is _ => is
  | .unp is _ => is
  | .aug i _ _ => [i]
  | .ite _ a b => wrSs a ++ wrSs b
  | .fors tg _ b => tgSl tg ++ wrSs b
  | .whl _ b => wrSs b
  | _ => []
def wrSs : Sms → List Nat
  | .nil => []
  | .cons s ss => wrS s ++ wrSs ss
end
section
variable (K : PySem.W.Frag) (xv : Xv) (W : WX)
/-- the reading of a statement that stores in ws -/
def RdC (ws : List Nat) (f : En → Rs Fl) : TS := fun D σ H => ∃ E F S L env Ts, Sx K E F H S L σ env Ts ∧ (∀ p ∈ E.fix, p.1 ∉ ws) ∧ Wp (f env) (fun fl e => match fl with
    | .nx => ∀ σ' F' H' S', Sx K E F' H' S' L σ' e Ts → D.nx σ' H'
    | .rt o => ∀ σ' v F' H' S' T, Sx K E F' H' S' L σ' e (⟨v, o, T⟩ :: Ts) → D.rt v H') (fun d e => ∀ σ', Xw K xv W E L σ' Ts d e)
end
section
variable {K : PySem.W.Frag} {xv : Xv} {W : WX} {C : Cl} {wf : Nat} {σ : L2.St} {H : Hp} {D : Ends}
theorem rt_nil (h : RdC K xv W (wrSs .nil) (exs C wf .nil) D σ H) : tNext D σ H := by
  obtain ⟨E, F, S, L, env, Ts, s, hx, w⟩ := h
  simp only [exs] at w
  exact w σ F H S s
theorem rt_cons {s : Sm} {ss : Sms} (h : RdC K xv W (wrSs (.cons s ss)) (exs C wf (.cons s ss)) D σ H) : tSeq (RdC K xv W (wrS s) (ex C wf s)) (RdC K xv W (wrSs ss) (exs C wf ss)) D σ H := by
  obtain ⟨E, F, S, L, env, Ts, s1, hx, w⟩ := h
  have h1 : ∀ p ∈ E.fix, p.1 ∉ wrS s := fun p hp z => hx p hp (by simp [wrSs, z])
  have h2 : ∀ p ∈ E.fix, p.1 ∉ wrSs ss := fun p hp z => hx p hp (by simp [wrSs, z])
  refine ⟨E, F, S, L, env, Ts, s1, h1, ?_⟩
  simp only [exs] at w
  split at w
  · rename_i e1 he
    rw [he]
    intro σ' F' H' S' s'
    exact ⟨E, F', S', L, e1, Ts, s', h2, w⟩
  · rename_i r hr
    cases hw : ex C wf s env with
    | no => rw [hw] at w; exact w.elim
    | exc d e => rw [hw] at w; exact w
    | ok fl e =>
      cases fl with
      | nx => exact absurd hw (hr e)
      | rt o => rw [hw] at w; exact w
theorem rt_asg {i : Nat} {e : Ex} (h : RdC K xv W (wrS (.asg i e)) (ex C wf (.asg i e)) D σ H) : tAsg (RdE K xv W (ev C e)) (gName i) D σ H := by
  obtain ⟨E, F, S, L, env, Ts, s, hx, w⟩ := h
  refine ⟨E, F, S, L, env, Ts, s, ?_⟩
  simp only [ex] at w
  split at w
  · rename_i o e1 he
    rw [he]
    intro v F' H' S' T s'
    obtain ⟨S2, s2⟩ := s'.store' (i := i) fun p hp z => hx p hp (by simp [wrS, z])
    exact w _ F' H' S2 s2
  · rename_i d e1 he
    rw [he]
    exact w σ
  · exact w.elim
theorem rt_expr {e : Ex} (h : RdC K xv W (wrS (.expr e)) (ex C wf (.expr e)) D σ H) : tDrop (RdE K xv W (ev C e)) D σ H := by
  obtain ⟨E, F, S, L, env, Ts, s, hx, w⟩ := h
  refine ⟨E, F, S, L, env, Ts, s, ?_⟩
  simp only [ex] at w
  split at w
  · rename_i o e1 he
    rw [he]
    intro v F' H' S' T s'
    exact w _ F' H' S' s'.pop
  · rename_i d e1 he
    rw [he]
    exact w σ
  · exact w.elim
theorem rt_ret {e : Ex} (h : RdC K xv W (wrS (.ret e)) (ex C wf (.ret e)) D σ H) : tRet (RdE K xv W (ev C e)) D σ H := by
  obtain ⟨E, F, S, L, env, Ts, s, hx, w⟩ := h
  refine ⟨E, F, S, L, env, Ts, s, ?_⟩
  simp only [ex] at w
  split at w
  · rename_i o e1 he
    rw [he]
    intro v F' H' S' T s'
    exact w σ v F' H' S' T s'
  · rename_i d e1 he
    rw [he]
    exact w σ
  · exact w.elim
theorem rt_retV {i : Nat} (h : RdC K xv W (wrS (.retV i)) (ex C wf (.retV i)) D σ H) : tRet (tVar i) D σ H := by
  obtain ⟨E, F, S, L, env, Ts, s, hx, w⟩ := h
  simp only [ex] at w
  split at w
  · exact w.elim
  · rename_i o hne hg
    obtain ⟨v, e1, s1⟩ := s.take hg fun d z => hne d z
    exact ⟨v, e1, w σ v F H _ _ s1⟩
  · exact w.elim
theorem rt_retN (h : RdC K xv W (wrS .retN) (ex C wf .retN) D σ H) : tRetN D σ H := by
  obtain ⟨E, F, S, L, env, Ts, s, hx, w⟩ := h
  simp only [ex] at w
  exact w σ _ F H S _ (s.pushI .non)
theorem rt_ite {t : Te} {a b : Sms} (h : RdC K xv W (wrS (.ite t a b)) (ex C wf (.ite t a b)) D σ H) : tIfS (RdB K xv W (evt C t)) (RdC K xv W (wrSs a) (exs C wf a)) (RdC K xv W (wrSs b) (exs C wf b)) D σ H := by
  obtain ⟨E, F, S, L, env, Ts, s, hx, w⟩ := h
  have h1 : ∀ p ∈ E.fix, p.1 ∉ wrSs a := fun p hp z => hx p hp (by simp [wrS, z])
  have h2 : ∀ p ∈ E.fix, p.1 ∉ wrSs b := fun p hp z => hx p hp (by simp [wrS, z])
  refine ⟨E, F, S, L, env, Ts, s, ?_⟩
  simp only [ex] at w
  split at w
  · rename_i e1 he
    rw [he]
    intro F' H' S' s'
    rw [if_pos rfl]
    exact ⟨E, F', S', L, e1, Ts, s', h1, w⟩
  · rename_i e1 he
    rw [he]
    intro F' H' S' s'
    rw [if_neg Bool.false_ne_true]
    exact ⟨E, F', S', L, e1, Ts, s', h2, w⟩
  · rename_i d e1 he
    rw [he]
    exact w σ
  · exact w.elim
theorem setAll_ok {E : En0} {F : As} {L : Nat → As} {Ts : List Tp} : ∀ {is : List Nat} {vs : List V} {os : List Ow1} {Us : List Tp} {σ : L2.St} {env : En} {S : Nat → As}, Sx K E F H S L σ env (Us ++ Ts) → OwV vs os Us → is.length = os.length → (∀ p ∈ E.fix, p.1 ∉ is) →
    vs.length = is.length ∧ ∃ S', Sx K E F H S' L (setN σ is vs) (setAll is os env) Ts
  | [], _, _, _, σ, env, S, s, .nil, _, _ => ⟨rfl, S, s⟩
  | i :: is, _, _, _, σ, env, S, s, .cons ov, hl, hx => by
    obtain ⟨S1, s1⟩ := Sx.store' (i := i) s fun p hp e => hx p hp (by rw [e]; exact List.mem_cons_self)
    obtain ⟨q1, q2⟩ := setAll_ok s1 ov (by simpa using hl) fun p hp z => hx p hp (List.mem_cons_of_mem _ z)
    exact ⟨by simp [q1], q2⟩
  | [], _, _, _, σ, env, S, s, .cons ov, hl, hx => by simp at hl
  | i :: is, _, _, _, σ, env, S, s, .nil, hl, hx => by simp at hl
theorem rt_asgT {is : List Nat} {es : Exs} (h : RdC K xv W (wrS (.asgT is es)) (ex C wf (.asgT is es)) D σ H) : tParN is (RdW K xv W (evw C es)) D σ H := by
  obtain ⟨E, F, S, L, env, Ts, s, hx, w⟩ := h
  refine ⟨E, F, S, L, env, Ts, s, ?_⟩
  simp only [ex] at w
  split at w
  · rename_i os e1 he
    rw [he]
    split at w
    · rename_i hl
      intro vs Us F' H' S' s' ov
      obtain ⟨q1, S2, s2⟩ := setAll_ok (is := is) (s'.perm ((List.reverse_perm Us).symm.append_right Ts)) ov hl fun p hp z => hx p hp z
      exact ⟨q1, w _ F' H' S2 s2⟩
    · exact w.elim
  · rename_i d e1 he
    rw [he]
    exact w σ
  · exact w.elim
theorem go_ok' {E : En0} {F : As} {L : Nat → As} {Ts : List Tp} {ds : List Dt} : ∀ {is : List Nat} {vs : List V} {σ : L2.St} {env : En} {S : Nat → As}, Sx K E F H S L σ env Ts → DVs K F H vs ds → is.length = ds.length → (∀ p ∈ E.fix, p.1 ∉ is) →
    gNames is vs σ H fun σ' H' => H' = H ∧ ∃ S', Sx K E F H S' L σ' (tgSet.go is ds env) Ts := by
  induction ds with
  | nil =>
    intro is vs σ env S s hv hl hx
    cases is with
    | nil => cases hv; exact ⟨rfl, rfl, S, s⟩
    | cons i is => simp at hl
  | cons d ds ih =>
    intro is vs σ env S s hv hl hx
    cases is with
    | nil => simp at hl
    | cons i is =>
      cases hv with
      | @cons v vs _ _ h1 h2 =>
        obtain ⟨S1, s1⟩ := (s.pushI h1).store' (i := i) fun p hp e => hx p hp (by rw [e]; exact List.mem_cons_self)
        exact ⟨v, vs, rfl, ih (is := is) s1 h2 (by simpa using hl) fun p hp z => hx p hp (List.mem_cons_of_mem _ z)⟩
theorem tg_ok' {E : En0} {F : As} {S L : Nat → As} {Ts : List Tp} {env : En} {v : V} {tg : Tg} {d : Dt} {e' : En} (s : Sx K E F H S L σ env Ts) (hv : DV K F H v d) (ht : tgSet tg d env = some e') (hx : ∀ p ∈ E.fix, p.1 ∉ tgSl tg) : gOf K tg v σ H fun σ' H' => H' = H ∧ ∃ S', Sx K E F H S' L σ' e' Ts := by
  cases tg with
  | nm i =>
    simp only [tgSet] at ht
    cases ht
    obtain ⟨S1, s1⟩ := (s.pushI hv).store' (i := i) fun p hp e => hx p hp (by rw [e]; exact List.mem_cons_self)
    exact ⟨rfl, S1, s1⟩
  | tp is =>
    cases d with
    | tup ds =>
      simp only [tgSet] at ht
      split at ht
      · rename_i hl
        cases ht
        cases hv with
        | @tup a vs _ st hvs => exact ⟨a, vs, rfl, st.sq, by rw [hvs.len, hl], go_ok' s hvs hl hx⟩
      · cases ht
    | _ => simp [tgSet] at ht
theorem gOf_mono {tg : Tg} {v : V} {Q Q' : L2.St → Hp → Prop} (hq : ∀ σ' H', Q σ' H' → Q' σ' H') (h : gOf K tg v σ H Q) : gOf K tg v σ H Q' := by
  have names : ∀ (is : List Nat) (vs : List V) (σ : L2.St) (H : Hp), gNames is vs σ H Q → gNames is vs σ H Q' := by
    intro is
    induction is with
    | nil => intro vs σ H h; exact ⟨h.1, hq _ _ h.2⟩
    | cons i is ih =>
      intro vs σ H h
      obtain ⟨v, r, e, h⟩ := h
      exact ⟨v, r, e, ih _ _ _ h⟩
  cases tg with
  | nm i => exact hq _ _ h
  | tp is =>
    obtain ⟨a, xs, e, q, l, h⟩ := h
    exact ⟨a, xs, e, q, l, names _ _ _ _ h⟩
theorem bv_tupDV {F : As} {v : V} {ds : List Dt} (h : BV K F H v (.tup ds)) : DV K F H v (.tup ds) := h
theorem rt_unp {is : List Nat} {o : Op} (h : RdC K xv W (wrS (.unp is o)) (ex C wf (.unp is o)) D σ H) : tAsg (RdP K xv W (evp C o)) (gOf K (.tp is)) D σ H := by
  obtain ⟨E, F, S, L, env, Ts, s, hx, w⟩ := h
  refine ⟨E, F, S, L, env, Ts, s, ?_⟩
  simp only [ex] at w
  split at w
  · rename_i t e1 he
    rw [he]
    split at w
    · rename_i d hd
      split at w
      · rename_i e2 ht
        intro v F' H' S' Us ok s'
        have q : Sx K E F' H' S' L σ e1 Ts ∧ BV K F' H' v d := by
          cases t with
          | inl i =>
            obtain ⟨hv, rfl⟩ := ok
            simp only [Tm.vw] at hd
            split at hd
            · rename_i o hg
              obtain ⟨y, ey, bv⟩ := s'.view hg hd
              rw [hv] at ey
              cases ey
              exact ⟨s', bv⟩
            · cases hd
          | inr ow =>
            obtain ⟨T, rfl⟩ := ok
            exact ⟨s'.pop, (s'.tm _ List.mem_cons_self).bv hd⟩
        have dt : ∃ ds, d = .tup ds := by
          cases d with
          | tup ds => exact ⟨ds, rfl⟩
          | _ => simp [tgSet] at ht
        obtain ⟨ds, rfl⟩ := dt
        refine gOf_mono (fun σ' H2 ⟨eH, S2, s2⟩ => ?_) (tg_ok' q.1 (bv_tupDV q.2) ht fun p hp z => hx p hp z)
        subst eH
        exact w σ' F' _ S2 s2
      · exact w.elim
    · exact w.elim
  · rename_i d e1 he
    rw [he]
    exact w σ
  · exact w.elim
theorem rt_whl {t : Te} {b : Sms} (h : RdC K xv W (wrS (.whl t b)) (ex C wf (.whl t b)) D σ H) : tWhile (RdB K xv W (evt C t)) (RdC K xv W (wrSs b) (exs C wf b)) D σ H := by
  obtain ⟨E, F, S, L, env, Ts, s, hx, w⟩ := h
  have h1 : ∀ p ∈ E.fix, p.1 ∉ wrSs b := fun p hp z => hx p hp (by simp [wrS, z])
  simp only [ex] at w
  refine ⟨fun m σ H => ∃ F S env, Sx K E F H S L σ env Ts ∧ Wp (whGo (fun e => evt C t e) (fun e => exs C wf b e) m env) (fun fl e => match fl with
    | .nx => ∀ σ' F' H' S', Sx K E F' H' S' L σ' e Ts → D.nx σ' H'
    | .rt o => ∀ σ' v F' H' S' T, Sx K E F' H' S' L σ' e (⟨v, o, T⟩ :: Ts) → D.rt v H') (fun d e => ∀ σ', Xw K xv W E L σ' Ts d e), ⟨wf, F, S, env, s, w⟩, ?_⟩
  rintro m σ1 H1 ⟨F1, S1, env1, s1, w1⟩
  cases m with
  | zero => exact w1.elim
  | succ m =>
    unfold whGo at w1
    refine ⟨E, F1, S1, L, env1, Ts, s1, ?_⟩
    cases ht : evt C t env1 with
    | no => rw [ht] at w1; exact w1.elim
    | exc d e => rw [ht] at w1; exact w1 σ1
    | ok c e1 =>
      rw [ht] at w1
      intro F2 H2 S2 s2
      cases c with
      | false =>
        rw [if_neg Bool.false_ne_true]
        exact w1 σ1 F2 H2 S2 s2
      | true =>
        rw [if_pos rfl]
        dsimp only at w1
        refine ⟨_, fun σ' H' z => ⟨m, Nat.lt_succ_self m, z⟩, E, F2, S2, L, e1, Ts, s2, h1, ?_⟩
        cases hb : exs C wf b e1 with
        | no => rw [hb] at w1; exact w1.elim
        | exc d e => rw [hb] at w1; exact w1
        | ok fl e =>
          rw [hb] at w1
          cases fl with
          | nx => exact fun σ' F' H' S' s' => ⟨F', S', e, s', w1⟩
          | rt o => exact w1
end
end Pd
set_option Elab.async false
set_option linter.all false
set_option maxRecDepth 100000
set_option maxHeartbeats 4000000
/-! Part 15: statements that change objects; for. -/
namespace Pd
open PySem PySem.Spec PyProof.Rows L2
section
variable {K : PySem.W.Frag} {xv : Xv} {W : WX} {C : Cl} {wf : Nat} {σ : L2.St} {H : Hp} {D : Ends}
theorem rt_setF {i : Nat} {f : Str} {e : Ex} (h : RdC K xv W (wrS (.setF i f e)) (ex C wf (.setF i f e)) D σ H) : tAsg (RdE K xv W (ev C e)) (gSub (tVar i) (tC (.str f)) rSetO) D σ H := by
  obtain ⟨E, F, S, L, env, Ts, s, hx, w⟩ := h
  refine ⟨E, F, S, L, env, Ts, s, ?_⟩
  simp only [ex] at w
  split at w
  · rename_i o e1 he
    rw [he]
    split at w
    · rename_i fs hg
      split at w
      · rename_i hc
        obtain ⟨c1, c2⟩ := hc
        intro v F' H' S' T s'
        obtain ⟨s1, dv⟩ := s'.frzT
        obtain ⟨fo, hfo⟩ := Option.isSome_iff_exists.mp c2
        obtain ⟨u, e1', e2⟩ := s1.sl i _ hg
        obtain ⟨a, kvs, Sf, j, y, A⟩ := rc_fld e2 hfo
        have hF : ∀ x, (F' x ∨ T x) → ¬ S' i x := fun x hx z => (s1.oS i x z).nf hx
        obtain ⟨S1, q1, q2, q3⟩ := A.set hF dv
        refine ⟨u, e1', a, A.ev, .inr (.inl ⟨sk kvs, .inr f, .inl A.at_, rfl, ?_, ?_⟩)⟩
        · have : (sk kvs).length = fs.length := by rw [List.length_map]; exact A.fs'.len
          rw [this]
          exact Nat.lt_trans c1 (by decide)
        · have s2 := s1.write (o' := .rc (setRec f (.imm o.dt) fs)) (S1 := S1) (H' := upd H' a (.dK (putK (sk kvs) (.inr f) v))) hg q1 (fun x hx => upd_ne fun e => hx (by rw [e]; exact q3)) (fun x hx => by
            by_cases e : x = a
            · rw [e, upd_same]; simp
            · rw [upd_ne e]; exact (s1.oS i x hx).tr) fun v' hv' => by rw [e1'] at hv'; cases hv'; exact ov_noA q2
          exact w σ _ _ _ s2
      · exact w.elim
    · exact w.elim
  · exact w.elim
  · rename_i d e1 he
    rw [he]
    exact w σ
  · exact w.elim
theorem atL {F : As} {v : V} {d : Dt} (h : DV K F H v d) {q : Key} (e : d.key = some (.inl q)) : v = kV q := by
  rw [key_inl e] at h
  exact bv_kD h.bv
theorem dic_write {E : En0} {S : Nat → As} {L : Nat → As} {env : En} {Ts : List Tp} {F : As} {i : Nat} {ds ds' : List (Dt × Dt)} {a : Addr} {o : HO} (s : Sx K E F H S L σ env Ts) (hg : getE env i = some (.p (.dic ds))) (hv : σ[i]? = some (some (.ref a))) (hS : ∀ x, S i x ↔ x = a)
    (hn : (∃ kvs, o = .dK kvs ∧ DKs K F H kvs ds') ∨ ∃ kvs, o = .dT kvs ∧ DTs K F H kvs ds') : ∃ S', Sx K E F (upd H a o) S' L σ (env.set i (some (.p (.dic ds')))) Ts := by
  have kF : ∀ x, F x → upd H a o x = H x := fun x hx => upd_ne fun e => (s.oS i x ((hS x).mpr e)).nf hx
  refine ⟨_, s.write (S1 := S i) hg (fun _ z => z) (fun x hx => upd_ne fun e => hx ((hS x).mpr e)) (fun x hx => ?_) fun v hv' => ?_⟩
  · rw [(hS x).mp hx, upd_same]; simp
  · rw [hv] at hv'
    cases hv'
    refine ⟨a, rfl, hS, ?_⟩
    rcases hn with ⟨kvs, rfl, hn⟩ | ⟨kvs, rfl, hn⟩
    · exact .inl ⟨kvs, upd_same, hn.mono (fun _ z => z) kF⟩
    · exact .inr ⟨kvs, upd_same, hn.mono (fun _ z => z) kF⟩
theorem dks_kOk {F : As} {k : Sum Key (List Key)} {ds : List (Dt × Dt)} {kvs : List (Key × V)} (h : DKs K F H kvs ds) (ok : kOk k ds = true) : (∃ q, k = .inl q) ∨ kvs = [] := by
  cases h with
  | nil => exact .inr rfl
  | cons h t =>
    simp only [kOk, key_kD] at ok
    cases k with
    | inl q => exact .inl ⟨q, rfl⟩
    | inr q => simp at ok
theorem dts_kOk {F : As} {k : Sum Key (List Key)} {ds : List (Dt × Dt)} {kvs : List (List Key × V)} (h : DTs K F H kvs ds) (ok : kOk k ds = true) : (∃ q, k = .inr q) ∨ kvs = [] := by
  cases h with
  | nil => exact .inr rfl
  | cons h t =>
    simp only [kOk, key_tkD] at ok
    cases k with
    | inr q => exact .inl ⟨q, rfl⟩
    | inl q => simp at ok
theorem rt_setI {i : Nat} {k e : Ex} (h : RdC K xv W (wrS (.setI i k e)) (ex C wf (.setI i k e)) D σ H) : tAsg (RdE K xv W (ev C e)) (gSub (tVar i) (RdE K xv W (ev C k)) rSetO) D σ H := by
  obtain ⟨E, F, S, L, env, Ts, s, hx, w⟩ := h
  refine ⟨E, F, S, L, env, Ts, s, ?_⟩
  simp only [ex] at w
  split at w
  · rename_i o e1 he
    rw [he]
    intro v F' H' S' T s'
    split at w
    · exact w.elim
    · rename_i hn
      obtain ⟨oi, hgi⟩ : ∃ oi, getE e1 i = some oi := by
        cases q : getE e1 i with
        | none => rw [q] at hn; simp at hn
        | some oi => exact ⟨oi, rfl⟩
      obtain ⟨vi, hvi, _⟩ := s'.sl i oi hgi
      refine ⟨vi, hvi, E, F', S', L, e1, _, s', ?_⟩
      split at w
      · rename_i kd e2 hk
        rw [hk]
        intro u F2 H2 S2 T2 s2
        have du : DV K F2 H2 u kd := (s2.tm _ List.mem_cons_self).2
        split at w
        · rename_i d xs hd hg
          obtain ⟨o1, rfl, rfl⟩ := dt?_p hd
          split at w
          · rename_i j
            split at w
            · rename_i hj
              have s3 := s2.pop
              obtain ⟨s4, dv⟩ := s3.frzT
              obtain ⟨v', ev', a, vs, rfl, sa, ha, hvs⟩ := s4.sl i _ hg
              rw [hvi] at ev'
              cases ev'
              cases du
              obtain ⟨s5, kF⟩ := lst_write s4 hg hvi sa (hvs.set j.toNat dv)
              have hl := hvs.len
              refine ⟨a, rfl, .inl ⟨vs, j, j.toNat, rfl, ha, ?_, w σ _ _ _ s5⟩⟩
              unfold ixN
              rw [if_pos hj.1, if_pos (by omega)]
            · exact w.elim
          · exact w.elim
        · rename_i d kvs hd hg
          obtain ⟨o1, rfl, rfl⟩ := dt?_p hd
          split at w
          · rename_i q hq
            split at w
            · rename_i hc
              obtain ⟨c1, c2⟩ := hc
              have s3 := s2.pop
              have du' : DV K (fun x => F2 x ∨ T x) H2 u kd := du.mono (fun _ z => .inl z) fun _ _ => rfl
              obtain ⟨s4, dv⟩ := s3.frzT
              obtain ⟨v', ev', a, rfl, sa, hdd⟩ := s4.sl i _ hg
              rw [hvi] at ev'
              cases ev'
              refine ⟨a, rfl, .inr ?_⟩
              have keyed : ∀ q', q = .inl q' → (∃ ks, (H2 a = some (.dK ks) ∨ (H2 a = some (.dT []) ∧ ks = [])) ∧ DKs K (fun x => F2 x ∨ T x) H2 ks kvs) → ∃ ks k, (H2 a = some (.dK ks) ∨ (H2 a = some (.dT []) ∧ ks = [])) ∧ u = kV k ∧ ks.length < sizeLine ∧ D.nx σ (upd H2 a (.dK (putK ks k v))) := fun q' eq ⟨ks, h1, h2⟩ => by
                subst eq
                refine ⟨ks, q', h1, atL du' hq, by rw [h2.len]; exact c1, ?_⟩
                have ek := key_inl hq
                have hp := h2.put (k := q') dv
                rw [← ek] at hp
                obtain ⟨S6, s6⟩ := dic_write (o := .dK (putK ks q' v)) s4 hg hvi sa (.inl ⟨_, rfl, hp⟩)
                exact w σ _ _ _ s6
              have tupled : ∀ q', q = .inr q' → (∃ ks, (H2 a = some (.dT ks) ∨ (H2 a = some (.dK []) ∧ ks = [])) ∧ DTs K (fun x => F2 x ∨ T x) H2 ks kvs) → ∃ ks k b, (H2 a = some (.dT ks) ∨ (H2 a = some (.dK []) ∧ ks = [])) ∧ u = .ref b ∧ b ≠ a ∧ H2 b = some (.tup (k.map kV)) ∧ ks.length < sizeLine ∧ D.nx σ (upd H2 a (.dT (putK ks k v))) := fun q' eq ⟨ks, h1, h2⟩ => by
                subst eq
                have ek := key_inr hq
                have du2 := du'
                rw [ek] at du2
                obtain ⟨b, rfl, hb⟩ := bv_tkD du2.bv
                refine ⟨ks, q', b, h1, rfl, fun eb => ?_, hb, by rw [h2.len]; exact c1, ?_⟩
                · subst eb
                  rcases h1 with z | z
                  · rw [z] at hb; cases hb
                  · rw [z.1] at hb; cases hb
                · have hp := h2.put (k := q') dv
                  rw [← ek] at hp
                  obtain ⟨S6, s6⟩ := dic_write (o := .dT (putK ks q' v)) s4 hg hvi sa (.inr ⟨_, rfl, hp⟩)
                  exact w σ _ _ _ s6
              rcases hdd with ⟨ks, hk1, hk2⟩ | ⟨ks, hk1, hk2⟩
              · cases q with
                | inl q' => exact .inl (keyed q' rfl ⟨ks, .inl hk1, hk2⟩)
                | inr q' =>
                  rcases dks_kOk hk2 c2 with ⟨_, z⟩ | z
                  · cases z
                  · subst z
                    cases hk2
                    exact .inr (tupled q' rfl ⟨[], .inr ⟨hk1, rfl⟩, .nil⟩)
              · cases q with
                | inr q' => exact .inr (tupled q' rfl ⟨ks, .inl hk1, hk2⟩)
                | inl q' =>
                  rcases dts_kOk hk2 c2 with ⟨_, z⟩ | z
                  · cases z
                  · subst z
                    cases hk2
                    exact .inl (keyed q' rfl ⟨[], .inr ⟨hk1, rfl⟩, .nil⟩)
            · exact w.elim
          · exact w.elim
        · exact w.elim
      · exact w.elim
      · rename_i d e2 hk
        rw [hk]
        exact Xw.pop (w σ)
      · exact w.elim
  · rename_i d e1 he
    rw [he]
    exact w σ
  · exact w.elim
def rAug (q : Pr) : TIp := fun x y H Q => ∃ a b c, x = .int a ∧ y = .int b ∧ q.sem [.int a, .int b] = some (.imm (.int c)) ∧ Q (.int c) H
theorem rt_aug {i : Nat} {q : Pr} {e : Ex} (h : RdC K xv W (wrS (.aug i q e)) (ex C wf (.aug i q e)) D σ H) : tAug i (RdE K xv W (ev C e)) (rAug q) D σ H := by
  obtain ⟨E, F, S, L, env, Ts, s, hx, w⟩ := h
  simp only [ex] at w
  split at w
  · rename_i a hg
    obtain ⟨v, hv, ov⟩ := s.sl i _ hg
    have dv : DV K F H v (.int a) := ov.2
    cases dv
    refine ⟨_, hv, E, F, S, L, env, Ts, s, ?_⟩
    split at w
    · rename_i b e1 he
      rw [he]
      intro y F' H' S' T s'
      have dy : DV K F' H' y (.int b) := (s'.tm _ List.mem_cons_self).2
      cases dy
      split at w
      · rename_i c hc
        obtain ⟨S2, s2⟩ := (s'.pop.pushI (.int c)).store' (i := i) fun p hp z => hx p hp (by simp [wrS, z])
        exact ⟨a, b, c, rfl, rfl, hc, w _ F' H' S2 s2⟩
      · exact w.elim
    · exact w.elim
    · rename_i d e1 he
      rw [he]
      exact w σ
    · exact w.elim
  · exact w.elim
/-- the slots' values -/
def slF (σ : L2.St) (is : List Nat) : List (Nat × V) := is.filterMap fun i => match σ[i]? with | some (some v) => some (i, v) | _ => none
theorem slF_mem {i : Nat} {v : V} {is : List Nat} (hi : i ∈ is) (e : σ[i]? = some (some v)) : (i, v) ∈ slF σ is := List.mem_filterMap.mpr ⟨i, hi, by rw [e]⟩
theorem slF_of {p : Nat × V} {is : List Nat} (h : p ∈ slF σ is) : p.1 ∈ is ∧ σ[p.1]? = some (some p.2) := by
  obtain ⟨i, hi, e⟩ := List.mem_filterMap.mp h
  split at e
  · rename_i v hv
    cases e
    exact ⟨hi, hv⟩
  · cases e
theorem rt_for {tg : Tg} {it : Ir} {b : Sms} (hd : ∀ i ∈ slotI it, i ∉ tgSl tg ++ wrSs b) (h : RdC K xv W (wrS (.fors tg it b)) (ex C wf (.fors tg it b)) D σ H) : tFor (RdI K xv W C it) (gOf K tg) (RdC K xv W (wrSs b) (exs C wf b)) D σ H := by
  obtain ⟨E, F, S, L, env, Ts, s, hx, w⟩ := h
  refine ⟨E, F, S, L, env, Ts, s, ?_⟩
  simp only [ex] at w
  generalize hst : (fun d e => match tgSet tg d e with | some e3 => exs C wf b e3 | none => Rs.no) = st at w
  split at w
  · rename_i ds e1 he
    rw [he]
    intro J F' H' S' Us s' sl hJ
    split at w
    · rename_i e2 hlk
      obtain ⟨S1, L1, lk⟩ := lks_ir s' sl hlk
      have hJ := hJ (fun x => ∃ i, S1 i x) fun x ⟨j, z⟩ => ⟨j, fun hj => lk.emp j hj x z, lk.sub j x z⟩
      let EB := snapE H' F' S1 (E.fix ++ slF σ (slotI it))
      have b0 : Sx K EB F' H' S1 L1 σ e2 [] := lk.s1.snap fun p hp => by
        rcases List.mem_append.mp hp with z | z
        · exact lk.s1.fx p z
        · exact (slF_of z).2
      have bx : ∀ p ∈ EB.fix, p.1 ∉ tgSl tg ++ wrSs b := fun p hp => by
        rcases List.mem_append.mp hp with z | z
        · exact hx p z
        · exact hd p.1 (slF_of z).1
      -- out of the loop
      have out : ∀ {F2 : As} {H2 : Hp} {S2 : Nat → As} {σ2 : L2.St} {env2 : En} {Vs : List Tp}, Sx K EB F2 H2 S2 L1 σ2 env2 Vs → ∃ S3, Sx K E F2 H2 S3 L σ2 (backE e1 env2 (slotI it)) (Vs ++ Ts) := fun {F2 H2 S2 σ2 env2 Vs} s2 => by
        have hag : ∀ x, H' x ≠ none → (∀ j, ¬ S1 j x) → H2 x = H' x := fun x hx hn => s2.ag x hx fun ⟨j, z⟩ => hn j z
        have q := lk.s1.back s2 fun p hp => List.mem_append_left _ hp
        obtain ⟨S3, s3⟩ := lk.back q (fun i hi => by
          obtain ⟨o, d, g, _⟩ := sl i hi
          obtain ⟨v, ev, _⟩ := s'.sl i o g
          rw [ev]
          exact s2.fx (i, v) (List.mem_append_right _ (slF_mem hi ev))) hag s2.ff
        exact ⟨S3, s3.sub ((List.Sublist.refl Vs).append (List.sublist_append_right Us Ts))⟩
      refine ⟨fun i m σ2 H2 => m = ds.length - i ∧ i ≤ ds.length ∧ ∃ F2 S2 env2, Sx K EB F2 H2 S2 L1 σ2 env2 [] ∧ Wp (forGo st (ds.drop i) env2) (fun fl e => match fl with
        | .nx => ∀ σ' F' H' S', Sx K E F' H' S' L σ' (backE e1 e (slotI it)) Ts → D.nx σ' H'
        | .rt o => ∀ σ' v F' H' S' T, Sx K E F' H' S' L σ' (backE e1 e (slotI it)) (⟨v, o, T⟩ :: Ts) → D.rt v H') (fun d e => ∀ σ', Xw K xv W E L σ' Ts d (backE e1 e (slotI it))),
        ⟨ds.length, by simp, Nat.zero_le _, F', S1, e2, b0, ?_⟩, ?_⟩
      · rw [List.drop_zero]
        cases hf : forGo st ds e2 with
        | no => rw [hf] at w; exact w.elim
        | exc d e => rw [hf] at w; exact w
        | ok fl e =>
          rw [hf] at w
          cases fl with
          | nx => exact w
          | rt o => exact w
      · rintro i m σ2 H2 ⟨rfl, hi, F2, S2, env2, b2, w2⟩
        by_cases hlt : i < ds.length
        · refine .inr ?_
          obtain ⟨d, hd⟩ : ∃ d, ds[i]? = some d := ⟨ds[i], by simp [hlt]⟩
          obtain ⟨g, y⟩ := hJ.go i F2 H2 d b2.ff b2.ag (fun x hx => (b2.fr x hx).1) hd
          refine ⟨g, _, fun σ' H' z => ⟨ds.length - (i + 1), by omega, z⟩, fun x H3 hy => ?_⟩
          obtain ⟨F3, c1, c2, c3, dv⟩ := y x H3 hy
          have b3 := b2.change c1 c2 c3
          have hdr : ds.drop i = d :: ds.drop (i + 1) := by
            rw [List.drop_eq_getElem_cons hlt]
            congr 1
            have := List.getElem?_eq_getElem hlt
            rw [this] at hd
            exact Option.some.inj hd
          rw [hdr] at w2
          unfold forGo at w2
          have hsd := congrFun (congrFun hst d) env2
          rw [← hsd] at w2
          try dsimp only at w2
          cases ht : tgSet tg d env2 with
          | none => rw [ht] at w2; exact w2.elim
          | some e3 =>
            rw [ht] at w2
            dsimp only at w2
            refine gOf_mono (fun σ3 H4 ⟨eH, S4, s4⟩ => ?_) (tg_ok' b3 dv ht fun p hp z => bx p hp (List.mem_append_left _ z))
            subst eH
            refine ⟨EB, F3, S4, L1, e3, [], s4, fun p hp z => bx p hp (List.mem_append_right _ z), ?_⟩
            cases hb : exs C wf b e3 with
            | no => rw [hb] at w2; exact w2.elim
            | exc dd e =>
              rw [hb] at w2
              intro σ' Fx Hx Sx' c od sx hxv
              obtain ⟨S5, s5⟩ := out sx
              exact w2 σ' Fx Hx S5 c od s5 hxv
            | ok fl e =>
              rw [hb] at w2
              cases fl with
              | nx => exact fun σ' F' H' S' s' => ⟨rfl, by omega, F', S', e, s', w2⟩
              | rt o =>
                intro σ' v Fx Hx Sx' T sx
                obtain ⟨S5, s5⟩ := out sx
                exact w2 σ' v Fx Hx S5 T s5
        · have ei : i = ds.length := by omega
          subst ei
          refine .inl ⟨hJ.stop F2 H2 b2.ff b2.ag, ?_⟩
          rw [List.drop_length] at w2
          simp only [forGo] at w2
          obtain ⟨S5, s5⟩ := out b2
          exact w2 σ2 F2 H2 S5 s5
    · exact w.elim
  · rename_i d e1 he
    rw [he]
    exact w σ
  · exact w.elim
end
end Pd
set_option Elab.async false
set_option linter.all false
set_option maxRecDepth 100000
set_option maxHeartbeats 4000000
/-! Part 16: defs. Calls are looked at where no object is being shown (repr). -/
namespace Pd
open PySem PySem.Spec PyProof.Rows L2
structure RoomG (k : Nat) (A : Around) : Prop where
  r : Room k A
  g : A.guards = some []
theorem RoomG.mono {j k : Nat} {A : Around} (r : RoomG k A) (h : j ≤ k) : RoomG j A := ⟨r.r.mono h, r.g⟩
/-- what a def keeps, called where nothing is being shown -/
structure FnG (P : Program) (w : World) (K : PySem.W.Frag) (mg : Str → Option Value) (base : Heap) (k : Nat) (f : Addr) (fd : FuncData) (ps : List Str) (sp : Sp) : Prop where
  len : ∀ vs H Q E, sp vs H Q E → vs.length = ps.length
  run : ∀ {A : Around} {outer : List Env} {s : Shared} {H : Hp} {args : Args} {us : List Value} {vs : List V} {Q : VK} {E : XK}, RoomG k A → Env0 P w K mg base A outer s H → BindsTo s fd args (ps.zip us) → Vals vs us → sp vs H Q E →
    codeAny (model P w) A (.call (.ref f) args) (CR (L2.CX P w) outer P w H s Q E) s
section
variable {X : Cx} {k : Nat} {f : Addr} {fd : FuncData} {ps : List Str} {sp : Sp} {x : Str} {p pos : Pos} {e : PySem.Expr} {es : List PySem.Expr} {t : TA} {W : WX}
theorem pe_callG (F : FnG X.prog X.w X.K X.mg X.base k f fd ps sp) (hr : RoomG k X.A) (tk : Takes X W) (hg : Gl X x) (hm : X.mg x = some (.ref f)) (hk : PySem.W.keepIn X.K (.ref f) = true) (hb : Binds X.K fd ps []) (ha : PA X (e :: es) t)
    (hdb : (x == ("__debug__" : Str)) = false) (he : starEach (e :: es) X.env = (false, eval e X.env) :: starEach es X.env) (hpl : (backTo pos (starEach es X.env)).any (·.1) = false) : PE X (.Call (.Name x p) (e :: es) [] pos) (tCallS sp (WE W) t) := by
  refine ⟨fun pins s σ H Q I h => ?_⟩
  refine wpAny_Call_Name_kw (ld_glob I hg hm ?_ hdb)
  refine PySem.W.callWith_K (h₀ := X.base) I.ok.mod.kin hk (thn (ha.run pos pins s σ H _ I h) fun us s1 ⟨vs, H1, I1, r, q⟩ => ⟨I1.kIn, ?_⟩) he hpl
  have b := hb s1 us I1.kIn (by rw [List.append_nil, ← r.length]; exact F.len _ _ _ _ q)
  rw [List.append_nil] at b
  refine wpAny_call (codeAny_mono (F.run hr I1.env0 b r q) fun res s' hq => ?_)
  match res, hq with
  | .error e, hq => exact passAt tk σ pins H1 s1 e s' I1 hq
  | .ok (.ret u), hq => exact I1.after hq
  | .ok .next, hq => exact False.elim hq
  | .ok .brk, hq => exact False.elim hq
  | .ok .cont, hq => exact False.elim hq
end
section
variable {P : Program} {w : World} {K : PySem.W.Frag} {mg : Str → Option Value} {base : Heap}
theorem Fun.okG {x qual : Str} {st : Stmt} {f : Addr} {fd : FuncData} {N ps : List Str} {k : Nat} {sp : Sp} (F : Fun K x qual st f fd) (S : FnScope N ps (defScope st)) (len : ∀ vs H Q E, sp vs H Q E → vs.length = ps.length)
    (hbody : ∀ (cdv : Value) (A : Around) (outer : List Env) (s : Shared) (H : Hp) (vs : List V) (Q : VK) (E : XK), RoomG k (A.deeper (envOfC qual (defScope st) s.heap.objs.size f cdv)) → sp vs H Q E →
      ∃ t, PSs (cxOf (L2.CX P w) P w K mg base N qual (defScope st) f cdv A outer s H E) (defBody st) t ∧ t { nx := fun _ H' => Q .non H', rt := Q } (L2.start N vs) H) : FnG P w K mg base (k + 1) f fd ps sp := by
  obtain ⟨oc, od, kV, doc, pm, an, cdv, ct, osl, rfl, lk, hcd⟩ := F.ex
  refine ⟨len, fun {A outer s H args us vs Q E} hr e0 hb r hsp => ?_⟩
  have hl := len _ _ _ _ hsp
  have KX : K.In s.heap := e0.mod.kin.keeps fun b o e => (e0.bs b o e).1
  have lim : s.heap.NoLimit := e0.mod.nolimit.keeps fun b o e => (e0.bs b o e).1
  refine codeAny_call_function hr.r.depth (KX _ _ lk) rfl S.co S.gen rfl (PySem.W.codeRec_of KX hcd) (hb _ _ _ _ ?_)
  refine wpAny_newFunctionEnv_cells S.kind (fun ⟨n, v⟩ hy => (S.par n (List.of_mem_zip hy).1).imp id fun q => ⟨q, PySem.W.cellsFrom_some _ _ _ (.inl q)⟩) fun env he s1 xc => ?_
  subst he
  refine ⟨lim.keeps xc.toInCall.keep, codeAny_func ?_⟩
  obtain ⟨t, ht, hq⟩ := hbody cdv A outer s H vs Q E ⟨hr.r.deeper _, hr.g⟩ hsp
  refine wpAny_mono (ht.run [] s1 (L2.start N vs) H _ (inv_start S hr.r.hd e0 hl r xc) hq) (fun fl s' hs => ?_) fun e s' hs => hs
  match fl, hs with
  | .ret u, ⟨v, σ', H', J, rv, q⟩ => exact ⟨v, H', J.os, J.bare, J.base, J.hok, rv, q⟩
  | .next, ⟨σ', H', J, q⟩ => exact ⟨V.non, H', J.os, J.bare, J.base, J.hok, (rfl : RelV V.non Value.none), q⟩
  | .brk, ⟨_, _, _, q⟩ => exact False.elim q
  | .cont, ⟨_, _, _, q⟩ => exact False.elim q
end

/-! ### a def by its data -/
section
variable {K : PySem.W.Frag} {E : En0} {F F' : As} {H H' : Hp} {S S' : Nat → As} {L L' : Nat → As} {σ : L2.St} {env : En} {Ts : List Tp}
theorem Sx.startN {n : Nat} {fix : List (Nat × V)} (h : Sx K E F H S L σ env Ts) (hf : ∀ p ∈ fix, σ[p.1]? = some (some p.2)) : Sx K ⟨E.H, E.F, E.P, fix⟩ F H S L (σ ++ List.replicate n none) (env ++ List.replicate n none) Ts := by
  refine ⟨by simp [h.len], fun i o e => ?_, h.tm, h.dS, h.dT, h.dST, fun i x q => ⟨(h.oS i x q).tr, (h.oS i x q).nf, (h.oS i x q).nl, (h.oS i x q).or⟩, fun t ht x q => ⟨(h.oT t ht x q).tr, (h.oT t ht x q).nf, (h.oT t ht x q).nl, (h.oT t ht x q).or⟩, h.fr, h.ff, h.lt, h.ag, h.tk, fun p hp => ?_⟩
  · have e0 := getE_some e
    by_cases hi : i < env.length
    · rw [List.getElem?_append_left hi] at e0
      obtain ⟨v, e1, e2⟩ := h.sl i o (getE_of e0)
      exact ⟨v, by rw [List.getElem?_append_left (by rw [← h.len]; exact hi)]; exact e1, e2⟩
    · rw [List.getElem?_append_right (by omega), List.getElem?_replicate] at e0
      split at e0 <;> cases e0
  · have e := hf p hp
    rw [List.getElem?_append_left (List.getElem?_eq_some_iff.mp e).1]
    exact e
theorem outsOf_len (env : En) : ∀ (ms : List Md) (i : Nat), (outsOf env ms i).length = ms.length
  | [], _ => rfl
  | .mu :: ms, i => by simp [outsOf, outsOf_len env ms]
  | .sh :: ms, i => by simp [outsOf, outsOf_len env ms]
theorem outsOf_get {env : En} {o : Ow} : ∀ {ms : List Md} {i k : Nat}, (outsOf env ms i)[k]? = some (some o) → ms[k]? = some Md.mu ∧ getE env (i + k) = some o
  | [], i, k, h => by simp [outsOf] at h
  | .mu :: ms, i, 0, h => by
    simp [outsOf] at h
    refine ⟨rfl, ?_⟩
    cases q : env[i]? with
    | none => rw [q] at h; cases h
    | some z =>
      rw [q] at h
      exact getE_of (by rw [Nat.add_zero, q]; exact congrArg some h)
  | .sh :: ms, i, 0, h => by simp [outsOf] at h
  | .mu :: ms, i, k + 1, h => by
    obtain ⟨h1, h2⟩ := outsOf_get (ms := ms) (i := i + 1) (k := k) (by simpa [outsOf] using h)
    exact ⟨by simpa using h1, by rw [← h2]; congr 1; omega⟩
  | .sh :: ms, i, k + 1, h => by
    obtain ⟨h1, h2⟩ := outsOf_get (ms := ms) (i := i + 1) (k := k) (by simpa [outsOf] using h)
    exact ⟨by simpa using h1, by rw [← h2]; congr 1; omega⟩
theorem Sx.cut {ms : List Md} {vs : List V} (h : Sx K E F H S L σ env Ts) (hl : ms.length = vs.length) (hf : ∀ (k : Nat) (v : V), ms[k]? = some Md.mu → vs[k]? = some v → σ[k]? = some (some v)) :
    Sx K ⟨E.H, E.F, E.P, []⟩ F H (fun k x => ms[k]? = some Md.mu ∧ S k x) L (vs.map some) (outsOf env ms 0) Ts := by
  refine ⟨by simp [outsOf_len, hl], fun k o e => ?_, h.tm, fun i j x a b => h.dS i j x a.2 b.2, h.dT, fun t ht i x a b => h.dST t ht i x a b.2, fun i x q => ⟨(h.oS i x q.2).tr, (h.oS i x q.2).nf, (h.oS i x q.2).nl, (h.oS i x q.2).or⟩, fun t ht x q => ⟨(h.oT t ht x q).tr, (h.oT t ht x q).nf, (h.oT t ht x q).nl, (h.oT t ht x q).or⟩, h.fr, h.ff, h.lt, h.ag, h.tk, fun _ hp => (nomatch hp)⟩
  obtain ⟨h1, h2⟩ := outsOf_get (getE_some e)
  rw [Nat.zero_add] at h2
  obtain ⟨v, e1, e2⟩ := h.sl k o h2
  have hk : k < vs.length := by rw [← hl]; exact (List.getElem?_eq_some_iff.mp h1).1
  have ev : vs[k]? = some vs[k] := List.getElem?_eq_getElem hk
  have := hf k _ h1 ev
  rw [this] at e1
  cases e1
  refine ⟨vs[k], by rw [List.getElem?_map, ev]; rfl, ?_⟩
  have es : (fun x => ms[k]? = some Md.mu ∧ S k x) = S k := by
    funext x
    exact propext ⟨fun z => z.2, fun z => ⟨h1, z⟩⟩
  rw [es]
  exact e2
end
/-- the parameters that must keep their object -/
def muFix (ms : List Md) (vs : List V) : List (Nat × V) := (List.range ms.length).filterMap fun k => match ms[k]?, vs[k]? with | some Md.mu, some v => some (k, v) | _, _ => none
theorem muFix_of {ms : List Md} {vs : List V} {p : Nat × V} (h : p ∈ muFix ms vs) : ms[p.1]? = some Md.mu ∧ vs[p.1]? = some p.2 := by
  obtain ⟨k, _, e⟩ := List.mem_filterMap.mp h
  split at e
  · rename_i h1 h2
    cases e
    exact ⟨h1, h2⟩
  · cases e
theorem muFix_mem {ms : List Md} {vs : List V} {k : Nat} {v : V} (h1 : ms[k]? = some Md.mu) (h2 : vs[k]? = some v) : (k, v) ∈ muFix ms vs :=
  List.mem_filterMap.mpr ⟨k, List.mem_range.mpr (List.getElem?_eq_some_iff.mp h1).1, by rw [h1, h2]⟩
/-- no stored slot is a lent parameter's -/
def muOk (ms : List Md) (ws : List Nat) : Bool := ws.all fun k => match ms[k]? with | some Md.mu => false | _ => true
theorem body_of {K : PySem.W.Frag} {xv : Xv} {C : Cl} {wf : Nat} {g : Fn} {N : List Str} {vs : List V} {H : Hp} {Q : VK} {X : XK} (hN : N.length = g.ns) (hm : g.md.length = g.np) (hle : g.np ≤ g.ns) (hw : muOk g.md (wrSs g.body) = true)
    (h : spF K xv g.np (runFn C wf g) vs H Q X) : RdC K xv (fun c od _ H' => X c od H') (wrSs g.body) (exs C wf g.body) { nx := fun _ H' => Q .non H', rt := Q } (L2.start N vs) H := by
  obtain ⟨hv, F, Sc, as, s, w⟩ := h
  have hal : as.length = g.np := by
    have := s.len
    simp at this
    omega
  unfold runFn at w
  rw [if_pos hal] at w
  have s1 := s.startN (n := g.ns - g.np) (fix := muFix g.md vs) fun p hp => by
    obtain ⟨_, h2⟩ := muFix_of hp
    rw [List.getElem?_map, h2]; rfl
  have e1 : vs.map some ++ List.replicate (g.ns - g.np) none = L2.start N vs := by
    unfold L2.start
    rw [hN, hv]
  rw [e1] at s1
  refine ⟨_, F, Sc, _, _, [], s1, fun p hp z => ?_, ?_⟩
  · obtain ⟨h1, _⟩ := muFix_of hp
    have := List.all_eq_true.mp hw p.1 z
    rw [h1] at this
    cases this
  · have cut : ∀ {F' : As} {H' : Hp} {S' : Nat → As} {σ' : L2.St} {env' : En} {Ts : List Tp}, Sx K (snapE H F Sc (muFix g.md vs)) F' H' S' (fun _ => noA) σ' env' Ts → ∃ S2, Sx K (snapE H F Sc []) F' H' S2 (fun _ => noA) (vs.map some) (outsOf env' g.md 0) Ts := fun {F' H' S' σ' env' Ts} s' =>
      ⟨_, s'.cut (by rw [hm, hv]) fun k v h1 h2 => s'.fx (k, v) (muFix_mem h1 h2)⟩
    cases hb : exs C wf g.body (as.map some ++ List.replicate (g.ns - g.np) none) with
    | no => rw [hb] at w; exact w.elim
    | exc d e =>
      rw [hb] at w
      intro σ' F' H' S' c od s' hxv
      obtain ⟨S2, s2⟩ := cut s'
      exact w c od F' H' S2 s2 hxv
    | ok fl e =>
      rw [hb] at w
      cases fl with
      | nx =>
        intro σ' F' H' S' s'
        obtain ⟨S2, s2⟩ := cut s'
        exact w .non F' H' S2 _ (s2.pushI .non)
      | rt o =>
        intro σ' v F' H' S' T s'
        obtain ⟨S2, s2⟩ := cut s'
        exact w v F' H' S2 T s2
end Pd
set_option Elab.async false
set_option linter.all false
set_option maxRecDepth 100000
set_option maxHeartbeats 4000000
/-! Part 17: from the text to the language: expressions. -/
namespace Pd
open PySem PySem.Spec PyProof.Rows L2
/-- what is known of a place in the text -/
structure Ct where
  N : List Str
  sc : Scope
  fn : Str → Bool
  rc : List Nat
  gl : List (Str × Nat)
  cs : List (Str × Dt)
def ixS (x : Str) : List Str → Nat → Option Nat
  | [], _ => none
  | y :: r, i => if y = x then some i else ixS x r (i + 1)
def Ct.slot (c : Ct) (x : Str) : Option Nat := match c.sc.names.lookup x with
  | some .local => ixS x c.N 0
  | some .cell => ixS x c.N 0
  | some .free => ixS x c.N 0
  | _ => none
def Ct.sto (c : Ct) (x : Str) : Option Nat := match c.sc.names.lookup x with
  | some .local => ixS x c.N 0
  | some .cell => if c.fn x then ixS x c.N 0 else none
  | _ => none
def Ct.isGl (c : Ct) (x : Str) : Bool := match c.sc.names.lookup x with
  | some .globalImplicit => true
  | _ => false
/-- the built-in names -/
inductive Bt where
  | len | abs | max | min | int | str | repr | tuple | list | sorted | sum | any | all | range | enumerate | zip
  deriving DecidableEq
def Bt.nm : Bt → Str
  | .len => "len" | .abs => "abs" | .max => "max" | .min => "min" | .int => "int" | .str => "str" | .repr => "repr" | .tuple => "tuple" | .list => "list" | .sorted => "sorted" | .sum => "sum" | .any => "any" | .all => "all" | .range => "range" | .enumerate => "enumerate" | .zip => "zip"
def Bt.every : List Bt := [.len, .int, .range, .tuple, .list, .repr, .max, .min, .enumerate, .sorted, .sum, .all, .any, .abs, .zip, .str]
def bOf (x : Str) : Option Bt := Bt.every.find? fun b => decide (b.nm = x)
theorem bOf_nm {x : Str} {b : Bt} (h : bOf x = some b) : x = b.nm := by
  have := List.find?_some h
  exact (of_decide_eq_true this).symm
/-- how a pure built-in is called with so many arguments -/
def Bt.pr : Bt → Nat → Option Pr
  | .len, 1 => some .len
  | .abs, 1 => some .abs
  | .max, 2 => some .max2
  | .min, 2 => some .min2
  | .max, 1 => some .maxL
  | .min, 1 => some .minL
  | .int, 1 => some .int
  | .str, 1 => some .str
  | .repr, 1 => some .repr
  | .tuple, 1 => some .tuple
  | .list, 1 => some .list
  | .sorted, 1 => some .sorted
  | .sum, 1 => some .sum
  | .any, 1 => some .any
  | .all, 1 => some .all
  | _, _ => none
def noStar : PySem.Expr → Bool
  | .Starred _ _ => false
  | _ => true
def binP : Operator → Option Pr
  | .Add => some .add
  | .Sub => some .sub
  | .Mult => some .mul
  | .FloorDiv => some .fdiv
  | .Mod => some .mod
  | .Pow => some .pow
  | _ => none
def cmpP : CmpOp → Option Pr
  | .Eq => some .eq
  | .NotEq => some .ne
  | .Lt => some .lt
  | .LtE => some .le
  | .Gt => some .gt
  | .GtE => some .ge
  | .In => some .isIn
  | .NotIn => some .notIn
  | _ => none
def isSet : PySem.Expr → Bool
  | .Set _ _ _ => true
  | _ => false
def isSlice : PySem.Expr → Bool
  | .Slice _ _ _ _ => true
  | _ => false

/-! ### the places -/
theorem ixS_ok {x : Str} : ∀ {N : List Str} {k i : Nat}, ixS x N k = some i → k ≤ i ∧ N[i - k]? = some x
  | [], k, i, h => by simp [ixS] at h
  | y :: r, k, i, h => by
    unfold ixS at h
    split at h
    · rename_i e
      cases h
      exact ⟨Nat.le_refl _, by simp [e]⟩
    · obtain ⟨h1, h2⟩ := ixS_ok h
      refine ⟨by omega, ?_⟩
      have : i - k = (i - (k + 1)) + 1 := by omega
      rw [this]
      simpa using h2
structure OkX (X : Cx) (c : Ct) (xv : Xv) (W : WX) (C : Cl) (n : Nat) : Prop where
  N : X.N = c.N
  nd : c.N.Nodup
  nn : ∀ x ∈ c.N, (x == ("__debug__" : Str)) = false ∧ (x == ("__classdict__" : Str)) = false
  sc : X.env.scope = c.sc
  kind : c.sc.kind = .function
  fn : X.fn = c.fn
  calm : X.calm = true
  room : RoomG n X.A
  tk : Takes X W
  bt : ∀ b : Bt, X.mg b.nm = none
  gl : ∀ x f, c.gl.lookup x = some f → (x == ("__debug__" : Str)) = false ∧ ∃ a fd ps, X.mg x = some (.ref a) ∧ PySem.W.keepIn X.K (.ref a) = true ∧ FnG X.prog X.w X.K X.mg X.base n a fd ps (spF X.K xv (C.md f).length (C.fn f)) ∧ Binds X.K fd ps []
  cs : ∀ x d, c.cs.lookup x = some d → (x == ("__debug__" : Str)) = false ∧ ∃ u v, X.mg x = some u ∧ RelV v u ∧ ∀ F H, DV X.K F H v d
section
variable {X : Cx} {c : Ct} {xv : Xv} {W : WX} {C : Cl} {n : Nat}
theorem OkX.slot (o : OkX X c xv W C n) {x : Str} {i : Nat} {pos : Pos} (h : c.slot x = some i) : PE X (.Name x pos) (tVar i) := by
  have q : ixS x c.N 0 = some i ∧ Vis X.env.scope x := by
    unfold Ct.slot at h
    rw [← o.sc] at h
    split at h
    · rename_i e; exact ⟨h, .inl e⟩
    · rename_i e; exact ⟨h, .inr (.inl e)⟩
    · rename_i e; exact ⟨h, .inr (.inr e)⟩
    · cases h
  obtain ⟨_, h2⟩ := ixS_ok q.1
  have hm := List.mem_of_getElem? h2
  exact pe_var (by rw [o.N]; exact h2) q.2 (o.nn x hm).1 (o.nn x hm).2
theorem OkX.sto (o : OkX X c xv W C n) {x : Str} {i : Nat} (h : c.sto x = some i) : X.N[i]? = some x ∧ Loc X.env.scope x ∧ (X.fn x = true ∨ X.env.scope.names.lookup x = some .local) := by
  unfold Ct.sto at h
  rw [← o.sc] at h
  have fin : ixS x c.N 0 = some i → X.N[i]? = some x := fun h => by
    obtain ⟨_, h2⟩ := ixS_ok h
    rw [o.N]; exact h2
  split at h
  · rename_i e; exact ⟨fin h, .inl e, .inr e⟩
  · rename_i e
    split at h
    · rename_i hf; exact ⟨fin h, .inr e, .inl (by rw [o.fn]; exact hf)⟩
    · cases h
  · cases h
theorem OkX.isGl (o : OkX X c xv W C n) {x : Str} (h : c.isGl x = true) : Gl X x := by
  unfold Ct.isGl at h
  show X.env.scope.names.lookup x = _
  rw [o.sc]
  split at h
  · assumption
  · cases h
theorem OkX.ndX (o : OkX X c xv W C n) : X.N.Nodup := by rw [o.N]; exact o.nd
theorem star_cons {e : PySem.Expr} {es : List PySem.Expr} {env : Env} (h : noStar e = true) : starEach (e :: es) env = (false, eval e env) :: starEach es env := by
  cases e <;> first | rfl | cases h
theorem star_plain {env : Env} {pos : Pos} : ∀ {es : List PySem.Expr}, es.all noStar = true → (backTo pos (starEach es env)).any (·.1) = false
  | [], _ => rfl
  | e :: es, h => by
    rw [List.all_cons, Bool.and_eq_true] at h
    rw [star_cons h.1]
    show (false || (backTo pos (starEach es env)).any (·.1)) = false
    rw [Bool.false_or]
    exact star_plain h.2

/-! ### soundness of the pieces -/
abbrev SE (X : Cx) (xv : Xv) (W : WX) (C : Cl) (e : PySem.Expr) (x : Ex) : Prop := PE X e (RdE X.K xv W (ev C x))
abbrev SO (X : Cx) (xv : Xv) (W : WX) (C : Cl) (e : PySem.Expr) (o : Op) : Prop := PE X e (RdP X.K xv W (evp C o))
abbrev SA (X : Cx) (xv : Xv) (W : WX) (C : Cl) (es : List PySem.Expr) (os : Ops) : Prop := PA X es (RdA X.K xv W (evo C os))
abbrev SS (X : Cx) (xv : Xv) (W : WX) (C : Cl) (es : List PySem.Expr) (xs : Exs) : Prop := PA X es (RdS X.K xv W (evs C xs))
abbrev SW (X : Cx) (xv : Xv) (W : WX) (C : Cl) (es : List PySem.Expr) (xs : Exs) : Prop := PA X es (RdW X.K xv W (evw C xs))
abbrev ST (X : Cx) (xv : Xv) (W : WX) (C : Cl) (e : PySem.Expr) (t : Te) : Prop := PT X e (RdB X.K xv W (evt C t))
theorem so_v (o : OkX X c xv W C n) {x : Str} {i : Nat} {pos : Pos} (h : c.slot x = some i) : SO X xv W C (.Name x pos) (.v i) := (o.slot h).imp fun _ _ _ h => rdp_slot h
theorem so_e {e : PySem.Expr} {x : Ex} (h : SE X xv W C e x) : SO X xv W C e (.e x) := h.imp fun _ _ _ h => rdp_ex h
theorem sa_nil : SA X xv W C [] .nil := pa_nil.imp fun _ _ _ h => rda_nil h
theorem sa_cons {e : PySem.Expr} {es : List PySem.Expr} {o : Op} {os : Ops} (hn : noStar e = true) (h : SO X xv W C e o) (hs : SA X xv W C es os) : SA X xv W C (e :: es) (.cons o os) := (pa_cons h hs (star_cons hn)).imp fun _ _ _ h => rda_cons h
theorem ss_nil : SS X xv W C [] .nil := pa_nil.imp fun _ _ _ h => rds_nil h
theorem ss_cons {e : PySem.Expr} {es : List PySem.Expr} {x : Ex} {xs : Exs} (hn : noStar e = true) (h : SE X xv W C e x) (hs : SS X xv W C es xs) : SS X xv W C (e :: es) (.cons x xs) := (pa_cons h hs (star_cons hn)).imp fun _ _ _ h => rds_cons h
theorem ss_star {e : PySem.Expr} {es : List PySem.Expr} {o : Op} {xs : Exs} {p : Pos} (h : SO X xv W C e o) (hs : SS X xv W C es xs) : SS X xv W C (.Starred e p :: es) (.star o xs) := (StX.pa_star h hs rfl).imp fun _ _ _ h => rds_star h
theorem sw_nil : SW X xv W C [] .nil := pa_nil.imp fun _ _ _ h => rdw_nil h
theorem sw_cons {e : PySem.Expr} {es : List PySem.Expr} {x : Ex} {xs : Exs} (hn : noStar e = true) (h : SE X xv W C e x) (hs : SW X xv W C es xs) : SW X xv W C (e :: es) (.cons x xs) := (pa_cons h hs (star_cons hn)).imp fun _ _ _ h => rdw_cons h
section
variable {K : PySem.W.Frag} {σ : L2.St} {H : Hp} {Q : VK} {q : Pr} {o p r : Op}
theorem rd_prim1 (h : RdE K xv W (ev C (.pr q (.cons o .nil))) σ H Q) : RdP K xv W (evp C o) σ H fun x H1 => rQ K q [x] H1 Q :=
  RdP.mono (rda_cons (rd_prim h)) fun _ _ z => rda_nil z
theorem rd_prim2 (h : RdE K xv W (ev C (.pr q (.cons o (.cons p .nil)))) σ H Q) : RdP K xv W (evp C o) σ H fun x H1 => RdP K xv W (evp C p) σ H1 fun y H2 => rQ K q [x, y] H2 Q :=
  RdP.mono (rda_cons (rd_prim h)) fun _ _ z => RdP.mono (rda_cons z) fun _ _ z => rda_nil z
theorem rd_prim3 (h : RdE K xv W (ev C (.pr q (.cons o (.cons p (.cons r .nil))))) σ H Q) : RdP K xv W (evp C o) σ H fun x H1 => RdP K xv W (evp C p) σ H1 fun y H2 => RdP K xv W (evp C r) σ H2 fun z H3 => rQ K q [x, y, z] H3 Q :=
  RdP.mono (rda_cons (rd_prim h)) fun _ _ z => RdP.mono (rda_cons z) fun _ _ z => RdP.mono (rda_cons z) fun _ _ z => rda_nil z
end
theorem se_bin (ok : OkX X c xv W C n) {a b : PySem.Expr} {op : Operator} {q : Pr} {o p : Op} {pos : Pos} (hq : binP op = some q) (ha : SO X xv W C a o) (hb : SO X xv W C b p) : SE X xv W C (.BinOp a op b pos) (.pr q (.cons o (.cons p .nil))) := by
  have go : ∀ {r : R2}, OpR X (binaryOp op) r → (∀ x y H Q, rQ X.K q [x, y] H Q → r x y H Q) → SE X xv W C (.BinOp a op b pos) (.pr q (.cons o (.cons p .nil))) := fun hr h =>
    (pe_op hr ha hb).imp fun σ H Q z => RdP.mono (rd_prim2 z) fun _ _ z => RdP.mono z fun _ _ z => h _ _ _ _ z
  cases op <;> cases hq
  · exact go oq_add fun _ _ _ _ z => z
  · exact go oq_sub fun _ _ _ _ z => z
  · exact go oq_mul fun _ _ _ _ z => z
  · exact go oq_mod fun _ _ _ _ z => z
  · exact go oq_pow fun _ _ _ _ z => z
  · exact go oq_fdiv fun _ _ _ _ z => z
theorem se_neg {a : PySem.Expr} {o : Op} {pos : Pos} (ha : SO X xv W C a o) : SE X xv W C (.UnaryOp .USub a pos) (.pr .neg (.cons o .nil)) :=
  (pe_un uq_neg ha).imp fun _ _ _ h => rd_prim1 h
theorem se_not {a : PySem.Expr} {o : Op} {pos : Pos} (ha : SO X xv W C a o) : SE X xv W C (.UnaryOp .Not a pos) (.lnot o) := (pe_notT ha).imp fun _ _ _ h => rd_lnot h
theorem hu_ok (ok : OkX X c xv W C n) : X.A.units + 100 < cLine := by
  have := ok.room.r.un
  omega
theorem se_cmp (ok : OkX X c xv W C n) {a b : PySem.Expr} {op : CmpOp} {q : Pr} {o p : Op} {pos : Pos} (hq : cmpP op = some q) (hs : isSet b = false) (ha : SO X xv W C a o) (hb : SO X xv W C b p) : SE X xv W C (.Compare a [op] [b] pos) (.pr q (.cons o (.cons p .nil))) := by
  have hu := hu_ok ok
  have hm : behindInMarks op b = false := by cases b <;> first | rfl | cases hs
  have go : ∀ {r : R2}, OpR X (compareOp op) r → (∀ x y H Q, rQ X.K q [x, y] H Q → r x y H Q) → SE X xv W C (.Compare a [op] [b] pos) (.pr q (.cons o (.cons p .nil))) := fun hr h =>
    (pe_cmpR hr ha hb hm).imp fun σ H Q z => RdP.mono (rd_prim2 z) fun _ _ z => RdP.mono z fun _ _ z => h _ _ _ _ z
  cases op <;> cases hq
  · exact go (oq_eq (by omega)) fun _ _ _ _ z => z
  · exact go (oq_ne (by omega)) fun _ _ _ _ z => z
  · exact go (oq_lt (by omega)) fun _ _ _ _ z => z
  · exact go oq_le fun _ _ _ _ z => z
  · exact go oq_gt fun _ _ _ _ z => z
  · exact go oq_ge fun _ _ _ _ z => z
  · exact go (oq_in (by omega)) fun _ _ _ _ z => z
  · exact go (oq_notIn (by omega)) fun _ _ _ _ z => z
theorem se_isN {a : PySem.Expr} {o : Op} {k : Nat} {p pos : Pos} (ha : SO X xv W C a o) : SE X xv W C (.Compare a [.Is] [.Constant .none k p] pos) (.pr .isN (.cons o .nil)) :=
  (pe_cmpR oq_isN ha pe_non rfl).imp fun σ H Q z => RdP.mono (rd_prim1 z) fun _ _ z => ⟨rfl, z⟩
theorem se_notN {a : PySem.Expr} {o : Op} {k : Nat} {p pos : Pos} (ha : SO X xv W C a o) : SE X xv W C (.Compare a [.IsNot] [.Constant .none k p] pos) (.pr .notN (.cons o .nil)) :=
  (pe_cmpR oq_notN ha pe_non rfl).imp fun σ H Q z => RdP.mono (rd_prim1 z) fun _ _ z => ⟨rfl, z⟩
theorem se_isB {a : PySem.Expr} {o : Op} {b : Bool} {k : Nat} {p pos : Pos} (ha : SO X xv W C a o) : SE X xv W C (.Compare a [.Is] [.Constant (.bool b) k p] pos) (.pr (.isB b) (.cons o .nil)) :=
  (pe_cmpR oq_isB ha pe_bl rfl).imp fun σ H Q z => RdP.mono (rd_prim1 z) fun _ _ z => ⟨rfl, z⟩
theorem plain_ix {i : PySem.Expr} (h : isSlice i = false) : PlainIx i := fun o v => by cases i <;> first | rfl | cases h
theorem se_ix (ok : OkX X c xv W C n) {a b : PySem.Expr} {o p : Op} {pos : Pos} (hs : isSlice b = false) (ha : SO X xv W C a o) (hb : SO X xv W C b p) : SE X xv W C (.Subscript a b pos) (.pr .ix (.cons o (.cons p .nil))) := by
  have hu := hu_ok ok
  exact (pe_ix (iq_ix (by omega)) ha hb (plain_ix hs)).imp fun σ H Q z => RdP.mono (rd_prim2 z) fun _ _ z => RdP.mono z fun _ _ z => z
theorem se_fld (ok : OkX X c xv W C n) {x f : Str} {i k : Nat} {p1 p2 pos : Pos} (hi : c.slot x = some i) : SE X xv W C (.Subscript (.Name x p1) (.Constant (.str f) k p2) pos) (.fld i f) := by
  have hu := hu_ok ok
  exact (pe_dget (by omega) (ok.slot hi) pe_str (fun _ _ => rfl)).imp fun σ H Q z => rd_fld z
end
end Pd
set_option Elab.async false
set_option linter.all false
set_option maxRecDepth 100000
set_option maxHeartbeats 4000000
/-! Part 18: expressions, second part. -/
namespace Pd
open PySem PySem.Spec PyProof.Rows L2
section
variable {X : Cx} {c : Ct} {xv : Xv} {W : WX} {C : Cl} {n : Nat}
theorem se_blt (ok : OkX X c xv W C n) {x : Str} {b : Bt} {es : List PySem.Expr} {os : Ops} {q : Pr} {p pos : Pos} (hb : bOf x = some b) (hg : c.isGl x = true) (hq : b.pr es.length = some q) (hn : es.all noStar = true) (ha : SA X xv W C es os) : SE X xv W C (.Call (.Name x p) es [] pos) (.pr q os) := by
  have hx := bOf_nm hb
  have g := ok.isGl hg
  have m := ok.bt b
  have hu := hu_ok ok
  have hc := ok.calm
  rw [hx] at g ⊢
  cases es with
  | nil => cases b <;> simp [Bt.pr] at hq
  | cons e es =>
    have hn' := hn
    rw [List.all_cons, Bool.and_eq_true] at hn'
    have he := star_cons (env := X.env) (es := es) hn'.1
    have hp := star_plain (env := X.env) (pos := pos) hn'.2
    have goB : ∀ {id : String} {q : Pr}, CallR X (.builtin id) (rQ X.K q) → Gl X b.nm → X.mg b.nm = none → bootBuiltins b.nm = some (.builtin id) → b.nm ≠ "__name__" → (b.nm == ("__debug__" : Str)) = false → SE X xv W C (.Call (.Name b.nm p) (e :: es) [] pos) (.pr q os) := fun hr g m hv h1 h2 =>
      (pe_callB hr g m hv ha h1 h2 he hp).imp fun σ H Q z => rd_prim z
    have goT : ∀ {id : String} {q : Pr}, CallR X (.type id) (rQ X.K q) → Gl X b.nm → X.mg b.nm = none → bootBuiltins b.nm = some (.type id) → b.nm ≠ "__name__" → (b.nm == ("__debug__" : Str)) = false → SE X xv W C (.Call (.Name b.nm p) (e :: es) [] pos) (.pr q os) := fun hr g m hv h1 h2 =>
      (pe_callTy hr g m hv ha h1 h2 he hp).imp fun σ H Q z => rd_prim z
    have hg1 := ok.room.g
    cases b <;> (rcases es with _ | ⟨e2, _ | ⟨e3, es⟩⟩ <;> simp [Bt.pr] at hq) <;> subst hq
    · exact goB cq_len g m (by decide +kernel) (by decide +kernel) (by decide +kernel)
    · exact goB cq_abs g m (by decide +kernel) (by decide +kernel) (by decide +kernel)
    · exact goB (cq_maxL hc) g m (by decide +kernel) (by decide +kernel) (by decide +kernel)
    · exact goB (cq_max2 hc) g m (by decide +kernel) (by decide +kernel) (by decide +kernel)
    · exact goB (cq_minL hc) g m (by decide +kernel) (by decide +kernel) (by decide +kernel)
    · exact goB (cq_min2 hc) g m (by decide +kernel) (by decide +kernel) (by decide +kernel)
    · exact goT cq_int g m (by decide +kernel) (by decide +kernel) (by decide +kernel)
    · exact goT cq_str g m (by decide +kernel) (by decide +kernel) (by decide +kernel)
    · exact goB (cq_repr hg1 (by omega)) g m (by decide +kernel) (by decide +kernel) (by decide +kernel)
    · exact goT cq_tuple g m (by decide +kernel) (by decide +kernel) (by decide +kernel)
    · exact goT cq_list g m (by decide +kernel) (by decide +kernel) (by decide +kernel)
    · exact goB cq_sorted g m (by decide +kernel) (by decide +kernel) (by decide +kernel)
    · exact goB (cq_sum hc) g m (by decide +kernel) (by decide +kernel) (by decide +kernel)
    · exact goB (cq_any hc) g m (by decide +kernel) (by decide +kernel) (by decide +kernel)
    · exact goB (cq_all hc) g m (by decide +kernel) (by decide +kernel) (by decide +kernel)
theorem se_call (ok : OkX X c xv W C n) {x : Str} {f : Nat} {es : List PySem.Expr} {os : Ops} {p pos : Pos} (hf : c.gl.lookup x = some f) (hg : c.isGl x = true) (hz : es ≠ []) (hn : es.all noStar = true) (ha : SA X xv W C es os) : SE X xv W C (.Call (.Name x p) es [] pos) (.call f os) := by
  obtain ⟨hd, a, fd, ps, m, hk, F, hb⟩ := ok.gl x f hf
  cases es with
  | nil => exact absurd rfl hz
  | cons e es =>
    have hn' := hn
    rw [List.all_cons, Bool.and_eq_true] at hn'
    exact (pe_callG F ok.room ok.tk (ok.isGl hg) m hk hb ha hd (star_cons hn'.1) (star_plain hn'.2)).imp fun σ H Q z => rd_call rfl z
/-! slices -/
section
variable {K : PySem.W.Frag} {σ : L2.St} {H : Hp} {Q : VK} {o p r : Op}
theorem cut_ok {d : Dt} {lo hi : Option Int} {y : Ow1} {bl bh : Bool} {ds : List Dt} (hs : (Pr.cut bl bh).sem (d :: ds) = some y) (hd : ds = (lo.map Dt.int).toList ++ (hi.map Dt.int).toList) (hl : lo.isSome = bl) (hh : hi.isSome = bh) : cutS d lo hi = some y := by
  subst hd
  cases lo <;> cases hi <;> (simp at hl hh) <;> subst hl <;> subst hh <;> (cases d <;> simp [Pr.sem, i1] at hs) <;> (try subst hs)
  all_goals simp [cutS, i1, cutD, cutN]
end
theorem se_cutN {a : PySem.Expr} {o : Op} {p2 pos : Pos} (ha : SO X xv W C a o) : SE X xv W C (.Subscript a (.Slice none none none p2) pos) (.pr (.cut false false) (.cons o .nil)) :=
  (pe_slice sq_cut ha po_none po_none).imp fun σ H Q z => RdP.mono (rd_prim1 z) fun x H1 ⟨F, ds, y, hF, hv, hs, rn⟩ => by
    obtain ⟨d, rfl, hd⟩ := bvs_of1 hv
    exact ⟨F, d, y, hF, hd, cut_ok (lo := none) (hi := none) hs rfl rfl rfl, rn⟩
theorem cut_int1 {d e : Dt} {y : Ow1} {bl bh : Bool} (h : (Pr.cut bl bh).sem [d, e] = some y) : ∃ i, e = .int i := by
  cases bl <;> cases bh <;> cases d <;> cases e <;> simp [Pr.sem] at h <;> exact ⟨_, rfl⟩
theorem se_cutL {a l : PySem.Expr} {o p : Op} {p2 pos : Pos} (ha : SO X xv W C a o) (hl : SO X xv W C l p) : SE X xv W C (.Subscript a (.Slice (some l) none none p2) pos) (.pr (.cut true false) (.cons o (.cons p .nil))) :=
  (pe_slice sq_cut ha (po_some hl) po_none).imp fun σ H Q z => RdP.mono (rd_prim2 z) fun x H1 z => RdP.mono z fun w H2 ⟨F, ds, y, hF, hv, hs, rn⟩ => by
    obtain ⟨d, e, rfl, hd, he⟩ := bvs_of2 hv
    obtain ⟨i, rfl⟩ := cut_int1 hs
    exact ⟨i, bv_int he, F, d, y, hF, hd, cut_ok (lo := some i) (hi := none) hs rfl rfl rfl, rn⟩
theorem se_cutH {a l : PySem.Expr} {o p : Op} {p2 pos : Pos} (ha : SO X xv W C a o) (hl : SO X xv W C l p) : SE X xv W C (.Subscript a (.Slice none (some l) none p2) pos) (.pr (.cut false true) (.cons o (.cons p .nil))) :=
  (pe_slice sq_cut ha po_none (po_some hl)).imp fun σ H Q z => RdP.mono (rd_prim2 z) fun x H1 z => RdP.mono z fun w H2 ⟨F, ds, y, hF, hv, hs, rn⟩ => by
    obtain ⟨d, e, rfl, hd, he⟩ := bvs_of2 hv
    obtain ⟨i, rfl⟩ := cut_int1 hs
    exact ⟨i, bv_int he, F, d, y, hF, hd, cut_ok (lo := none) (hi := some i) hs rfl rfl rfl, rn⟩
/-! lists -/
theorem se_rev {a : PySem.Expr} {o : Op} {k : Nat} {p1 p2 p3 pos : Pos} (ha : SO X xv W C a o) : SE X xv W C (.Subscript a (.Slice none none (some (.UnaryOp .USub (.Constant (.int 1) k p1) p2)) p3) pos) (.pr .rev (.cons o .nil)) :=
  (pe_revL ha).imp fun σ H Q z => RdP.mono (rd_prim1 z) fun x H1 ⟨F, ds, y, hF, hv, hs, rn⟩ => by
    obtain ⟨d, rfl, hd⟩ := bvs_of1 hv
    cases d <;> simp [Pr.sem] at hs
    subst hs
    obtain ⟨a, vs, rfl, ha, hvs⟩ := hd
    exact ⟨a, vs, rfl, .of ha, fun p hp => rn.newL hF hp hvs.rev⟩
theorem se_lrng (ok : OkX X c xv W C n) {a : PySem.Expr} {o : Op} {p q pos pos2 : Pos} (hl : c.isGl "list" = true) (hr : c.isGl "range" = true) (hn : noStar a = true) (ha : SO X xv W C a o) : SE X xv W C (.Call (.Name "list" p) [.Call (.Name "range" q) [a] [] pos2] [] pos) (.pr .lrng (.cons o .nil)) :=
  (pe_listRg ok.calm (ok.isGl hl) (ok.bt .list) (prg_1 (ok.isGl hr) (ok.bt .range) ha (star_cons hn)) rfl).imp fun σ H Q z => RdP.mono (rd_prim1 z) fun x H1 ⟨F, ds, y, hF, hv, hs, rn⟩ => by
    obtain ⟨d, rfl, hd⟩ := bvs_of1 hv
    cases d <;> simp [Pr.sem] at hs
    rename_i i
    obtain ⟨hi, hs⟩ := hs
    subst hs
    have e := bv_int hd
    refine ⟨i, e, ?_, fun p hp => ?_⟩
    · exact RgOk.of_le (by omega) hi.2 (by omega) hi.1
    · have : DVs X.K F H1 (rgV 0 i) ((List.range i.toNat).map fun (j : Nat) => Dt.int (j : Int)) := by
        unfold rgV
        rw [Int.sub_zero]
        generalize List.range i.toNat = l
        induction l with
        | nil => exact .nil
        | cons j l ih =>
          rw [List.map_cons, List.map_cons, Int.zero_add]
          exact .cons (.int _) ih
      exact rn.newL hF hp this
/-! methods of lists -/
theorem base_name {x m : Str} {pos : Pos} {env : Env} {w : Sem Value} : attributeBase (.Name x pos) m env w = w := rfl
theorem base_sub {a i : PySem.Expr} {m : Str} {pos : Pos} {env : Env} {w : Sem Value} : attributeBase (.Subscript a i pos) m env w = w := rfl
theorem few_one {e : PySem.Expr} {env : Env} {pos : Pos} (h : noStar e = true) : ((backTo pos (starEach [e] env)).all (fun x => !x.1) && (backToKw pos (keywordEach [] env)).all (fun x => x.1.isSome)
      && decide (([e] : List PySem.Expr).length + ([] : List Keyword).length + (if ([] : List Keyword).isEmpty then 0 else 1) < 30)) = true := by
  rw [star_cons h]
  rfl
theorem se_app (ok : OkX X c xv W C n) {x : Str} {i : Nat} {e : PySem.Expr} {y : Ex} {p apos pos : Pos} (hi : c.slot x = some i) (hn : noStar e = true) (hl : (apos.endLine == pos.line) = true) (he : SE X xv W C e y) : SE X xv W C (.Call (.Attribute (.Name x p) "append" apos) [e] [] pos) (.app i y) :=
  (pe_bm PySem.F.plainAttrs_list PySem.F.slot_list_append PySem.F.type_list_append mt_append (ok.slot hi) (pa_cons he pa_nil (star_cons hn)) base_name (few_one hn) hl (star_cons hn) rfl).imp fun σ H Q z => rd_app z
theorem se_pop (ok : OkX X c xv W C n) {x : Str} {i : Nat} {p apos pos : Pos} (hi : c.slot x = some i) (hl : (apos.endLine == pos.line) = true) : SE X xv W C (.Call (.Attribute (.Name x p) "pop" apos) [] [] pos) (.pop i) :=
  (pe_bm0 PySem.F.plainAttrs_list PySem.F.slot_list_pop PySem.F.type_list_pop mt_pop (ok.slot hi) base_name hl).imp fun σ H Q z => rd_pop z
theorem se_popAt (ok : OkX X c xv W C n) {x : Str} {i : Nat} {e : PySem.Expr} {y : Ex} {p apos pos : Pos} (hi : c.slot x = some i) (hn : noStar e = true) (hl : (apos.endLine == pos.line) = true) (he : SE X xv W C e y) : SE X xv W C (.Call (.Attribute (.Name x p) "pop" apos) [e] [] pos) (.popAt i y) :=
  (pe_bm PySem.F.plainAttrs_list PySem.F.slot_list_pop PySem.F.type_list_pop mt_popAt (ok.slot hi) (pa_cons he pa_nil (star_cons hn)) base_name (few_one hn) hl (star_cons hn) rfl).imp fun σ H Q z => rd_popAt z
theorem se_popF (ok : OkX X c xv W C n) {x f : Str} {i k : Nat} {p1 p2 p3 apos pos : Pos} (hi : c.slot x = some i) (hl : (apos.endLine == pos.line) = true) : SE X xv W C (.Call (.Attribute (.Subscript (.Name x p1) (.Constant (.str f) k p2) p3) "pop" apos) [] [] pos) (.popF i f) := by
  have hu := hu_ok ok
  exact (pe_bm0 PySem.F.plainAttrs_list PySem.F.slot_list_pop PySem.F.type_list_pop mt_pop (pe_dget (by omega) (ok.slot hi) pe_str (fun _ _ => rfl)) base_sub hl).imp fun σ H Q z => rd_popF z
theorem se_lenF (ok : OkX X c xv W C n) {x f : Str} {i k : Nat} {p p1 p2 p3 pos : Pos} (hi : c.slot x = some i) (hg : c.isGl "len" = true) : SE X xv W C (.Call (.Name "len" p) [.Subscript (.Name x p1) (.Constant (.str f) k p2) p3] [] pos) (.lenF i f) := by
  have hu := hu_ok ok
  exact (pe_callB call_len_seq (ok.isGl hg) (ok.bt .len) PySem.boot_len (pa_cons (pe_dget (by omega) (ok.slot hi) pe_str (fun _ _ => rfl)) pa_nil rfl) (by decide +kernel) (by decide +kernel) rfl rfl).imp fun σ H Q z => rd_lenF z
/-! displays -/
theorem se_tup {es : List PySem.Expr} {xs : Exs} {k : Nat} {pos : Pos} (h : SS X xv W C es xs) : SE X xv W C (.Tuple es k pos) (.tup xs) := (pe_tup h).imp fun σ H Q z => rd_tup z
theorem se_lst {es : List PySem.Expr} {xs : Exs} {pos : Pos} (h : SS X xv W C es xs) : SE X xv W C (.List es pos) (.lst xs) := (pe_lst h).imp fun σ H Q z => rd_lst z
theorem se_dnew {pos : Pos} : SE X xv W C (.Dict [] [] pos) .dnew := pe_dnewK.imp fun σ H Q z => rd_dnew z
inductive PsR (X : Cx) (xv : Xv) (W : WX) (C : Cl) : List (Option PySem.Expr) → List PySem.Expr → List Str → Exs → Prop
  | nil : PsR X xv W C [] [] [] .nil
  | cons {f : Str} {k : Nat} {p : Pos} {v : PySem.Expr} {x : Ex} {ks : List (Option PySem.Expr)} {vs : List PySem.Expr} {fs : List Str} {xs : Exs} : SE X xv W C v x → PsR X xv W C ks vs fs xs → PsR X xv W C (some (.Constant (.str f) k p) :: ks) (v :: vs) (f :: fs) (.cons x xs)
theorem PsR.pps {pos : Pos} {ks : List (Option PySem.Expr)} {vs : List PySem.Expr} {fs : List Str} {xs : Exs} (h : PsR X xv W C ks vs fs xs) : PPs X pos ks vs (trsR X.K xv W C fs xs) ∧ ks.all (·.isSome) = true ∧ ks.length = vs.length ∧ exsLen xs = fs.length ∧ ks.length = fs.length := by
  induction h with
  | nil => exact ⟨pps_nil, rfl, rfl, rfl, rfl⟩
  | cons hv _ ih => exact ⟨pps_cons pe_str hv ih.1, by simp [ih.2.1], by simp [ih.2.2.1], by simp [exsLen, ih.2.2.2.1], by simp [ih.2.2.2.2]⟩
theorem se_rcd {ks : List (Option PySem.Expr)} {vs : List PySem.Expr} {fs : List Str} {xs : Exs} {pos : Pos} (h : PsR X xv W C ks vs fs xs) (h0 : ks ≠ []) (hz : ks.length ≤ 15) : SE X xv W C (.Dict ks vs pos) (.rcd fs xs) := by
  obtain ⟨h1, h2, h3, h4, h5⟩ := h.pps (pos := pos)
  exact (pe_disp h1 h2 h3 h0 hz).imp fun σ H Q z => rd_rcd h4 z
inductive PsD (X : Cx) (xv : Xv) (W : WX) (C : Cl) : List (Option PySem.Expr) → List PySem.Expr → Exs → Prop
  | nil : PsD X xv W C [] [] .nil
  | cons {e v : PySem.Expr} {y x : Ex} {ks : List (Option PySem.Expr)} {vs : List PySem.Expr} {xs : Exs} : SE X xv W C e y → SE X xv W C v x → PsD X xv W C ks vs xs → PsD X xv W C (some e :: ks) (v :: vs) (.cons y (.cons x xs))
theorem PsD.pps {pos : Pos} {ks : List (Option PySem.Expr)} {vs : List PySem.Expr} {xs : Exs} (h : PsD X xv W C ks vs xs) : PPs X pos ks vs (trsD X.K xv W C xs) ∧ ks.all (·.isSome) = true ∧ ks.length = vs.length ∧ dOk xs = true := by
  induction h with
  | nil => exact ⟨pps_nil, rfl, rfl, rfl⟩
  | cons he hv _ ih => exact ⟨pps_cons he hv ih.1, by simp [ih.2.1], by simp [ih.2.2.1], by simpa [dOk] using ih.2.2.2⟩
theorem se_dmk {ks : List (Option PySem.Expr)} {vs : List PySem.Expr} {xs : Exs} {pos : Pos} (h : PsD X xv W C ks vs xs) (h0 : ks ≠ []) (hz : ks.length ≤ 15) : SE X xv W C (.Dict ks vs pos) (.dmk xs) := by
  obtain ⟨h1, h2, h3, h4⟩ := h.pps (pos := pos)
  exact (pe_disp h1 h2 h3 h0 hz).imp fun σ H Q z => rd_dmk h4 z
/-! tests, ways -/
theorem se_cond {t a b : PySem.Expr} {u : Te} {x y : Ex} {pos : Pos} (ht : ST X xv W C t u) (ha : SE X xv W C a x) (hb : SE X xv W C b y) : SE X xv W C (.IfExp t a b pos) (.cond u x y) := (pe_ifExp ht ha hb).imp fun σ H Q z => rd_cond z
theorem se_and {a b : PySem.Expr} {r : List PySem.Expr} {x y : Ex} {pos : Pos} (ha : SE X xv W C a x) (hb : SE X xv W C (.BoolOp .And (b :: r) pos) y) : SE X xv W C (.BoolOp .And (a :: b :: r) pos) (.land x y) := (pe_and ha hb).imp fun σ H Q z => rd_land z
theorem se_or {a b : PySem.Expr} {r : List PySem.Expr} {x y : Ex} {pos : Pos} (ha : SE X xv W C a x) (hb : SE X xv W C (.BoolOp .Or (b :: r) pos) y) : SE X xv W C (.BoolOp .Or (a :: b :: r) pos) (.lor x y) := (pe_or ha hb).imp fun σ H Q z => rd_lor z
theorem se_one {op : BoolOp} {a : PySem.Expr} {x : Ex} {pos : Pos} (ha : SE X xv W C a x) : SE X xv W C (.BoolOp op [a] pos) x := pe_one ha
abbrev SV (X : Cx) (xv : Xv) (W : WX) (C : Cl) (e : PySem.Expr) (t : Te) : Prop := PW X e (RdB X.K xv W (evt C t))
theorem st_and1 {a : PySem.Expr} {x : Te} {pos : Pos} (ha : ST X xv W C a x) : SV X xv W C (.BoolOp .And [a] pos) x := pw_and1 ha
theorem st_and {a b : PySem.Expr} {r : List PySem.Expr} {x y : Te} {pos : Pos} (ha : ST X xv W C a x) (hb : SV X xv W C (.BoolOp .And (b :: r) pos) y) : SV X xv W C (.BoolOp .And (a :: b :: r) pos) (.land x y) := (pw_and ha hb).imp fun σ H Q z => rd_tand z
theorem st_or1 {a : PySem.Expr} {x : Te} {pos : Pos} (ha : ST X xv W C a x) : SV X xv W C (.BoolOp .Or [a] pos) x := pw_or1 ha
theorem st_or {a b : PySem.Expr} {r : List PySem.Expr} {x y : Te} {pos : Pos} (ha : ST X xv W C a x) (hb : SV X xv W C (.BoolOp .Or (b :: r) pos) y) : SV X xv W C (.BoolOp .Or (a :: b :: r) pos) (.lor x y) := (pw_or ha hb).imp fun σ H Q z => rd_tor z
theorem st_not {a : PySem.Expr} {x : Te} {pos : Pos} (ha : ST X xv W C a x) : ST X xv W C (.UnaryOp .Not a pos) (.lnot x) := (pt_not ha).imp fun σ H Q z => rd_tnot z
/-- a test that is a value -/
def plainT : PySem.Expr → Bool
  | .UnaryOp _ _ _ => false
  | .BoolOp _ _ _ => false
  | .IfExp _ _ _ _ => false
  | .Compare _ _ _ _ => false
  | _ => true
theorem st_val {a : PySem.Expr} {o : Op} (hp : plainT a = true) (ha : SO X xv W C a o) : ST X xv W C a (.tr o) :=
  (pt_truth ha (fun wh => by
    cases a <;> first | rfl | (simp [plainT] at hp))).imp fun σ H Q z => rd_tr z
/-- a comparison as a test -/
def isCmp : Pr → Bool
  | .eq => true | .ne => true | .lt => true | .le => true | .gt => true | .ge => true | .isN => true | .notN => true | .isB _ => true | .isIn => true | .notIn => true
  | _ => false
theorem cmp_bl {q : Pr} {ds : List Dt} {y : Ow1} (h : isCmp q = true) (hs : q.sem ds = some y) : ∃ r, y = .imm (.bl r) := by
  unfold Pr.sem at hs
  split at hs <;> first | (simp [isCmp] at h; done) | (simp at hs; done) | (simp only [i1] at hs; first | (cases hs; exact ⟨_, rfl⟩) | (split at hs <;> first | (cases hs; exact ⟨_, rfl⟩) | (split at hs <;> first | (cases hs; exact ⟨_, rfl⟩) | cases hs) | cases hs))
theorem rd_cmpT {K : PySem.W.Frag} {σ : L2.St} {H : Hp} {Q : Bool → Hp → Prop} {q : Pr} {os : Ops} (hq : isCmp q = true) (h : RdB K xv W (evt C (.tr (.e (.pr q os)))) σ H Q) : RdE K xv W (ev C (.pr q os)) σ H fun v H1 => ∃ k, v = .bl k ∧ Q k H1 := by
  obtain ⟨E, F, S, L, env, Ts, s, w⟩ := h
  refine ⟨E, F, S, L, env, Ts, s, ?_⟩
  simp only [evt, evp] at w
  cases hx : ev C (.pr q os) env with
  | no => rw [hx] at w; exact w.elim
  | exc d e => rw [hx] at w; exact w
  | ok o e1 =>
    rw [hx] at w
    have ho : ∃ r, o = .p (.imm (.bl r)) := by
      simp only [ev] at hx
      split at hx
      · split at hx
        · split at hx
          · rename_i y hy
            cases hx
            obtain ⟨r, rfl⟩ := cmp_bl hq hy
            exact ⟨r, rfl⟩
          · cases hx
        · cases hx
      · cases hx
      · cases hx
    obtain ⟨r, rfl⟩ := ho
    intro v F' H' S' T s'
    have dv : DV K F' H' v (.bl r) := (s'.tm _ List.mem_cons_self).2
    cases dv
    exact ⟨r, rfl, w F' H' S' s'.pop⟩
theorem st_cmp (ok : OkX X c xv W C n) {a b : PySem.Expr} {op : CmpOp} {q : Pr} {o p : Op} {pos : Pos} (hq : cmpP op = some q) (hs : isSet b = false) (ha : SO X xv W C a o) (hb : SO X xv W C b p) : ST X xv W C (.Compare a [op] [b] pos) (.tr (.e (.pr q (.cons o (.cons p .nil))))) := by
  have hu := hu_ok ok
  have hm : behindInMarks op b = false := by cases b <;> first | rfl | cases hs
  have hc : isCmp q = true := by cases op <;> cases hq <;> rfl
  have go : ∀ {r : R2}, OpR X (compareOp op) r → (∀ x y H Q, rQ X.K q [x, y] H Q → r x y H Q) → ST X xv W C (.Compare a [op] [b] pos) (.tr (.e (.pr q (.cons o (.cons p .nil))))) := fun hr h =>
    (pt_cmpR hr ha hb hm).imp fun σ H Q z => RdP.mono (rd_prim2 (rd_cmpT hc z)) fun _ _ z => RdP.mono z fun _ _ z => h _ _ _ _ z
  cases op <;> cases hq
  · exact go (oq_eq (by omega)) fun _ _ _ _ z => z
  · exact go (oq_ne (by omega)) fun _ _ _ _ z => z
  · exact go (oq_lt (by omega)) fun _ _ _ _ z => z
  · exact go oq_le fun _ _ _ _ z => z
  · exact go oq_gt fun _ _ _ _ z => z
  · exact go oq_ge fun _ _ _ _ z => z
  · exact go (oq_in (by omega)) fun _ _ _ _ z => z
  · exact go (oq_notIn (by omega)) fun _ _ _ _ z => z
theorem st_isN {a : PySem.Expr} {o : Op} {k : Nat} {p pos : Pos} (ha : SO X xv W C a o) : ST X xv W C (.Compare a [.Is] [.Constant .none k p] pos) (.tr (.e (.pr .isN (.cons o .nil)))) :=
  (pt_cmpR oq_isN ha pe_non rfl).imp fun σ H Q z => RdP.mono (rd_prim1 (rd_cmpT rfl z)) fun _ _ z => ⟨rfl, z⟩
theorem st_notN {a : PySem.Expr} {o : Op} {k : Nat} {p pos : Pos} (ha : SO X xv W C a o) : ST X xv W C (.Compare a [.IsNot] [.Constant .none k p] pos) (.tr (.e (.pr .notN (.cons o .nil)))) :=
  (pt_cmpR oq_notN ha pe_non rfl).imp fun σ H Q z => RdP.mono (rd_prim1 (rd_cmpT rfl z)) fun _ _ z => ⟨rfl, z⟩
theorem st_isB {a : PySem.Expr} {o : Op} {b : Bool} {k : Nat} {p pos : Pos} (ha : SO X xv W C a o) : ST X xv W C (.Compare a [.Is] [.Constant (.bool b) k p] pos) (.tr (.e (.pr (.isB b) (.cons o .nil)))) :=
  (pt_cmpR oq_isB ha pe_bl rfl).imp fun σ H Q z => RdP.mono (rd_prim1 (rd_cmpT rfl z)) fun _ _ z => ⟨rfl, z⟩
/-! comprehensions -/
def gsOf (c : Ct) : Tg → PySem.Expr → Bool
  | _, _ => true
theorem noset {iter : PySem.Expr} {env : Env} (h : isSet iter = false) (x : Value) : foldedSetIterable iter env x = pure x := by cases iter <;> first | rfl | cases h
/-- what is known within a comprehension's block -/
def Ct.blk (c : Ct) (scope : Scope) : Ct := { c with sc := relS scope c.sc, fn := fun x => scope.names.lookup x == some .cell }
theorem OkX.blk (o : OkX X c xv W C n) {s : Shared} {H : Hp} {scope : Scope} {Ca : Addr} {cl : List (Str × Addr)} {fp : List Addr} (hk : scope.kind = .function) : OkX (X.blk s H scope (compEnvC scope cl Ca X.env) fp) (c.blk scope) xv noWX C n where
  N := o.N
  nd := o.nd
  nn := o.nn
  sc := by
    show relabel scope X.env = relS scope c.sc
    rw [← o.sc]
    rfl
  kind := hk
  fn := rfl
  calm := o.calm
  room := o.room
  tk := takes0
  bt := o.bt
  gl := o.gl
  cs := o.cs
end
end Pd
set_option Elab.async false
set_option linter.all false
set_option maxRecDepth 100000
set_option maxHeartbeats 4000000
/-! Part 19: from the text to the language: the reader of expressions, and that it reads right. -/
namespace Pd
open PySem PySem.Spec PyProof.Rows L2
structure Cm where
  e : Ct → PySem.Expr → Option Ex
  t : Ct → PySem.Expr → Option Te
section
variable (m : Cm) (c : Ct)
def cO : PySem.Expr → Option Op
  | .Name x p => match c.slot x with
    | some i => some (.v i)
    | none => (m.e c (.Name x p)).map .e
  | e => (m.e c e).map .e
def cOps : List PySem.Expr → Option Ops
  | [] => some .nil
  | e :: es => if noStar e then match cO m c e with
    | some o => match cOps es with | some os => some (.cons o os) | none => none
    | none => none else none
def cExs : List PySem.Expr → Option Exs
  | [] => some .nil
  | .Starred e _ :: es => match cO m c e with
    | some o => match cExs es with | some os => some (.star o os) | none => none
    | none => none
  | e :: es => if noStar e then match m.e c e with
    | some o => match cExs es with | some os => some (.cons o os) | none => none
    | none => none else none
def cExw : List PySem.Expr → Option Exs
  | [] => some .nil
  | e :: es => if noStar e then match m.e c e with
    | some o => match cExw es with | some os => some (.cons o os) | none => none
    | none => none else none
def cRcd : List (Option PySem.Expr) → List PySem.Expr → Option (List Str × Exs)
  | [], [] => some ([], .nil)
  | some (.Constant (.str f) _ _) :: ks, v :: vs => match m.e c v with
    | some x => match cRcd ks vs with | some (fs, xs) => some (f :: fs, .cons x xs) | none => none
    | none => none
  | _, _ => none
def cDmk : List (Option PySem.Expr) → List PySem.Expr → Option Exs
  | [], [] => some .nil
  | some k :: ks, v :: vs => match m.e c k with
    | some y => match m.e c v with
      | some x => match cDmk ks vs with | some xs => some (.cons y (.cons x xs)) | none => none
      | none => none
    | none => none
  | _, _ => none
def cBool (op : BoolOp) : List PySem.Expr → Option Ex
  | [] => none
  | [a] => m.e c a
  | a :: r => match m.e c a with
    | some x => match cBool op r with
      | some y => some (match op with | .And => .land x y | .Or => .lor x y)
      | none => none
    | none => none
def cBoolT (op : BoolOp) : List PySem.Expr → Option Te
  | [] => none
  | [a] => m.t c a
  | a :: r => match m.t c a with
    | some x => match cBoolT op r with
      | some y => some (match op with | .And => .land x y | .Or => .lor x y)
      | none => none
    | none => none
def cCmp (a : PySem.Expr) (op : CmpOp) (b : PySem.Expr) : Option Ex := match cO m c a with
  | none => none
  | some o => match op, b with
    | .Is, .Constant .none _ _ => some (.pr .isN (.cons o .nil))
    | .IsNot, .Constant .none _ _ => some (.pr .notN (.cons o .nil))
    | .Is, .Constant (.bool k) _ _ => some (.pr (.isB k) (.cons o .nil))
    | op, b => match cmpP op with
      | some q => if isSet b then none else match cO m c b with
        | some p => some (.pr q (.cons o (.cons p .nil)))
        | none => none
      | none => none
def cNames : List PySem.Expr → Option (List Nat)
  | [] => some []
  | .Name x _ :: es => match c.sto x with
    | some i => match cNames es with | some is => some (i :: is) | none => none
    | none => none
  | _ :: _ => none
def cTg : PySem.Expr → Option Tg
  | .Name x _ => (c.sto x).map .nm
  | .Tuple es _ _ => (cNames c es).map .tp
  | _ => none
def namesOf : PySem.Expr → List Str
  | .Name x _ => [x]
  | .Tuple es _ _ => es.filterMap fun | .Name x _ => some x | _ => none
  | _ => []
def ownOf (e : PySem.Expr) : List (Str × Nat) := (namesOf e).filterMap fun x => match ixS x c.N 0 with | some i => some (x, i) | none => none
def isTup : PySem.Expr → Bool
  | .Tuple _ _ _ => true
  | _ => false
/-- what is gone through by the target tg -/
def cIr (tg : PySem.Expr) : PySem.Expr → Option Ir
  | .Call (.Name f p) [a] [] q => match (if c.isGl f then bOf f else none) with
    | some .range => if noStar a then (m.e c a).map .rng1 else none
    | some .enumerate => if noStar a && isTup tg then (cO m c a).map .enum else none
    | _ => (m.e c (.Call (.Name f p) [a] [] q)).map fun x => .op (.e x)
  | .Call (.Name f p) [a, b] [] q => match (if c.isGl f then bOf f else none) with
    | some .range => if noStar a && noStar b then match m.e c a with
      | some x => (m.e c b).map fun y => .rng2 x y
      | none => none else none
    | _ => (m.e c (.Call (.Name f p) [a, b] [] q)).map fun x => .op (.e x)
  | e => if isSet e then none else (cO m c e).map .op
def cIfs : List PySem.Expr → Option Tes
  | [] => some .nil
  | [t] => (m.t c t).map .one
  | _ => none
def cLc (el : PySem.Expr) (gs : List Comprehension) (scope : Scope) : Option Ex := match gs with
  | [⟨tg, iter, ifs, 0⟩] =>
    if isSet iter then none else
    if blkC c.N c.sc scope (ownOf c tg) then match cIr m c tg iter with
      | some it => match cTg (c.blk scope) tg with
        | some g => match cIfs m (c.blk scope) ifs with
          | some t => match m.e (c.blk scope) el with
            | some x => if (tgSl g).all (fun i => decide (i ∈ (ownOf c tg).map (·.2))) then some (.lc x g it t ((ownOf c tg).map (·.2))) else none
            | none => none
          | none => none
        | none => none
      | none => none
    else none
  | _ => none
def cSub (a i : PySem.Expr) : Option Ex := match i with
  | .Slice none none none _ => (cO m c a).map fun o => .pr (.cut false false) (.cons o .nil)
  | .Slice (some l) none none _ => match cO m c a with
    | some o => (cO m c l).map fun p => .pr (.cut true false) (.cons o (.cons p .nil))
    | none => none
  | .Slice none (some l) none _ => match cO m c a with
    | some o => (cO m c l).map fun p => .pr (.cut false true) (.cons o (.cons p .nil))
    | none => none
  | .Slice none none (some (.UnaryOp .USub (.Constant (.int 1) _ _) _)) _ => (cO m c a).map fun o => .pr .rev (.cons o .nil)
  | .Slice _ _ _ _ => none
  | i => match cO m c a with
    | some o => match cO m c i with
      | some p => some (.pr .ix (.cons o (.cons p .nil)))
      | none => none
    | none => none
/-- d['f'] of a record -/
def cFld (a i : PySem.Expr) : Option (Nat × Str) := match a, i with
  | .Name x _, .Constant (.str f) _ _ => match c.slot x with
    | some k => if k ∈ c.rc then some (k, f) else none
    | none => none
  | _, _ => none
def cMeth (o : PySem.Expr) (f : Str) (args : List PySem.Expr) (good : Bool) : Option Ex := if good then match o with
    | .Name x _ => match c.slot x with
      | some i => if f = "append" then match args with
          | [e] => if noStar e then (m.e c e).map fun y => .app i y else none
          | _ => none
        else if f = "pop" then match args with
          | [] => some (.pop i)
          | [e] => if noStar e then (m.e c e).map fun y => .popAt i y else none
          | _ => none
        else none
      | none => none
    | .Subscript a k _ => match cFld c a k with
      | some (i, g) => if f = "pop" then match args with
          | [] => some (.popF i g)
          | _ => none
        else none
      | none => none
    | _ => none
  else none
def cCallN (x : Str) (args : List PySem.Expr) : Option Ex := match c.gl.lookup x with
  | some f => if args.isEmpty then none else if args.all noStar then (cOps m c args).map fun os => .call f os else none
  | none => match bOf x with
    | none => none
    | some b => match b, args with
      | .len, [.Subscript a k p] => match cFld c a k with
        | some (i, g) => some (.lenF i g)
        | none => (cOps m c [.Subscript a k p]).map fun os => .pr .len os
      | .list, [.Call (.Name r p) [a] [] q] => if c.isGl r && decide (bOf r = some .range) && noStar a then (cO m c a).map fun o => .pr .lrng (.cons o .nil) else (cOps m c [.Call (.Name r p) [a] [] q]).map fun os => .pr .list os
      | b, args => match b.pr args.length with
        | some q => if args.all noStar then (cOps m c args).map fun os => .pr q os else none
        | none => none
def cE1 : PySem.Expr → Option Ex
  | .Name x _ => match c.slot x with
    | some i => some (.var i)
    | none => if c.isGl x then (c.cs.lookup x).map .cst else none
  | .Constant (.int i) _ _ => some (.cst (.int i))
  | .Constant (.str i) _ _ => some (.cst (.str i))
  | .Constant (.bool i) _ _ => some (.cst (.bl i))
  | .Constant .none _ _ => some (.cst .non)
  | .BinOp a op b _ => match binP op with
    | some q => match cO m c a with
      | some o => (cO m c b).map fun p => .pr q (.cons o (.cons p .nil))
      | none => none
    | none => none
  | .UnaryOp .USub a _ => (cO m c a).map fun o => .pr .neg (.cons o .nil)
  | .UnaryOp .Not a _ => (cO m c a).map .lnot
  | .BoolOp op es _ => cBool m c op es
  | .IfExp t a b _ => match m.t c t with
    | some u => match m.e c a with
      | some x => (m.e c b).map fun y => .cond u x y
      | none => none
    | none => none
  | .Compare a [op] [b] _ => cCmp m c a op b
  | .Call (.Name x _) args [] _ => if c.isGl x then cCallN m c x args else none
  | .Call (.Attribute o f ap) args [] p => cMeth m c o f args (ap.endLine == p.line)
  | .Subscript a i _ => match cFld c a i with
    | some (k, f) => some (.fld k f)
    | none => cSub m c a i
  | .Tuple es _ _ => (cExs m c es).map .tup
  | .List es _ => (cExs m c es).map .lst
  | .Dict [] [] _ => some .dnew
  | .Dict ks vs _ => if ks.isEmpty || decide (15 < ks.length) then none else match cRcd m c ks vs with
    | some (fs, xs) => some (.rcd fs xs)
    | none => (cDmk m c ks vs).map .dmk
  | .ListComp el gs scope _ => cLc m c el gs scope
  | _ => none
def cT1 : PySem.Expr → Option Te
  | .UnaryOp .Not a _ => (m.t c a).map .lnot
  | .BoolOp op es _ => cBoolT m c op es
  | .Compare a [op] [b] _ => (cCmp m c a op b).map fun x => .tr (.e x)
  | e => if plainT e then (cO m c e).map .tr else none
end
def cM : Nat → Cm
  | 0 => ⟨fun _ _ => none, fun _ _ => none⟩
  | n + 1 => ⟨cE1 (cM n), cT1 (cM n)⟩

/-! ### it reads right -/
def MOk (xv : Xv) (C : Cl) (m : Cm) : Prop := ∀ (X : Cx) (c : Ct) (W : WX) (n : Nat), OkX X c xv W C n → (∀ e x, m.e c e = some x → SE X xv W C e x) ∧ (∀ e t, m.t c e = some t → ST X xv W C e t)
section
variable {X : Cx} {c : Ct} {xv : Xv} {W : WX} {C : Cl} {n : Nat} {m : Cm}
theorem PI.imp {tg it : PySem.Expr} {wi wi' : TI} (h : PI X tg it wi) (q : ∀ σ H R, wi' σ H R → wi σ H R) : PI X tg it wi' := ⟨fun ps s σ H R I hw => h.run ps s σ H R I (q σ H R hw)⟩
theorem cO_ok (hm : MOk xv C m) (ok : OkX X c xv W C n) {e : PySem.Expr} {o : Op} (h : cO m c e = some o) : SO X xv W C e o := by
  have gen : ∀ {e : PySem.Expr}, (m.e c e).map Op.e = some o → SO X xv W C e o := fun {e} h => by
    cases q : m.e c e with
    | none => rw [q] at h; cases h
    | some x =>
      rw [q] at h
      cases h
      exact so_e ((hm X c W n ok).1 e x q)
  cases e with
  | Name x p =>
    cases hs : c.slot x with
    | some i =>
      simp only [cO, hs] at h
      cases h
      exact so_v ok hs
    | none =>
      simp only [cO, hs] at h
      exact gen h
  | _ => exact gen h
theorem cOps_ok (hm : MOk xv C m) (ok : OkX X c xv W C n) : ∀ {es : List PySem.Expr} {os : Ops}, cOps m c es = some os → SA X xv W C es os ∧ es.all noStar = true
  | [], os, h => by
    simp only [cOps] at h
    cases h
    exact ⟨sa_nil, rfl⟩
  | e :: es, os, h => by
    simp only [cOps] at h
    split at h
    · rename_i hn
      split at h
      · rename_i o ho
        split at h
        · rename_i os' hos
          cases h
          obtain ⟨q1, q2⟩ := cOps_ok hm ok hos
          exact ⟨sa_cons hn (cO_ok hm ok ho) q1, by rw [List.all_cons, hn, q2]; rfl⟩
        · cases h
      · cases h
    · cases h
theorem cExs_ok (hm : MOk xv C m) (ok : OkX X c xv W C n) : ∀ {es : List PySem.Expr} {xs : Exs}, cExs m c es = some xs → SS X xv W C es xs
  | [], xs, h => by
    simp only [cExs] at h
    cases h
    exact ss_nil
  | e :: es, xs, h => by
    by_cases hn : noStar e = true
    · have h' : (match m.e c e with
        | some o => match cExs m c es with | some os => some (Exs.cons o os) | none => none
        | none => none) = some xs := by
        cases e <;> first | (simp [noStar] at hn; done) | (simpa [cExs, noStar] using h)
      split at h'
      · rename_i o ho
        split at h'
        · rename_i os hos
          cases h'
          exact ss_cons hn ((hm X c W n ok).1 e o ho) (cExs_ok hm ok hos)
        · cases h'
      · cases h'
    · cases e with
      | Starred e p =>
        simp only [cExs] at h
        split at h
        · rename_i o ho
          split at h
          · rename_i os hos
            cases h
            exact ss_star (cO_ok hm ok ho) (cExs_ok hm ok hos)
          · cases h
        · cases h
      | _ => exact absurd rfl hn
theorem cExw_ok (hm : MOk xv C m) (ok : OkX X c xv W C n) : ∀ {es : List PySem.Expr} {xs : Exs}, cExw m c es = some xs → SW X xv W C es xs
  | [], xs, h => by
    simp only [cExw] at h
    cases h
    exact sw_nil
  | e :: es, xs, h => by
    simp only [cExw] at h
    split at h
    · rename_i hn
      split at h
      · rename_i o ho
        split at h
        · rename_i os' hos
          cases h
          exact sw_cons hn ((hm X c W n ok).1 e o ho) (cExw_ok hm ok hos)
        · cases h
      · cases h
    · cases h
theorem cRcd_ok (hm : MOk xv C m) (ok : OkX X c xv W C n) : ∀ {ks : List (Option PySem.Expr)} {vs : List PySem.Expr} {fs : List Str} {xs : Exs}, cRcd m c ks vs = some (fs, xs) → PsR X xv W C ks vs fs xs
  | [], [], fs, xs, h => by
    simp only [cRcd] at h
    cases h
    exact .nil
  | k :: ks, v :: vs, fs, xs, h => by
    unfold cRcd at h
    split at h
    · contradiction
    · rename_i e1 e2
      cases e1
      cases e2
      split at h
      · rename_i x hx
        split at h
        · rename_i fs' xs' hr
          cases h
          exact .cons ((hm X c W n ok).1 _ _ hx) (cRcd_ok hm ok hr)
        · cases h
      · cases h
    · cases h
  | [], _ :: _, fs, xs, h => by simp [cRcd] at h
  | k :: ks, [], fs, xs, h => by simp [cRcd] at h
theorem cDmk_ok (hm : MOk xv C m) (ok : OkX X c xv W C n) : ∀ {ks : List (Option PySem.Expr)} {vs : List PySem.Expr} {xs : Exs}, cDmk m c ks vs = some xs → PsD X xv W C ks vs xs
  | [], [], xs, h => by
    simp only [cDmk] at h
    cases h
    exact .nil
  | some k :: ks, v :: vs, xs, h => by
    simp only [cDmk] at h
    split at h
    · rename_i y hy
      split at h
      · rename_i x hx
        split at h
        · rename_i xs' hr
          cases h
          exact .cons ((hm X c W n ok).1 _ _ hy) ((hm X c W n ok).1 _ _ hx) (cDmk_ok hm ok hr)
        · cases h
      · cases h
    · cases h
  | none :: ks, v :: vs, xs, h => by simp [cDmk] at h
  | [], _ :: _, xs, h => by simp [cDmk] at h
  | k :: ks, [], xs, h => by cases k <;> simp [cDmk] at h
theorem cBool_ok (hm : MOk xv C m) (ok : OkX X c xv W C n) {op : BoolOp} {pos : Pos} : ∀ {es : List PySem.Expr} {x : Ex}, cBool m c op es = some x → SE X xv W C (.BoolOp op es pos) x
  | [], x, h => by simp [cBool] at h
  | [a], x, h => by
    simp only [cBool] at h
    exact se_one ((hm X c W n ok).1 _ _ h)
  | a :: b :: r, x, h => by
    unfold cBool at h
    split at h
    · rename_i y hy
      split at h
      · rename_i z hz
        cases h
        have q1 := (hm X c W n ok).1 _ _ hy
        have q2 := cBool_ok hm ok (pos := pos) hz
        cases op with
        | And => exact se_and q1 q2
        | Or => exact se_or q1 q2
      · cases h
    · cases h
theorem cBoolT_ok (hm : MOk xv C m) (ok : OkX X c xv W C n) {op : BoolOp} {pos : Pos} : ∀ {es : List PySem.Expr} {x : Te}, cBoolT m c op es = some x → SV X xv W C (.BoolOp op es pos) x
  | [], x, h => by simp [cBoolT] at h
  | [a], x, h => by
    simp only [cBoolT] at h
    have q := (hm X c W n ok).2 _ _ h
    cases op with
    | And => exact st_and1 q
    | Or => exact st_or1 q
  | a :: b :: r, x, h => by
    unfold cBoolT at h
    split at h
    · rename_i y hy
      split at h
      · rename_i z hz
        cases h
        have q1 := (hm X c W n ok).2 _ _ hy
        have q2 := cBoolT_ok hm ok (pos := pos) hz
        cases op with
        | And => exact st_and q1 q2
        | Or => exact st_or q1 q2
      · cases h
    · cases h
theorem cCmp_ok (hm : MOk xv C m) (ok : OkX X c xv W C n) {a b : PySem.Expr} {op : CmpOp} {pos : Pos} {x : Ex} (h : cCmp m c a op b = some x) : SE X xv W C (.Compare a [op] [b] pos) x ∧ ST X xv W C (.Compare a [op] [b] pos) (.tr (.e x)) := by
  unfold cCmp at h
  split at h
  · cases h
  · rename_i o ho
    have ha := cO_ok hm ok ho
    split at h
    · cases h; exact ⟨se_isN ha, st_isN ha⟩
    · cases h; exact ⟨se_notN ha, st_notN ha⟩
    · cases h; exact ⟨se_isB ha, st_isB ha⟩
    · split at h
      · rename_i q hq
        split at h
        · cases h
        · rename_i hs
          have hs : isSet b = false := by simpa using hs
          split at h
          · rename_i p hp
            cases h
            exact ⟨se_cmp ok hq hs ha (cO_ok hm ok hp), st_cmp ok hq hs ha (cO_ok hm ok hp)⟩
          · cases h
      · cases h
end
end Pd
set_option Elab.async false
set_option linter.all false
set_option maxRecDepth 100000
set_option maxHeartbeats 4000000
/-! Part 20: the reader of expressions reads right (second part). -/
namespace Pd
open PySem PySem.Spec PyProof.Rows L2
section
variable {X : Cx} {c : Ct} {xv : Xv} {W : WX} {C : Cl} {n : Nat} {m : Cm}
theorem mapS {α β : Type} {f : α → β} {o : Option α} {y : β} (h : o.map f = some y) : ∃ x, o = some x ∧ f x = y := by
  cases o with
  | none => cases h
  | some x => cases h; exact ⟨x, rfl, rfl⟩
theorem cNames_ok (ok : OkX X c xv W C n) : ∀ {es : List PySem.Expr} {is : List Nat}, cNames c es = some is → NmL X es is
  | [], is, h => by simp only [cNames] at h; cases h; exact .nil
  | e :: es, is, h => by
    cases e with
    | Name x p =>
      simp only [cNames] at h
      split at h
      · rename_i i hi
        split at h
        · rename_i is' hs
          cases h
          obtain ⟨q1, q2, q3⟩ := ok.sto hi
          exact .cons q1 q2 q3 (cNames_ok ok hs)
        · cases h
      · cases h
    | _ => simp [cNames] at h
theorem NmL.pgs (hN : X.N.Nodup) {es : List PySem.Expr} {is : List Nat} (h : NmL X es is) : PGs X es (gNames is) := by
  induction h with
  | nil => exact pgs_nil
  | cons hi hx hf _ ih => exact pgs_cons (pg_name hN hi hx hf) ih rfl
theorem cTg_ok (ok : OkX X c xv W C n) {e : PySem.Expr} {tg : Tg} (h : cTg c e = some tg) : PG X e (gOf X.K tg) := by
  cases e with
  | Name x p =>
    obtain ⟨i, hi, rfl⟩ := mapS (show (c.sto x).map Tg.nm = some tg from h)
    obtain ⟨q1, q2, q3⟩ := ok.sto hi
    exact pg_name ok.ndX q1 q2 q3
  | Tuple es k p =>
    obtain ⟨is, hi, rfl⟩ := mapS (show (cNames c es).map Tg.tp = some tg from h)
    have q := cNames_ok ok hi
    exact pg_tup ok.calm (q.pgs ok.ndX) q.len.1 q.len.2
  | _ => simp [cTg] at h
theorem cIr_ok (hm : MOk xv C m) (ok : OkX X c xv W C n) {tg e : PySem.Expr} {it : Ir} (h : cIr m c tg e = some it) : PI X tg e (RdI X.K xv W C it) := by
  have op : ∀ {e : PySem.Expr} {o : Op}, SO X xv W C e o → PI X tg e (RdI X.K xv W C (.op o)) := fun ho => PI.imp (pi_seq ho) fun _ _ _ z => rdi_op z
  have opE : ∀ {e : PySem.Expr}, (m.e c e).map (fun x => Ir.op (.e x)) = some it → PI X tg e (RdI X.K xv W C it) := fun {e} h => by
    obtain ⟨x, hx, rfl⟩ := mapS h
    exact op (so_e ((hm X c W n ok).1 _ _ hx))
  have gen : ∀ {e : PySem.Expr}, (if isSet e then none else (cO m c e).map Ir.op) = some it → PI X tg e (RdI X.K xv W C it) := fun {e} h => by
    split at h
    · cases h
    · obtain ⟨o, ho, rfl⟩ := mapS h
      exact op (cO_ok hm ok ho)
  unfold cIr at h
  split at h
  · rename_i f p a q
    split at h
    · rename_i hb
      split at hb
      · rename_i hg
        split at h
        · rename_i hn
          obtain ⟨x, hx, rfl⟩ := mapS h
          have g := ok.isGl hg
          rw [bOf_nm hb] at g ⊢
          exact PI.imp (pi_range1 g (ok.bt .range) (pa_cons ((hm X c W n ok).1 _ _ hx) pa_nil (star_cons hn)) (star_cons hn)) fun _ _ _ z => rdi_rng1 z
        · cases h
      · cases hb
    · rename_i hb
      split at hb
      · rename_i hg
        split at h
        · rename_i hn
          rw [Bool.and_eq_true] at hn
          obtain ⟨o, ho, rfl⟩ := mapS h
          have g := ok.isGl hg
          rw [bOf_nm hb] at g ⊢
          cases tg with
          | Tuple es k tp =>
            have pa : PA X [a] (tOp1 (RdP X.K xv W (evp C o))) := (pa_cons (cO_ok hm ok ho) pa_nil (star_cons hn.1)).imp fun _ _ _ z => z
            exact PI.imp (pi_en g (ok.bt .enumerate) pa (star_cons hn.1)) fun _ _ _ z => rdi_enum z
          | _ => simp [isTup] at hn
        · cases h
      · cases hb
    · exact opE h
  · rename_i f p a b q
    split at h
    · rename_i hb
      split at hb
      · rename_i hg
        split at h
        · rename_i hn
          rw [Bool.and_eq_true] at hn
          split at h
          · rename_i x hx
            obtain ⟨y, hy, rfl⟩ := mapS h
            have g := ok.isGl hg
            rw [bOf_nm hb] at g ⊢
            have h1 := star_cons (env := X.env) (es := []) hn.2
            have h2 := star_cons (env := X.env) (es := [b]) hn.1
            refine PI.imp (pi_range2 g (ok.bt .range) (pa_cons ((hm X c W n ok).1 _ _ hx) (pa_cons ((hm X c W n ok).1 _ _ hy) pa_nil h1) h2) ?_ h1) fun _ _ _ z => rdi_rng2 z
            rw [h2, h1]; rfl
          · cases h
        · cases h
      · cases hb
    · exact opE h
  · exact gen h
theorem cIfs_ok (hm : MOk xv C m) (ok : OkX X c xv noWX C n) {es : List PySem.Expr} {t : Tes} (h : cIfs m c es = some t) : PTs X es (ttOf X.K xv C t) := by
  unfold cIfs at h
  split at h
  · cases h; exact pts_nil
  · obtain ⟨x, hx, rfl⟩ := mapS h
    exact pts_one ((hm X c noWX n ok).2 _ _ hx)
  · cases h
/-- what a comprehension's reader has found -/
structure LcOk (X : Cx) (c : Ct) (xv : Xv) (W : WX) (C : Cl) (el : PySem.Expr) (gs : List Comprehension) (scope : Scope) (y : Ex) : Prop where
  ex : ∃ (tg iter : PySem.Expr) (ifs : List PySem.Expr) (it : Ir) (g : Tg) (t : Tes) (x : Ex), gs = [⟨tg, iter, ifs, 0⟩] ∧ isSet iter = false ∧ blkC c.N c.sc scope (ownOf c tg) = true ∧ PI X tg iter (RdI X.K xv W C it) ∧
    (∀ (s : Shared) (H : Hp) (Ca : Addr) (cl : List (Str × Addr)) (fp : List Addr), PG (X.blk s H scope (compEnvC scope cl Ca X.env) fp) tg (gOf X.K g)) ∧
    (∀ (s : Shared) (H : Hp) (Ca : Addr) (cl : List (Str × Addr)) (fp : List Addr), PTs (X.blk s H scope (compEnvC scope cl Ca X.env) fp) ifs (ttOf X.K xv C t)) ∧
    (∀ (s : Shared) (H : Hp) (Ca : Addr) (cl : List (Str × Addr)) (fp : List Addr), PE (X.blk s H scope (compEnvC scope cl Ca X.env) fp) el (RdE X.K xv noWX (ev C x))) ∧
    (∀ i ∈ tgSl g, i ∈ (ownOf c tg).map (·.2)) ∧ y = .lc x g it t ((ownOf c tg).map (·.2))
theorem cLc_ok (hm : MOk xv C m) (ok : OkX X c xv W C n) {el : PySem.Expr} {gs : List Comprehension} {scope : Scope} {y : Ex} (h : cLc m c el gs scope = some y) : LcOk X c xv W C el gs scope y := by
  unfold cLc at h
  split at h
  · rename_i tg iter ifs
    split at h
    · cases h
    · rename_i hs
      split at h
      · rename_i hb
        split at h
        · rename_i it hi
          split at h
          · rename_i g hg
            split at h
            · rename_i t ht
              split at h
              · rename_i x hx
                split at h
                · rename_i hall
                  cases h
                  have hk : scope.kind = .function := (blkOk_by hb).kind
                  refine ⟨tg, iter, ifs, it, g, t, x, rfl, by simpa using hs, hb, cIr_ok hm ok hi, fun s H Ca cl fp => cTg_ok (ok.blk (s := s) (H := H) (Ca := Ca) (cl := cl) (fp := fp) hk) hg, fun s H Ca cl fp => cIfs_ok hm (ok.blk (s := s) (H := H) (Ca := Ca) (cl := cl) (fp := fp) hk) ht, fun s H Ca cl fp => (hm _ _ _ _ (ok.blk (s := s) (H := H) (Ca := Ca) (cl := cl) (fp := fp) hk)).1 _ _ hx, fun i hi => of_decide_eq_true (List.all_eq_true.mp hall i hi), rfl⟩
                · cases h
              · cases h
            · cases h
          · cases h
        · cases h
      · cases h
  · cases h
theorem LcOk.se (ok : OkX X c xv W C n) {el : PySem.Expr} {gs : List Comprehension} {scope : Scope} {y : Ex} {pos : Pos} (h : LcOk X c xv W C el gs scope y) : SE X xv W C (.ListComp el gs scope pos) y := by
  obtain ⟨tg, iter, ifs, it, g, t, x, rfl, h1, h2, h3, h4, h5, h6, h7, rfl⟩ := h.ex
  have hb := blkOk_by h2
  rw [← ok.N, ← ok.sc] at hb
  exact (pe_lc ok.calm ok.ndX h3 hb h4 h5 h6 (noset h1)).imp fun σ H Q z => rd_lc h7 z
theorem cFld_ok {a i : PySem.Expr} {k : Nat} {f : Str} (h : cFld c a i = some (k, f)) : ∃ x p j q, a = .Name x p ∧ i = .Constant (.str f) j q ∧ c.slot x = some k := by
  unfold cFld at h
  split at h
  · split at h
    · rename_i hk
      split at h
      · cases h; exact ⟨_, _, _, _, rfl, rfl, hk⟩
      · cases h
    · cases h
  · cases h
theorem cSub_ok (hm : MOk xv C m) (ok : OkX X c xv W C n) {a i : PySem.Expr} {pos : Pos} {x : Ex} (h : cSub m c a i = some x) : SE X xv W C (.Subscript a i pos) x := by
  unfold cSub at h
  split at h
  · obtain ⟨o, ho, rfl⟩ := mapS h
    exact se_cutN (cO_ok hm ok ho)
  · split at h
    · rename_i o ho
      obtain ⟨p, hp, rfl⟩ := mapS h
      exact se_cutL (cO_ok hm ok ho) (cO_ok hm ok hp)
    · cases h
  · split at h
    · rename_i o ho
      obtain ⟨p, hp, rfl⟩ := mapS h
      exact se_cutH (cO_ok hm ok ho) (cO_ok hm ok hp)
    · cases h
  · obtain ⟨o, ho, rfl⟩ := mapS h
    exact se_rev (cO_ok hm ok ho)
  · cases h
  · rename_i hne
    have hs : isSlice i = false := by
      cases i <;> first | rfl | exact absurd rfl (hne _ _ _ _)
    split at h
    · rename_i o ho
      split at h
      · rename_i p hp
        cases h
        exact se_ix ok hs (cO_ok hm ok ho) (cO_ok hm ok hp)
      · cases h
    · cases h
theorem cMeth_ok (hm : MOk xv C m) (ok : OkX X c xv W C n) {o : PySem.Expr} {f : Str} {args : List PySem.Expr} {ap pos : Pos} {x : Ex} (h : cMeth m c o f args (ap.endLine == pos.line) = some x) : SE X xv W C (.Call (.Attribute o f ap) args [] pos) x := by
  unfold cMeth at h
  split at h
  · rename_i hl
    split at h
    · split at h
      · rename_i y p i hi
        split at h
        · rename_i hf
          subst hf
          split at h
          · rename_i e
            split at h
            · rename_i hn
              obtain ⟨z, hz, rfl⟩ := mapS h
              exact se_app ok hi hn hl ((hm X c W n ok).1 _ _ hz)
            · cases h
          · cases h
        · split at h
          · rename_i hf
            subst hf
            split at h
            · cases h
              exact se_pop ok hi hl
            · rename_i e
              split at h
              · rename_i hn
                obtain ⟨z, hz, rfl⟩ := mapS h
                exact se_popAt ok hi hn hl ((hm X c W n ok).1 _ _ hz)
              · cases h
            · cases h
          · cases h
      · cases h
    · split at h
      · rename_i a k sp i g hfl
        split at h
        · rename_i hf
          subst hf
          split at h
          · cases h
            obtain ⟨x, p, j, q, rfl, rfl, hs⟩ := cFld_ok hfl
            exact se_popF ok hs hl
          · cases h
        · cases h
      · cases h
    · cases h
  · cases h
theorem cCallN_ok (hm : MOk xv C m) (ok : OkX X c xv W C n) {x : Str} {args : List PySem.Expr} {p pos : Pos} {y : Ex} (hg : c.isGl x = true) (h : cCallN m c x args = some y) : SE X xv W C (.Call (.Name x p) args [] pos) y := by
  have gen : ∀ {b : Bt} {args : List PySem.Expr} {q : Pr}, bOf x = some b → b.pr args.length = some q → (cOps m c args).map (fun os => Ex.pr q os) = some y → SE X xv W C (.Call (.Name x p) args [] pos) y := fun hb hq h => by
    obtain ⟨os, hos, rfl⟩ := mapS h
    obtain ⟨q1, q2⟩ := cOps_ok hm ok hos
    exact se_blt ok hb hg hq q2 q1
  unfold cCallN at h
  split at h
  · rename_i f hf
    split at h
    · cases h
    · rename_i hz
      split at h
      · obtain ⟨os, hos, rfl⟩ := mapS h
        obtain ⟨q1, q2⟩ := cOps_ok hm ok hos
        refine se_call ok hf hg (fun e => ?_) q2 q1
        subst e
        exact hz rfl
      · cases h
  · split at h
    · cases h
    · rename_i b hb
      split at h
      · rename_i a k sp
        split at h
        · rename_i i g hfl
          cases h
          obtain ⟨z, p1, j, q, rfl, rfl, hs⟩ := cFld_ok hfl
          have hx := bOf_nm hb
          have hx : x = "len" := hx
          subst hx
          exact se_lenF ok hs hg
        · exact gen hb rfl h
      · rename_i r rp a rq
        split at h
        · rename_i hc
          simp only [Bool.and_eq_true, decide_eq_true_eq] at hc
          obtain ⟨o, ho, rfl⟩ := mapS h
          have hx : x = "list" := bOf_nm hb
          have hr : r = "range" := bOf_nm hc.1.2
          subst hx hr
          exact se_lrng ok hg hc.1.1 hc.2 (cO_ok hm ok ho)
        · exact gen hb rfl h
      · split at h
        · rename_i q hq
          split at h
          · exact gen hb hq h
          · cases h
        · cases h
theorem cE1_ok (hm : MOk xv C m) (ok : OkX X c xv W C n) {e : PySem.Expr} {x : Ex} (h : cE1 m c e = some x) : SE X xv W C e x := by
  unfold cE1 at h
  split at h
  · split at h
    · rename_i i hi
      cases h
      exact (ok.slot hi).imp fun σ H Q z => rd_var z
    · split at h
      · rename_i hg
        obtain ⟨d, hd, rfl⟩ := mapS h
        obtain ⟨h1, u, v, h2, h3, h4⟩ := ok.cs _ _ hd
        exact (pe_glob (ok.isGl hg) h2 h3 h1).imp fun σ H Q z => rd_cst h4 z
      · cases h
  · cases h; exact pe_int.imp fun σ H Q z => rd_cst (fun _ _ => .int _) z
  · cases h; exact pe_str.imp fun σ H Q z => rd_cst (fun _ _ => .str _) z
  · cases h; exact pe_bl.imp fun σ H Q z => rd_cst (fun _ _ => .bl _) z
  · cases h; exact pe_non.imp fun σ H Q z => rd_cst (fun _ _ => .non) z
  · split at h
    · rename_i q hq
      split at h
      · rename_i o ho
        obtain ⟨p, hp, rfl⟩ := mapS h
        exact se_bin ok hq (cO_ok hm ok ho) (cO_ok hm ok hp)
      · cases h
    · cases h
  · obtain ⟨o, ho, rfl⟩ := mapS h
    exact se_neg (cO_ok hm ok ho)
  · obtain ⟨o, ho, rfl⟩ := mapS h
    exact se_not (cO_ok hm ok ho)
  · exact cBool_ok hm ok h
  · split at h
    · rename_i u hu
      split at h
      · rename_i y hy
        obtain ⟨z, hz, rfl⟩ := mapS h
        exact se_cond ((hm X c W n ok).2 _ _ hu) ((hm X c W n ok).1 _ _ hy) ((hm X c W n ok).1 _ _ hz)
      · cases h
    · cases h
  · exact (cCmp_ok hm ok h).1
  · split at h
    · rename_i hg
      exact cCallN_ok hm ok hg h
    · cases h
  · exact cMeth_ok hm ok h
  · split at h
    · rename_i k f hf
      cases h
      obtain ⟨z, p1, j, q, rfl, rfl, hs⟩ := cFld_ok hf
      exact se_fld ok hs
    · exact cSub_ok hm ok h
  · obtain ⟨xs, hx, rfl⟩ := mapS h
    exact se_tup (cExs_ok hm ok hx)
  · obtain ⟨xs, hx, rfl⟩ := mapS h
    exact se_lst (cExs_ok hm ok hx)
  · cases h; exact se_dnew
  · split at h
    · cases h
    · rename_i hz
      simp only [Bool.or_eq_true, decide_eq_true_eq, not_or] at hz
      split at h
      · rename_i fs xs hr
        cases h
        exact se_rcd (cRcd_ok hm ok hr) (fun e => hz.1 (by rw [e]; rfl)) (by omega)
      · obtain ⟨xs, hx, rfl⟩ := mapS h
        exact se_dmk (cDmk_ok hm ok hx) (fun e => hz.1 (by rw [e]; rfl)) (by omega)
  · exact (cLc_ok hm ok h).se ok
  · cases h
theorem cT1_ok (hm : MOk xv C m) (ok : OkX X c xv W C n) {e : PySem.Expr} {x : Te} (h : cT1 m c e = some x) : ST X xv W C e x := by
  unfold cT1 at h
  split at h
  · obtain ⟨o, ho, rfl⟩ := mapS h
    exact st_not ((hm X c W n ok).2 _ _ ho)
  · exact (cBoolT_ok hm ok h).pt
  · obtain ⟨o, ho, rfl⟩ := mapS h
    exact (cCmp_ok hm ok ho).2
  · split at h
    · rename_i hp
      obtain ⟨o, ho, rfl⟩ := mapS h
      exact st_val hp (cO_ok hm ok ho)
    · cases h
theorem cM_ok {xv : Xv} {C : Cl} : ∀ k, MOk xv C (cM k)
  | 0 => fun X c W n ok => ⟨fun e x h => (by cases h), fun e t h => (by cases h)⟩
  | k + 1 => fun X c W n ok => ⟨fun e x h => cE1_ok (cM_ok k) ok h, fun e t h => cT1_ok (cM_ok k) ok h⟩
end
end Pd
set_option Elab.async false
set_option linter.all false
set_option maxRecDepth 100000
set_option maxHeartbeats 4000000
/-! Part 21: from the text to the language: statements, defs, the whole. -/
namespace Pd
open PySem PySem.Spec PyProof.Rows L2
section
variable {X : Cx} {c : Ct} {xv : Xv} {W : WX} {C : Cl} {n wf : Nat} {m : Cm}
abbrev SC (X : Cx) (xv : Xv) (W : WX) (C : Cl) (wf : Nat) (st : Stmt) (s : Sm) : Prop := PS X st (RdC X.K xv W (wrS s) (ex C wf s))
abbrev SCs (X : Cx) (xv : Xv) (W : WX) (C : Cl) (wf : Nat) (st : List Stmt) (s : Sms) : Prop := PSs X st (RdC X.K xv W (wrSs s) (exs C wf s))
theorem _root_.L2.PS.imp {st : Stmt} {t t' : TS} (h : PS X st t) (q : ∀ D σ H, t' D σ H → t D σ H) : PS X st t' := ⟨fun ps s σ H D I hw => h.run ps s σ H D I (q D σ H hw)⟩
theorem _root_.L2.PSs.imp {st : List Stmt} {t t' : TS} (h : PSs X st t) (q : ∀ D σ H, t' D σ H → t D σ H) : PSs X st t' := ⟨fun ps s σ H D I hw => h.run ps s σ H D I (q D σ H hw)⟩
def isComp : PySem.Expr → Bool
  | .ListComp _ _ _ _ => true
  | .SetComp _ _ _ _ => true
  | .DictComp _ _ _ _ _ => true
  | _ => false
theorem no_swap {e : PySem.Expr} {t : Option PySem.Expr} {l : Nat} {env : Env} (h : isComp e = false) : swapsWith e t l env = pure false := by
  cases e <;> first | rfl | cases h
theorem blk_fun (ok : OkX X c xv W C n) : X.env.blockKind = .function := by
  unfold Env.blockKind
  rw [ok.sc, ok.kind]
  rfl
/-- x = e -/
theorem sc_set (ok : OkX X c xv W C n) {x : Str} {i : Nat} {e : PySem.Expr} {y : Ex} {p pos : Pos} (hi : c.sto x = some i) (hc : isComp e = false) (he : SE X xv W C e y) : SC X xv W C wf (.Assign [.Name x p] e pos) (.asg i y) := by
  obtain ⟨q1, q2, q3⟩ := ok.sto hi
  exact (ps_set ok.ndX q1 q2 he (no_swap hc) q3).imp fun D σ H z => rt_asg z
theorem sc_setLc (ok : OkX X c xv W C n) {x : Str} {i : Nat} {el : PySem.Expr} {gs : List Comprehension} {scope : Scope} {y : Ex} {p lp pos : Pos} (hi : c.sto x = some i) (h : LcOk X c xv W C el gs scope y) : SC X xv W C wf (.Assign [.Name x p] (.ListComp el gs scope lp) pos) (.asg i y) := by
  obtain ⟨q1, q2, q3⟩ := ok.sto hi
  have hse := h.se (pos := lp) ok
  obtain ⟨tg, iter, ifs, it, g, t, z, rfl, h1, h2, h3, h4, h5, h6, h7, rfl⟩ := h.ex
  have hb := blkOk_by h2
  rw [← ok.N, ← ok.sc] at hb
  have e : swapsWith (.ListComp el [⟨tg, iter, ifs, 0⟩] scope lp) (some (.Name x p)) pos.line X.env = pure (X.env.blockKind == .function && X.env.kindOf x == some .local && p.line == lp.line && !(scope.names.any fun (n, k) => n == x && (k == .local || k == .cell))) := rfl
  cases hb2 : (X.env.blockKind == .function && X.env.kindOf x == some .local && p.line == lp.line && !(scope.names.any fun (n, k) => n == x && (k == .local || k == .cell))) with
  | true =>
    rw [hb2] at e
    simp only [Bool.and_eq_true] at hb2
    have hl : X.env.kindOf x = some .local := by simpa using hb2.1.1.2
    exact (ps_setLc ok.calm ok.ndX q1 hl e h3 hb h4 h5 h6 (noset h1)).imp fun D σ H w => rd_lc h7 (rt_asg w)
  | false =>
    rw [hb2] at e
    exact (ps_set ok.ndX q1 q2 hse e q3).imp fun D σ H z => rt_asg z
theorem sub_plain {i : PySem.Expr} {env : Env} {o : PySem.Expr} {pos : Pos} (h : isSlice i = false) (v : Value) : assign (.Subscript o i pos) env v = (do
      let ov ← holding [v] (eval o env)
      let iv ← holding [v, ov] (eval i env)
      standAt pos
      holding [v, ov, iv] (setItem ov iv v)
      release [v, ov, iv] []) := by cases i <;> first | rfl | cases h
theorem swc_false {e : PySem.Expr} {t : PySem.Expr} {l : Nat} {env : Env} (h : isComp e = false) : swapsWithSole [t] e l env = pure false := no_swap h
theorem sws_sub {a i e : PySem.Expr} {p : Pos} {env : Env} : swappedStores [.Subscript a i p] e env = pure none := by
  unfold swappedStores
  cases e <;> rfl
theorem sc_setI (ok : OkX X c xv W C n) {x : Str} {k : Nat} {i e : PySem.Expr} {z y : Ex} {p p2 pos : Pos} (hk : c.slot x = some k) (hc : isComp e = false) (hs : isSlice i = false) (hi : SE X xv W C i z) (he : SE X xv W C e y) : SC X xv W C wf (.Assign [.Subscript (.Name x p) i p2] e pos) (.setI k z y) := by
  have hu := hu_ok ok
  exact (ps_asg he (pg_sub (ok.slot hk) hi (set_any (by omega)) (sub_plain hs)) (swc_false hc) sws_sub rfl).imp fun D σ H z => rt_setI z
theorem sc_setF (ok : OkX X c xv W C n) {x f : Str} {k j : Nat} {e : PySem.Expr} {y : Ex} {p p1 p2 pos : Pos} (hk : c.slot x = some k) (hc : isComp e = false) (he : SE X xv W C e y) : SC X xv W C wf (.Assign [.Subscript (.Name x p) (.Constant (.str f) j p1) p2] e pos) (.setF k f y) := by
  have hu := hu_ok ok
  exact (ps_asg he (pg_sub (ok.slot hk) pe_str (set_any (by omega)) (sub_plain rfl)) (swc_false hc) sws_sub rfl).imp fun D σ H z => rt_setF z
theorem sws_tup {es : List PySem.Expr} {e : PySem.Expr} {k : Nat} {p : Pos} {env : Env} (h : isTup e = false) : swappedStores [.Tuple es k p] e env = pure none := by
  unfold swappedStores
  cases e <;> first | rfl | cases h
theorem sc_unp (ok : OkX X c xv W C n) {es : List PySem.Expr} {is : List Nat} {e : PySem.Expr} {o : Op} {k : Nat} {p pos : Pos} (hn : cNames c es = some is) (hc : isComp e = false) (ht : isTup e = false) (he : SO X xv W C e o) : SC X xv W C wf (.Assign [.Tuple es k p] e pos) (.unp is o) := by
  have hg : PG X (.Tuple es k p) (gOf X.K (.tp is)) := by
    have q := cNames_ok ok hn
    exact pg_tup ok.calm (q.pgs ok.ndX) q.len.1 q.len.2
  exact (ps_asg he hg (swc_false hc) (sws_tup ht) rfl).imp fun D σ H z => rt_unp z
theorem sc_asgT (ok : OkX X c xv W C n) {es vs : List PySem.Expr} {is : List Nat} {xs : Exs} {k k2 : Nat} {p p2 pos : Pos} (hn : cNames c es = some is) (hd : is.Nodup) (hf : foldOk vs = true) (hz : is.length ≤ 1000) (he : SW X xv W C vs xs) : SC X xv W C wf (.Assign [.Tuple es k p] (.Tuple vs k2 p2) pos) (.asgT is xs) :=
  (ps_parN ok.calm ok.ndX (cNames_ok ok hn) hd he hf (blk_fun ok) hz).imp fun D σ H z => rt_asgT z
theorem sc_expr {e : PySem.Expr} {y : Ex} {pos : Pos} (hc : isComp e = false) (he : SE X xv W C e y) : SC X xv W C wf (.Expr e pos) (.expr y) := (ps_expr he (no_swap hc)).imp fun D σ H z => rt_expr z
theorem sc_ret {e : PySem.Expr} {y : Ex} {pos : Pos} (he : SE X xv W C e y) : SC X xv W C wf (.Return (some e) pos) (.ret y) := (ps_ret he).imp fun D σ H z => rt_ret z
theorem sc_retV (ok : OkX X c xv W C n) {x : Str} {i : Nat} {p pos : Pos} (hi : c.slot x = some i) : SC X xv W C wf (.Return (some (.Name x p)) pos) (.retV i) := (ps_ret (ok.slot hi)).imp fun D σ H z => rt_retV z
theorem sc_retN {pos : Pos} : SC X xv W C wf (.Return none pos) .retN := ps_retN.imp fun D σ H z => rt_retN z
theorem sc_ite {t : PySem.Expr} {a b : List Stmt} {u : Te} {x y : Sms} {pos : Pos} (ht : ST X xv W C t u) (ha : SCs X xv W C wf a x) (hb : SCs X xv W C wf b y) : SC X xv W C wf (.If t a b pos) (.ite u x y) := (ps_if ht ha hb).imp fun D σ H z => rt_ite z
theorem sc_whl (own : PassesOwn (model X.prog X.w) X.A X.env X.xe) {t : PySem.Expr} {b : List Stmt} {u : Te} {y : Sms} {pos : Pos} (ht : ST X xv W C t u) (hb : SCs X xv W C wf b y) : SC X xv W C wf (.While t b [] pos) (.whl u y) := (ps_while own ht hb).imp fun D σ H z => rt_whl z
theorem sc_for (own : PassesOwn (model X.prog X.w) X.A X.env X.xe) (ok : OkX X c xv W C n) {tg iter : PySem.Expr} {b : List Stmt} {g : Tg} {it : Ir} {y : Sms} {pos : Pos} (hs : isSet iter = false) (hi : PI X tg iter (RdI X.K xv W C it)) (hg : PG X tg (gOf X.K g)) (hb : SCs X xv W C wf b y) (hd : ∀ i ∈ slotI it, i ∉ tgSl g ++ wrSs y) :
    SC X xv W C wf (.For tg iter b [] pos) (.fors g it y) := (ps_for own ok.calm hi hg hb (noset hs)).imp fun D σ H z => rt_for hd z
theorem pip_of {op : Operator} {q : Pr} {f : Int → Int → Int} (h : PIp X op (ipI f)) (e : ∀ a b c, q.sem [.int a, .int b] = some (.imm (.int c)) → c = f a b) : PIp X op (rAug q) := fun ps s σ H x y v u Q I r1 r2 ⟨a, b, c, e1, e2, e3, z⟩ =>
  h ps s σ H x y v u Q I r1 r2 ⟨a, b, e1, e2, by rw [← e a b c e3]; exact z⟩
theorem sc_augA (ok : OkX X c xv W C n) {x : Str} {i : Nat} {e : PySem.Expr} {y : Ex} {p pos : Pos} (hi : c.sto x = some i) (he : SE X xv W C e y) : SC X xv W C wf (.AugAssign (.Name x p) .Add e pos) (.aug i .add y) := by
  obtain ⟨q1, q2, q3⟩ := ok.sto hi
  exact (ps_aug ok.ndX q1 q2 he (pip_of (q := .add) ip_add fun a b c h => by simp [Pr.sem, i1] at h; exact h.symm) q3).imp fun D σ H z => rt_aug z
theorem sc_augS (ok : OkX X c xv W C n) {x : Str} {i : Nat} {e : PySem.Expr} {y : Ex} {p pos : Pos} (hi : c.sto x = some i) (he : SE X xv W C e y) : SC X xv W C wf (.AugAssign (.Name x p) .Sub e pos) (.aug i .sub y) := by
  obtain ⟨q1, q2, q3⟩ := ok.sto hi
  exact (ps_aug ok.ndX q1 q2 he (pip_of (q := .sub) ip_sub fun a b c h => by simp [Pr.sem, i1] at h; exact h.symm) q3).imp fun D σ H z => rt_aug z
theorem scs_nil : SCs X xv W C wf [] .nil := pss_nil.imp fun D σ H z => rt_nil z
theorem scs_cons {s : Stmt} {ss : List Stmt} {x : Sm} {xs : Sms} (h : SC X xv W C wf s x) (hs : SCs X xv W C wf ss xs) : SCs X xv W C wf (s :: ss) (.cons x xs) := (pss_cons h hs).imp fun D σ H z => rt_cons z
end
section
variable (m : Cm) (c : Ct) (sub : List Stmt → Option Sms)
def cAsg (tg e : PySem.Expr) : Option Sm := match tg with
  | .Name x _ => match c.sto x with
    | some i => match e with
      | .ListComp el gs scope _ => (cLc m c el gs scope).map fun y => .asg i y
      | e => if isComp e then none else (m.e c e).map fun y => .asg i y
    | none => none
  | .Subscript (.Name x p) i _ => if isComp e then none else match cFld c (.Name x p) i with
    | some (k, f) => (m.e c e).map fun y => .setF k f y
    | none => if isSlice i then none else match c.slot x with
      | some k => match m.e c i with
        | some z => (m.e c e).map fun y => .setI k z y
        | none => none
      | none => none
  | .Tuple es _ _ => match cNames c es with
    | some is => match e with
      | .Tuple vs _ _ => if foldOk vs && decide is.Nodup && decide (is.length ≤ 1000) then (cExw m c vs).map fun xs => .asgT is xs else none
      | e => if isComp e || isTup e then none else (cO m c e).map fun o => .unp is o
    | none => none
  | _ => none
def cS1 : Stmt → Option Sm
  | .Assign [tg] e _ => cAsg m c tg e
  | .AugAssign (.Name x _) op e _ => match c.sto x with
    | some i => match op with
      | .Add => (m.e c e).map fun y => .aug i .add y
      | .Sub => (m.e c e).map fun y => .aug i .sub y
      | _ => none
    | none => none
  | .Expr e _ => if isComp e then none else (m.e c e).map .expr
  | .Return none _ => some .retN
  | .Return (some (.Name x p)) _ => match c.slot x with
    | some i => some (.retV i)
    | none => (m.e c (.Name x p)).map .ret
  | .Return (some e) _ => (m.e c e).map .ret
  | .If t a b _ => match m.t c t with
    | some u => match sub a with
      | some x => (sub b).map fun y => .ite u x y
      | none => none
    | none => none
  | .While t b [] _ => match m.t c t with
    | some u => (sub b).map fun y => .whl u y
    | none => none
  | .For tg iter b [] _ => if isSet iter then none else match cIr m c tg iter with
    | some it => match cTg c tg with
      | some g => match sub b with
        | some y => if (slotI it).all (fun i => decide (i ∉ tgSl g ++ wrSs y)) then some (.fors g it y) else none
        | none => none
      | none => none
    | none => none
  | _ => none
def cSs1 : List Stmt → Option Sms
  | [] => some .nil
  | s :: ss => match cS1 m c sub s with
    | some x => (cSs1 ss).map fun xs => .cons x xs
    | none => none
end
def cSs (m : Cm) (c : Ct) : Nat → List Stmt → Option Sms
  | 0 => fun _ => none
  | k + 1 => cSs1 m c (cSs m c k)
section
variable {X : Cx} {c : Ct} {xv : Xv} {W : WX} {C : Cl} {n wf : Nat} {m : Cm} {sub : List Stmt → Option Sms}
theorem cAsg_ok (hm : MOk xv C m) (ok : OkX X c xv W C n) {tg e : PySem.Expr} {pos : Pos} {s : Sm} (h : cAsg m c tg e = some s) : SC X xv W C wf (.Assign [tg] e pos) s := by
  unfold cAsg at h
  split at h
  · split at h
    · rename_i i hi
      split at h
      · obtain ⟨y, hy, rfl⟩ := mapS h
        exact sc_setLc ok hi (cLc_ok hm ok hy)
      · split at h
        · cases h
        · rename_i hc
          obtain ⟨y, hy, rfl⟩ := mapS h
          exact sc_set ok hi (by simpa using hc) ((hm X c W n ok).1 _ _ hy)
    · cases h
  · split at h
    · cases h
    · rename_i hc
      have hc : isComp e = false := by simpa using hc
      split at h
      · rename_i k f hf
        obtain ⟨y, hy, rfl⟩ := mapS h
        obtain ⟨x, p, j, q, e1, rfl, hs⟩ := cFld_ok hf
        cases e1
        exact sc_setF ok hs hc ((hm X c W n ok).1 _ _ hy)
      · split at h
        · cases h
        · rename_i hsl
          split at h
          · rename_i k hk
            split at h
            · rename_i z hz
              obtain ⟨y, hy, rfl⟩ := mapS h
              exact sc_setI ok hk hc (by simpa using hsl) ((hm X c W n ok).1 _ _ hz) ((hm X c W n ok).1 _ _ hy)
            · cases h
          · cases h
  · split at h
    · rename_i is hn
      split at h
      · split at h
        · rename_i hc
          simp only [Bool.and_eq_true, decide_eq_true_eq] at hc
          obtain ⟨y, hy, rfl⟩ := mapS h
          exact sc_asgT ok hn hc.1.2 hc.1.1 hc.2 (cExw_ok hm ok hy)
        · cases h
      · split at h
        · cases h
        · rename_i hc
          simp only [Bool.or_eq_true, not_or, Bool.not_eq_true] at hc
          obtain ⟨y, hy, rfl⟩ := mapS h
          exact sc_unp ok hn hc.1 hc.2 (cO_ok hm ok hy)
    · cases h
  · cases h
theorem cS1_ok (own : PassesOwn (model X.prog X.w) X.A X.env X.xe) (hm : MOk xv C m) (ok : OkX X c xv W C n) (hs : ∀ ss xs, sub ss = some xs → SCs X xv W C wf ss xs) {st : Stmt} {s : Sm} (h : cS1 m c sub st = some s) : SC X xv W C wf st s := by
  unfold cS1 at h
  split at h
  · exact cAsg_ok hm ok h
  · split at h
    · rename_i i hi
      split at h
      · obtain ⟨y, hy, rfl⟩ := mapS h
        exact sc_augA ok hi ((hm X c W n ok).1 _ _ hy)
      · obtain ⟨y, hy, rfl⟩ := mapS h
        exact sc_augS ok hi ((hm X c W n ok).1 _ _ hy)
      · cases h
    · cases h
  · split at h
    · cases h
    · rename_i hc
      obtain ⟨y, hy, rfl⟩ := mapS h
      exact sc_expr (by simpa using hc) ((hm X c W n ok).1 _ _ hy)
  · cases h; exact sc_retN
  · split at h
    · rename_i i hi
      cases h
      exact sc_retV ok hi
    · obtain ⟨y, hy, rfl⟩ := mapS h
      exact sc_ret ((hm X c W n ok).1 _ _ hy)
  · obtain ⟨y, hy, rfl⟩ := mapS h
    exact sc_ret ((hm X c W n ok).1 _ _ hy)
  · split at h
    · rename_i u hu
      split at h
      · rename_i x hx
        obtain ⟨y, hy, rfl⟩ := mapS h
        exact sc_ite ((hm X c W n ok).2 _ _ hu) (hs _ _ hx) (hs _ _ hy)
      · cases h
    · cases h
  · split at h
    · rename_i u hu
      obtain ⟨y, hy, rfl⟩ := mapS h
      exact sc_whl own ((hm X c W n ok).2 _ _ hu) (hs _ _ hy)
    · cases h
  · split at h
    · cases h
    · rename_i hset
      split at h
      · rename_i it hi
        split at h
        · rename_i g hg
          split at h
          · rename_i y hy
            split at h
            · rename_i hd
              cases h
              exact sc_for own ok (by simpa using hset) (cIr_ok hm ok hi) (cTg_ok ok hg) (hs _ _ hy) fun i hi => of_decide_eq_true (List.all_eq_true.mp hd i hi)
            · cases h
          · cases h
        · cases h
      · cases h
  · cases h
theorem cSs1_ok (own : PassesOwn (model X.prog X.w) X.A X.env X.xe) (hm : MOk xv C m) (ok : OkX X c xv W C n) (hs : ∀ ss xs, sub ss = some xs → SCs X xv W C wf ss xs) : ∀ {ss : List Stmt} {xs : Sms}, cSs1 m c sub ss = some xs → SCs X xv W C wf ss xs
  | [], xs, h => by simp only [cSs1] at h; cases h; exact scs_nil
  | s :: ss, xs, h => by
    simp only [cSs1] at h
    split at h
    · rename_i x hx
      obtain ⟨ys, hy, rfl⟩ := mapS h
      exact scs_cons (cS1_ok own hm ok hs hx) (cSs1_ok own hm ok hs hy)
    · cases h
theorem cSs_ok (own : PassesOwn (model X.prog X.w) X.A X.env X.xe) (hm : MOk xv C m) (ok : OkX X c xv W C n) : ∀ (k : Nat) {ss : List Stmt} {xs : Sms}, cSs m c k ss = some xs → SCs X xv W C wf ss xs
  | 0, ss, xs, h => by cases h
  | k + 1, ss, xs, h => cSs1_ok own hm ok (fun ss xs => cSs_ok own hm ok k) h
end
end Pd
set_option Elab.async false
set_option linter.all false
set_option maxRecDepth 100000
set_option maxHeartbeats 4000000
/-! Part 22: the whole program; the end. -/
namespace Pd
open PySem PySem.Spec PyProof.Rows L2
/-- a def to be read -/
structure Df where
  nm : Str
  st : Stmt
  N : List Str
  ps : List Str
  md : List Md
  rc : List Nat
def glOf : List Df → Nat → List (Str × Nat)
  | [], _ => []
  | d :: r, i => (d.nm, i) :: glOf r (i + 1)
def ctOf (dfs : List Df) (cs : List (Str × Dt)) (d : Df) : Ct := ⟨d.N, defScope d.st, fun _ => true, d.rc, glOf dfs 0, cs⟩
def readF (ka kb : Nat) (dfs : List Df) (cs : List (Str × Dt)) (d : Df) : Option Fn := match cSs (cM ka) (ctOf dfs cs d) kb (defBody d.st) with
  | some b => some ⟨d.ps.length, d.N.length, d.md, b⟩
  | none => none
def readAll (ka kb : Nat) (dfs : List Df) (cs : List (Str × Dt)) : List Df → Option (List Fn)
  | [] => some []
  | d :: r => match readF ka kb dfs cs d with
    | some f => match readAll ka kb dfs cs r with | some fs => some (f :: fs) | none => none
    | none => none
def isLoc : Option NameKind → Bool
  | some .local => true
  | some .cell => true
  | _ => false
def scopeOk (N ps : List Str) (sc : Scope) : Bool :=
  (match sc.kind with | .function => true | _ => false) && !sc.isCoroutine && !sc.isGenerator && decide N.Nodup && decide (N.take ps.length = ps) && (ps.all fun x => isLoc (sc.names.lookup x)) && (sc.names.all fun y => match y.2 with | .free => false | _ => true)
def dfOk (d : Df) (f : Fn) : Bool :=
  scopeOk d.N d.ps (defScope d.st) && (d.N.all fun x => !(x == ("__debug__" : Str)) && !(x == ("__classdict__" : Str))) && !(d.nm == ("__debug__" : Str)) && decide (d.md.length = d.ps.length) && decide (d.ps.length ≤ d.N.length) && muOk d.md (wrSs f.body)
theorem scopeOk_ok {N ps : List Str} {sc : Scope} (h : scopeOk N ps sc = true) : FnScope N ps sc := by
  unfold scopeOk at h
  simp only [Bool.and_eq_true, Bool.not_eq_true', List.all_eq_true, decide_eq_true_eq] at h
  obtain ⟨⟨⟨⟨⟨⟨h1, h2⟩, h3⟩, h4⟩, h5⟩, h6⟩, h7⟩ := h
  refine ⟨?_, h2, h3, h4, h5, fun x hx => ?_, fun y hy e => ?_⟩
  · split at h1
    · assumption
    · cases h1
  · have q := h6 x hx
    unfold isLoc at q
    split at q
    · rename_i e; exact .inl e
    · rename_i e; exact .inr e
    · cases q
  · have q := h7 y hy
    rw [e] at q
    cases q
theorem glOf_get {x : Str} {f : Nat} : ∀ {dfs : List Df} {i : Nat}, (glOf dfs i).lookup x = some f → ∃ d, dfs[f - i]? = some d ∧ d.nm = x ∧ i ≤ f
  | [], i, h => by simp [glOf] at h
  | d :: r, i, h => by
    unfold glOf at h
    rw [List.lookup_cons] at h
    cases e : x == d.nm with
    | true =>
      rw [e] at h
      cases h
      exact ⟨d, by simp, (beq_iff_eq.mp e).symm, Nat.le_refl _⟩
    | false =>
      rw [e] at h
      obtain ⟨d', h1, h2, h3⟩ := glOf_get h
      refine ⟨d', ?_, h2, by omega⟩
      have : f - i = (f - (i + 1)) + 1 := by omega
      rw [this]
      simpa using h1
theorem readAll_get {ka kb : Nat} {dfs : List Df} {cs : List (Str × Dt)} : ∀ {ds : List Df} {T : List Fn} {i : Nat} {d : Df}, readAll ka kb dfs cs ds = some T → ds[i]? = some d → ∃ f, T[i]? = some f ∧ readF ka kb dfs cs d = some f
  | [], T, i, d, h, e => by simp at e
  | d0 :: r, T, i, d, h, e => by
    unfold readAll at h
    split at h
    · rename_i f hf
      split at h
      · rename_i fs hfs
        cases h
        cases i with
        | zero =>
          simp at e
          subst e
          exact ⟨f, rfl, hf⟩
        | succ i =>
          obtain ⟨g, h1, h2⟩ := readAll_get hfs (i := i) (d := d) (by simpa using e)
          exact ⟨g, by simpa using h1, h2⟩
      · cases h
    · cases h
/-- what the top has left of the program -/
structure PF (K : PySem.W.Frag) (mg : Str → Option Value) (dfs : List Df) (cs : List (Str × Dt)) : Prop where
  fn : ∀ (f : Nat) (d : Df), dfs[f]? = some d → ∃ a fd, mg d.nm = some (.ref a) ∧ Fun K d.nm d.nm d.st a fd ∧ Binds K fd d.ps []
  bt : ∀ b : Bt, mg b.nm = none
  cs : ∀ (x : Str) (d : Dt), cs.lookup x = some d → (x == ("__debug__" : Str)) = false ∧ ∃ u v, mg x = some u ∧ RelV v u ∧ ∀ F H, DV K F H v d
def progOk : List Df → List Fn → Bool
  | d :: r, g :: q => dfOk d g && progOk r q
  | _, _ => true
theorem progOk_get : ∀ {dfs : List Df} {T : List Fn} {i : Nat} {d : Df} {g : Fn}, progOk dfs T = true → dfs[i]? = some d → T[i]? = some g → dfOk d g = true
  | [], _, i, d, g, _, h, _ => by simp at h
  | _ :: _, [], i, d, g, _, _, h => by simp at h
  | d0 :: r, g0 :: q, i, d, g, hk, h1, h2 => by
    unfold progOk at hk
    rw [Bool.and_eq_true] at hk
    cases i with
    | zero =>
      simp at h1 h2
      subst h1 h2
      exact hk.1
    | succ i => exact progOk_get (i := i) hk.2 (by simpa using h1) (by simpa using h2)
theorem prog_fn {ka kb : Nat} {P : Program} {w : World} {K : PySem.W.Frag} {mg : Str → Option Value} {base : Heap} {xv : Xv} {dfs : List Df} {cs : List (Str × Dt)} {T : List Fn} {wf : Nat} (pf : PF K mg dfs cs) (hr : readAll ka kb dfs cs dfs = some T) (hok : progOk dfs T = true) :
    ∀ (n f : Nat) (d : Df) (a : Addr) (fd : FuncData), dfs[f]? = some d → mg d.nm = some (.ref a) → Fun K d.nm d.nm d.st a fd → Binds K fd d.ps [] → FnG P w K mg base n a fd d.ps (spF K xv d.ps.length (run T wf n f))
  | 0, f, d, a, fd, hd, hm, F, hb => ⟨fun vs H Q E h => h.1, fun {A outer s H args us vs Q E} hr e0 hb r h => by
      obtain ⟨_, _, _, _, _, z⟩ := h
      exact z.elim⟩
  | n + 1, f, d, a, fd, hd, hm, F, hb => by
    obtain ⟨g, hT, hg⟩ := readAll_get hr hd
    have hk : dfOk d g = true := progOk_get hok hd hT
    unfold dfOk at hk
    simp only [Bool.and_eq_true, Bool.not_eq_true', List.all_eq_true, decide_eq_true_eq] at hk
    obtain ⟨⟨⟨⟨⟨k1, k2⟩, k3⟩, k4⟩, k5⟩, k6⟩ := hk
    have hg' : ∃ b, cSs (cM ka) (ctOf dfs cs d) kb (defBody d.st) = some b ∧ g = ⟨d.ps.length, d.N.length, d.md, b⟩ := by
      unfold readF at hg
      split at hg
      · rename_i b hb
        cases hg
        exact ⟨b, hb, rfl⟩
      · cases hg
    obtain ⟨b, hb', rfl⟩ := hg'
    have sc := scopeOk_ok k1
    refine Fun.okG F sc (fun vs H Q E h => h.1) fun cdv A outer s H vs Q E hrm hsp => ?_
    have e : run T wf (n + 1) f = runFn ⟨mdOf T, run T wf n⟩ wf ⟨d.ps.length, d.N.length, d.md, b⟩ := by
      funext as
      show (match T[f]? with | some g => runFn ⟨mdOf T, run T wf n⟩ wf g as | none => Cr.no) = _
      rw [hT]
    rw [e] at hsp
    have hbody := body_of (g := ⟨d.ps.length, d.N.length, d.md, b⟩) (N := d.N) rfl k4 k5 k6 hsp
    refine ⟨_, ?_, hbody⟩
    have ok : OkX (cxOf (L2.CX P w) P w K mg base d.N d.nm (defScope d.st) a cdv A outer s H E) (ctOf dfs cs d) xv (fun c od _ H' => E c od H') ⟨mdOf T, run T wf n⟩ n := {
      N := rfl
      nd := sc.nd
      nn := fun x hx => k2 x hx
      sc := rfl
      kind := sc.kind
      fn := rfl
      calm := rfl
      room := hrm
      tk := takes_of rfl rfl rfl rfl
      bt := pf.bt
      gl := fun x f' hx => by
        obtain ⟨d', h1, h2, _⟩ := glOf_get (dfs := dfs) (i := 0) hx
        rw [Nat.sub_zero] at h1
        subst h2
        obtain ⟨a', fd', q1, q2, q3⟩ := pf.fn f' d' h1
        obtain ⟨g', hT', hg'⟩ := readAll_get hr h1
        have hk' : dfOk d' g' = true := progOk_get hok h1 hT'
        have hmd : g'.md = d'.md := by
          unfold readF at hg'
          split at hg'
          · cases hg'; rfl
          · cases hg'
        unfold dfOk at hk'
        simp only [Bool.and_eq_true, Bool.not_eq_true', List.all_eq_true, decide_eq_true_eq] at hk'
        refine ⟨hk'.1.1.1.2, a', fd', d'.ps, q1, q2.kp, ?_, q3⟩
        have el : (mdOf T f').length = d'.ps.length := by
          unfold mdOf
          rw [hT']
          show g'.md.length = _
          rw [hmd]
          exact hk'.1.1.2
        show FnG P w K mg base n a' fd' d'.ps (spF K xv (mdOf T f').length (run T wf n f'))
        rw [el]
        exact prog_fn pf hr hok n f' d' a' fd' h1 q1 q2 q3
      cs := pf.cs }
    exact cSs_ok (passes_of rfl) (cM_ok ka) ok kb hb'
end Pd
set_option Elab.async false
set_option linter.all false
set_option maxRecDepth 100000
set_option maxHeartbeats 4000000
/-! Part 23: the end of a law. -/
namespace Pd
open PySem PySem.Spec PyProof.Rows L2
theorem room_top {k : Nat} (h : k ≤ 100) : RoomG k callerA := by
  have h1 : 1 + claimMargin + 3 * 100 + 5 < recursionLimit := by decide
  have h2 : 4 + 16 * 100 + 200 < cLine := by decide
  refine ⟨⟨rfl, ?_, ?_⟩, rfl⟩
  · show 1 + claimMargin + 3 * k + 5 < recursionLimit
    omega
  · show 4 + 16 * k + 200 < cLine
    omega
/-- the law's own call, by what its def keeps -/
theorem law_callG {P : Program} {w : World} {K : PySem.W.Frag} {mg mb : Str → Option Value} {k : Nat} {fa a : Addr} {fd : FuncData} {x : Str} {sp : Sp} {s₁ : Shared} {vs : List Value} {ns : List Int}
    (KX : K.In s₁.heap) (hns : s₁.heap.Ns mainGlobals mg) (hb : s₁.heap.Ns builtinsNs mb) (hbb : ∀ x : Str, x ≠ "__name__" → mb x = bootBuiltins x) (hlim : s₁.heap.NoLimit) (hg : s₁.gens = #[])
    (ha : s₁.heap.get? a = some { cls := .type "list", data := .seq vs.toArray }) (hi : IntsAre vs ns) (hl : ns.length ≤ sizeLine) (hr : RoomG k callerA)
    (F : ∀ base : Heap, FnG P w K mg base k fa fd [x] sp) (hbind : ∀ (s : Shared) (u : Value), BindsTo s fd ⟨[u], []⟩ [(x, u)])
    (hsp : ∀ H : Hp, Only H → SqL K H a (ns.map V.int) → sp [.ref a] H (fun v _ => v = .bl true) fun _ _ _ => False) :
    codeAny (model P w) callerA (.call (.ref fa) ⟨[.ref a], []⟩) (fun r s' => r = .ok (.ret (.bool true)) ∧ OldK s₁.heap s'.heap ∧ s'.os = s₁.os ∧ AllBare s'.gens) s₁ := by
  have core : ∀ H : Hp, Only H → SqL K H a (ns.map V.int) → HOk P w H s₁.heap → (∀ b, H b ≠ none → b = a) → (H a ≠ none → K.lookup a = none) →
      codeAny (model P w) callerA (.call (.ref fa) ⟨[.ref a], []⟩) (fun r s' => r = .ok (.ret (.bool true)) ∧ OldK s₁.heap s'.heap ∧ s'.os = s₁.os ∧ AllBare s'.gens) s₁ := by
    intro H hO hS hok hA hK
    have free : ∀ {b : Addr} {o : Obj}, s₁.heap.get? b = some o → (∀ q n, o.data ≠ .seq q n) → H b = none := fun {b o} e d => by
      cases q : H b with
      | none => rfl
      | some u =>
        obtain rfl : b = a := hA b (by rw [q]; simp)
        rw [ha] at e
        cases e
        exact absurd rfl (d _ _)
    have dictF : ∀ {b : Addr} {m : Str → Option Value}, s₁.heap.Ns b m → (hidT s₁.heap H).Ns b m := fun {b m} ⟨o, es, ep, e, d, r⟩ => ⟨o, es, ep, hidT_get e (free e fun q n z => by rw [d] at z; cases z), d, r⟩
    have inB : K.In (hidT s₁.heap H) := fun b o e => hidT_get (KX b o e) (by
      cases q : H b with
      | none => rfl
      | some u =>
        obtain rfl : b = a := hA b (by rw [q]; simp)
        have := hK (by rw [q]; simp)
        rw [this] at e
        cases e)
    have md : Mod K mg (hidT s₁.heap H) := ⟨inB, dictF hns, ⟨mb, dictF hb, hbb⟩, let ⟨mc, h1, h2⟩ := hlim; ⟨mc, dictF h1, h2⟩⟩
    have en : Env0 P w K mg (hidT s₁.heap H) callerA [] s₁ H := ⟨rfl, md, fun b o e => of_hidT e, Nat.le_of_eq (hidT_size _ _), trivial, fun b hb => (nomatch hb), hok, .of_eq hg⟩
    refine codeAny_mono ((F (hidT s₁.heap H)).run (us := [.ref a]) (vs := [.ref a]) hr en (hbind s₁ (.ref a)) (.cons rfl .nil) (hsp H hO hS)) fun r s' h => ?_
    match r, h with
    | .error e, ⟨_, _, _, _, _, _, _, _, _, _, _, _, z⟩ => exact z.elim
    | .ok .next, h => exact False.elim h
    | .ok .brk, h => exact False.elim h
    | .ok .cont, h => exact False.elim h
    | .ok (.ret u), ⟨v, H', os, bare, un, hok', r', q⟩ =>
      obtain rfl : v = .bl true := q
      obtain rfl : u = Value.bool true := r'
      refine ⟨rfl, OldK.of_keep fun b o e => ?_, os, bare⟩
      rcases hO b with z | ⟨ob, xs, z⟩
      · exact un.keep b o e z (by intro z; exact (nomatch z)) (by simp)
      · obtain ⟨e1, _⟩ := hok b _ z
        obtain ⟨e2, _⟩ := hok' b _ (un.frzs b ob _ z)
        rw [e] at e1
        cases e1
        exact e2
  have rv := vals_ints hi
  have hz : vs.length = ns.length := hi.length
  cases hk : K.lookup a with
  | some o =>
    have e := KX a o hk
    rw [ha] at e
    cases e
    exact core (fun _ => none) (fun _ => .inl rfl) (.inr ⟨_, vs.toArray, _, hk, rfl, rfl, rfl, by rw [List.size_toArray, hz]; exact hl, by simpa using rv⟩) (fun b u z => (nomatch z)) (fun b z => absurd rfl z) fun z => absurd rfl z
  | none =>
    let u : HO := .frz { cls := .type "list", data := .seq vs.toArray } (.lst (ns.map V.int))
    have at_ : ∀ {b : Addr} {z : HO}, (if b = a then some u else none) = some z → b = a ∧ z = u := fun {b z} e => by
      by_cases hb : b = a
      · rw [if_pos hb] at e; cases e; exact ⟨hb, rfl⟩
      · rw [if_neg hb] at e; cases e
    refine core (fun b => if b = a then some u else none) (fun b => ?_) (.inl (.inr ⟨_, if_pos rfl⟩)) (fun b z e => ?_) (fun b z => ?_) fun _ => hk
    · by_cases hb : b = a
      · exact .inr ⟨_, _, if_pos hb⟩
      · exact .inl (if_neg hb)
    · obtain ⟨rfl, rfl⟩ := at_ e
      exact ⟨ha, by rw [List.length_map]; exact hl, vs, _, rv, ha⟩
    · cases q : (if b = a then some u else none) with
      | none => exact absurd q z
      | some z => exact (at_ q).1
theorem walk_G {l : PySem.W.OpenLaw} {n k : Nat} {q : Program} {loose : List Str} {XP : (Str → Option Value) → Heap → Prop} {YP : World → Heap → Prop} {d : DefRec} {K : Params → PySem.W.Frag} {sp : World → Sp} {x : Str}
    (hn : l.most = some n) (hn2 : n ≤ sizeLine) (hdf : d.params.defaults = []) (hr : RoomG k callerA)
    (hY : ∀ (w : World) (h : Heap), YP w h → (K w.params).In h)
    (F : ∀ (w : World) (mg : Str → Option Value) (fa : Addr) (h : Heap), (K w.params).In h → h.Ns mainGlobals mg → mg d.name = some (.ref fa) →
      ∃ fd : FuncData, (∀ (s : Shared) (u : Value), BindsTo s fd ⟨[u], []⟩ [(x, u)]) ∧ ∀ base : Heap, FnG l.prog w (K w.params) mg base k fa fd [x] (sp w))
    (hsp : ∀ (w : World) (H : Hp) (a : Addr) (ns : List Int), ns.length ≤ n → Only H → SqL (K w.params) H a (ns.map V.int) → sp w [.ref a] H (fun v _ => v = .bl true) fun _ _ _ => False) :
    PySem.W.WalkO q loose XP YP l.row.toRowW d [] (fun f vs => PySem.call f vs) := by
  refine Att.attach_call hn hdf fun w s₀ s₁ mg mb fa o pm cd doc a vs ns G Y ho hd hcd hmg hobj hints hlen hg => ?_
  obtain ⟨fd, hb, hF⟩ := F w mg fa _ (hY w _ Y) G.T.g hmg
  exact law_callG (hY w _ Y) G.T.g G.T.b G.T.builtins G.T.nolimit hg hobj hints (Nat.le_trans hlen hn2) hr hF hb fun H hO hS => hsp w H a ns hlen hO hS
/-- a law of the program: what its run gives -/
theorem law_sp {K : PySem.W.Frag} {xv : Xv} {fn : List Ow → Cr} {H : Hp} {a : Addr} {ns : List Int} (hS : SqL K H a (ns.map V.int)) (h : ∃ outs, fn [im (.scr ns)] = .ret (im (.bl true)) outs) : spF K xv 1 fn [.ref a] H (fun v _ => v = .bl true) fun _ _ _ => False := by
  obtain ⟨outs, h⟩ := h
  have hd : DV K (fun x => H x ≠ none) H (.ref a) (.scr ns) := by
    refine .scr ?_
    rcases hS with r | k
    · refine .inl ⟨?_, r⟩
      rcases r with r | ⟨o, r⟩ <;> (show H a ≠ none; rw [r]; simp)
    · exact .inr k
  refine ⟨rfl, fun x => H x ≠ none, fun _ => noA, [im (.scr ns)], ⟨rfl, fun i o e => ?_, fun _ ht => (nomatch ht), fun _ _ _ z => z.elim, .nil, fun _ ht => (nomatch ht), fun _ _ z => z.elim, fun _ ht => (nomatch ht), fun x hx => ⟨hx, .inl hx⟩, fun _ hx => hx, fun _ _ z => z.elim, fun _ _ _ => rfl, fun _ hx => hx, fun _ hp => (nomatch hp)⟩, ?_⟩
  · have e0 := getE_some e
    cases i with
    | zero =>
      simp at e0
      subst e0
      exact ⟨.ref a, rfl, fun _ z => z, hd⟩
    | succ i => simp at e0
  · rw [h]
    intro v F' H' S' T s
    have q : DV K F' H' v (.bl true) := (s.tm _ List.mem_cons_self).2
    cases q
    rfl
end Pd
set_option Elab.async false
set_option linter.all false
set_option maxRecDepth 100000
set_option maxHeartbeats 4000000
/-! Part 24: plain data: what is shown, what is equal. -/
namespace Pd
open PySem
mutual
/-- small ints, None, rows of them -/
def pl : Dt → Bool
  | .non => true
  | .int i => decide (i.natAbs < 10 ^ 12)
  | .tup xs => plL xs
  | .lst xs => plL xs
  | _ => false
def plL : List Dt → Bool
  | [] => true
  | x :: xs => pl x && plL xs
end
mutual
def wt : Dt → Nat
  | .int _ => 41
  | .tup xs => wtL xs
  | .lst xs => wtL xs
  | _ => 0
def wtL : List Dt → Nat
  | [] => 0
  | x :: xs => wt x + 1 + wtL xs
end
mutual
def dpD : Dt → Nat
  | .tup xs => dpL xs + 1
  | .lst xs => dpL xs + 1
  | _ => 0
def dpL : List Dt → Nat
  | [] => 0
  | x :: xs => max (dpD x) (dpL xs)
end
theorem strOk_app {x y : Str} (hx : PyData.strOk x = true) (hy : PyData.strOk y = true) : PyData.strOk (x ++ y) = true := by
  unfold PyData.strOk at *
  show (x.cps ++ y.cps).all _ = true
  rw [Array.all_append, hx, hy]
  rfl
theorem strOk_of (s : String) : PyData.strOk (Str.ofString s) = true := by
  unfold PyData.strOk Str.ofString
  rw [cpsOfBytes_string]
  simp only [List.all_toArray, List.all_map]
  rw [List.all_eq_true]
  intro c _
  have h := c.valid
  simp only [UInt32.isValidChar, Nat.isValidChar] at h
  have : c.toNat = c.val.toNat := rfl
  simp only [Function.comp]
  rw [this]
  exact decide_eq_true (by omega)
theorem strOk_textFrom : ∀ (ts : List Str) (k : Nat) (acc : Str), (∀ t ∈ ts, PyData.strOk t = true) → PyData.strOk acc = true → PyData.strOk (textFrom k acc ts) = true
  | [], k, acc, _, h => h
  | t :: r, k, acc, ht, h => by
    refine strOk_textFrom r (k + 1) _ (fun t h => ht t (List.mem_cons_of_mem _ h)) (strOk_app (strOk_app h ?_) (ht t List.mem_cons_self))
    split <;> exact strOk_of _
theorem strOk_join (sep : Str) (hs : PyData.strOk sep = true) : ∀ (ts : List Str), (∀ t ∈ ts, PyData.strOk t = true) → PyData.strOk (Str.join sep ts) = true
  | [], _ => by
    show PyData.strOk Str.empty = true
    decide +kernel
  | [t], h => h t List.mem_cons_self
  | t :: u :: r, h => strOk_app (strOk_app (h t List.mem_cons_self) hs) (strOk_join sep hs (u :: r) fun t ht => h t (List.mem_cons_of_mem _ ht))
structure Shw (d : Dt) (e : PyData) : Prop where
  py : d.py = some e
  lay : e.canLay0 = true
  dep : e.depth = dpD d
  wei : e.weight ≤ wt d
  sho : e.intsShort 13 = true
  able : e.showable = true
  nod : e.hasDict = false
  txt : PyData.strOk e.shown = true
structure ShwL (d : List Dt) (e : List PyData) : Prop where
  py : pyL d = some e
  lay : PyData.canLayAll0 e = true
  dep : PyData.depthAll e = dpL d
  wei : PyData.weightAll e ≤ wtL d
  sho : PyData.intsShortAll 13 e = true
  able : PyData.showableAll e = true
  nod : PyData.hasDictAll e = false
  txt : ∀ t ∈ PyData.shownAll e, PyData.strOk t = true
mutual
theorem pl_ok : ∀ {d : Dt}, pl d = true → ∃ e, Shw d e
  | .non, _ => ⟨.none, rfl, rfl, rfl, Nat.le_refl _, rfl, rfl, rfl, strOk_of _⟩
  | .int i, h => by
    have hi : i.natAbs < 10 ^ 12 := of_decide_eq_true h
    have hl : i.natAbs.log2 < 40 := by
      by_cases z : i.natAbs = 0
      · rw [z]; decide
      · exact (Nat.log2_lt z).mpr (Nat.lt_trans hi (by decide))
    refine ⟨.int i, rfl, rfl, rfl, ?_, ?_, ?_, rfl, strOk_of _⟩
    · show (if (i == 0) = true then 0 else i.natAbs.log2 + 1) ≤ 41
      split <;> omega
    · have := int_text_length_le10 (a := i) (k := 12) (by decide) hi
      have e : (PyData.shown (.int i)).length = (toString i).length := by
        show (Str.ofString (toString i)).cps.size = _
        unfold Str.ofString
        rw [cpsOfBytes_string]
        simp [String.length_toList]
      show decide _ = true
      rw [e]
      exact decide_eq_true this
    · show decide (i.natAbs.log2 < 1920) = true
      exact decide_eq_true (by omega)
  | .tup xs, h => by
    obtain ⟨es, k⟩ := plL_ok (show plL xs = true from h)
    refine ⟨.tuple es, by show (match pyL xs with | some ys => some (PyData.tuple ys) | none => none) = _; rw [k.py], k.lay, by show _ + 1 = _ + 1; rw [k.dep], k.wei, k.sho, k.able, k.nod, ?_⟩
    exact strOk_app (strOk_app (strOk_of _) (strOk_join _ (strOk_of _) _ k.txt)) (by split <;> exact strOk_of _)
  | .lst xs, h => by
    obtain ⟨es, k⟩ := plL_ok (show plL xs = true from h)
    refine ⟨.list es, by show (match pyL xs with | some ys => some (PyData.list ys) | none => none) = _; rw [k.py], k.lay, by show _ + 1 = _ + 1; rw [k.dep], k.wei, k.sho, k.able, k.nod, ?_⟩
    exact strOk_app (strOk_textFrom _ _ _ k.txt (strOk_of _)) (strOk_of _)
  | .bl _, h => by cases h
  | .str _, h => by cases h
  | .dic _, h => by cases h
  | .scr _, h => by cases h
theorem plL_ok : ∀ {d : List Dt}, plL d = true → ∃ e, ShwL d e
  | [], _ => ⟨[], rfl, rfl, rfl, Nat.le_refl _, rfl, rfl, rfl, fun _ h => (nomatch h)⟩
  | x :: xs, h => by
    have h' : (pl x && plL xs) = true := h
    rw [Bool.and_eq_true] at h'
    obtain ⟨e, a⟩ := pl_ok h'.1
    obtain ⟨es, b⟩ := plL_ok h'.2
    refine ⟨e :: es, ?_, ?_, ?_, ?_, ?_, ?_, ?_, ?_⟩
    · simp only [pyL, a.py, b.py]
    · show (e.canLay0 && PyData.canLayAll0 es) = true
      rw [a.lay, b.lay]; rfl
    · show max _ _ = max _ _
      rw [a.dep, b.dep]
    · show e.weight + 1 + PyData.weightAll es ≤ wt x + 1 + wtL xs
      have := a.wei
      have := b.wei
      omega
    · show (e.intsShort 13 && PyData.intsShortAll 13 es) = true
      rw [a.sho, b.sho]; rfl
    · show (e.showable && PyData.showableAll es) = true
      rw [a.able, b.able]; rfl
    · show (e.hasDict || PyData.hasDictAll es) = false
      rw [a.nod, b.nod]; rfl
    · intro t ht
      rcases List.mem_cons.mp (show t ∈ e.shown :: PyData.shownAll es from ht) with z | z
      · rw [z]; exact a.txt
      · exact b.txt t z
end
/-- what repr gives -/
def shw (d : Dt) : Str := match d.py with | some e => e.shown | none => ⟨#[]⟩
theorem repr_pl {d : Dt} (h : pl d = true) (hd : dpD d ≤ 60) (hw : wt d ≤ 2 ^ 20) : Pr.repr.sem [d] = some (.imm (.str (shw d))) ∧ PyData.strOk (shw d) = true := by
  obtain ⟨e, k⟩ := pl_ok h
  have lay : e.layable0 = true := by
    unfold PyData.layable0
    rw [k.lay, Bool.true_and, Bool.and_eq_true]
    exact ⟨decide_eq_true (by rw [k.dep]; omega), decide_eq_true (Nat.le_trans k.wei hw)⟩
  have hz := PyProof.Rows.shown_le13 lay k.sho
  have es : shw d = e.shown := by unfold shw; rw [k.py]
  refine ⟨?_, by rw [es]; exact k.txt⟩
  simp only [Pr.sem, k.py, i1]
  rw [es, k.able, k.nod, decide_eq_true (show e.depth ≤ 60 by rw [k.dep]; exact hd), decide_eq_true (show e.shown.length ≤ sizeLine from Nat.le_trans hz (by decide))]
  rfl
theorem shaped_str {x : Str} (h : PyData.strOk x = true) : SeqAt.shaped (.str x) = true := by
  show (PyData.canLay0 (.str x) && decide _) = true
  rw [show PyData.canLay0 (.str x) = PyData.strOk x from rfl, h]
  rfl
/-- equal texts -/
theorem eqv_strs {x y : Str} (hx : PyData.strOk x = true) (hy : PyData.strOk y = true) : eqvD (.str x) (.str y) = some (decide (x = y)) := by
  show (if (SeqAt.shaped (.str x) && SeqAt.shaped (.str y)) = true then some (PyData.eqv (.str x) (.str y)) else none) = _
  rw [shaped_str hx, shaped_str hy]
  show some (x == y) = _
  congr 1
mutual
theorem eqv_iff : ∀ {a b : Dt} {x y : PyData}, pl a = true → pl b = true → a.py = some x → b.py = some y → (PyData.eqv x y = true ↔ a = b)
  | .non, b, x, y, ha, hb, hx, hy => by
    cases hx
    cases b <;> first | (cases hb; done) | skip
    · cases hy; simp [PyData.eqv]
    · cases hy; simp [PyData.eqv]
    · obtain ⟨e, k⟩ := plL_ok hb
      simp only [Dt.py, k.py] at hy
      cases hy; simp [PyData.eqv]
    · obtain ⟨e, k⟩ := plL_ok hb
      simp only [Dt.py, k.py] at hy
      cases hy; simp [PyData.eqv]
  | .int i, b, x, y, ha, hb, hx, hy => by
    cases hx
    cases b <;> first | (cases hb; done) | skip
    · cases hy; simp [PyData.eqv]
    · cases hy; simp [PyData.eqv]
    · obtain ⟨e, k⟩ := plL_ok hb
      simp only [Dt.py, k.py] at hy
      cases hy; simp [PyData.eqv]
    · obtain ⟨e, k⟩ := plL_ok hb
      simp only [Dt.py, k.py] at hy
      cases hy; simp [PyData.eqv]
  | .tup as, b, x, y, ha, hb, hx, hy => by
    obtain ⟨e, k⟩ := plL_ok ha
    simp only [Dt.py, k.py] at hx
    cases hx
    cases b <;> first | (cases hb; done) | skip
    · cases hy; simp [PyData.eqv]
    · cases hy; simp [PyData.eqv]
    · obtain ⟨e', k'⟩ := plL_ok hb
      simp only [Dt.py, k'.py] at hy
      cases hy
      simp only [PyData.eqv, Dt.tup.injEq]
      exact eqvL_iff ha hb k.py k'.py
    · obtain ⟨e', k'⟩ := plL_ok hb
      simp only [Dt.py, k'.py] at hy
      cases hy; simp [PyData.eqv]
  | .lst as, b, x, y, ha, hb, hx, hy => by
    obtain ⟨e, k⟩ := plL_ok ha
    simp only [Dt.py, k.py] at hx
    cases hx
    cases b <;> first | (cases hb; done) | skip
    · cases hy; simp [PyData.eqv]
    · cases hy; simp [PyData.eqv]
    · obtain ⟨e', k'⟩ := plL_ok hb
      simp only [Dt.py, k'.py] at hy
      cases hy; simp [PyData.eqv]
    · obtain ⟨e', k'⟩ := plL_ok hb
      simp only [Dt.py, k'.py] at hy
      cases hy
      simp only [PyData.eqv, Dt.lst.injEq]
      exact eqvL_iff ha hb k.py k'.py
  | .bl _, _, _, _, h, _, _, _ => by cases h
  | .str _, _, _, _, h, _, _, _ => by cases h
  | .dic _, _, _, _, h, _, _, _ => by cases h
  | .scr _, _, _, _, h, _, _, _ => by cases h
theorem eqvL_iff : ∀ {a b : List Dt} {x y : List PyData}, plL a = true → plL b = true → pyL a = some x → pyL b = some y → (PyData.eqvAll x y = true ↔ a = b)
  | [], [], x, y, ha, hb, hx, hy => by cases hx; cases hy; simp [PyData.eqvAll]
  | [], b :: bs, x, y, ha, hb, hx, hy => by
    cases hx
    obtain ⟨e, k⟩ := plL_ok hb
    rw [k.py] at hy
    cases hy
    cases y with
    | nil =>
      have := k.py
      simp only [pyL] at this
      split at this
      · split at this <;> cases this
      · cases this
    | cons _ _ => simp [PyData.eqvAll]
  | a :: as, [], x, y, ha, hb, hx, hy => by
    cases hy
    obtain ⟨e, k⟩ := plL_ok ha
    rw [k.py] at hx
    cases hx
    cases x with
    | nil =>
      have := k.py
      simp only [pyL] at this
      split at this
      · split at this <;> cases this
      · cases this
    | cons _ _ => simp [PyData.eqvAll]
  | a :: as, b :: bs, x, y, ha, hb, hx, hy => by
    have ha' : (pl a && plL as) = true := ha
    have hb' : (pl b && plL bs) = true := hb
    rw [Bool.and_eq_true] at ha' hb'
    simp only [pyL] at hx hy
    split at hx
    · rename_i x1 hx1
      split at hx
      · rename_i xs hxs
        cases hx
        split at hy
        · rename_i y1 hy1
          split at hy
          · rename_i ys hys
            cases hy
            simp only [PyData.eqvAll, Bool.and_eq_true, List.cons.injEq]
            rw [eqv_iff ha'.1 hb'.1 hx1 hy1, eqvL_iff ha'.2 hb'.2 hxs hys]
          · cases hy
        · cases hy
      · cases hx
    · cases hx
end
theorem shaped_pl {d : Dt} {e : PyData} (k : Shw d e) (hd : dpD d ≤ 60) : SeqAt.shaped e = true := by
  show (e.canLay0 && decide (e.depth ≤ 64)) = true
  rw [k.lay, decide_eq_true (show e.depth ≤ 64 by rw [k.dep]; omega)]
  rfl
open Classical in
theorem eqv_pl {a b : Dt} (ha : pl a = true) (hb : pl b = true) (da : dpD a ≤ 60) (db : dpD b ≤ 60) : eqvD a b = some (decide (a = b)) := by
  obtain ⟨x, k⟩ := pl_ok ha
  obtain ⟨y, l⟩ := pl_ok hb
  unfold eqvD
  rw [k.py, l.py]
  dsimp only
  rw [shaped_pl k da, shaped_pl l db]
  have h := eqv_iff ha hb k.py l.py
  simp only [Bool.and_self, if_true, Option.some.injEq]
  cases e : PyData.eqv x y with
  | true => exact (decide_eq_true (h.mp e)).symm
  | false =>
    refine (decide_eq_false fun z => ?_).symm
    rw [h.mpr z] at e
    cases e
theorem shw_inj_eq {a b : Dt} (h : a = b) : shw a = shw b := by rw [h]
end Pd
set_option Elab.async false
set_option linter.all false
set_option maxRecDepth 100000
set_option maxHeartbeats 1000000
/-! Part 25: plain runs: comprehensions, loops, the drawing of numbers. -/
namespace Pd
open PySem
/-! ### comprehensions -/
def stepLc (C : Cl) (el : Ex) (tg : Tg) (ifs : Tes) (own : List Nat) (d : Dt) (e : En) : Rs (Option Dt) :=
  match tgSet tg d (wipeE e own) with
  | some e3 => match evf C ifs e3 with
    | .ok true e4 => match ev C el e4 with
      | .ok o e5 => match o.dt? with | some y => .ok (some y) e5 | none => .no
      | .exc x e5 => .exc x e5
      | .no => .no
    | .ok false e4 => .ok none e4
    | .exc x e4 => .exc x e4
    | .no => .no
  | none => .no
theorem ev_lc {C : Cl} {el : Ex} {tg : Tg} {it : Ir} {ifs : Tes} {own : List Nat} {env e1 e2 : En} {ds : List Dt} (h1 : evi C it env = .ok ds e1) (h2 : lckI it e1 = some e2) :
    ev C (.lc el tg it ifs own) env = match lcGo (stepLc C el tg ifs own) ds [] e2 with
        | .ok ys e6 => .ok (.p (.lst ys)) (backE e1 (backE e2 e6 own) (slotI it))
        | _ => .no := by
  simp only [ev, h1, h2]
  rfl
theorem backE_get' (e0 env : En) (j : Nat) : ∀ (vs : List Nat), env.length = e0.length → (backE e0 env vs)[j]? = if j ∈ vs then e0[j]? else env[j]? := by
  intro vs hl
  induction vs with
  | nil => simp [backE]
  | cons v vs ih =>
    unfold backE
    by_cases e : j = v
    · subst e
      rw [if_pos List.mem_cons_self]
      by_cases hj : j < (backE e0 env vs).length
      · rw [List.getElem?_set_self hj]
        rw [backE_len, hl] at hj
        rw [List.getD_eq_getElem?_getD, List.getElem?_eq_getElem hj]
        rfl
      · rw [List.getElem?_eq_none (by rw [List.length_set]; omega)]
        rw [backE_len, hl] at hj
        rw [List.getElem?_eq_none (by omega)]
    · rw [List.getElem?_set_ne (Ne.symm e), ih]
      simp [e]
theorem wipeE_get' (env : En) (j : Nat) : ∀ (vs : List Nat), j ∉ vs → (wipeE env vs)[j]? = env[j]? := by
  intro vs
  induction vs with
  | nil => intro _; rfl
  | cons v vs ih =>
    intro hn
    unfold wipeE
    rw [List.getElem?_set_ne (fun e => hn (by rw [e]; exact List.mem_cons_self)), ih (fun z => hn (List.mem_cons_of_mem _ z))]
theorem back_of_wipe {e2 e6 : En} {own : List Nat} (h : wipeE e6 own = wipeE e2 own) : backE e2 e6 own = e2 := by
  have hl : e6.length = e2.length := by rw [← wipeE_len e6 own, h, wipeE_len]
  apply List.ext_getElem?
  intro j
  rw [backE_get' _ _ _ _ hl]
  by_cases hj : j ∈ own
  · rw [if_pos hj]
  · rw [if_neg hj, ← wipeE_get' e6 j own hj, h, wipeE_get' e2 j own hj]
theorem back_self (env : En) (vs : List Nat) : backE env env vs = env := back_of_wipe rfl
theorem lock_one {env e2 : En} {o : Op} (h : lockE env o = some e2) : backE env e2 (opSl o) = env := by
  cases o with
  | e x => simp only [lockE] at h; cases h; rfl
  | v i =>
    have hs : ∀ (x : Option Ow) (e2 : En), e2 = env.set i x → backE env e2 [i] = env := fun x e2 he => by
      subst he
      show ((env.set i x).set i (env.getD i none)) = env
      rw [List.set_set]
      apply List.ext_getElem?
      intro j
      by_cases e : i = j
      · subst e
        by_cases hj : i < env.length
        · rw [List.getElem?_set_self hj, List.getD_eq_getElem?_getD, List.getElem?_eq_getElem hj]; rfl
        · rw [List.getElem?_eq_none (by rw [List.length_set]; omega), List.getElem?_eq_none (by omega)]
      · rw [List.getElem?_set_ne e]
    simp only [lockE] at h
    split at h
    · cases h; exact hs _ _ rfl
    · cases h; exact hs _ _ rfl
    · cases h; exact back_self _ _
    · cases h
/-- the sources with one slot at most -/
def oneSl : Ir → Bool
  | .zip _ _ => false
  | _ => true
theorem lock_back {it : Ir} {env e2 : En} (h : lckI it env = some e2) (ho : oneSl it = true) : backE env e2 (slotI it) = env := by
  cases it with
  | op o =>
    have e : slotI (.op o) = opSl o := by cases o <;> rfl
    rw [e]; exact lock_one h
  | enum o =>
    have e : slotI (.enum o) = opSl o := by cases o <;> rfl
    rw [e]; exact lock_one h
  | rng1 a => simp only [lckI] at h; cases h; rfl
  | rng2 a b => simp only [lckI] at h; cases h; rfl
  | zip a b => cases ho
theorem lcGo_pure {st : Dt → En → Rs (Option Dt)} {own : List Nat} {W : En} {g : Dt → Option Dt} : ∀ (ds acc : List Dt) (e : En), wipeE e own = W → (∀ d ∈ ds, ∀ e, wipeE e own = W → ∃ e', st d e = .ok (g d) e' ∧ wipeE e' own = W) → acc.length + ds.length < sizeLine →
    ∃ e', lcGo st ds acc e = .ok (acc ++ ds.filterMap g) e' ∧ wipeE e' own = W
  | [], acc, e, he, _, _ => ⟨e, by simp [lcGo], he⟩
  | d :: ds, acc, e, he, h, hz => by
    obtain ⟨e1, h1, h2⟩ := h d List.mem_cons_self e he
    unfold lcGo
    rw [h1]
    simp only [List.length_cons] at hz
    cases hg : g d with
    | none =>
      obtain ⟨e', q1, q2⟩ := lcGo_pure ds acc e1 h2 (fun d hd => h d (List.mem_cons_of_mem _ hd)) (by omega)
      exact ⟨e', by simp only [q1]; simp [hg], q2⟩
    | some y =>
      obtain ⟨e', q1, q2⟩ := lcGo_pure ds (acc ++ [y]) e1 h2 (fun d hd => h d (List.mem_cons_of_mem _ hd)) (by simp; omega)
      refine ⟨e', ?_, q2⟩
      dsimp only
      rw [if_pos (by omega), q1]
      simp [hg]
/-- a comprehension that changes nothing -/
theorem lc_pure {C : Cl} {el : Ex} {tg : Tg} {it : Ir} {ifs : Tes} {own : List Nat} {env e2 : En} {ds : List Dt} (g : Dt → Option Dt) (h1 : evi C it env = .ok ds env) (h2 : lckI it env = some e2) (ho : oneSl it = true) (hz : ds.length < sizeLine)
    (h3 : ∀ d ∈ ds, ∃ e', stepLc C el tg ifs own d e2 = .ok (g d) e' ∧ wipeE e' own = wipeE e2 own) : ev C (.lc el tg it ifs own) env = .ok (.p (.lst (ds.filterMap g))) env := by
  rw [ev_lc h1 h2]
  obtain ⟨e', q1, q2⟩ := lcGo_pure (st := stepLc C el tg ifs own) (own := own) (W := wipeE e2 own) (g := g) ds [] e2 rfl (fun d hd e he => by
    obtain ⟨e', a, b⟩ := h3 d hd
    refine ⟨e', ?_, b⟩
    rw [← a]
    unfold stepLc
    rw [he]) (by simpa using hz)
  rw [q1]
  dsimp only
  rw [back_of_wipe q2, lock_back h2 ho, List.nil_append]
theorem lcGo_inv {st : Dt → En → Rs (Option Dt)} (I : List Dt → List Dt → En → Prop) : ∀ (ds pre acc : List Dt) (e : En), I pre acc e → (∀ (pre : List Dt) (d : Dt) (acc : List Dt) (e : En), d ∈ ds → I pre acc e → ∃ y e', st d e = .ok (some y) e' ∧ I (pre ++ [d]) (acc ++ [y]) e') → acc.length + ds.length < sizeLine →
    ∃ ys e', lcGo st ds acc e = .ok ys e' ∧ I (pre ++ ds) ys e'
  | [], pre, acc, e, h, _, _ => ⟨acc, e, rfl, by simpa using h⟩
  | d :: ds, pre, acc, e, h, hs, hz => by
    obtain ⟨y, e1, h1, h2⟩ := hs pre d acc e List.mem_cons_self h
    simp only [List.length_cons] at hz
    obtain ⟨ys, e', q1, q2⟩ := lcGo_inv I ds (pre ++ [d]) (acc ++ [y]) e1 h2 (fun pre d acc e hd => hs pre d acc e (List.mem_cons_of_mem _ hd)) (by simp; omega)
    refine ⟨ys, e', ?_, by simpa using q2⟩
    unfold lcGo
    rw [h1]
    dsimp only
    rw [if_pos (by omega)]
    exact q1
theorem wipe_set_out {env : En} {k : Nat} {x : Option Ow} : ∀ {vs : List Nat}, k ∉ vs → wipeE (env.set k x) vs = (wipeE env vs).set k x
  | [], _ => rfl
  | v :: vs, h => by
    unfold wipeE
    rw [wipe_set_out (fun z => h (List.mem_cons_of_mem _ z)), List.set_comm]
    exact fun e => h (by rw [e]; exact List.mem_cons_self)
theorem wipe_wipe (env : En) (vs : List Nat) : wipeE (wipeE env vs) vs = wipeE env vs := by
  have A : ∀ (us : List Nat), (∀ u ∈ us, u ∈ vs) → wipeE (wipeE env vs) us = wipeE env vs := by
    intro us
    induction us with
    | nil => intro _; rfl
    | cons u us ih =>
      intro h
      show (wipeE (wipeE env vs) us).set u none = _
      rw [ih fun x hx => h x (List.mem_cons_of_mem _ hx)]
      have hn : ∀ (ws : List Nat) (env : En), u ∈ ws → (wipeE env ws).set u none = wipeE env ws := by
        intro ws
        induction ws with
        | nil => intro _ hu; cases hu
        | cons w ws ih2 =>
          intro env hu
          unfold wipeE
          by_cases e : u = w
          · subst e; rw [List.set_set]
          · rw [List.set_comm _ _ (Ne.symm e), ih2 env ((List.mem_cons.mp hu).resolve_left e)]
      exact hn vs env (h u List.mem_cons_self)
  exact A vs fun _ h => h
theorem set_same {α : Type} {l : List α} {k : Nat} {x : α} (h : l[k]? = some x) : l.set k x = l := by
  obtain ⟨hk, e⟩ := List.getElem?_eq_some_iff.mp h
  rw [← e]
  exact List.set_getElem_self hk
theorem lockE_len {env e2 : En} {o : Op} (h : lockE env o = some e2) : e2.length = env.length := by
  cases o with
  | e x => simp only [lockE] at h; cases h; rfl
  | v i =>
    simp only [lockE] at h
    split at h <;> cases h <;> simp
theorem lock_len {it : Ir} {env e2 : En} (h : lckI it env = some e2) : e2.length = env.length := by
  cases it with
  | op o => exact lockE_len h
  | enum o => exact lockE_len h
  | rng1 a => simp only [lckI] at h; cases h; rfl
  | rng2 a b => simp only [lckI] at h; cases h; rfl
  | zip a b =>
    simp only [lckI] at h
    split at h
    · rename_i e1 h1
      rw [lockE_len h, lockE_len h1]
    · cases h
/-- a comprehension that changes the slot k alone -/
theorem lc_slot {C : Cl} {el : Ex} {tg : Tg} {it : Ir} {ifs : Tes} {own : List Nat} {env env1 e2 : En} {ds : List Dt} {k : Nat} (P : List Dt → List Dt → Ow → Prop) (h1 : evi C it env = .ok ds env1) (h2 : lckI it env1 = some e2) (ho : oneSl it = true) (hz : ds.length < sizeLine) (hk : k ∉ own) (hk2 : k ∉ slotI it)
    (h0 : ∃ s, e2[k]? = some (some s) ∧ P [] [] s)
    (h3 : ∀ pre d acc s, d ∈ ds → P pre acc s → ∃ y s' e', stepLc C el tg ifs own d ((wipeE e2 own).set k (some s)) = .ok (some y) e' ∧ wipeE e' own = (wipeE e2 own).set k (some s') ∧ P (pre ++ [d]) (acc ++ [y]) s') :
    ∃ ys s', ev C (.lc el tg it ifs own) env = .ok (.p (.lst ys)) (env1.set k (some s')) ∧ P ds ys s' := by
  rw [ev_lc h1 h2]
  obtain ⟨s0, hs0, hp0⟩ := h0
  have hle := lock_len h2
  obtain ⟨ys, e6, q1, s', q2, q3⟩ := lcGo_inv (st := stepLc C el tg ifs own) (fun pre acc e => ∃ s, P pre acc s ∧ wipeE e own = (wipeE e2 own).set k (some s)) ds [] [] e2 ⟨s0, hp0, by rw [set_same]; rw [wipeE_get' e2 k own hk]; exact hs0⟩ (fun pre d acc e hd ⟨s, hp, he⟩ => by
    obtain ⟨y, s', e', a, b, c⟩ := h3 pre d acc s hd hp
    refine ⟨y, e', ?_, s', c, b⟩
    rw [← a]
    unfold stepLc
    rw [he, wipe_set_out hk, wipe_wipe]) (by simpa using hz)
  rw [List.nil_append] at q2
  refine ⟨ys, s', ?_, q2⟩
  rw [q1]
  dsimp only
  have hl6 : e6.length = e2.length := by rw [← wipeE_len e6 own, q3, List.length_set, wipeE_len]
  have e1 : backE e2 e6 own = e2.set k (some s') := by
    apply List.ext_getElem?
    intro j
    rw [backE_get' _ _ _ _ hl6]
    by_cases hj : j ∈ own
    · rw [if_pos hj, List.getElem?_set_ne (fun e => hk (by rw [e]; exact hj))]
    · rw [if_neg hj, ← wipeE_get' e6 j own hj, q3, ← wipe_set_out hk, wipeE_get' _ j own hj]
  rw [e1]
  congr 1
  have hb := lock_back h2 ho
  apply List.ext_getElem?
  intro j
  rw [backE_get' _ _ _ _ (by rw [List.length_set]; exact hle)]
  by_cases hj : j ∈ slotI it
  · rw [if_pos hj, List.getElem?_set_ne (fun e => hk2 (by rw [e]; exact hj))]
  · rw [if_neg hj]
    by_cases e : k = j
    · subst e
      by_cases hl : k < e2.length
      · rw [List.getElem?_set_self hl, List.getElem?_set_self (by rw [← hle]; exact hl)]
      · rw [List.getElem?_eq_none (by rw [List.length_set]; omega), List.getElem?_eq_none (by rw [List.length_set]; omega)]
    · rw [List.getElem?_set_ne e, List.getElem?_set_ne e, ← hb, backE_get' _ _ _ _ hle, if_neg hj]
end Pd
set_option Elab.async false
set_option linter.all false
set_option maxRecDepth 100000
set_option maxHeartbeats 1000000
/-! Part 26: plain runs: the drawing of numbers. -/
namespace Pd
open PySem
/-! ### the record of a script -/
def srcF (cells : List Int) (l m t : Int) : List (Str × Ow1) := [("cells", .lst (cells.map .int)), ("left", .imm (.int l)), ("mixed", .imm (.int m)), ("turn", .imm (.int t))]
def Src (o : Ow) : Prop := ∃ cells l m t, cells.length ≤ 63 ∧ o = .rc (srcF cells l m t)
theorem ne1 : (("left" : Str) == "cells") = false := by decide +kernel
theorem ne2 : (("mixed" : Str) == "cells") = false := by decide +kernel
theorem ne3 : (("mixed" : Str) == "left") = false := by decide +kernel
theorem ne4 : (("turn" : Str) == "cells") = false := by decide +kernel
theorem ne5 : (("turn" : Str) == "left") = false := by decide +kernel
theorem ne6 : (("turn" : Str) == "mixed") = false := by decide +kernel
section
variable {cells : List Int} {l m t x : Int}
theorem lk_c : (srcF cells l m t).lookup ("cells" : Str) = some (Ow1.lst (cells.map .int)) := by simp [srcF, List.lookup_cons]
theorem lk_l : (srcF cells l m t).lookup ("left" : Str) = some (Ow1.imm (.int l)) := by simp [srcF, List.lookup_cons, ne1]
theorem lk_m : (srcF cells l m t).lookup ("mixed" : Str) = some (Ow1.imm (.int m)) := by simp [srcF, List.lookup_cons, ne2, ne3]
theorem lk_t : (srcF cells l m t).lookup ("turn" : Str) = some (Ow1.imm (.int t)) := by simp [srcF, List.lookup_cons, ne4, ne5, ne6]
theorem nq {a b : Str} (h : (a == b) = false) : ¬ b = a := fun e => by subst e; simp at h
theorem st_c {ds : List Dt} : setRec "cells" (.lst ds) (srcF cells l m t) = (("cells" : Str), Ow1.lst ds) :: (srcF cells l m t).tail := by simp [srcF, setRec]
theorem st_l : setRec "left" (.imm (.int x)) (srcF cells l m t) = srcF cells x m t := by simp [srcF, setRec, nq ne1]
theorem st_m : setRec "mixed" (.imm (.int x)) (srcF cells l m t) = srcF cells l x t := by simp [srcF, setRec, nq ne2, nq ne3]
theorem st_t : setRec "turn" (.imm (.int x)) (srcF cells l m t) = srcF cells l m x := by simp [srcF, setRec, nq ne4, nq ne5, nq ne6]
theorem src_len : (srcF cells l m t).length = 4 := rfl
end
theorem int_map_getLast {cells : List Int} {c : Int} (h : cells.getLast? = some c) : (cells.map Dt.int).getLast? = some (.int c) := by
  rw [List.getLast?_map, h]; rfl
/-- the drawing of a number, its numbers open -/
def pickB (c1 c2 c3 c4 c5 : Int) : Sms :=
  (.cons (.whl (.land (.tr (.e (.pr .gt (.cons (.v 1) (.cons (.e (.cst (.int 1))) .nil))))) (.land (.tr (.e (.pr .lt (.cons (.e (.fld 0 "left")) (.cons (.e (.cst (.int 2))) .nil))))) (.tr (.e (.pr .gt (.cons (.e (.lenF 0 "cells")) (.cons (.e (.cst (.int 0))) .nil))))))) (.cons (.setF 0 "left" (.popF 0 "cells"))
    .nil))
  (.cons (.asg 2 (.fld 0 "left"))
  (.cons (.ite (.lor (.tr (.e (.pr .lt (.cons (.v 1) (.cons (.e (.cst (.int 2))) .nil))))) (.tr (.e (.pr .gt (.cons (.v 2) (.cons (.e (.cst (.int 1))) .nil)))))) (.cons (.setF 0 "left" (.pr .fdiv (.cons (.v 2) (.cons (.e (.pr .max2 (.cons (.e (.cst (.int 1))) (.cons (.v 1) .nil)))) .nil))))
    (.cons (.ret (.pr .mod (.cons (.e (.pr .int (.cons (.v 2) .nil))) (.cons (.e (.pr .max2 (.cons (.e (.cst (.int 1))) (.cons (.v 1) .nil)))) .nil))))
    .nil)) .nil)
  (.cons (.setF 0 "turn" (.pr .add (.cons (.e (.fld 0 "turn")) (.cons (.e (.cst (.int 1))) .nil))))
  (.cons (.asg 3 (.pr .mod (.cons (.e (.pr .int (.cons (.e (.pr .add (.cons (.e (.fld 0 "mixed")) (.cons (.e (.pr .mul (.cons (.e (.fld 0 "turn")) (.cons (.e (.cst (.int c1))) .nil)))) .nil)))) .nil))) (.cons (.e (.cst (.int c2))) .nil))))
  (.cons (.asg 3 (.pr .mod (.cons (.e (.pr .int (.cons (.e (.pr .add (.cons (.e (.pr .mul (.cons (.v 3) (.cons (.v 3) .nil)))) (.cons (.e (.pr .mul (.cons (.e (.fld 0 "turn")) (.cons (.e (.cst (.int c3))) .nil)))) .nil)))) .nil))) (.cons (.e (.cst (.int c4))) .nil))))
  (.cons (.setF 0 "mixed" (.var 3))
  (.cons (.ret (.pr .mod (.cons (.e (.pr .int (.cons (.e (.pr .fdiv (.cons (.v 3) (.cons (.e (.cst (.int c5))) .nil)))) .nil))) (.cons (.v 1) .nil))))
  .nil))))))))
theorem ix0 {α : Type} {a : α} {l : List α} : (a :: l)[0]? = some a := rfl
theorem ix1 {α : Type} {a b : α} {l : List α} : (a :: b :: l)[1]? = some b := rfl
theorem ix2 {α : Type} {a b c : α} {l : List α} : (a :: b :: c :: l)[2]? = some c := rfl
theorem ix3 {α : Type} {a b c d : α} {l : List α} : (a :: b :: c :: d :: l)[3]? = some d := rfl
section
variable {C : Cl}
/-- the test of the first loop -/
theorem pick_test {cells : List Int} {l m t many : Int} {x y : Option Ow} : evt C (.land (.tr (.e (.pr .gt (.cons (.v 1) (.cons (.e (.cst (.int 1))) .nil))))) (.land (.tr (.e (.pr .lt (.cons (.e (.fld 0 "left")) (.cons (.e (.cst (.int 2))) .nil))))) (.tr (.e (.pr .gt (.cons (.e (.lenF 0 "cells")) (.cons (.e (.cst (.int 0))) .nil)))))))
    [some (.rc (srcF cells l m t)), some (im (.int many)), x, y] = .ok (decide (1 < many) && (decide (l < 2) && decide (0 < (cells.length : Int)))) [some (.rc (srcF cells l m t)), some (im (.int many)), x, y] := by
  have g0 : ∀ (a : Option Ow), getE [a, some (im (.int many)), x, y] 0 = a := fun a => by cases a <;> rfl
  have g1 : ∀ (a : Option Ow), getE [a, some (im (.int many)), x, y] 1 = some (im (.int many)) := fun a => rfl
  simp only [evt, evp, ev, evo, vws, Tm.vw, Ow.vw, Ow1.dt, im, Pr.sem, i1, Dt.tru, g0, g1, lk_l, lk_c, List.length_map]
  by_cases h1 : 1 < many
  · by_cases h2 : l < 2
    · simp [h1, h2, g0, g1, lk_l, lk_c, evt, evp, ev, evo, vws, Tm.vw, Ow.vw, Ow1.dt, im, Pr.sem, i1, Dt.tru]
    · simp [h1, h2, g0, g1, lk_l, lk_c, evt, evp, ev, evo, vws, Tm.vw, Ow.vw, Ow1.dt, im, Pr.sem, i1, Dt.tru]
  · simp [h1]
theorem pick_body {wf : Nat} {cells : List Int} {c l m t many : Int} {x y : Option Ow} (hc : cells.getLast? = some c) : exs C wf (.cons (.setF 0 "left" (.popF 0 "cells")) .nil) [some (.rc (srcF cells l m t)), some (im (.int many)), x, y] = .ok .nx [some (.rc (srcF cells.dropLast c m t)), some (im (.int many)), x, y] := by
  have g0 : ∀ (a : Option Ow), getE [a, some (im (.int many)), x, y] 0 = a := fun a => by cases a <;> rfl
  have e1 : (("cells" : Str), Ow1.lst (cells.map Dt.int).dropLast) :: (srcF cells l m t).tail = srcF cells.dropLast l m t := by
    unfold srcF
    rw [List.map_dropLast]
    rfl
  simp only [exs, ex, ev, g0, lk_c, int_map_getLast hc, st_c, e1, im, List.set_cons_zero, Ow1.dt, lk_l, st_l, src_len]
  simp
theorem pick_loop {wf0 : Nat} {m t many : Int} {x y : Option Ow} : ∀ (k : Nat) (cells : List Int) (l : Int) (wf : Nat), cells.length = k → k < wf → ∃ cells' l', cells'.length ≤ k ∧
    whGo (fun e => evt C (.land (.tr (.e (.pr .gt (.cons (.v 1) (.cons (.e (.cst (.int 1))) .nil))))) (.land (.tr (.e (.pr .lt (.cons (.e (.fld 0 "left")) (.cons (.e (.cst (.int 2))) .nil))))) (.tr (.e (.pr .gt (.cons (.e (.lenF 0 "cells")) (.cons (.e (.cst (.int 0))) .nil))))))) e) (fun e => exs C wf0 (.cons (.setF 0 "left" (.popF 0 "cells")) .nil) e) wf
      [some (.rc (srcF cells l m t)), some (im (.int many)), x, y] = .ok .nx [some (.rc (srcF cells' l' m t)), some (im (.int many)), x, y]
  | k, cells, l, 0, hk, hw => by omega
  | k, cells, l, wf + 1, hk, hw => by
    unfold whGo
    rw [pick_test]
    cases hb : (decide (1 < many) && (decide (l < 2) && decide (0 < (cells.length : Int)))) with
    | false => exact ⟨cells, l, by omega, rfl⟩
    | true =>
      simp only [Bool.and_eq_true, decide_eq_true_eq] at hb
      have hn : cells ≠ [] := fun e => by rw [e] at hb; simp at hb
      have hc : cells.getLast? = some (cells.getLast hn) := List.getLast?_eq_some_getLast hn
      dsimp only
      rw [pick_body hc]
      dsimp only
      obtain ⟨cells', l', h1, h2⟩ := pick_loop (k - 1) cells.dropLast (cells.getLast hn) wf (by rw [List.length_dropLast, hk]) (by omega)
      exact ⟨cells', l', by omega, h2⟩
theorem max2_pos {many : Int} : 0 < (if many > 1 then many else 1) := by split <;> omega
theorem okMul_r {a b : Int} (h : b.natAbs < 2 ^ 64) : okMul a b = true := by
  unfold okMul
  simp [h]
theorem log_small {a : Int} (h0 : 0 < a) (h : a < 2 ^ 62) : a.natAbs.log2 < 9000 := by
  have : a.natAbs.log2 < 62 := (Nat.log2_lt (by omega)).mpr (by omega)
  omega
theorem pick_run {wf : Nat} {c1 c2 c3 c4 c5 many : Int} {s : Ow} (hs : Src s) (hwf : 63 < wf) (h1 : c1.natAbs < 2 ^ 64) (h2 : 0 < c2) (h2' : c2 < 2 ^ 62) (h3 : c3.natAbs < 2 ^ 64) (h4 : 0 < c4) (h5 : 0 < c5) (h5' : c5 < 2 ^ 62) (hm : many < 2 ^ 62) :
    ∃ k s', runFn C wf ⟨2, 4, [.mu, .sh], pickB c1 c2 c3 c4 c5⟩ [s, im (.int many)] = .ret (im (.int k)) [some s', none] ∧ Src s' ∧ 0 ≤ k ∧ (k < many ∨ k = 0) := by
  obtain ⟨cells, l, m, t, hz, rfl⟩ := hs
  obtain ⟨cells', l', hz', hloop⟩ := pick_loop (C := C) (wf0 := wf) (m := m) (t := t) (many := many) (x := none) (y := none) cells.length cells l wf rfl (by omega)
  have g0 : ∀ (a u v : Option Ow), getE [a, some (im (.int many)), u, v] 0 = a := fun a u v => by cases a <;> rfl
  have g1 : ∀ (a u v : Option Ow), getE [a, some (im (.int many)), u, v] 1 = some (im (.int many)) := fun a u v => rfl
  have g2 : ∀ (a u v : Option Ow), getE [a, some (im (.int many)), u, v] 2 = u := fun a u v => by cases u <;> rfl
  have g3 : ∀ (a u v : Option Ow), getE [a, some (im (.int many)), u, v] 3 = v := fun a u v => by cases v <;> rfl
  unfold runFn
  simp only [List.length_cons, List.length_nil, List.map_cons, List.map_nil, if_true, pickB, List.replicate, List.cons_append, List.nil_append, Nat.reduceAdd, Nat.reduceSub]
  rw [exs]
  rw [show ex C wf (Sm.whl _ _) _ = _ from hloop]
  dsimp only
  have pm : (0 : Int) < (if many > 1 then many else 1) := max2_pos
  have pl : (if many > 1 then many else 1).natAbs.log2 < 9000 := log_small pm (by split <;> omega)
  by_cases hb : many < 2 ∨ 1 < l'
  · refine ⟨l' % (if many > 1 then many else 1), .rc (srcF cells' (l' / (if many > 1 then many else 1)) m t), ?_, ⟨cells', _, m, t, by omega, rfl⟩, Int.emod_nonneg _ (by omega), ?_⟩
    · have ht : evt C (.lor (.tr (.e (.pr .lt (.cons (.v 1) (.cons (.e (.cst (.int 2))) .nil))))) (.tr (.e (.pr .gt (.cons (.v 2) (.cons (.e (.cst (.int 1))) .nil)))))) [some (.rc (srcF cells' l' m t)), some (im (.int many)), some (im (.int l')), none] = .ok true [some (.rc (srcF cells' l' m t)), some (im (.int many)), some (im (.int l')), none] := by
        simp only [evt, evp, ev, evo, vws, Tm.vw, Ow.vw, Ow1.dt, im, Pr.sem, i1, Dt.tru, g1, g2]
        by_cases h : many < 2
        · simp [h]
        · have h' : 1 < l' := hb.resolve_left h
          simp [h, h', g1, g2, evt, evp, ev, evo, vws, Tm.vw, Ow.vw, Ow1.dt, im, Pr.sem, i1, Dt.tru]
      have s1 : ex C wf (.asg 2 (.fld 0 "left")) [some (.rc (srcF cells' l' m t)), some (im (.int many)), none, none] = .ok .nx [some (.rc (srcF cells' l' m t)), some (im (.int many)), some (im (.int l')), none] := by
        simp [ex, ev, g0, lk_l]
      have s2 : ex C wf (.setF 0 "left" (.pr .fdiv (.cons (.v 2) (.cons (.e (.pr .max2 (.cons (.e (.cst (.int 1))) (.cons (.v 1) .nil)))) .nil)))) [some (.rc (srcF cells' l' m t)), some (im (.int many)), some (im (.int l')), none] = .ok .nx [some (.rc (srcF cells' (l' / (if many > 1 then many else 1)) m t)), some (im (.int many)), some (im (.int l')), none] := by
        simp only [ex, ev, g0, g1, g2, lk_l, evp, evo, vws, Tm.vw, Ow.vw, Ow1.dt, im, Pr.sem, i1, pm, pl, and_self, if_true, src_len, st_l, List.set_cons_zero]
        simp
      have s3 : ex C wf (.ret (.pr .mod (.cons (.e (.pr .int (.cons (.v 2) .nil))) (.cons (.e (.pr .max2 (.cons (.e (.cst (.int 1))) (.cons (.v 1) .nil)))) .nil)))) [some (.rc (srcF cells' (l' / (if many > 1 then many else 1)) m t)), some (im (.int many)), some (im (.int l')), none] = .ok (.rt (im (.int (l' % (if many > 1 then many else 1))))) [some (.rc (srcF cells' (l' / (if many > 1 then many else 1)) m t)), some (im (.int many)), some (im (.int l')), none] := by
        simp only [ex, ev, g0, g1, g2, evp, evo, vws, Tm.vw, Ow.vw, Ow1.dt, im, Pr.sem, i1, pm, if_true]
      have s7 : ∀ a b, ex C wf (.ite (.lor (.tr (.e (.pr .lt (.cons (.v 1) (.cons (.e (.cst (.int 2))) .nil))))) (.tr (.e (.pr .gt (.cons (.v 2) (.cons (.e (.cst (.int 1))) .nil)))))) a b) [some (.rc (srcF cells' l' m t)), some (im (.int many)), some (im (.int l')), none] = exs C wf a [some (.rc (srcF cells' l' m t)), some (im (.int many)), some (im (.int l')), none] := fun a b => by
        rw [ex, ht]
      simp only [exs, s1, s7, s2, s3]
      rfl
    · have := Int.emod_lt_of_pos l' pm
      by_cases h : many > 1
      · rw [if_pos h] at this; exact .inl (by rw [if_pos h]; exact this)
      · rw [if_neg h] at this ⊢; omega
  · have hm2 : ¬ many < 2 := fun h => hb (.inl h)
    have hl2 : ¬ 1 < l' := fun h => hb (.inr h)
    have ht : evt C (.lor (.tr (.e (.pr .lt (.cons (.v 1) (.cons (.e (.cst (.int 2))) .nil))))) (.tr (.e (.pr .gt (.cons (.v 2) (.cons (.e (.cst (.int 1))) .nil)))))) [some (.rc (srcF cells' l' m t)), some (im (.int many)), some (im (.int l')), none] = .ok false [some (.rc (srcF cells' l' m t)), some (im (.int many)), some (im (.int l')), none] := by
      simp [hm2, hl2, g1, g2, evt, evp, ev, evo, vws, Tm.vw, Ow.vw, Ow1.dt, im, Pr.sem, i1, Dt.tru]
    have k1 : ∀ a : Int, okMul a c1 = true := fun a => okMul_r h1
    have k3 : ∀ a : Int, okMul a c3 = true := fun a => okMul_r h3
    let u := (m + (t + 1) * c1) % c2
    have hu : okMul u u = true := okMul_r (by
      have h0 := Int.emod_nonneg (m + (t + 1) * c1) (show c2 ≠ 0 by omega)
      have h9 := Int.emod_lt_of_pos (m + (t + 1) * c1) h2
      show ((m + (t + 1) * c1) % c2).natAbs < 2 ^ 64
      omega)
    let z := (u * u + (t + 1) * c3) % c4
    have p5 : c5.natAbs.log2 < 9000 := log_small h5 h5'
    have hp : (0 : Int) < many := by omega
    refine ⟨(z / c5) % many, .rc (srcF cells' l' z (t + 1)), ?_, ⟨cells', _, _, _, by omega, rfl⟩, Int.emod_nonneg _ (by omega), .inl (Int.emod_lt_of_pos _ hp)⟩
    have s1 : ex C wf (.asg 2 (.fld 0 "left")) [some (.rc (srcF cells' l' m t)), some (im (.int many)), none, none] = .ok .nx [some (.rc (srcF cells' l' m t)), some (im (.int many)), some (im (.int l')), none] := by
      simp [ex, ev, g0, lk_l]
    have s2 : ex C wf (.setF 0 "turn" (.pr .add (.cons (.e (.fld 0 "turn")) (.cons (.e (.cst (.int 1))) .nil)))) [some (.rc (srcF cells' l' m t)), some (im (.int many)), some (im (.int l')), none] = .ok .nx [some (.rc (srcF cells' l' m (t + 1))), some (im (.int many)), some (im (.int l')), none] := by
      simp [ex, ev, g0, lk_t, evp, evo, vws, Tm.vw, Ow.vw, Ow1.dt, im, Pr.sem, i1, src_len, st_t]
    have s3 : ex C wf (.asg 3 (.pr .mod (.cons (.e (.pr .int (.cons (.e (.pr .add (.cons (.e (.fld 0 "mixed")) (.cons (.e (.pr .mul (.cons (.e (.fld 0 "turn")) (.cons (.e (.cst (.int c1))) .nil)))) .nil)))) .nil))) (.cons (.e (.cst (.int c2))) .nil)))) [some (.rc (srcF cells' l' m (t + 1))), some (im (.int many)), some (im (.int l')), none] = .ok .nx [some (.rc (srcF cells' l' m (t + 1))), some (im (.int many)), some (im (.int l')), some (im (.int u))] := by
      simp [ex, ev, g0, lk_t, lk_m, evp, evo, vws, Tm.vw, Ow.vw, Ow1.dt, im, Pr.sem, i1, k1, h2, u]
    have s4 : ex C wf (.asg 3 (.pr .mod (.cons (.e (.pr .int (.cons (.e (.pr .add (.cons (.e (.pr .mul (.cons (.v 3) (.cons (.v 3) .nil)))) (.cons (.e (.pr .mul (.cons (.e (.fld 0 "turn")) (.cons (.e (.cst (.int c3))) .nil)))) .nil)))) .nil))) (.cons (.e (.cst (.int c4))) .nil)))) [some (.rc (srcF cells' l' m (t + 1))), some (im (.int many)), some (im (.int l')), some (im (.int u))] = .ok .nx [some (.rc (srcF cells' l' m (t + 1))), some (im (.int many)), some (im (.int l')), some (im (.int z))] := by
      simp [ex, ev, g0, g3, lk_t, evp, evo, vws, Tm.vw, Ow.vw, Ow1.dt, im, Pr.sem, i1, k3, hu, h4, z]
    have s5 : ex C wf (.setF 0 "mixed" (.var 3)) [some (.rc (srcF cells' l' m (t + 1))), some (im (.int many)), some (im (.int l')), some (im (.int z))] = .ok .nx [some (.rc (srcF cells' l' z (t + 1))), some (im (.int many)), some (im (.int l')), some (im (.int z))] := by
      simp [ex, ev, g0, g3, Ow1.dt, im, lk_m, src_len, st_m]
    have s6 : ex C wf (.ret (.pr .mod (.cons (.e (.pr .int (.cons (.e (.pr .fdiv (.cons (.v 3) (.cons (.e (.cst (.int c5))) .nil)))) .nil))) (.cons (.v 1) .nil)))) [some (.rc (srcF cells' l' z (t + 1))), some (im (.int many)), some (im (.int l')), some (im (.int z))] = .ok (.rt (im (.int ((z / c5) % many)))) [some (.rc (srcF cells' l' z (t + 1))), some (im (.int many)), some (im (.int l')), some (im (.int z))] := by
      simp [ex, ev, g1, g3, evp, evo, vws, Tm.vw, Ow.vw, Ow1.dt, im, Pr.sem, i1, h5, p5, hp]
    have s7 : ∀ a b, ex C wf (.ite (.lor (.tr (.e (.pr .lt (.cons (.v 1) (.cons (.e (.cst (.int 2))) .nil))))) (.tr (.e (.pr .gt (.cons (.v 2) (.cons (.e (.cst (.int 1))) .nil)))))) a b) [some (.rc (srcF cells' l' m t)), some (im (.int many)), some (im (.int l')), none] = exs C wf b [some (.rc (srcF cells' l' m t)), some (im (.int many)), some (im (.int l')), none] := fun a b => by
      rw [ex, ht]
    simp only [exs, s1, s7, s2, s3, s4, s5, s6]
    rfl
end
end Pd
set_option Elab.async false
set_option linter.all false
set_option maxRecDepth 100000
set_option maxHeartbeats 4000000
namespace Pd
open PySem PySem.Spec PyProof.Rows L2
def topS (i : Nat) : Stmt := PySem.Challenge.pw_drawndeeds_k02_whole_deeds_done.main.body.getD i (.Pass ⟨0, 0, 0, 0⟩)
def dfs : List Df := [
  ⟨"idle", topS 1, ["n"], ["n"], [.sh], []⟩,
  ⟨"product", topS 2, ["deed", "other", "place"], ["deed", "other"], [.sh, .sh], []⟩,
  ⟨"done", topS 3, ["book", "word", "found", "letter"], ["book", "word"], [.sh, .sh], []⟩,
  ⟨"held", topS 4, ["deed", "place", "led"], ["deed"], [.sh], []⟩,
  ⟨"reach", topS 5, ["deed", "place"], ["deed"], [.sh], []⟩,
  ⟨"rank", topS 6, ["deed"], ["deed"], [.sh], []⟩,
  ⟨"is_settled", topS 7, ["deed"], ["deed"], [.sh], []⟩,
  ⟨"_law_source", topS 9, ["script", "mixed", "cell"], ["script"], [.sh], []⟩,
  ⟨"_law_pick", topS 10, ["source", "many", "left", "mixed"], ["source", "many"], [.mu, .sh], [0]⟩,
  ⟨"_law_of", topS 11, ["source", "things"], ["source", "things"], [.mu, .sh], [0]⟩,
  ⟨"_law_mixed", topS 12, ["source", "things", "rest", "lap"], ["source", "things"], [.mu, .sh], [0]⟩,
  ⟨"_law_deed", topS 13, ["source", "n", "way", "p", "kept"], ["source", "n", "way"], [.mu, .sh, .sh], [0]⟩,
  ⟨"_law_led", topS 14, ["book", "word", "place", "letter"], ["book", "word", "place"], [.sh, .sh, .sh], []⟩,
  ⟨"_law_deed_right", topS 15, ["deed", "n", "shown", "hold", "p", "reached", "q", "is_twice"], ["deed"], [.sh], []⟩,
  ⟨"_law_words_right", topS 16, ["source", "book", "deed", "many", "long", "word", "k", "due", "p", "shown", "told", "both", "q", "one"], ["source", "book", "deed"], [.mu, .sh, .sh], [0]⟩,
  ⟨"_law_beside", topS 17, ["source", "n", "m", "near", "far", "p"], ["source", "n", "m"], [.mu, .sh, .sh], [0]⟩,
  ⟨"law", topS 18, ["script", "source", "lap", "n", "m", "deeds", "k", "deed", "book", "told", "word"], ["script"], [.sh], [1]⟩]

/-- "idle" -/
def bidle : Sms :=
  (.cons (.ret (.pr .tuple (.cons (.e (.pr .lrng (.cons (.v 0) .nil))) .nil)))
  .nil)
def fidle : Fn := ⟨1, 1, [.sh], bidle⟩
/-- "product" -/
def bproduct : Sms :=
  (.cons (.ret (.pr .tuple (.cons (.e (.lc (.pr .ix (.cons (.v 1) (.cons (.v 2) .nil))) (.nm 2) (.op (.v 0)) .nil [2])) .nil)))
  .nil)
def fproduct : Fn := ⟨2, 3, [.sh, .sh], bproduct⟩
/-- "done" -/
def bdone : Sms :=
  (.cons (.asg 2 (.call 0 (.cons (.e (.pr .ix (.cons (.v 0) (.cons (.e (.cst (.int 0))) .nil)))) .nil)))
  (.cons (.fors (.nm 3) (.op (.v 1)) (.cons (.asg 2 (.call 1 (.cons (.v 2) (.cons (.e (.pr .ix (.cons (.e (.pr .ix (.cons (.v 0) (.cons (.e (.cst (.int 1))) .nil)))) (.cons (.v 3) .nil)))) .nil))))
    .nil))
  (.cons (.retV 2)
  .nil)))
def fdone : Fn := ⟨2, 4, [.sh, .sh], bdone⟩
/-- "held" -/
def bheld : Sms :=
  (.cons (.ret (.pr .tuple (.cons (.e (.lc (.var 1) (.tp [1, 2]) (.enum (.v 0)) (.one (.tr (.e (.pr .eq (.cons (.v 1) (.cons (.v 2) .nil)))))) [1, 2])) .nil)))
  .nil)
def fheld : Fn := ⟨1, 3, [.sh], bheld⟩
/-- "reach" -/
def breach : Sms :=
  (.cons (.ret (.pr .tuple (.cons (.e (.lc (.var 1) (.nm 1) (.rng1 (.pr .len (.cons (.v 0) .nil))) (.one (.tr (.e (.pr .isIn (.cons (.v 1) (.cons (.v 0) .nil)))))) [1])) .nil)))
  .nil)
def freach : Fn := ⟨1, 2, [.sh], breach⟩
/-- "rank" -/
def brank : Sms :=
  (.cons (.ret (.pr .len (.cons (.e (.call 4 (.cons (.v 0) .nil))) .nil)))
  .nil)
def frank : Fn := ⟨1, 1, [.sh], brank⟩
/-- "is_settled" -/
def bis_settled : Sms :=
  (.cons (.ret (.pr .eq (.cons (.e (.call 1 (.cons (.v 0) (.cons (.v 0) .nil)))) (.cons (.v 0) .nil))))
  .nil)
def fis_settled : Fn := ⟨1, 1, [.sh], bis_settled⟩
/-- "_law_source" -/
def b_law_source : Sms :=
  (.cons (.asg 1 (.cst (.int 11)))
  (.cons (.fors (.nm 2) (.op (.v 0)) (.cons (.asg 1 (.pr .mod (.cons (.e (.pr .int (.cons (.e (.pr .add (.cons (.e (.pr .add (.cons (.e (.pr .mul (.cons (.v 1) (.cons (.e (.cst (.int 69069))) .nil)))) (.cons (.e (.pr .mul (.cons (.v 2) (.cons (.e (.cst (.int 31))) .nil)))) .nil)))) (.cons (.e (.cst (.int 5))) .nil)))) .nil))) (.cons (.e (.cst (.int 2147483629))) .nil))))
    .nil))
  (.cons (.ret (.rcd ["cells", "left", "mixed", "turn"] (.cons (.pr .rev (.cons (.e (.lc (.pr .abs (.cons (.v 2) .nil)) (.nm 2) (.op (.v 0)) .nil [2])) .nil)) (.cons (.cst (.int 1)) (.cons (.var 1) (.cons (.cst (.int 0)) .nil))))))
  .nil)))
def f_law_source : Fn := ⟨1, 3, [.sh], b_law_source⟩
/-- "_law_pick" -/
def b_law_pick : Sms :=
  (.cons (.whl (.land (.tr (.e (.pr .gt (.cons (.v 1) (.cons (.e (.cst (.int 1))) .nil))))) (.land (.tr (.e (.pr .lt (.cons (.e (.fld 0 "left")) (.cons (.e (.cst (.int 2))) .nil))))) (.tr (.e (.pr .gt (.cons (.e (.lenF 0 "cells")) (.cons (.e (.cst (.int 0))) .nil))))))) (.cons (.setF 0 "left" (.popF 0 "cells"))
    .nil))
  (.cons (.asg 2 (.fld 0 "left"))
  (.cons (.ite (.lor (.tr (.e (.pr .lt (.cons (.v 1) (.cons (.e (.cst (.int 2))) .nil))))) (.tr (.e (.pr .gt (.cons (.v 2) (.cons (.e (.cst (.int 1))) .nil)))))) (.cons (.setF 0 "left" (.pr .fdiv (.cons (.v 2) (.cons (.e (.pr .max2 (.cons (.e (.cst (.int 1))) (.cons (.v 1) .nil)))) .nil))))
    (.cons (.ret (.pr .mod (.cons (.e (.pr .int (.cons (.v 2) .nil))) (.cons (.e (.pr .max2 (.cons (.e (.cst (.int 1))) (.cons (.v 1) .nil)))) .nil))))
    .nil)) .nil)
  (.cons (.setF 0 "turn" (.pr .add (.cons (.e (.fld 0 "turn")) (.cons (.e (.cst (.int 1))) .nil))))
  (.cons (.asg 3 (.pr .mod (.cons (.e (.pr .int (.cons (.e (.pr .add (.cons (.e (.fld 0 "mixed")) (.cons (.e (.pr .mul (.cons (.e (.fld 0 "turn")) (.cons (.e (.cst (.int 104729))) .nil)))) .nil)))) .nil))) (.cons (.e (.cst (.int 998244353))) .nil))))
  (.cons (.asg 3 (.pr .mod (.cons (.e (.pr .int (.cons (.e (.pr .add (.cons (.e (.pr .mul (.cons (.v 3) (.cons (.v 3) .nil)))) (.cons (.e (.pr .mul (.cons (.e (.fld 0 "turn")) (.cons (.e (.cst (.int 17))) .nil)))) .nil)))) .nil))) (.cons (.e (.cst (.int 2147483647))) .nil))))
  (.cons (.setF 0 "mixed" (.var 3))
  (.cons (.ret (.pr .mod (.cons (.e (.pr .int (.cons (.e (.pr .fdiv (.cons (.v 3) (.cons (.e (.cst (.int 16))) .nil)))) .nil))) (.cons (.v 1) .nil))))
  .nil))))))))
def f_law_pick : Fn := ⟨2, 4, [.mu, .sh], b_law_pick⟩
/-- "_law_of" -/
def b_law_of : Sms :=
  (.cons (.ret (.pr .ix (.cons (.v 1) (.cons (.e (.call 8 (.cons (.v 0) (.cons (.e (.pr .len (.cons (.v 1) .nil))) .nil)))) .nil))))
  .nil)
def f_law_of : Fn := ⟨2, 2, [.mu, .sh], b_law_of⟩
/-- "_law_mixed" -/
def b_law_mixed : Sms :=
  (.cons (.asg 2 (.pr .list (.cons (.v 1) .nil)))
  (.cons (.ret (.lc (.popAt 2 (.call 8 (.cons (.v 0) (.cons (.e (.pr .len (.cons (.v 2) .nil))) .nil)))) (.nm 3) (.rng1 (.pr .len (.cons (.v 2) .nil))) .nil [3]))
  .nil))
def f_law_mixed : Fn := ⟨2, 4, [.mu, .sh], b_law_mixed⟩
/-- "_law_deed" -/
def b_law_deed : Sms :=
  (.cons (.ite (.tr (.e (.pr .eq (.cons (.v 2) (.cons (.e (.cst (.int 1))) .nil))))) (.cons (.ret (.pr .tuple (.cons (.e (.lc (.call 8 (.cons (.v 0) (.cons (.e (.pr .add (.cons (.v 3) (.cons (.e (.cst (.int 1))) .nil)))) .nil))) (.nm 3) (.rng1 (.var 1)) .nil [3])) .nil)))
    .nil) .nil)
  (.cons (.ite (.tr (.e (.pr .eq (.cons (.v 2) (.cons (.e (.cst (.int 2))) .nil))))) (.cons (.ret (.pr .tuple (.cons (.e (.pr .sorted (.cons (.e (.lc (.pr .int (.cons (.e (.call 8 (.cons (.v 0) (.cons (.v 1) .nil)))) .nil)) (.nm 3) (.rng1 (.var 1)) .nil [3])) .nil))) .nil)))
    .nil) .nil)
  (.cons (.ite (.tr (.e (.pr .eq (.cons (.v 2) (.cons (.e (.cst (.int 3))) .nil))))) (.cons (.asg 4 (.pr .add (.cons (.e (.lc (.var 3) (.nm 3) (.rng1 (.var 1)) (.one (.tr (.e (.pr .eq (.cons (.e (.call 8 (.cons (.v 0) (.cons (.e (.cst (.int 2))) .nil)))) (.cons (.e (.cst (.int 0))) .nil)))))) [3])) (.cons (.e (.lst (.cons (.call 8 (.cons (.v 0) (.cons (.v 1) .nil))) .nil))) .nil))))
    (.cons (.ret (.pr .tuple (.cons (.e (.lc (.cond (.tr (.e (.pr .isIn (.cons (.v 3) (.cons (.v 4) .nil))))) (.var 3) (.call 9 (.cons (.v 0) (.cons (.v 4) .nil)))) (.nm 3) (.rng1 (.var 1)) .nil [3])) .nil)))
    .nil)) .nil)
  (.cons (.ite (.tr (.e (.pr .eq (.cons (.v 2) (.cons (.e (.cst (.int 4))) .nil))))) (.cons (.ret (.pr .tuple (.cons (.e (.call 10 (.cons (.v 0) (.cons (.e (.pr .lrng (.cons (.v 1) .nil))) .nil)))) .nil)))
    .nil) .nil)
  (.cons (.ite (.tr (.e (.pr .eq (.cons (.v 2) (.cons (.e (.cst (.int 5))) .nil))))) (.cons (.ret (.pr .mul (.cons (.e (.tup (.cons (.call 8 (.cons (.v 0) (.cons (.v 1) .nil))) .nil))) (.cons (.v 1) .nil))))
    .nil) .nil)
  (.cons (.ret (.pr .tuple (.cons (.e (.lc (.call 8 (.cons (.v 0) (.cons (.v 1) .nil))) (.nm 3) (.rng1 (.var 1)) .nil [3])) .nil)))
  .nil))))))
def f_law_deed : Fn := ⟨3, 5, [.mu, .sh, .sh], b_law_deed⟩
/-- "_law_led" -/
def b_law_led : Sms :=
  (.cons (.fors (.nm 3) (.op (.v 1)) (.cons (.asg 2 (.pr .ix (.cons (.e (.pr .ix (.cons (.e (.pr .ix (.cons (.v 0) (.cons (.e (.cst (.int 1))) .nil)))) (.cons (.v 3) .nil)))) (.cons (.v 2) .nil))))
    .nil))
  (.cons (.retV 2)
  .nil))
def f_law_led : Fn := ⟨3, 4, [.sh, .sh, .sh], b_law_led⟩
/-- "_law_deed_right" -/
def b_law_deed_right : Sms :=
  (.cons (.asgT [1, 2] (.cons (.pr .len (.cons (.v 0) .nil)) (.cons (.pr .repr (.cons (.v 0) .nil)) .nil)))
  (.cons (.asg 3 (.pr .tuple (.cons (.e (.lc (.var 4) (.nm 4) (.rng1 (.var 1)) (.one (.tr (.e (.pr .eq (.cons (.e (.pr .ix (.cons (.v 0) (.cons (.v 4) .nil)))) (.cons (.v 4) .nil)))))) [4])) .nil)))
  (.cons (.asg 5 (.pr .tuple (.cons (.e (.lc (.var 6) (.nm 6) (.rng1 (.var 1)) (.one (.tr (.e (.pr .ne (.cons (.e (.lc (.var 4) (.nm 4) (.rng1 (.var 1)) (.one (.tr (.e (.pr .eq (.cons (.e (.pr .ix (.cons (.v 0) (.cons (.v 4) .nil)))) (.cons (.v 6) .nil)))))) [4])) (.cons (.e (.lst .nil)) .nil)))))) [6])) .nil)))
  (.cons (.asg 7 (.pr .eq (.cons (.e (.lc (.var 4) (.nm 4) (.rng1 (.var 1)) (.one (.tr (.e (.pr .ne (.cons (.e (.pr .ix (.cons (.v 0) (.cons (.e (.pr .ix (.cons (.v 0) (.cons (.v 4) .nil)))) .nil)))) (.cons (.e (.pr .ix (.cons (.v 0) (.cons (.v 4) .nil)))) .nil)))))) [4])) (.cons (.e (.lst .nil)) .nil))))
  (.cons (.ite (.tr (.e (.pr .ne (.cons (.e (.pr .repr (.cons (.e (.lst (.cons (.call 3 (.cons (.v 0) .nil)) (.cons (.call 4 (.cons (.v 0) .nil)) (.cons (.call 5 (.cons (.v 0) .nil)) .nil))))) .nil))) (.cons (.e (.pr .repr (.cons (.e (.lst (.cons (.var 3) (.cons (.var 5) (.cons (.pr .len (.cons (.v 5) .nil)) .nil))))) .nil))) .nil))))) (.cons (.ret (.cst (.bl false)))
    .nil) .nil)
  (.cons (.ite (.lor (.tr (.e (.pr .ne (.cons (.e (.pr .repr (.cons (.e (.call 6 (.cons (.v 0) .nil))) .nil))) (.cons (.e (.pr .repr (.cons (.v 7) .nil))) .nil))))) (.lor (.tr (.e (.pr .ne (.cons (.v 7) (.cons (.e (.pr .eq (.cons (.v 3) (.cons (.v 5) .nil)))) .nil))))) (.tr (.e (.pr .ne (.cons (.e (.pr .repr (.cons (.v 0) .nil))) (.cons (.v 2) .nil))))))) (.cons (.ret (.cst (.bl false)))
    .nil) .nil)
  (.cons (.ret (.land (.pr .eq (.cons (.e (.pr .repr (.cons (.e (.call 0 (.cons (.v 1) .nil))) .nil))) (.cons (.e (.pr .repr (.cons (.e (.pr .tuple (.cons (.e (.pr .lrng (.cons (.v 1) .nil))) .nil))) .nil))) .nil))) (.pr (.isB true) (.cons (.e (.call 6 (.cons (.e (.call 0 (.cons (.v 1) .nil))) .nil))) .nil))))
  .nil)))))))
def f_law_deed_right : Fn := ⟨1, 8, [.sh], b_law_deed_right⟩
/-- "_law_words_right" -/
def b_law_words_right : Sms :=
  (.cons (.asg 3 (.pr .len (.cons (.e (.pr .ix (.cons (.v 1) (.cons (.e (.cst (.int 1))) .nil)))) .nil)))
  (.cons (.asg 4 (.pr .mul (.cons (.e (.call 8 (.cons (.v 0) (.cons (.e (.call 9 (.cons (.v 0) (.cons (.e (.lst (.cons (.cst (.int 3)) (.cons (.cst (.int 9)) (.cons (.cst (.int 61)) (.cons (.cst (.int 9)) (.cons (.cst (.int 61)) (.cons (.cst (.int 2001)) .nil)))))))) .nil)))) .nil)))) (.cons (.e (.pr .int (.cons (.e (.pr .gt (.cons (.v 3) (.cons (.e (.cst (.int 0))) .nil)))) .nil))) .nil))))
  (.cons (.asg 5 (.pr .tuple (.cons (.e (.lc (.call 8 (.cons (.v 0) (.cons (.v 3) .nil))) (.nm 6) (.rng1 (.var 4)) .nil [6])) .nil)))
  (.cons (.asg 7 (.pr .tuple (.cons (.e (.lc (.call 12 (.cons (.v 1) (.cons (.v 5) (.cons (.v 8) .nil)))) (.nm 8) (.rng1 (.pr .ix (.cons (.v 1) (.cons (.e (.cst (.int 0))) .nil)))) .nil [8])) .nil)))
  (.cons (.asg 9 (.pr .repr (.cons (.e (.lst (.cons (.var 1) (.cons (.var 5) .nil)))) .nil)))
  (.cons (.asg 10 (.lst (.cons (.call 2 (.cons (.v 1) (.cons (.v 5) .nil))) (.cons (.call 2 (.cons (.v 1) (.cons (.v 5) .nil))) .nil))))
  (.cons (.ite (.lor (.tr (.e (.pr .ne (.cons (.e (.pr .repr (.cons (.v 10) .nil))) (.cons (.e (.pr .repr (.cons (.e (.lst (.cons (.var 7) (.cons (.var 7) .nil)))) .nil))) .nil))))) (.lor (.tr (.e (.pr .ne (.cons (.e (.pr .repr (.cons (.e (.lst (.cons (.var 1) (.cons (.var 5) .nil)))) .nil))) (.cons (.v 9) .nil))))) (.lnot (.tr (.e (.call 13 (.cons (.v 7) .nil))))))) (.cons (.ret (.cst (.bl false)))
    .nil) .nil)
  (.cons (.asg 6 (.call 8 (.cons (.v 0) (.cons (.e (.pr .add (.cons (.e (.pr .len (.cons (.v 5) .nil))) (.cons (.e (.cst (.int 1))) .nil)))) .nil))))
  (.cons (.ite (.tr (.e (.pr .ne (.cons (.e (.call 1 (.cons (.e (.call 2 (.cons (.v 1) (.cons (.e (.pr (.cut false true) (.cons (.v 5) (.cons (.v 6) .nil)))) .nil)))) (.cons (.e (.call 2 (.cons (.v 1) (.cons (.e (.pr (.cut true false) (.cons (.v 5) (.cons (.v 6) .nil)))) .nil)))) .nil)))) (.cons (.v 7) .nil))))) (.cons (.ret (.cst (.bl false)))
    .nil) .nil)
  (.cons (.asg 11 (.lst (.cons (.call 1 (.cons (.v 7) (.cons (.v 2) .nil))) (.cons (.call 1 (.cons (.v 2) (.cons (.v 7) .nil))) .nil))))
  (.cons (.ite (.tr (.e (.pr .ne (.cons (.e (.pr .repr (.cons (.v 11) .nil))) (.cons (.e (.pr .repr (.cons (.e (.lst (.cons (.pr .tuple (.cons (.e (.lc (.pr .ix (.cons (.v 2) (.cons (.v 12) .nil))) (.nm 12) (.op (.v 7)) .nil [12])) .nil)) (.cons (.pr .tuple (.cons (.e (.lc (.pr .ix (.cons (.v 7) (.cons (.v 12) .nil))) (.nm 12) (.op (.v 2)) .nil [12])) .nil)) .nil)))) .nil))) .nil))))) (.cons (.ret (.cst (.bl false)))
    .nil) .nil)
  (.cons (.ret (.pr .eq (.cons (.e (.lc (.var 13) (.nm 13) (.op (.v 11)) (.one (.tr (.e (.pr .gt (.cons (.e (.call 5 (.cons (.v 13) .nil))) (.cons (.e (.pr .min2 (.cons (.e (.call 5 (.cons (.v 7) .nil))) (.cons (.e (.call 5 (.cons (.v 2) .nil))) .nil)))) .nil)))))) [13])) (.cons (.e (.lst .nil)) .nil))))
  .nil))))))))))))
def f_law_words_right : Fn := ⟨3, 14, [.mu, .sh, .sh], b_law_words_right⟩
/-- "_law_beside" -/
def b_law_beside : Sms :=
  (.cons (.asgT [3, 4] (.cons (.call 11 (.cons (.v 0) (.cons (.v 1) (.cons (.e (.call 8 (.cons (.v 0) (.cons (.e (.cst (.int 6))) .nil)))) .nil)))) (.cons (.tup .nil) .nil)))
  (.cons (.ite (.tr (.e (.pr .gt (.cons (.v 2) (.cons (.e (.cst (.int 0))) .nil))))) (.cons (.asg 4 (.pr .tuple (.cons (.e (.lc (.pr .add (.cons (.v 1) (.cons (.v 5) .nil))) (.nm 5) (.op (.e (.call 11 (.cons (.v 0) (.cons (.v 2) (.cons (.e (.call 8 (.cons (.v 0) (.cons (.e (.cst (.int 6))) .nil)))) .nil)))))) .nil [5])) .nil)))
    .nil) .nil)
  (.cons (.ret (.pr .add (.cons (.v 3) (.cons (.v 4) .nil))))
  .nil)))
def f_law_beside : Fn := ⟨3, 6, [.mu, .sh, .sh], b_law_beside⟩
/-- "law" -/
def blaw : Sms :=
  (.cons (.asg 1 (.call 7 (.cons (.v 0) .nil)))
  (.cons (.fors (.nm 2) (.rng1 (.cst (.int 12))) (.cons (.asgT [3, 4] (.cons (.pr .add (.cons (.e (.cst (.int 1))) (.cons (.e (.call 8 (.cons (.v 1) (.cons (.e (.cst (.int 8))) .nil)))) .nil))) (.cons (.pr .mul (.cons (.e (.call 8 (.cons (.v 1) (.cons (.e (.cst (.int 9))) .nil)))) (.cons (.e (.pr .int (.cons (.e (.pr .eq (.cons (.e (.call 8 (.cons (.v 1) (.cons (.e (.cst (.int 3))) .nil)))) (.cons (.e (.cst (.int 0))) .nil)))) .nil))) .nil))) .nil)))
    (.cons (.asg 5 (.pr .tuple (.cons (.e (.lc (.call 15 (.cons (.v 1) (.cons (.v 3) (.cons (.v 4) .nil)))) (.nm 6) (.rng1 (.call 8 (.cons (.v 1) (.cons (.e (.cst (.int 7))) .nil)))) .nil [6])) .nil)))
    (.cons (.fors (.nm 7) (.op (.v 5)) (.cons (.ite (.lnot (.tr (.e (.call 13 (.cons (.v 7) .nil))))) (.cons (.ret (.cst (.bl false)))
        .nil) .nil)
      .nil))
    (.cons (.ite (.lnot (.tr (.e (.call 14 (.cons (.v 1) (.cons (.e (.tup (.cons (.pr .add (.cons (.v 3) (.cons (.v 4) .nil))) (.cons (.var 5) .nil)))) (.cons (.e (.call 15 (.cons (.v 1) (.cons (.v 3) (.cons (.v 4) .nil))))) .nil))))))) (.cons (.ret (.cst (.bl false)))
      .nil) .nil)
    .nil)))))
  (.cons (.asg 8 (.tup (.cons (.cst (.int 3)) (.cons (.tup (.cons (.tup (.cons (.cst (.int 1)) (.cons (.cst (.int 2)) (.cons (.cst (.int 0)) .nil)))) (.cons (.tup (.cons (.cst (.int 0)) (.cons (.cst (.int 0)) (.cons (.cst (.int 2)) .nil)))) .nil))) .nil))))
  (.cons (.asg 9 (.lc (.call 2 (.cons (.v 8) (.cons (.v 10) .nil))) (.nm 10) (.op (.e (.lst (.cons (.tup .nil) (.cons (.tup (.cons (.cst (.int 0)) (.cons (.cst (.int 1)) .nil))) (.cons (.tup (.cons (.cst (.int 1)) (.cons (.cst (.int 0)) .nil))) (.cons (.tup (.cons (.cst (.int 0)) (.cons (.cst (.int 0)) (.cons (.cst (.int 0)) .nil)))) .nil))))))) .nil [10]))
  (.cons (.ret (.land (.pr .eq (.cons (.v 9) (.cons (.e (.lst (.cons (.tup (.cons (.cst (.int 0)) (.cons (.cst (.int 1)) (.cons (.cst (.int 2)) .nil)))) (.cons (.tup (.cons (.cst (.int 0)) (.cons (.cst (.int 2)) (.cons (.cst (.int 0)) .nil)))) (.cons (.tup (.cons (.cst (.int 1)) (.cons (.cst (.int 1)) (.cons (.cst (.int 0)) .nil)))) (.cons (.tup (.cons (.cst (.int 0)) (.cons (.cst (.int 1)) (.cons (.cst (.int 2)) .nil)))) .nil)))))) .nil))) (.pr .eq (.cons (.e (.lst (.cons (.call 3 (.cons (.e (.pr .ix (.cons (.v 9) (.cons (.e (.cst (.int 1))) .nil)))) .nil)) (.cons (.call 4 (.cons (.e (.pr .ix (.cons (.v 9) (.cons (.e (.cst (.int 2))) .nil)))) .nil)) .nil)))) (.cons (.e (.lst (.cons (.tup (.cons (.cst (.int 0)) .nil)) (.cons (.tup (.cons (.cst (.int 0)) (.cons (.cst (.int 1)) .nil))) .nil)))) .nil)))))
  .nil)))))
def flaw : Fn := ⟨1, 11, [.sh], blaw⟩
def T : List Fn := [fidle, fproduct, fdone, fheld, freach, frank, fis_settled, f_law_source, f_law_pick, f_law_of, f_law_mixed, f_law_deed, f_law_led, f_law_deed_right, f_law_words_right, f_law_beside, flaw]
theorem T_read : readAll 60 14 dfs [] dfs = some T := by kernel_rfl
theorem T_ok : progOk dfs T = true := by decide +kernel
end Pd
set_option Elab.async false
set_option linter.all false
set_option maxRecDepth 100000
set_option maxHeartbeats 1000000
namespace Pd
open PySem
section
variable {a0 a1 a2 a3 a4 a5 a6 a7 a8 a9 a10 a11 a12 a13 : Option Ow} {l : En}
theorem gE0 : getE (a0 :: l) 0 = a0 := by cases a0 <;> rfl
theorem gE1 : getE (a0 :: a1 :: l) 1 = a1 := by cases a1 <;> rfl
theorem gE2 : getE (a0 :: a1 :: a2 :: l) 2 = a2 := by cases a2 <;> rfl
theorem gE3 : getE (a0 :: a1 :: a2 :: a3 :: l) 3 = a3 := by cases a3 <;> rfl
theorem gE4 : getE (a0 :: a1 :: a2 :: a3 :: a4 :: l) 4 = a4 := by cases a4 <;> rfl
theorem gE5 : getE (a0 :: a1 :: a2 :: a3 :: a4 :: a5 :: l) 5 = a5 := by cases a5 <;> rfl
theorem gE6 : getE (a0 :: a1 :: a2 :: a3 :: a4 :: a5 :: a6 :: l) 6 = a6 := by cases a6 <;> rfl
theorem gE7 : getE (a0 :: a1 :: a2 :: a3 :: a4 :: a5 :: a6 :: a7 :: l) 7 = a7 := by cases a7 <;> rfl
theorem gE8 : getE (a0 :: a1 :: a2 :: a3 :: a4 :: a5 :: a6 :: a7 :: a8 :: l) 8 = a8 := by cases a8 <;> rfl
theorem gE9 : getE (a0 :: a1 :: a2 :: a3 :: a4 :: a5 :: a6 :: a7 :: a8 :: a9 :: l) 9 = a9 := by cases a9 <;> rfl
theorem gE10 : getE (a0 :: a1 :: a2 :: a3 :: a4 :: a5 :: a6 :: a7 :: a8 :: a9 :: a10 :: l) 10 = a10 := by cases a10 <;> rfl
theorem gE11 : getE (a0 :: a1 :: a2 :: a3 :: a4 :: a5 :: a6 :: a7 :: a8 :: a9 :: a10 :: a11 :: l) 11 = a11 := by cases a11 <;> rfl
theorem gE12 : getE (a0 :: a1 :: a2 :: a3 :: a4 :: a5 :: a6 :: a7 :: a8 :: a9 :: a10 :: a11 :: a12 :: l) 12 = a12 := by cases a12 <;> rfl
theorem gE13 : getE (a0 :: a1 :: a2 :: a3 :: a4 :: a5 :: a6 :: a7 :: a8 :: a9 :: a10 :: a11 :: a12 :: a13 :: l) 13 = a13 := by cases a13 <;> rfl
end
/-- rows of numbers -/
def nL (l : List Nat) : List Dt := l.map fun (k : Nat) => Dt.int (k : Int)
def nT (l : List Nat) : Dt := .tup (nL l)
theorem nL_len (l : List Nat) : (nL l).length = l.length := by simp [nL]
theorem nL_get {l : List Nat} {i : Nat} (h : i < l.length) : atD (nL l) (i : Int) = some (.int ((l.getD i 0 : Nat) : Int)) := by
  unfold atD nL
  rw [if_pos (by omega), Int.toNat_natCast, List.getElem?_map, List.getElem?_eq_getElem h, List.getD_eq_getElem?_getD, List.getElem?_eq_getElem h]
  rfl
theorem dint_inj {a b : Nat} : Dt.int (a : Int) = Dt.int (b : Int) ↔ a = b := by
  rw [Dt.int.injEq]; omega
theorem nL_inj {a b : List Nat} : nL a = nL b ↔ a = b := by
  constructor
  · intro h
    revert b
    induction a with
    | nil => intro b h; cases b <;> simp [nL] at h ⊢
    | cons x a ih =>
      intro b h
      cases b with
      | nil => simp [nL] at h
      | cons y b =>
        simp only [nL, List.map_cons, List.cons.injEq] at h
        rw [dint_inj.mp h.1, ih h.2]
  · intro h; rw [h]
theorem nT_inj {a b : List Nat} : nT a = nT b ↔ a = b := by
  unfold nT
  rw [Dt.tup.injEq, nL_inj]
theorem sem_ix {l : List Nat} {i : Nat} (h : i < l.length) : Pr.sem .ix [nT l, .int (i : Int)] = some (.imm (.int ((l.getD i 0 : Nat) : Int))) := by
  unfold nT
  simp [Pr.sem, nL_get h, i1]
theorem sem_len (l : List Nat) : Pr.sem .len [nT l] = some (.imm (.int (l.length : Int))) := by
  simp [Pr.sem, nT, nL_len, i1]
theorem sem_tuple (l : List Nat) : Pr.sem .tuple [.lst (nL l)] = some (.imm (nT l)) := rfl
theorem seqD_nT (l : List Nat) : seqD (nT l) = some (nL l) := rfl
theorem rngD0 (n : Nat) : rngD 0 n = nL (List.range n) := by simp [rngD, nL]
theorem plLN : ∀ {l : List Nat}, (∀ x ∈ l, x < 10 ^ 12) → plL (nL l) = true
  | [], _ => rfl
  | x :: l, h => by
    show (pl (.int (x : Int)) && plL (nL l)) = true
    rw [plLN fun y hy => h y (List.mem_cons_of_mem _ hy), Bool.and_true]
    exact decide_eq_true (by have := h x List.mem_cons_self; omega)
theorem plT {l : List Nat} (h : ∀ x ∈ l, x < 10 ^ 12) : pl (nT l) = true := plLN h
theorem dpLN : ∀ (l : List Nat), dpL (nL l) = 0
  | [] => rfl
  | x :: l => by
    show max 0 (dpL (nL l)) = 0
    rw [dpLN l]; rfl
theorem dpT (l : List Nat) : dpD (nT l) = 1 := by show dpL (nL l) + 1 = 1; rw [dpLN]
theorem wtLN : ∀ (l : List Nat), wtL (nL l) = 42 * l.length
  | [] => rfl
  | x :: l => by
    show 41 + 1 + wtL (nL l) = _
    rw [wtLN l, List.length_cons]; omega
theorem wtT (l : List Nat) : wt (nT l) = 42 * l.length := wtLN l
theorem eqv_int (a b : Int) : eqvD (.int a) (.int b) = some (decide (a = b)) := by
  show (if (SeqAt.shaped (.int a) && SeqAt.shaped (.int b)) = true then some (PyData.eqv (.int a) (.int b)) else none) = _
  have h : ∀ a, SeqAt.shaped (.int a) = true := fun a => rfl
  rw [h, h]
  show some (a == b) = _
  congr 1
theorem eqv_bl (a b : Bool) : eqvD (.bl a) (.bl b) = some (decide (a = b)) := by
  cases a <;> cases b <;> decide +kernel
theorem eqv_nT {a b : List Nat} (ha : ∀ x ∈ a, x < 10 ^ 12) (hb : ∀ x ∈ b, x < 10 ^ 12) : eqvD (nT a) (nT b) = some (decide (a = b)) := by
  rw [eqv_pl (plT ha) (plT hb) (by rw [dpT]; omega) (by rw [dpT]; omega)]
  congr 1
  rw [decide_eq_decide]
  exact nT_inj
theorem eqv_nL {a b : List Nat} (ha : ∀ x ∈ a, x < 10 ^ 12) (hb : ∀ x ∈ b, x < 10 ^ 12) : eqvD (.lst (nL a)) (.lst (nL b)) = some (decide (a = b)) := by
  rw [eqv_pl (a := .lst (nL a)) (b := .lst (nL b)) (plLN ha) (plLN hb) (by show dpL _ + 1 ≤ 60; rw [dpLN]; omega) (by show dpL _ + 1 ≤ 60; rw [dpLN]; omega)]
  congr 1
  rw [decide_eq_decide, Dt.lst.injEq]
  exact nL_inj
theorem eqv_nil {a : List Nat} (ha : ∀ x ∈ a, x < 10 ^ 12) : eqvD (.lst (nL a)) (.lst []) = some (decide (a = [])) := eqv_nL (b := []) ha (fun _ h => (nomatch h))
theorem repr_bl (b : Bool) : Pr.repr.sem [.bl b] = some (.imm (.str (shw (.bl b)))) := by cases b <;> rfl
theorem eqv_shw {d : Dt} (h : PyData.strOk (shw d) = true) : eqvD (.str (shw d)) (.str (shw d)) = some true := by
  rw [eqv_strs h h]; simp
theorem str_bl (b : Bool) : PyData.strOk (shw (.bl b)) = true := by cases b <;> decide +kernel
/-- plain and small enough to be shown -/
structure Fit (d : Dt) : Prop where
  p : pl d = true
  dp : dpD d ≤ 60
  w : wt d ≤ 2 ^ 20
theorem Fit.r {d : Dt} (h : Fit d) : Pr.repr.sem [d] = some (.imm (.str (shw d))) := (repr_pl h.p h.dp h.w).1
theorem Fit.e {d : Dt} (h : Fit d) : eqvD (.str (shw d)) (.str (shw d)) = some true := eqv_shw (repr_pl h.p h.dp h.w).2
theorem fit_nT {l : List Nat} (h : ∀ x ∈ l, x < 10 ^ 12) (hz : l.length ≤ 10000) : Fit (nT l) := ⟨plT h, by rw [dpT]; omega, by rw [wtT]; omega⟩

/-! loops with a named step -/
def stepFor (C : Cl) (wf : Nat) (tg : Tg) (b : Sms) (d : Dt) (e : En) : Rs Fl := match tgSet tg d e with | some e3 => exs C wf b e3 | none => .no
theorem ex_for {C : Cl} {wf : Nat} {tg : Tg} {it : Ir} {b : Sms} {env e1 e2 : En} {ds : List Dt} (h1 : evi C it env = .ok ds e1) (h2 : lckI it e1 = some e2) :
    ex C wf (.fors tg it b) env = match forGo (stepFor C wf tg b) ds e2 with
        | .ok fl e3 => .ok fl (backE e1 e3 (slotI it))
        | .exc x e3 => .exc x (backE e1 e3 (slotI it))
        | .no => .no := by
  simp only [ex, h1, h2]
  rfl
/-- a comprehension over numbers that changes nothing -/
theorem lc_nat {C : Cl} {el : Ex} {it : Ir} {ifs : Tes} {k : Nat} {env : En} {xs : List Nat} (p : Nat → Bool) (G : Nat → Dt) (h1 : evi C it env = .ok (nL xs) env) (h2 : lckI it env = some env) (ho : oneSl it = true) (hz : xs.length < sizeLine)
    (hf : ∀ x ∈ xs, evf C ifs (env.set k (some (im (.int (x : Int))))) = .ok (p x) (env.set k (some (im (.int (x : Int))))))
    (hg : ∀ x ∈ xs, p x = true → ev C el (env.set k (some (im (.int (x : Int))))) = .ok (im (G x)) (env.set k (some (im (.int (x : Int)))))) :
    ev C (.lc el (.nm k) it ifs [k]) env = .ok (.p (.lst ((xs.filter p).map G))) env := by
  have e : (xs.filter p).map G = (nL xs).filterMap fun d => match d with | .int i => if p i.toNat then some (G i.toNat) else none | _ => none := by
    unfold nL
    rw [List.filterMap_map]
    simp only [Function.comp_def, Int.toNat_natCast]
    clear h1 hz hf hg
    induction xs with
    | nil => rfl
    | cons x xs ih =>
      rw [List.filterMap_cons, List.filter_cons]
      cases hp : p x <;> simp [ih, hp]
  rw [e]
  refine lc_pure _ h1 h2 ho (by rw [nL_len]; exact hz) fun d hd => ?_
  obtain ⟨x, hx, rfl⟩ := List.mem_map.mp hd
  refine ⟨env.set k (some (im (.int (x : Int)))), ?_, ?_⟩
  · unfold stepLc
    have : tgSet (.nm k) (Dt.int (x : Int)) (wipeE env [k]) = some (env.set k (some (im (.int (x : Int))))) := by
      show some ((env.set k none).set k _) = _
      rw [List.set_set]
    rw [this]
    dsimp only
    rw [hf x hx]
    cases hp : p x with
    | false => simp [hp]
    | true =>
      dsimp only
      rw [hg x hx hp]
      simp [Ow.dt?, Ow1.dt, hp]
  · show (env.set k _).set k none = env.set k none
    rw [List.set_set]

theorem filt {α : Type} (a : List α) : a.filter (fun _ => true) = a := List.filter_eq_self.mpr fun _ _ => rfl
theorem runFn_of {C : Cl} {wf : Nat} {f : Fn} {as : List Ow} {env env' : En} {o : Ow} {outs : List (Option Ow)} (hl : as.length = f.np) (he : as.map some ++ List.replicate (f.ns - f.np) none = env) (hb : exs C wf f.body env = .ok (.rt o) env') (ho : outsOf env' f.md 0 = outs) : runFn C wf f as = .ret o outs := by
  unfold runFn
  rw [if_pos hl, he, hb]
  show Cr.ret o (outsOf env' f.md 0) = _
  rw [ho]
theorem exs_next {C : Cl} {wf : Nat} {s : Sm} {ss : Sms} {e e1 : En} {r : Rs Fl} (h : ex C wf s e = .ok .nx e1) (h2 : exs C wf ss e1 = r) : exs C wf (.cons s ss) e = r := by
  rw [exs, h]; exact h2
theorem exs_last {C : Cl} {wf : Nat} {s : Sm} {ss : Sms} {e e1 : En} {o : Ow} (h : ex C wf s e = .ok (.rt o) e1) : exs C wf (.cons s ss) e = .ok (.rt o) e1 := by
  rw [exs, h]
theorem exs_nil {C : Cl} {wf : Nat} {e : En} : exs C wf .nil e = .ok .nx e := by rw [exs]
theorem ex_ret {C : Cl} {wf : Nat} {x : Ex} {e e1 : En} {o : Ow} (h : ev C x e = .ok o e1) : ex C wf (.ret x) e = .ok (.rt o) e1 := by
  rw [ex, h]
theorem ex_asg {C : Cl} {wf i : Nat} {x : Ex} {e e1 : En} {o : Ow} (h : ev C x e = .ok o e1) : ex C wf (.asg i x) e = .ok .nx (e1.set i (some o)) := by
  rw [ex, h]
theorem ex_iteF {C : Cl} {wf : Nat} {t : Te} {a b : Sms} {e e1 : En} (h : evt C t e = .ok false e1) : ex C wf (.ite t a b) e = exs C wf b e1 := by
  rw [ex, h]
theorem ex_iteT {C : Cl} {wf : Nat} {t : Te} {a b : Sms} {e e1 : En} (h : evt C t e = .ok true e1) : ex C wf (.ite t a b) e = exs C wf a e1 := by
  rw [ex, h]
/-- an operation on one value -/
theorem ev_pr1 {C : Cl} {q : Pr} {x : Ex} {e e1 : En} {o r : Ow1} (h : ev C x e = .ok (.p o) e1) (hq : q.sem [o.dt] = some r) : ev C (.pr q (.cons (.e x) .nil)) e = .ok (.p r) e1 := by
  simp [ev, evo, evp, h, vws, Tm.vw, Ow.vw, hq]
/-- an operation on two values -/
theorem ev_pr2 {C : Cl} {q : Pr} {x y : Ex} {e e1 e2 : En} {o u r : Ow1} (h : ev C x e = .ok (.p o) e1) (h2 : ev C y e1 = .ok (.p u) e2) (hq : q.sem [o.dt, u.dt] = some r) : ev C (.pr q (.cons (.e x) (.cons (.e y) .nil))) e = .ok (.p r) e2 := by
  simp [ev, evo, evp, h, h2, vws, Tm.vw, Ow.vw, hq]
def WF : Nat := 100000
def CC (n : Nat) : Cl := ⟨mdOf T, run T WF n⟩
theorem R_at {n f : Nat} {g : Fn} (h : T[f]? = some g) (as : List Ow) : (CC (n + 1)).fn f as = runFn (CC n) WF g as := by
  show (match T[f]? with | some g => runFn ⟨mdOf T, run T WF n⟩ WF g as | none => Cr.no) = _
  rw [h]
  rfl
theorem szl : sizeLine = 16777216 := by decide
section
variable {n : Nat}
theorem md0 : (CC n).md 0 = [.sh] := rfl
theorem md1 : (CC n).md 1 = [.sh, .sh] := rfl
theorem md2 : (CC n).md 2 = [.sh, .sh] := rfl
theorem md3 : (CC n).md 3 = [.sh] := rfl
theorem md4 : (CC n).md 4 = [.sh] := rfl
theorem md5 : (CC n).md 5 = [.sh] := rfl
theorem md6 : (CC n).md 6 = [.sh] := rfl
theorem md7 : (CC n).md 7 = [.sh] := rfl
theorem md8 : (CC n).md 8 = [.mu, .sh] := rfl
theorem md9 : (CC n).md 9 = [.mu, .sh] := rfl
theorem md10 : (CC n).md 10 = [.mu, .sh] := rfl
theorem md11 : (CC n).md 11 = [.mu, .sh, .sh] := rfl
theorem md12 : (CC n).md 12 = [.sh, .sh, .sh] := rfl
theorem md13 : (CC n).md 13 = [.sh] := rfl
theorem md14 : (CC n).md 14 = [.mu, .sh, .sh] := rfl
theorem md15 : (CC n).md 15 = [.mu, .sh, .sh] := rfl
end
/-! 0: idle -/
theorem idle_run (n k : Nat) (hk : k ≤ 10000) : (CC (n + 1)).fn 0 [im (.int (k : Int))] = .ret (im (nT (List.range k))) [none] := by
  rw [R_at (g := fidle) rfl]
  have h1 : (0 : Int) ≤ (k : Int) ∧ (k : Int) ≤ 16777216 := by omega
  simp [runFn, fidle, bidle, exs, ex, ev, evo, evp, gE0, vws, Tm.vw, Ow.vw, Ow1.dt, im, Pr.sem, i1, outsOf, h1, nT, nL, hk]
/-! 1: product -/
def prod (a b : List Nat) : List Nat := a.map fun x => b.getD x 0
theorem prod_run (n : Nat) (a b : List Nat) (h : ∀ x ∈ a, x < b.length) (hz : a.length ≤ 10000) : (CC (n + 1)).fn 1 [im (nT a), im (nT b)] = .ret (im (nT (prod a b))) [none, none] := by
  rw [R_at (g := fproduct) rfl]
  have hlc : ev (CC n) (.lc (.pr .ix (.cons (.v 1) (.cons (.v 2) .nil))) (.nm 2) (.op (.v 0)) .nil [2]) [some (im (nT a)), some (im (nT b)), none] = .ok (.p (.lst (nL (prod a b)))) [some (im (nT a)), some (im (nT b)), none] := by
    rw [lc_nat (xs := a) (fun _ => true) (fun x => .int ((b.getD x 0 : Nat) : Int)) (by simp [evi, evp, gE0, Tm.vw, Ow.vw, Ow1.dt, seqD_nT]) rfl rfl (by rw [szl]; omega) (fun _ _ => rfl)
      (fun x hx _ => by simp [ev, evo, evp, gE1, gE2, vws, Tm.vw, Ow.vw, Ow1.dt, sem_ix (h x hx)])]
    simp [nL, prod, Function.comp_def, filt]
  simp only [runFn, fproduct, bproduct, exs, ex, List.length_cons, List.length_nil, if_true, List.map_cons, List.map_nil, Nat.reduceAdd, Nat.reduceSub, List.replicate, List.cons_append, List.nil_append]
  rw [ev, evo, evp, hlc]
  simp [evo, vws, Tm.vw, Ow.vw, Ow1.dt, sem_tuple, outsOf]
end Pd
set_option Elab.async false
set_option linter.all false
set_option maxRecDepth 100000
set_option maxHeartbeats 1000000
namespace Pd
open PySem
/-! 2: done -/
def doneN (N : Nat) (ds : List (List Nat)) (w : List Nat) : List Nat := w.foldl (fun f l => prod f (ds.getD l [])) (List.range N)
def bookD (N : Nat) (ds : List (List Nat)) : Dt := .tup [.int (N : Int), .tup (ds.map nT)]
structure DeedOk (N : Nat) (d : List Nat) : Prop where
  l : d.length = N
  b : ∀ x ∈ d, x < N
structure BookOk (N : Nat) (ds : List (List Nat)) : Prop where
  n : N ≤ 16
  g : ds.length ≤ 16
  d : ∀ d ∈ ds, DeedOk N d
theorem ds_get {ds : List (List Nat)} {i : Nat} (h : i < ds.length) : atD (ds.map nT) (i : Int) = some (nT (ds.getD i [])) := by
  unfold atD
  rw [if_pos (by omega), Int.toNat_natCast, List.getElem?_map, List.getElem?_eq_getElem h, List.getD_eq_getElem?_getD, List.getElem?_eq_getElem h]
  rfl
theorem ds_mem {ds : List (List Nat)} {i : Nat} (h : i < ds.length) : ds.getD i [] ∈ ds := by
  rw [List.getD_eq_getElem?_getD, List.getElem?_eq_getElem h]
  exact List.getElem_mem h
theorem getD_mem {b : List Nat} {x : Nat} (h : x < b.length) : b.getD x 0 ∈ b := by
  rw [List.getD_eq_getElem?_getD, List.getElem?_eq_getElem h]
  exact List.getElem_mem h
theorem sem_bk0 (N : Nat) (ds : List (List Nat)) : Pr.sem .ix [bookD N ds, .int 0] = some (.imm (.int (N : Int))) := rfl
theorem sem_bk1 (N : Nat) (ds : List (List Nat)) : Pr.sem .ix [bookD N ds, .int 1] = some (.imm (.tup (ds.map nT))) := rfl
theorem sem_dix {ds : List (List Nat)} {i : Nat} (h : i < ds.length) : Pr.sem .ix [.tup (ds.map nT), .int (i : Int)] = some (.imm (nT (ds.getD i []))) := by
  simp [Pr.sem, ds_get h, i1]
theorem prod_ok {N : Nat} {a b : List Nat} (ha : DeedOk N a) (hb : DeedOk N b) : DeedOk N (prod a b) := by
  refine ⟨by simp [prod, ha.l], fun x hx => ?_⟩
  obtain ⟨y, hy, rfl⟩ := List.mem_map.mp hx
  exact hb.b _ (getD_mem (by rw [hb.l]; exact ha.b y hy))
theorem range_ok (N : Nat) : DeedOk N (List.range N) := ⟨List.length_range, fun _ hx => List.mem_range.mp hx⟩
theorem foldl_ok {N : Nat} {ds : List (List Nat)} (ok : BookOk N ds) : ∀ (w f : List Nat), DeedOk N f → (∀ l ∈ w, l < ds.length) → DeedOk N (w.foldl (fun f l => prod f (ds.getD l [])) f)
  | [], f, hf, _ => hf
  | l :: w, f, hf, hw => foldl_ok ok w (prod f (ds.getD l [])) (prod_ok hf (ok.d _ (ds_mem (hw l List.mem_cons_self)))) fun k hk => hw k (List.mem_cons_of_mem _ hk)
theorem done_ok {N : Nat} {ds : List (List Nat)} (ok : BookOk N ds) {w : List Nat} (hw : ∀ l ∈ w, l < ds.length) : DeedOk N (doneN N ds w) := foldl_ok ok w _ (range_ok N) hw
theorem prod_run' (n : Nat) {N : Nat} {a b : List Nat} (ha : DeedOk N a) (hb : DeedOk N b) (hN : N ≤ 16) : (CC (n + 1)).fn 1 [.p (.imm (nT a)), .p (.imm (nT b))] = .ret (im (nT (prod a b))) [none, none] :=
  prod_run n a b (fun x hx => by rw [hb.l]; exact ha.b x hx) (by rw [ha.l]; omega)
abbrev doneB : Sms := (.cons (.asg 2 (.call 1 (.cons (.v 2) (.cons (.e (.pr .ix (.cons (.e (.pr .ix (.cons (.v 0) (.cons (.e (.cst (.int 1))) .nil)))) (.cons (.v 3) .nil)))) .nil)))) .nil)
theorem done_loop {n : Nat} {N : Nat} {ds : List (List Nat)} {wd : Dt} (ok : BookOk N ds) : ∀ (w f : List Nat) (x : Option Ow), DeedOk N f → (∀ l ∈ w, l < ds.length) → ∃ x',
    forGo (stepFor (CC (n + 1)) WF (.nm 3) doneB) (nL w)
      [some (im (bookD N ds)), some (im wd), some (im (nT f)), x] = .ok .nx [some (im (bookD N ds)), some (im wd), some (im (nT (w.foldl (fun f l => prod f (ds.getD l [])) f))), x']
  | [], f, x, hf, _ => ⟨x, rfl⟩
  | l :: w, f, x, hf, hw => by
    have hl := hw l List.mem_cons_self
    have hd := ok.d _ (ds_mem hl)
    obtain ⟨x', h'⟩ := done_loop (n := n) (wd := wd) ok w (prod f (ds.getD l [])) (some (im (.int (l : Int)))) (prod_ok hf hd) fun k hk => hw k (List.mem_cons_of_mem _ hk)
    refine ⟨x', ?_⟩
    show forGo _ (Dt.int (l : Int) :: nL w) _ = _
    unfold forGo
    have s1 : stepFor (CC (n + 1)) WF (.nm 3) doneB (Dt.int (l : Int)) [some (im (bookD N ds)), some (im wd), some (im (nT f)), x] = .ok .nx [some (im (bookD N ds)), some (im wd), some (im (nT (prod f (ds.getD l [])))), some (im (.int (l : Int)))] := by
      simp only [stepFor, tgSet, exs, ex, ev, evo, evp, gE0, gE2, gE3, vws, Tm.vw, Ow.vw, Ow1.dt, i1, sem_bk1, sem_dix hl, args, md1, backs, List.set_cons_zero, List.set_cons_succ, prod_run' n hf hd ok.n]
    rw [s1]
    exact h'
theorem done_run (n : Nat) {N : Nat} {ds : List (List Nat)} {w : List Nat} (ok : BookOk N ds) (hw : ∀ l ∈ w, l < ds.length) : (CC (n + 2)).fn 2 [.p (.imm (bookD N ds)), .p (.imm (nT w))] = .ret (im (nT (doneN N ds w))) [none, none] := by
  rw [R_at (g := fdone) rfl]
  have hn := ok.n
  obtain ⟨x', hl⟩ := done_loop (n := n) (wd := nT w) ok w (List.range N) none (range_ok N) hw
  have s1 : ex (CC (n + 1)) WF (.asg 2 (.call 0 (.cons (.e (.pr .ix (.cons (.v 0) (.cons (.e (.cst (.int 0))) .nil)))) .nil))) [some (im (bookD N ds)), some (im (nT w)), none, none] = .ok .nx [some (im (bookD N ds)), some (im (nT w)), some (im (nT (List.range N))), none] := by
    simp only [ex, ev, evo, evp, gE0, vws, Tm.vw, Ow.vw, Ow1.dt, i1, sem_bk0, args, md0, backs, List.set_cons_zero, List.set_cons_succ, idle_run n N (by omega)]
  have s2 : ex (CC (n + 1)) WF (.fors (.nm 3) (.op (.v 1)) doneB) [some (im (bookD N ds)), some (im (nT w)), some (im (nT (List.range N))), none] = .ok .nx [some (im (bookD N ds)), some (im (nT w)), some (im (nT (doneN N ds w))), x'] := by
    rw [ex_for (ds := nL w) (e1 := [some (im (bookD N ds)), some (im (nT w)), some (im (nT (List.range N))), none]) (by simp [evi, evp, gE1, Tm.vw, Ow.vw, Ow1.dt, seqD_nT]) rfl, hl]
    rfl
  simp only [runFn, fdone, bdone, List.length_cons, List.length_nil, if_true, List.map_cons, List.map_nil, Nat.reduceAdd, Nat.reduceSub, List.replicate, List.cons_append, List.nil_append, exs, s1, s2]
  simp [ex, gE2, outsOf]
/-! 3: held -/
def heldN (d : List Nat) : List Nat := (List.range d.length).filter fun p => d.getD p 0 == p
theorem enum_nL : ∀ (d : List Nat) (k : Nat), enumD k (nL d) = (List.range d.length).map fun p => .tup [.int ((k + p : Nat) : Int), .int ((d.getD p 0 : Nat) : Int)]
  | [], k => rfl
  | x :: d, k => by
    show .tup [.int (k : Int), .int (x : Int)] :: enumD (k + 1) (nL d) = _
    rw [enum_nL d (k + 1), List.length_cons, List.range_succ_eq_map, List.map_cons, List.map_map]
    congr 1
    refine List.map_congr_left fun p _ => ?_
    simp only [Function.comp, List.getD_cons_succ, Nat.succ_eq_add_one]
    rw [show k + 1 + p = k + (p + 1) by omega]
theorem held_run (n : Nat) {d : List Nat} (hd : d.length ≤ 10000) : (CC (n + 1)).fn 3 [.p (.imm (nT d))] = .ret (im (nT (heldN d))) [none] := by
  rw [R_at (g := fheld) rfl]
  generalize CC n = C
  have hlc : ev C (.lc (.var 1) (.tp [1, 2]) (.enum (.v 0)) (.one (.tr (.e (.pr .eq (.cons (.v 1) (.cons (.v 2) .nil)))))) [1, 2]) [some (im (nT d)), none, none] = .ok (.p (.lst (nL (heldN d)))) [some (im (nT d)), none, none] := by
    have e : nL (heldN d) = (enumD 0 (nL d)).filterMap fun t => match t with | .tup [.int i, .int j] => if i = j then some (.int i) else none | _ => none := by
      rw [enum_nL, List.filterMap_map]
      unfold heldN nL
      generalize List.range d.length = xs
      induction xs with
      | nil => rfl
      | cons x xs ih =>
        rw [List.filterMap_cons, List.filter_cons]
        simp only [Function.comp, Nat.zero_add] at ih ⊢
        by_cases h : d.getD x 0 = x
        · have h' : ((x : Int) = ((d.getD x 0 : Nat) : Int)) := by omega
          simp only [if_pos h']
          rw [if_pos (by simpa using h), List.map_cons, ih]
        · have h' : ¬ ((x : Int) = ((d.getD x 0 : Nat) : Int)) := by omega
          simp only [h', if_false]
          rw [if_neg (by simpa using h)]
          exact ih
    rw [e]
    refine lc_pure _ (by simp [evi, evp, gE0, Tm.vw, Ow.vw, Ow1.dt, seqD_nT]) rfl rfl (by rw [enum_nL, List.length_map, List.length_range, szl]; omega) fun t ht => ?_
    rw [enum_nL] at ht
    obtain ⟨p, hp, rfl⟩ := List.mem_map.mp ht
    rw [Nat.zero_add]
    refine ⟨[some (im (nT d)), some (im (.int (p : Int))), some (im (.int ((d.getD p 0 : Nat) : Int)))], ?_, rfl⟩
    by_cases h : (p : Int) = ((d.getD p 0 : Nat) : Int)
    · simp only [if_pos h]
      simp only [stepLc, tgSet, tgSet.go, wipeE, evf, evt, ev, evo, evp, gE1, gE2, gE0, vws, Tm.vw, Ow.vw, Ow1.dt, Pr.sem, eqv_int, i1, Ow.dt?, List.set_cons_zero, List.set_cons_succ, List.length_cons, List.length_nil, if_true, Dt.tru, decide_eq_true h]
    · simp only [if_neg h]
      simp only [stepLc, tgSet, tgSet.go, wipeE, evf, evt, ev, evo, evp, gE1, gE2, gE0, vws, Tm.vw, Ow.vw, Ow1.dt, Pr.sem, eqv_int, i1, Ow.dt?, List.set_cons_zero, List.set_cons_succ, List.length_cons, List.length_nil, if_true, Dt.tru, decide_eq_false h]
  simp only [runFn, fheld, bheld, exs, ex, List.length_cons, List.length_nil, if_true, List.map_cons, List.map_nil, Nat.reduceAdd, Nat.reduceSub, List.replicate, List.cons_append, List.nil_append]
  rw [ev, evo, evp, hlc]
  simp [evo, vws, Tm.vw, Ow.vw, Ow1.dt, sem_tuple, outsOf]
/-! 4: reach -/
def reachN (d : List Nat) : List Nat := (List.range d.length).filter fun p => decide (p ∈ d)
theorem sem_in (p : Nat) (d : List Nat) : Pr.sem .isIn [.int (p : Int), nT d] = some (.imm (.bl (decide (p ∈ d)))) := by
  have h1 : (nL d).all flatD = true := by
    rw [List.all_eq_true]
    intro x hx
    obtain ⟨y, _, rfl⟩ := List.mem_map.mp hx
    rfl
  have h2 : ((nL d).any fun z => eqF z (.int (p : Int))) = decide (p ∈ d) := by
    rw [Bool.eq_iff_iff, List.any_eq_true, decide_eq_true_eq]
    constructor
    · rintro ⟨z, hz, e⟩
      obtain ⟨y, hy, rfl⟩ := List.mem_map.mp hz
      have : (y : Int) = (p : Int) := by simpa [eqF] using e
      have : y = p := by omega
      rwa [← this]
    · intro h
      exact ⟨.int (p : Int), List.mem_map.mpr ⟨p, h, rfl⟩, by simp [eqF]⟩
  show (if (flatD (.int (p : Int)) && (nL d).all flatD) = true then i1 (.bl ((nL d).any fun z => eqF z (.int (p : Int)))) else none) = _
  rw [h1, h2]
  rfl
theorem evi_range {C : Cl} {e : Ex} {env e1 : En} {k : Nat} (h : ev C e env = .ok (im (.int (k : Int))) e1) (hk : k ≤ 1000000) : evi C (.rng1 e) env = .ok (nL (List.range k)) e1 := by
  rw [evi, h]
  dsimp only
  rw [if_pos (by omega), Int.toNat_natCast, rngD0]
theorem reach_lc {C : Cl} {d : List Nat} (hd : d.length ≤ 10000) : ev C (.lc (.var 1) (.nm 1) (.rng1 (.pr .len (.cons (.v 0) .nil))) (.one (.tr (.e (.pr .isIn (.cons (.v 1) (.cons (.v 0) .nil)))))) [1]) [some (im (nT d)), none] = .ok (.p (.lst (nL (reachN d)))) [some (im (nT d)), none] := by
    rw [lc_nat (xs := List.range d.length) (fun p => decide (p ∈ d)) (fun x => .int (x : Int)) (evi_range (by simp [ev, evo, evp, gE0, vws, Tm.vw, Ow.vw, Ow1.dt, sem_len]) (by omega)) rfl rfl (by rw [List.length_range, szl]; omega)
      (fun x _ => by simp [evf, evt, ev, evo, evp, gE0, gE1, vws, Tm.vw, Ow.vw, Ow1.dt, sem_in, Dt.tru]) (fun x _ _ => by simp [ev, gE1])]
    rfl
theorem reach_run (n : Nat) {d : List Nat} (hd : d.length ≤ 10000) : (CC (n + 1)).fn 4 [.p (.imm (nT d))] = .ret (im (nT (reachN d))) [none] := by
  rw [R_at (g := freach) rfl]
  exact runFn_of rfl rfl (exs_last (ex_ret (ev_pr1 (reach_lc hd) (sem_tuple _)))) rfl
/-! 5: rank -/
theorem rank_c {C : Cl} {d : List Nat} (hm : C.md 4 = [.sh]) (hf : C.fn 4 [.p (.imm (nT d))] = .ret (im (nT (reachN d))) [none]) : runFn C WF frank [.p (.imm (nT d))] = .ret (im (.int ((reachN d).length : Int))) [none] := by
  simp [runFn, frank, brank, exs, ex, ev, evo, evp, gE0, vws, Tm.vw, Ow.vw, Ow1.dt, args, hm, backs, hf, sem_len, outsOf]
theorem rank_run (n : Nat) {d : List Nat} (hd : d.length ≤ 10000) : (CC (n + 2)).fn 5 [.p (.imm (nT d))] = .ret (im (.int ((reachN d).length : Int))) [none] := by
  rw [R_at (n := n + 1) (g := frank) rfl]
  exact rank_c md4 (reach_run n hd)
/-! 6: is_settled -/
theorem big {N : Nat} {d : List Nat} (h : DeedOk N d) (hN : N ≤ 16) : ∀ x ∈ d, x < 10 ^ 12 := fun x hx => by have := h.b x hx; omega
theorem settled_c {C : Cl} {N : Nat} {d : List Nat} (h : DeedOk N d) (hN : N ≤ 16) (hm : C.md 1 = [.sh, .sh]) (hf : C.fn 1 [.p (.imm (nT d)), .p (.imm (nT d))] = .ret (im (nT (prod d d))) [none, none]) : runFn C WF fis_settled [.p (.imm (nT d))] = .ret (im (.bl (decide (prod d d = d)))) [none] := by
  simp [runFn, fis_settled, bis_settled, exs, ex, ev, evo, evp, gE0, vws, Tm.vw, Ow.vw, Ow1.dt, args, hm, backs, hf, Pr.sem, eqv_nT (big (prod_ok h h) hN) (big h hN), i1, outsOf]
theorem settled_run (n : Nat) {N : Nat} {d : List Nat} (h : DeedOk N d) (hN : N ≤ 16) : (CC (n + 2)).fn 6 [.p (.imm (nT d))] = .ret (im (.bl (decide (prod d d = d)))) [none] := by
  rw [R_at (n := n + 1) (g := fis_settled) rfl]
  exact settled_c h hN md1 (prod_run' n h h hN)
end Pd
set_option Elab.async false
set_option linter.all false
set_option maxRecDepth 100000
set_option maxHeartbeats 1000000
namespace Pd
open PySem
theorem sem_eqn (a b : Nat) : Pr.sem .eq [.int (a : Int), .int (b : Int)] = some (.imm (.bl (a == b))) := by
  simp only [Pr.sem, eqv_int, i1]
  congr 3
  rw [Bool.eq_iff_iff, decide_eq_true_eq, beq_iff_eq]
  omega
theorem sem_nen (a b : Nat) : Pr.sem .ne [.int (a : Int), .int (b : Int)] = some (.imm (.bl (a != b))) := by
  have h : eqvD (.int (a : Int)) (.int (b : Int)) = some (a == b) := by
    rw [eqv_int]
    congr 1
    rw [Bool.eq_iff_iff, decide_eq_true_eq, beq_iff_eq]
    omega
  simp only [Pr.sem, h, i1]
  rfl
theorem sem_ne0 {a : List Nat} (h : ∀ x ∈ a, x < 10 ^ 12) : Pr.sem .ne [.lst (nL a), .lst []] = some (.imm (.bl (!decide (a = [])))) := by
  simp only [Pr.sem, eqv_nil h, i1]
theorem sem_eq0 {a : List Nat} (h : ∀ x ∈ a, x < 10 ^ 12) : Pr.sem .eq [.lst (nL a), .lst []] = some (.imm (.bl (decide (a = [])))) := by
  simp only [Pr.sem, eqv_nil h, i1]
theorem sem_eqT {a b : List Nat} (ha : ∀ x ∈ a, x < 10 ^ 12) (hb : ∀ x ∈ b, x < 10 ^ 12) : Pr.sem .eq [nT a, nT b] = some (.imm (.bl (decide (a = b)))) := by
  simp only [Pr.sem, eqv_nT ha hb, i1]
theorem sem_neT {a b : List Nat} (ha : ∀ x ∈ a, x < 10 ^ 12) (hb : ∀ x ∈ b, x < 10 ^ 12) : Pr.sem .ne [nT a, nT b] = some (.imm (.bl (!decide (a = b)))) := by
  simp only [Pr.sem, eqv_nT ha hb, i1]
theorem sem_neB {a : Bool} : Pr.sem .ne [.bl a, .bl a] = some (.imm (.bl false)) := by
  simp only [Pr.sem, eqv_bl, i1]; simp
theorem sem_neS {d : Dt} (h : PyData.strOk (shw d) = true) : Pr.sem .ne [.str (shw d), .str (shw d)] = some (.imm (.bl false)) := by
  simp only [Pr.sem, eqv_shw h, i1]; rfl
theorem sem_eqS {d : Dt} (h : PyData.strOk (shw d) = true) : Pr.sem .eq [.str (shw d), .str (shw d)] = some (.imm (.bl true)) := by
  simp only [Pr.sem, eqv_shw h, i1]
theorem Fit.s {d : Dt} (h : Fit d) : PyData.strOk (shw d) = true := (repr_pl h.p h.dp h.w).2
section
variable {C : Cl}
theorem evt_tr {x : Ex} {b : Bool} {e e1 : En} (h : ev C x e = .ok (im (.bl b)) e1) : evt C (.tr (.e x)) e = .ok b e1 := by
  simp [evt, evp, h, Tm.vw, Ow.vw, Ow1.dt, Dt.tru]
theorem evf_tr {x : Ex} {b : Bool} {e e1 : En} (h : ev C x e = .ok (im (.bl b)) e1) : evf C (.one (.tr (.e x))) e = .ok b e1 := by
  rw [evf]; exact evt_tr h
theorem evt_orF {a b : Te} {e e1 : En} {r : Rs Bool} (h : evt C a e = .ok false e1) (h2 : evt C b e1 = r) : evt C (.lor a b) e = r := by
  rw [evt, h]; exact h2
theorem ev_landT {a b : Ex} {e e1 : En} {r : Rs Ow} (h : ev C a e = .ok (im (.bl true)) e1) (h2 : ev C b e1 = r) : ev C (.land a b) e = r := by
  rw [ev, h]; exact h2
theorem ev_lst0 {e : En} : ev C (.lst .nil) e = .ok (.p (.lst [])) e := by
  rw [ev, evs]; rfl
theorem ex_asgP {wf i : Nat} {x : Ex} {e e2 : En} {o : Ow} (h : ev C x e = .ok o e) (hs : e.set i (some o) = e2) : ex C wf (.asg i x) e = .ok .nx e2 := by
  rw [ex, h, ← hs]
theorem ev_callE {f : Nat} {x : Ex} {e e1 : En} {o : Ow1} {r : Ow} (h : ev C x e = .ok (.p o) e1) (hm : C.md f = [.sh]) (hf : C.fn f [im o.dt] = .ret r [none]) : ev C (.call f (.cons (.e x) .nil)) e = .ok r e1 := by
  simp [ev, evo, evp, h, args, hm, hf, backs]
/-! plain facts -/
theorem mem_get {d : List Nat} {q : Nat} (h : q ∈ d) : ∃ p, p < d.length ∧ d.getD p 0 = q := by
  obtain ⟨p, hp, e⟩ := List.getElem_of_mem h
  exact ⟨p, hp, by rw [List.getD_eq_getElem?_getD, List.getElem?_eq_getElem hp]; exact e⟩
theorem reached_iff (d : List Nat) (q : Nat) : (!decide (((List.range d.length).filter fun p => d.getD p 0 == q) = [])) = decide (q ∈ d) := by
  rw [Bool.eq_iff_iff, Bool.not_eq_true', decide_eq_false_iff_not, decide_eq_true_eq, List.filter_eq_nil_iff]
  constructor
  · intro h
    apply Classical.byContradiction
    intro hq
    refine h fun p hp hb => hq ?_
    rw [beq_iff_eq] at hb
    rw [← hb]
    exact getD_mem (List.mem_range.mp hp)
  · intro h hn
    obtain ⟨p, hp, e⟩ := mem_get h
    exact hn p (List.mem_range.mpr hp) (by rw [beq_iff_eq]; exact e)
theorem prod_iff {N : Nat} {d : List Nat} (h : DeedOk N d) : prod d d = d ↔ ∀ p, p < N → d.getD (d.getD p 0) 0 = d.getD p 0 := by
  constructor
  · intro e p hp
    have := congrArg (fun l => l.getD p 0) e
    simp only [prod] at this
    rw [List.getD_eq_getElem?_getD, List.getElem?_map, List.getElem?_eq_getElem (by rw [h.l]; exact hp)] at this
    have e2 : d.getD p 0 = d[p]'(by rw [h.l]; exact hp) := by rw [List.getD_eq_getElem?_getD, List.getElem?_eq_getElem (by rw [h.l]; exact hp)]; rfl
    rw [e2] at this ⊢
    exact this
  · intro e
    unfold prod
    apply List.ext_getElem (by simp)
    intro p h1 h2
    have := e p (by rw [← h.l]; exact h2)
    have e2 : d.getD p 0 = d[p]'h2 := by rw [List.getD_eq_getElem?_getD, List.getElem?_eq_getElem h2]; rfl
    rw [e2] at this
    rw [List.getElem_map]
    exact this
theorem twice_iff {N : Nat} {d : List Nat} (h : DeedOk N d) : decide (((List.range d.length).filter fun p => d.getD (d.getD p 0) 0 != d.getD p 0) = []) = decide (prod d d = d) := by
  rw [decide_eq_decide, List.filter_eq_nil_iff, prod_iff h]
  constructor
  · intro e p hp
    have := e p (List.mem_range.mpr (by rw [h.l]; exact hp))
    simpa using this
  · intro e p hp
    have := e p (by rw [← h.l]; exact List.mem_range.mp hp)
    simpa using this
theorem filter_inj {p q : Nat → Bool} {l : List Nat} : l.filter p = l.filter q ↔ ∀ x ∈ l, p x = q x := by
  constructor
  · intro e x hx
    have h1 : x ∈ l.filter p ↔ x ∈ l.filter q := by rw [e]
    rw [List.mem_filter, List.mem_filter] at h1
    cases hp : p x <;> cases hq : q x <;> simp_all
  · intro e
    exact List.filter_congr e
theorem settled_iff {N : Nat} {d : List Nat} (h : DeedOk N d) : decide (prod d d = d) = decide (heldN d = reachN d) := by
  rw [decide_eq_decide, prod_iff h]
  unfold heldN reachN
  rw [filter_inj, h.l]
  constructor
  · intro e p hp
    have hp := List.mem_range.mp hp
    rw [Bool.eq_iff_iff, beq_iff_eq, decide_eq_true_eq]
    constructor
    · intro z; rw [← z]; exact getD_mem (by rw [h.l]; exact hp)
    · intro z
      obtain ⟨q, hq, r⟩ := mem_get z
      have := e q (by rw [← h.l]; exact hq)
      rw [r] at this
      exact this
  · intro e p hp
    have hm : d.getD p 0 ∈ d := getD_mem (by rw [h.l]; exact hp)
    have := e (d.getD p 0) (List.mem_range.mpr (h.b _ hm))
    rw [Bool.eq_iff_iff, beq_iff_eq, decide_eq_true_eq] at this
    exact this.mpr hm
theorem held_lt {N : Nat} {d : List Nat} (h : DeedOk N d) : ∀ x ∈ heldN d, x < N := fun x hx => by
  have := List.mem_range.mp ((List.mem_filter.mp hx).1)
  rwa [h.l] at this
theorem reach_lt {N : Nat} {d : List Nat} (h : DeedOk N d) : ∀ x ∈ reachN d, x < N := fun x hx => by
  have := List.mem_range.mp ((List.mem_filter.mp hx).1)
  rwa [h.l] at this
theorem held_len {N : Nat} {d : List Nat} (h : DeedOk N d) : (heldN d).length ≤ N := by
  have := List.length_filter_le (fun p => d.getD p 0 == p) (List.range d.length)
  rw [List.length_range, h.l] at this
  unfold heldN
  rw [h.l]; exact this
theorem reach_len {N : Nat} {d : List Nat} (h : DeedOk N d) : (reachN d).length ≤ N := by
  have := List.length_filter_le (fun p => decide (p ∈ d)) (List.range d.length)
  rw [List.length_range, h.l] at this
  unfold reachN
  rw [h.l]; exact this
theorem settled_idle (N : Nat) : prod (List.range N) (List.range N) = List.range N := by
  rw [prod_iff (range_ok N)]
  intro p hp
  have : (List.range N).getD p 0 = p := by
    rw [List.getD_eq_getElem?_getD, List.getElem?_range hp]; rfl
  rw [this, this]
theorem big' {N : Nat} {l : List Nat} (hN : N ≤ 16) (h : ∀ x ∈ l, x < N) : ∀ x ∈ l, x < 10 ^ 12 := fun x hx => by have := h x hx; omega
end
/-! 13: _law_deed_right -/
theorem dr_run {C : Cl} {N : Nat} {d : List Nat} (h : DeedOk N d) (hN : N ≤ 16)
    (m0 : C.md 0 = [.sh]) (m3 : C.md 3 = [.sh]) (m4 : C.md 4 = [.sh]) (m5 : C.md 5 = [.sh]) (m6 : C.md 6 = [.sh])
    (f0 : C.fn 0 [.p (.imm (.int (N : Int)))] = .ret (im (nT (List.range N))) [none])
    (f3 : C.fn 3 [.p (.imm (nT d))] = .ret (im (nT (heldN d))) [none])
    (f4 : C.fn 4 [.p (.imm (nT d))] = .ret (im (nT (reachN d))) [none])
    (f5 : C.fn 5 [.p (.imm (nT d))] = .ret (im (.int ((reachN d).length : Int))) [none])
    (f6 : C.fn 6 [.p (.imm (nT d))] = .ret (im (.bl (decide (prod d d = d)))) [none])
    (f6' : C.fn 6 [.p (.imm (nT (List.range N)))] = .ret (im (.bl true)) [none]) :
    runFn C WF f_law_deed_right [.p (.imm (nT d))] = .ret (im (.bl true)) [none] := by
  have fd : Fit (nT d) := fit_nT (big h hN) (by rw [h.l]; omega)
  have fr : Fit (nT (List.range N)) := fit_nT (big (range_ok N) hN) (by rw [List.length_range]; omega)
  have hl := h.l
  have rl : ∀ x : Nat, x ∈ List.range N → x < d.length := fun x hx => by rw [hl]; exact List.mem_range.mp hx
  have s1 : ex C WF (.asgT [1, 2] (.cons (.pr .len (.cons (.v 0) .nil)) (.cons (.pr .repr (.cons (.v 0) .nil)) .nil))) [some (im (nT d)), none, none, none, none, none, none, none] = .ok .nx [some (im (nT d)), some (im (.int (N : Int))), some (im (.str (shw (nT d)))), none, none, none, none, none] := by
    simp only [ex, evw, ev, evo, evp, gE0, vws, Tm.vw, Ow.vw, Ow1.dt, sem_len, fd.r, hl, setAll, List.set_cons_zero, List.set_cons_succ, List.length_cons, List.length_nil, if_true]
  have s2 : ex C WF (.asg 3 (.pr .tuple (.cons (.e (.lc (.var 4) (.nm 4) (.rng1 (.var 1)) (.one (.tr (.e (.pr .eq (.cons (.e (.pr .ix (.cons (.v 0) (.cons (.v 4) .nil)))) (.cons (.v 4) .nil)))))) [4])) .nil))) [some (im (nT d)), some (im (.int (N : Int))), some (im (.str (shw (nT d)))), none, none, none, none, none] = .ok .nx [some (im (nT d)), some (im (.int (N : Int))), some (im (.str (shw (nT d)))), some (im (nT (heldN d))), none, none, none, none] := by
    refine ex_asgP (ev_pr1 (o := .lst (nL (heldN d))) ?_ (sem_tuple _)) rfl
    rw [lc_nat (xs := List.range N) (fun p => d.getD p 0 == p) (fun x => .int (x : Int)) (evi_range (by simp only [ev, gE1]) (by omega)) rfl rfl (by rw [List.length_range, szl]; omega)
      (fun x hx => evf_tr (by simp only [ev, evo, evp, gE0, gE4, vws, Tm.vw, Ow.vw, Ow1.dt, List.set_cons_zero, List.set_cons_succ, sem_ix (rl x hx), sem_eqn]))
      (fun x _ _ => by simp only [ev, gE4, List.set_cons_zero, List.set_cons_succ])]
    unfold heldN
    rw [hl]
    rfl
  have s3 : ex C WF (.asg 5 (.pr .tuple (.cons (.e (.lc (.var 6) (.nm 6) (.rng1 (.var 1)) (.one (.tr (.e (.pr .ne (.cons (.e (.lc (.var 4) (.nm 4) (.rng1 (.var 1)) (.one (.tr (.e (.pr .eq (.cons (.e (.pr .ix (.cons (.v 0) (.cons (.v 4) .nil)))) (.cons (.v 6) .nil)))))) [4])) (.cons (.e (.lst .nil)) .nil)))))) [6])) .nil)))
      [some (im (nT d)), some (im (.int (N : Int))), some (im (.str (shw (nT d)))), some (im (nT (heldN d))), none, none, none, none] = .ok .nx [some (im (nT d)), some (im (.int (N : Int))), some (im (.str (shw (nT d)))), some (im (nT (heldN d))), none, some (im (nT (reachN d))), none, none] := by
    refine ex_asgP (ev_pr1 (o := .lst (nL (reachN d))) ?_ (sem_tuple _)) rfl
    rw [lc_nat (xs := List.range N) (fun p => decide (p ∈ d)) (fun x => .int (x : Int)) (evi_range (by simp only [ev, gE1]) (by omega)) rfl rfl (by rw [List.length_range, szl]; omega)
      (fun q _ => evf_tr (by
        rw [← reached_iff, hl]
        refine ev_pr2 (o := .lst (nL ((List.range N).filter fun p => d.getD p 0 == q))) (u := .lst []) ?_ ev_lst0 (sem_ne0 (big' hN fun x hx => List.mem_range.mp ((List.mem_filter.mp hx).1)))
        simp only [List.set_cons_zero, List.set_cons_succ]
        exact lc_nat (xs := List.range N) (fun p => d.getD p 0 == q) (fun x => .int (x : Int)) (evi_range (by simp only [ev, gE1]) (by omega)) rfl rfl (by rw [List.length_range, szl]; omega)
          (fun x hx => evf_tr (by simp only [ev, evo, evp, gE0, gE4, gE6, vws, Tm.vw, Ow.vw, Ow1.dt, List.set_cons_zero, List.set_cons_succ, sem_ix (rl x hx), sem_eqn]))
          (fun x _ _ => by simp only [ev, gE4, List.set_cons_zero, List.set_cons_succ])))
      (fun x _ _ => by simp only [ev, gE6, List.set_cons_zero, List.set_cons_succ])]
    unfold reachN
    rw [hl]
    rfl
  have s4 : ex C WF (.asg 7 (.pr .eq (.cons (.e (.lc (.var 4) (.nm 4) (.rng1 (.var 1)) (.one (.tr (.e (.pr .ne (.cons (.e (.pr .ix (.cons (.v 0) (.cons (.e (.pr .ix (.cons (.v 0) (.cons (.v 4) .nil)))) .nil)))) (.cons (.e (.pr .ix (.cons (.v 0) (.cons (.v 4) .nil)))) .nil)))))) [4])) (.cons (.e (.lst .nil)) .nil))))
      [some (im (nT d)), some (im (.int (N : Int))), some (im (.str (shw (nT d)))), some (im (nT (heldN d))), none, some (im (nT (reachN d))), none, none] = .ok .nx [some (im (nT d)), some (im (.int (N : Int))), some (im (.str (shw (nT d)))), some (im (nT (heldN d))), none, some (im (nT (reachN d))), none, some (im (.bl (decide (prod d d = d))))] := by
    refine ex_asgP (ev_pr2 (o := .lst (nL ((List.range N).filter fun p => d.getD (d.getD p 0) 0 != d.getD p 0))) (u := .lst []) (r := .imm (.bl (decide (prod d d = d)))) ?_ ev_lst0 ?_) rfl
    · exact lc_nat (xs := List.range N) (fun p => d.getD (d.getD p 0) 0 != d.getD p 0) (fun x => .int (x : Int)) (evi_range (by simp only [ev, gE1]) (by omega)) rfl rfl (by rw [List.length_range, szl]; omega)
        (fun x hx => evf_tr (by simp only [ev, evo, evp, gE0, gE4, vws, Tm.vw, Ow.vw, Ow1.dt, List.set_cons_zero, List.set_cons_succ, sem_ix (rl x hx), sem_ix (show d.getD x 0 < d.length by rw [hl]; exact h.b _ (getD_mem (rl x hx))), sem_nen]))
        (fun x _ _ => by simp only [ev, gE4, List.set_cons_zero, List.set_cons_succ])
    · show Pr.sem .eq [.lst (nL ((List.range N).filter fun p => d.getD (d.getD p 0) 0 != d.getD p 0)), .lst []] = _
      rw [sem_eq0 (big' hN fun x hx => List.mem_range.mp ((List.mem_filter.mp hx).1)), ← twice_iff h, hl]
  let E : En := [some (im (nT d)), some (im (.int (N : Int))), some (im (.str (shw (nT d)))), some (im (nT (heldN d))), none, some (im (nT (reachN d))), none, some (im (.bl (decide (prod d d = d))))]
  have bh := big' hN (held_lt h)
  have br := big' hN (reach_lt h)
  have lh := held_len h
  have lr := reach_len h
  have f3r : Fit (.lst [nT (heldN d), nT (reachN d), .int ((reachN d).length : Int)]) := by
    refine ⟨?_, ?_, ?_⟩
    · show (pl (nT (heldN d)) && (pl (nT (reachN d)) && (pl (.int _) && true))) = true
      rw [plT bh, plT br]
      show (true && (true && (decide (((reachN d).length : Int).natAbs < 10 ^ 12) && true))) = true
      rw [decide_eq_true (by omega)]; rfl
    · show max (dpD (nT (heldN d))) (max (dpD (nT (reachN d))) (max 0 0)) + 1 ≤ 60
      rw [dpT, dpT]; decide
    · show wt (nT (heldN d)) + 1 + (wt (nT (reachN d)) + 1 + (41 + 1 + 0)) ≤ _
      rw [wtT, wtT]; omega
  have v1 : ev C (.lst (.cons (.call 3 (.cons (.v 0) .nil)) (.cons (.call 4 (.cons (.v 0) .nil)) (.cons (.call 5 (.cons (.v 0) .nil)) .nil)))) E = .ok (.p (.lst [nT (heldN d), nT (reachN d), .int ((reachN d).length : Int)])) E := by
    simp only [E, ev, evs, evo, evp, gE0, args, backs, m3, m4, m5, f3, f4, f5, Ow1.dt, Ow.dt?, List.set_cons_zero, List.set_cons_succ, List.length_cons, List.length_nil, szl]
    rfl
  have v2 : ev C (.lst (.cons (.var 3) (.cons (.var 5) (.cons (.pr .len (.cons (.v 5) .nil)) .nil)))) E = .ok (.p (.lst [nT (heldN d), nT (reachN d), .int ((reachN d).length : Int)])) E := by
    simp only [E, ev, evs, evo, evp, gE3, gE5, vws, Tm.vw, Ow.vw, sem_len, Ow1.dt, Ow.dt?, List.set_cons_zero, List.set_cons_succ, List.length_cons, List.length_nil, szl]
    rfl
  have t5 : evt C (.tr (.e (.pr .ne (.cons (.e (.pr .repr (.cons (.e (.lst (.cons (.call 3 (.cons (.v 0) .nil)) (.cons (.call 4 (.cons (.v 0) .nil)) (.cons (.call 5 (.cons (.v 0) .nil)) .nil))))) .nil))) (.cons (.e (.pr .repr (.cons (.e (.lst (.cons (.var 3) (.cons (.var 5) (.cons (.pr .len (.cons (.v 5) .nil)) .nil))))) .nil))) .nil))))) E = .ok false E :=
    evt_tr (ev_pr2 (ev_pr1 v1 f3r.r) (ev_pr1 v2 f3r.r) (sem_neS f3r.s))
  have t6 : evt C (.lor (.tr (.e (.pr .ne (.cons (.e (.pr .repr (.cons (.e (.call 6 (.cons (.v 0) .nil))) .nil))) (.cons (.e (.pr .repr (.cons (.v 7) .nil))) .nil))))) (.lor (.tr (.e (.pr .ne (.cons (.v 7) (.cons (.e (.pr .eq (.cons (.v 3) (.cons (.v 5) .nil)))) .nil))))) (.tr (.e (.pr .ne (.cons (.e (.pr .repr (.cons (.v 0) .nil))) (.cons (.v 2) .nil))))))) E = .ok false E := by
    refine evt_orF (e1 := E) (evt_tr (ev_pr2 (e1 := E) (ev_pr1 (o := .imm (.bl (decide (prod d d = d)))) ?_ (repr_bl _)) (o := .imm (.str (shw (.bl (decide (prod d d = d)))))) (u := .imm (.str (shw (.bl (decide (prod d d = d)))))) ?_ (sem_neS (str_bl _)))) (evt_orF (e1 := E) (evt_tr ?_) (evt_tr ?_))
    · simp only [E, ev, evo, evp, gE0, args, backs, m6, f6, Ow1.dt, List.set_cons_zero]
    · simp only [E, ev, evo, evp, gE7, vws, Tm.vw, Ow.vw, Ow1.dt, repr_bl]
    · simp only [E, ev, evo, evp, gE3, gE5, gE7, vws, Tm.vw, Ow.vw, Ow1.dt, sem_eqT bh br, ← settled_iff h, sem_neB]
    · simp only [E, ev, evo, evp, gE0, gE2, vws, Tm.vw, Ow.vw, Ow1.dt, fd.r, sem_neS fd.s]
  have s7 : ev C (.land (.pr .eq (.cons (.e (.pr .repr (.cons (.e (.call 0 (.cons (.v 1) .nil))) .nil))) (.cons (.e (.pr .repr (.cons (.e (.pr .tuple (.cons (.e (.pr .lrng (.cons (.v 1) .nil))) .nil))) .nil))) .nil))) (.pr (.isB true) (.cons (.e (.call 6 (.cons (.e (.call 0 (.cons (.v 1) .nil))) .nil))) .nil))) E = .ok (im (.bl true)) E := by
    have c0 : ev C (.call 0 (.cons (.v 1) .nil)) E = .ok (im (nT (List.range N))) E := by
      simp only [E, ev, evo, evp, gE1, args, backs, m0, f0, Ow1.dt, List.set_cons_zero, List.set_cons_succ]
    have c1 : ev C (.pr .lrng (.cons (.v 1) .nil)) E = .ok (.p (.lst (nL (List.range N)))) E := by
      have h1 : (0 : Int) ≤ (N : Int) ∧ (N : Int) ≤ 16777216 := by omega
      simp only [E, ev, evo, evp, gE1, vws, Tm.vw, Ow.vw, Ow1.dt, Pr.sem, if_pos h1, Int.toNat_natCast, nL]
    refine ev_landT (ev_pr2 (ev_pr1 c0 fr.r) (ev_pr1 (ev_pr1 c1 (sem_tuple _)) fr.r) (sem_eqS fr.s)) (ev_pr1 (o := .imm (.bl true)) (ev_callE c0 m6 f6') rfl)
  refine runFn_of rfl rfl (exs_next s1 (exs_next s2 (exs_next s3 (exs_next s4 (exs_next ((ex_iteF t5).trans exs_nil) (exs_next ((ex_iteF t6).trans exs_nil) (exs_last (ex_ret s7)))))))) rfl
theorem right_run (n : Nat) {N : Nat} {d : List Nat} (h : DeedOk N d) (hN : N ≤ 16) : (CC (n + 3)).fn 13 [.p (.imm (nT d))] = .ret (im (.bl true)) [none] := by
  rw [R_at (n := n + 2) (g := f_law_deed_right) rfl]
  have e := settled_run n (range_ok N) hN
  rw [settled_idle, decide_eq_true rfl] at e
  exact dr_run h hN md0 md3 md4 md5 md6 (idle_run (n + 1) N (by omega)) (held_run (n + 1) (by rw [h.l]; omega)) (reach_run (n + 1) (by rw [h.l]; omega)) (rank_run n (by rw [h.l]; omega)) (settled_run n h hN) e
end Pd
set_option Elab.async false
set_option linter.all false
set_option maxRecDepth 100000
set_option maxHeartbeats 1000000
namespace Pd
open PySem
/-! 7: _law_source -/
abbrev srcL : Sms := (.cons (.asg 1 (.pr .mod (.cons (.e (.pr .int (.cons (.e (.pr .add (.cons (.e (.pr .add (.cons (.e (.pr .mul (.cons (.v 1) (.cons (.e (.cst (.int 69069))) .nil)))) (.cons (.e (.pr .mul (.cons (.v 2) (.cons (.e (.cst (.int 31))) .nil)))) .nil)))) (.cons (.e (.cst (.int 5))) .nil)))) .nil))) (.cons (.e (.cst (.int 2147483629))) .nil))))
    .nil)
theorem src_loop {C : Cl} {ns0 : List Int} : ∀ (ns : List Int) (m : Int) (x : Option Ow), ∃ m' x', forGo (stepFor C WF (.nm 2) srcL) (ns.map .int) [some (im (.scr ns0)), some (im (.int m)), x] = .ok .nx [some (im (.scr ns0)), some (im (.int m')), x']
  | [], m, x => ⟨m, x, rfl⟩
  | c :: ns, m, x => by
    obtain ⟨m', x', h⟩ := src_loop (C := C) (ns0 := ns0) ns ((m * 69069 + c * 31 + 5) % 2147483629) (some (im (.int c)))
    refine ⟨m', x', ?_⟩
    have k1 : okMul m 69069 = true := okMul_r (by decide)
    have k2 : okMul c 31 = true := okMul_r (by decide)
    have k3 : (0 : Int) < 2147483629 := by decide
    have s1 : stepFor C WF (.nm 2) srcL (.int c) [some (im (.scr ns0)), some (im (.int m)), x] = .ok .nx [some (im (.scr ns0)), some (im (.int ((m * 69069 + c * 31 + 5) % 2147483629))), some (im (.int c))] := by
      simp only [stepFor, tgSet, exs, ex, ev, evo, evp, gE1, gE2, vws, Tm.vw, Ow.vw, Ow1.dt, Pr.sem, i1, k1, k2, k3, if_true, List.set_cons_zero, List.set_cons_succ]
    rw [List.map_cons]
    unfold forGo
    rw [s1]
    exact h
theorem source_run {C : Cl} {ns : List Int} (hz : ns.length ≤ 63) : ∃ s, Src s ∧ runFn C WF f_law_source [.p (.imm (.scr ns))] = .ret s [none] := by
  obtain ⟨m', x', hl⟩ := src_loop (C := C) (ns0 := ns) ns 11 none
  have s1 : ex C WF (.asg 1 (.cst (.int 11))) [some (im (.scr ns)), none, none] = .ok .nx [some (im (.scr ns)), some (im (.int 11)), none] := by
    simp only [ex, ev, List.set_cons_zero, List.set_cons_succ]
  have s2 : ex C WF (.fors (.nm 2) (.op (.v 0)) srcL) [some (im (.scr ns)), some (im (.int 11)), none] = .ok .nx [some (im (.scr ns)), some (im (.int m')), x'] := by
    rw [ex_for (ds := ns.map .int) (e1 := [some (im (.scr ns)), some (im (.int 11)), none]) (by simp only [evi, evp, gE0, Tm.vw, Ow.vw, Ow1.dt, seqD]) rfl, hl]
    rfl
  have hlc : ev C (.lc (.pr .abs (.cons (.v 2) .nil)) (.nm 2) (.op (.v 0)) .nil [2]) [some (im (.scr ns)), some (im (.int m')), x'] = .ok (.p (.lst ((ns.map fun i => if i < 0 then -i else i).map .int))) [some (im (.scr ns)), some (im (.int m')), x'] := by
    have e : ((ns.map fun i => if i < 0 then -i else i).map Dt.int) = (ns.map Dt.int).filterMap fun d => match d with | .int i => some (.int (if i < 0 then -i else i)) | _ => none := by
      rw [List.filterMap_map, List.map_map]
      simp [Function.comp_def]
    rw [e]
    refine lc_pure _ (by simp only [evi, evp, gE0, Tm.vw, Ow.vw, Ow1.dt, seqD]) rfl rfl (by rw [List.length_map, szl]; omega) fun d hd => ?_
    obtain ⟨i, _, rfl⟩ := List.mem_map.mp hd
    refine ⟨[some (im (.scr ns)), some (im (.int m')), some (im (.int i))], ?_, rfl⟩
    simp only [stepLc, tgSet, wipeE, evf, ev, evo, evp, gE2, vws, Tm.vw, Ow.vw, Ow1.dt, Pr.sem, i1, Ow.dt?, List.set_cons_zero, List.set_cons_succ]
  have hn : ["cells", "left", "mixed", "turn"].Nodup := by decide +kernel
  have s3 : ev C (.rcd ["cells", "left", "mixed", "turn"] (.cons (.pr .rev (.cons (.e (.lc (.pr .abs (.cons (.v 2) .nil)) (.nm 2) (.op (.v 0)) .nil [2])) .nil)) (.cons (.cst (.int 1)) (.cons (.var 1) (.cons (.cst (.int 0)) .nil))))) [some (im (.scr ns)), some (im (.int m')), x'] = .ok (.rc (srcF (ns.map fun i => if i < 0 then -i else i).reverse 1 m' 0)) [some (im (.scr ns)), some (im (.int m')), x'] := by
    rw [ev, evw, ev_pr1 (r := .lst ((ns.map fun i => if i < 0 then -i else i).map Dt.int).reverse) hlc rfl]
    simp only [evw, ev, gE1, List.length_cons, List.length_nil]
    rw [if_pos ⟨trivial, by decide +kernel, by decide⟩, ← List.map_reverse]
    rfl
  refine ⟨_, ⟨_, _, _, _, by rw [List.length_reverse, List.length_map]; exact hz, rfl⟩, runFn_of rfl rfl (exs_next s1 (exs_next s2 (exs_last (ex_ret s3)))) rfl⟩
/-! 8: _law_pick -/
structure PickOk (C : Cl) : Prop where
  md : C.md 8 = [.mu, .sh]
  fn : ∀ (s : Ow) (many : Nat), Src s → many < 2 ^ 62 → ∃ (k : Nat) (s' : Ow), C.fn 8 [s, .p (.imm (.int (many : Int)))] = .ret (im (.int (k : Int))) [some s', none] ∧ Src s' ∧ (k < many ∨ k = 0)
theorem pick_CC (n : Nat) : PickOk (CC (n + 1)) := by
  refine ⟨md8, fun s many hs hm => ?_⟩
  rw [R_at (g := f_law_pick) rfl]
  obtain ⟨k, s', h1, h2, h3, h4⟩ := pick_run (C := CC n) (wf := WF) (c1 := 104729) (c2 := 998244353) (c3 := 17) (c4 := 2147483647) (c5 := 16) (many := (many : Int)) hs (by decide) (by decide) (by decide) (by decide) (by decide) (by decide) (by decide) (by decide) (by omega)
  refine ⟨k.toNat, s', ?_, h2, by omega⟩
  rw [Int.toNat_of_nonneg h3]
  exact h1
section
variable {C : Cl}
theorem getE_cons {a : Option Ow} {l : En} {i : Nat} : getE (a :: l) (i + 1) = getE l i := rfl
theorem ev_pick (P : PickOk C) {x : Ex} {s s1 : Ow} {tl tl1 : En} {many : Nat} (hs : Src s1) (hx : ev C x (some s :: tl) = .ok (im (.int (many : Int))) (some s1 :: tl1)) (hm : many < 2 ^ 62) :
    ∃ (k : Nat) (s' : Ow), ev C (.call 8 (.cons (.v 0) (.cons (.e x) .nil))) (some s :: tl) = .ok (im (.int (k : Int))) (some s' :: tl1) ∧ Src s' ∧ (k < many ∨ k = 0) := by
  obtain ⟨k, s', h1, h2, h3⟩ := P.fn s1 many hs hm
  refine ⟨k, s', ?_, h2, h3⟩
  obtain ⟨_, _, _, _, _, rfl⟩ := hs
  simp only [ev, evo, evp, gE0, hx, P.md, args, List.set_cons_zero, Ow1.dt, h1, backs]
theorem ev_pickV (P : PickOk C) {i : Nat} {s : Ow} {tl : En} {many : Nat} (hs : Src s) (hx : tl[i]? = some (some (im (.int (many : Int))))) (hm : many < 2 ^ 62) :
    ∃ (k : Nat) (s' : Ow), ev C (.call 8 (.cons (.v 0) (.cons (.v (i + 1)) .nil))) (some s :: tl) = .ok (im (.int (k : Int))) (some s' :: tl) ∧ Src s' ∧ (k < many ∨ k = 0) := by
  obtain ⟨k, s', h1, h2, h3⟩ := P.fn s many hs hm
  refine ⟨k, s', ?_, h2, h3⟩
  obtain ⟨_, _, _, _, _, rfl⟩ := hs
  have hg : getE tl i = some (im (.int (many : Int))) := by unfold getE; rw [hx]
  simp only [ev, evo, evp, gE0, getE_cons, hg, P.md, args, List.set_cons_zero, List.set_cons_succ, set_same hx, Ow1.dt, h1, backs]
/-! comprehensions that draw -/
theorem lcGo_I {el : Ex} {ifs : Tes} {k : Nat} {I : List Nat → En → Prop} {P : Dt → Prop} (hI : ∀ r e x, I r e → I r (e.set k x)) (hk : ∀ r e, I r e → k < e.length)
    (hf : ∀ x r e, I (x :: r) e → e[k]? = some (some (im (.int (x : Int)))) → ∃ b e', evf C ifs e = .ok b e' ∧ (b = true → I (x :: r) e' ∧ e'[k]? = some (some (im (.int (x : Int))))) ∧ (b = false → ifs ≠ .nil ∧ I r e'))
    (hg : ∀ x r e, I (x :: r) e → e[k]? = some (some (im (.int (x : Int)))) → ∃ d e', ev C el e = .ok (im d) e' ∧ I r e' ∧ P d) : ∀ (xs : List Nat) (acc : List Dt) (e : En), I xs e → acc.length + xs.length < sizeLine →
    ∃ ys e', lcGo (stepLc C el (.nm k) ifs [k]) (nL xs) acc e = .ok (acc ++ ys) e' ∧ I [] e' ∧ (∀ y ∈ ys, P y) ∧ ys.length ≤ xs.length ∧ (ifs = .nil → ys.length = xs.length)
  | [], acc, e, h, _ => ⟨[], e, by simp [lcGo, nL], h, (fun _ h => nomatch h), Nat.le_refl _, fun _ => rfl⟩
  | x :: xs, acc, e, h, hz => by
    simp only [List.length_cons] at hz
    have hb : I (x :: xs) (e.set k (some (im (.int (x : Int))))) := hI _ _ _ h
    have hget : (e.set k (some (im (.int (x : Int)))))[k]? = some (some (im (.int (x : Int)))) := List.getElem?_set_self (hk _ _ h)
    obtain ⟨b, e1, f1, f2, f3⟩ := hf x xs _ hb hget
    have ht : tgSet (.nm k) (Dt.int (x : Int)) (wipeE e [k]) = some (e.set k (some (im (.int (x : Int))))) := by
      show some ((e.set k none).set k _) = _
      rw [List.set_set]
    show ∃ ys e', lcGo _ (Dt.int (x : Int) :: nL xs) acc e = _ ∧ _
    cases hbb : b with
    | false =>
      obtain ⟨hn, hi⟩ := f3 hbb
      obtain ⟨ys, e', q1, q2, q3, q4, q5⟩ := lcGo_I hI hk hf hg xs acc e1 hi (by omega)
      refine ⟨ys, e', ?_, q2, q3, by simp; omega, fun z => absurd z hn⟩
      unfold lcGo
      have : stepLc C el (.nm k) ifs [k] (Dt.int (x : Int)) e = .ok none e1 := by
        unfold stepLc
        rw [ht]; dsimp only
        rw [f1, hbb]
      rw [this]
      exact q1
    | true =>
      obtain ⟨hi, hg1⟩ := f2 hbb
      obtain ⟨d, e2, g1, g2, g3⟩ := hg x xs e1 hi hg1
      obtain ⟨ys, e', q1, q2, q3, q4, q5⟩ := lcGo_I hI hk hf hg xs (acc ++ [d]) e2 g2 (by simp; omega)
      refine ⟨d :: ys, e', ?_, q2, ?_, by simp; omega, fun z => by simp [q5 z]⟩
      · unfold lcGo
        have : stepLc C el (.nm k) ifs [k] (Dt.int (x : Int)) e = .ok (some d) e2 := by
          unfold stepLc
          rw [ht]; dsimp only
          rw [f1, hbb]; dsimp only
          rw [g1]
          rfl
        rw [this]
        dsimp only
        rw [if_pos (by omega), q1]
        simp
      · intro y hy
        rcases List.mem_cons.mp hy with z | z
        · rw [z]; exact g3
        · exact q3 y z
theorem lc_I {el : Ex} {it : Ir} {ifs : Tes} {k : Nat} {I : List Nat → En → Prop} {P : Dt → Prop} {env e1 : En} {xs : List Nat} (h1 : evi C it env = .ok (nL xs) e1) (h2 : lckI it e1 = some e1) (h3 : slotI it = []) (hz : xs.length < sizeLine) (h0 : I xs e1)
    (hI : ∀ r e x, I r e → I r (e.set k x)) (hk : ∀ r e, I r e → k < e.length)
    (hf : ∀ x r e, I (x :: r) e → e[k]? = some (some (im (.int (x : Int)))) → ∃ b e', evf C ifs e = .ok b e' ∧ (b = true → I (x :: r) e' ∧ e'[k]? = some (some (im (.int (x : Int))))) ∧ (b = false → ifs ≠ .nil ∧ I r e'))
    (hg : ∀ x r e, I (x :: r) e → e[k]? = some (some (im (.int (x : Int)))) → ∃ d e', ev C el e = .ok (im d) e' ∧ I r e' ∧ P d) :
    ∃ ys e', ev C (.lc el (.nm k) it ifs [k]) env = .ok (.p (.lst ys)) e' ∧ I [] e' ∧ (∀ y ∈ ys, P y) ∧ ys.length ≤ xs.length ∧ (ifs = .nil → ys.length = xs.length) := by
  obtain ⟨ys, e', q1, q2, q3, q4, q5⟩ := lcGo_I hI hk hf hg xs [] e1 h0 (by simpa using hz)
  refine ⟨ys, e'.set k (e1.getD k none), ?_, hI _ _ _ q2, q3, q4, q5⟩
  rw [ev_lc h1 h2, q1, h3]
  simp [backE]
theorem hf_nil {k : Nat} {I : List Nat → En → Prop} : ∀ x r e, I (x :: r) e → e[k]? = some (some (im (.int ((x : Nat) : Int)))) → ∃ b e', evf C .nil e = .ok b e' ∧ (b = true → I (x :: r) e' ∧ e'[k]? = some (some (im (.int (x : Int))))) ∧ (b = false → (Tes.nil : Tes) ≠ .nil ∧ I r e') :=
  fun x r e h hg => ⟨true, e, by rw [evf], fun _ => ⟨h, hg⟩, fun z => nomatch z⟩
theorem lc_I0 {el : Ex} {it : Ir} {k : Nat} {I : List Nat → En → Prop} {P : Dt → Prop} {env e1 : En} {xs : List Nat} (h1 : evi C it env = .ok (nL xs) e1) (h2 : lckI it e1 = some e1) (h3 : slotI it = []) (hz : xs.length < sizeLine) (h0 : I xs e1)
    (hI : ∀ r e x, I r e → I r (e.set k x)) (hk : ∀ r e, I r e → k < e.length)
    (hg : ∀ x r e, I (x :: r) e → e[k]? = some (some (im (.int (x : Int)))) → ∃ d e', ev C el e = .ok (im d) e' ∧ I r e' ∧ P d) :
    ∃ ys e', ev C (.lc el (.nm k) it .nil [k]) env = .ok (.p (.lst ys)) e' ∧ I [] e' ∧ (∀ y ∈ ys, P y) ∧ ys.length = xs.length := by
  obtain ⟨ys, e', a, b, c, _, d⟩ := lc_I (ifs := .nil) h1 h2 h3 hz h0 hI hk hf_nil hg
  exact ⟨ys, e', a, b, c, d rfl⟩
theorem to_nL {N : Nat} : ∀ {ys : List Dt}, (∀ y ∈ ys, ∃ j : Nat, j < N ∧ y = .int (j : Int)) → ∃ l, ys = nL l ∧ (∀ x ∈ l, x < N) ∧ l.length = ys.length
  | [], _ => ⟨[], rfl, (fun _ h => nomatch h), rfl⟩
  | y :: ys, h => by
    obtain ⟨j, hj, rfl⟩ := h y List.mem_cons_self
    obtain ⟨l, rfl, h2, h3⟩ := to_nL fun z hz => h z (List.mem_cons_of_mem _ hz)
    refine ⟨j :: l, rfl, fun x hx => ?_, by simp [nL]⟩
    rcases List.mem_cons.mp hx with z | z
    · rw [z]; exact hj
    · exact h2 x z
end
end Pd
set_option Elab.async false
set_option linter.all false
set_option maxRecDepth 100000
set_option maxHeartbeats 1000000
namespace Pd
open PySem
theorem sem_ixL {l : List Nat} {i : Nat} (h : i < l.length) : Pr.sem .ix [.lst (nL l), .int (i : Int)] = some (.imm (.int ((l.getD i 0 : Nat) : Int))) := by
  simp only [Pr.sem, nL_get h, i1]
theorem nL_erase : ∀ (l : List Nat) (k : Nat), (nL l).eraseIdx k = nL (l.eraseIdx k)
  | [], k => rfl
  | x :: l, 0 => rfl
  | x :: l, k + 1 => by
    show Dt.int (x : Int) :: (nL l).eraseIdx k = Dt.int (x : Int) :: nL (l.eraseIdx k)
    rw [nL_erase l k]
theorem sem_lenL (l : List Nat) : Pr.sem .len [.lst (nL l)] = some (.imm (.int (l.length : Int))) := by
  simp only [Pr.sem, nL_len, i1]
theorem sem_inL {p : Nat} {l : List Nat} (h : ∀ x ∈ l, x < 10 ^ 12) : ∃ b, Pr.sem .isIn [.int (p : Int), .lst (nL l)] = some (.imm (.bl b)) := by
  obtain ⟨es, k⟩ := plL_ok (plLN h)
  have hs : SeqAt.shaped (.list es) = true := by
    show (PyData.canLayAll0 es && decide (PyData.depthAll es + 1 ≤ 64)) = true
    rw [k.lay, k.dep, dpLN]
    rfl
  refine ⟨es.any fun z => PyData.eqv z (.int (p : Int)), ?_⟩
  simp only [Pr.sem, inD, Dt.py, k.py]
  rw [hs]
  rfl
theorem sem_lrng {N : Nat} (h : N ≤ 16) : Pr.sem .lrng [.int (N : Int)] = some (.lst (nL (List.range N))) := by
  have h1 : (0 : Int) ≤ (N : Int) ∧ (N : Int) ≤ 16777216 := by omega
  simp only [Pr.sem, if_pos h1, Int.toNat_natCast, nL]
section
variable {C : Cl}
theorem ev_prV {q : Pr} {i : Nat} {e : En} {u r : Ow1} (hv : getE e i = some (.p u)) (hq : q.sem [u.dt] = some r) : ev C (.pr q (.cons (.v i) .nil)) e = .ok (.p r) e := by
  simp [ev, evo, evp, hv, vws, Tm.vw, Ow.vw, hq]
theorem ev_prVE {q : Pr} {i : Nat} {x : Ex} {e e1 : En} {u0 : Ow} {o u r : Ow1} (hg : getE e i = some u0) (h : ev C x e = .ok (.p o) e1) (hv : getE e1 i = some (.p u)) (hq : q.sem [u.dt, o.dt] = some r) : ev C (.pr q (.cons (.v i) (.cons (.e x) .nil))) e = .ok (.p r) e1 := by
  simp [ev, evo, evp, hg, h, hv, vws, Tm.vw, Ow.vw, hq]
theorem ev_prEV {q : Pr} {i : Nat} {x : Ex} {e e1 : En} {o u r : Ow1} (h : ev C x e = .ok (.p o) e1) (hv : getE e1 i = some (.p u)) (hq : q.sem [o.dt, u.dt] = some r) : ev C (.pr q (.cons (.e x) (.cons (.v i) .nil))) e = .ok (.p r) e1 := by
  simp [ev, evo, evp, h, hv, vws, Tm.vw, Ow.vw, hq]
theorem ev_prVV {q : Pr} {i j : Nat} {e : En} {o u r : Ow1} (h : getE e i = some (.p o)) (hv : getE e j = some (.p u)) (hq : q.sem [o.dt, u.dt] = some r) : ev C (.pr q (.cons (.v i) (.cons (.v j) .nil))) e = .ok (.p r) e := by
  simp [ev, evo, evp, h, hv, vws, Tm.vw, Ow.vw, hq]
theorem ev_cst {d : Dt} {e : En} : ev C (.cst d) e = .ok (im d) e := by rw [ev]
theorem ev_muE {f : Nat} {x : Ex} {s s1 : Ow} {tl tl1 : En} {o : Ow1} {r : Ow} {s' : Option Ow} (hm : C.md f = [.mu, .sh]) (hs : Src s1) (hx : ev C x (some s :: tl) = .ok (.p o) (some s1 :: tl1)) (hf : C.fn f [s1, .p (.imm o.dt)] = .ret r [s', none]) :
    ev C (.call f (.cons (.v 0) (.cons (.e x) .nil))) (some s :: tl) = .ok r (s' :: tl1) := by
  obtain ⟨_, _, _, _, _, rfl⟩ := hs
  simp only [ev, evo, evp, gE0, hx, hm, args, List.set_cons_zero, hf, backs]
theorem ev_muV {f i : Nat} {s : Ow} {tl : En} {o : Ow1} {r : Ow} {s' : Option Ow} (hm : C.md f = [.mu, .sh]) (hs : Src s) (hx : getE tl i = some (.p o)) (hf : C.fn f [s, .p (.imm o.dt)] = .ret r [s', none]) :
    ev C (.call f (.cons (.v 0) (.cons (.v (i + 1)) .nil))) (some s :: tl) = .ok r (s' :: tl.set i (some (im o.dt))) := by
  obtain ⟨_, _, _, _, _, rfl⟩ := hs
  simp only [ev, evo, evp, gE0, getE_cons, hx, hm, args, List.set_cons_zero, List.set_cons_succ, hf, backs]
end
/-! 9: _law_of -/
structure OfOk (C : Cl) : Prop where
  md : C.md 9 = [.mu, .sh]
  fn : ∀ (s : Ow) (l : List Nat), Src s → l ≠ [] → l.length < 2 ^ 62 → ∃ (k : Nat) (s' : Ow), C.fn 9 [s, .p (.imm (.lst (nL l)))] = .ret (im (.int (k : Int))) [some s', none] ∧ Src s' ∧ k ∈ l
theorem of_CC (n : Nat) : OfOk (CC (n + 2)) := by
  refine ⟨md9, fun s l hs hl hz => ?_⟩
  rw [R_at (n := n + 1) (g := f_law_of) rfl]
  have P := pick_CC n
  generalize CC (n + 1) = C at P ⊢
  have hp : 0 < l.length := List.length_pos_iff.mpr hl
  obtain ⟨k, s', h1, h2, h3⟩ := ev_pick P (x := .pr .len (.cons (.v 1) .nil)) (s := s) (s1 := s) (tl := [some (im (.lst (nL l)))]) (tl1 := [some (im (.lst (nL l)))]) (many := l.length) hs (ev_prV gE1 (sem_lenL l)) hz
  have hk : k < l.length := by omega
  exact ⟨l.getD k 0, s', runFn_of rfl rfl (exs_last (ex_ret (ev_prVE gE1 h1 gE1 (sem_ixL hk)))) rfl, h2, getD_mem hk⟩
/-! 10: _law_mixed -/
structure MixOk (C : Cl) : Prop where
  md : C.md 10 = [.mu, .sh]
  fn : ∀ (s : Ow) (l : List Nat) (N : Nat), Src s → (∀ x ∈ l, x < N) → l.length < 100 → ∃ (r : List Nat) (s' : Ow), C.fn 10 [s, .p (.imm (.lst (nL l)))] = .ret (.p (.lst (nL r))) [some s', none] ∧ Src s' ∧ r.length = l.length ∧ ∀ x ∈ r, x < N
theorem mem_erase {l : List Nat} {i x : Nat} (h : x ∈ l.eraseIdx i) : x ∈ l := List.mem_of_mem_eraseIdx h
theorem mixed_CC (n : Nat) : MixOk (CC (n + 2)) := by
  refine ⟨md10, fun s l N hs hl hz => ?_⟩
  rw [R_at (n := n + 1) (g := f_law_mixed) rfl]
  have P := pick_CC n
  generalize CC (n + 1) = C at P ⊢
  obtain ⟨ys, e', q1, ⟨s', rl, x, hs', _, _, _, rfl⟩, q3, q5⟩ := lc_I0 (C := C) (el := .popAt 2 (.call 8 (.cons (.v 0) (.cons (.e (.pr .len (.cons (.v 2) .nil))) .nil)))) (k := 3) (it := .rng1 (.pr .len (.cons (.v 2) .nil)))
    (I := fun r e => ∃ (s : Ow) (rl : List Nat) (x : Option Ow), Src s ∧ rl.length = r.length ∧ rl.length < 100 ∧ (∀ y ∈ rl, y < N) ∧ e = [some s, some (im (.lst (nL l))), some (.p (.lst (nL rl))), x]) (P := fun y => ∃ j : Nat, j < N ∧ y = .int (j : Int))
    (env := [some s, some (im (.lst (nL l))), some (.p (.lst (nL l))), none]) (e1 := [some s, some (im (.lst (nL l))), some (.p (.lst (nL l))), none]) (xs := List.range l.length)
    (evi_range (ev_prV gE2 (sem_lenL l)) (by omega)) rfl rfl (by rw [List.length_range, szl]; omega) ⟨s, l, none, hs, by rw [List.length_range], hz, hl, rfl⟩
    (fun r e x ⟨s, rl, y, a, b, b2, c, d⟩ => ⟨s, rl, x, a, b, b2, c, by rw [d]; rfl⟩) (fun r e ⟨s, rl, y, a, b, b2, c, d⟩ => by rw [d]; show 3 < 4; decide)
    (fun x r e ⟨s, rl, y, a, b, b2, c, d⟩ _ => by
      subst d
      simp only [List.length_cons] at b
      have hz2 : rl.length < 2 ^ 62 := by omega
      obtain ⟨k, s', h1, h2, h3⟩ := ev_pick P (x := .pr .len (.cons (.v 2) .nil)) (s := s) (s1 := s) (tl := [some (im (.lst (nL l))), some (.p (.lst (nL rl))), y]) (tl1 := [some (im (.lst (nL l))), some (.p (.lst (nL rl))), y]) (many := rl.length) a (ev_prV gE2 (sem_lenL rl)) hz2
      have hk : k < rl.length := by omega
      have hget : (nL rl)[((k : Int)).toNat]? = some (.int ((rl.getD k 0 : Nat) : Int)) := by
        have := nL_get hk
        unfold atD at this
        rwa [if_pos (by omega)] at this
      have hk2 : (0 : Int) ≤ (k : Int) ∧ (k : Int) < 2 ^ 63 := by omega
      refine ⟨.int ((rl.getD k 0 : Nat) : Int), [some s', some (im (.lst (nL l))), some (.p (.lst (nL (rl.eraseIdx k)))), y], ?_, ⟨s', rl.eraseIdx k, y, h2, by rw [List.length_eraseIdx_of_lt hk]; omega, by rw [List.length_eraseIdx_of_lt hk]; omega, fun z hz => c z (mem_erase hz), rfl⟩, ⟨_, c _ (getD_mem hk), rfl⟩⟩
      rw [ev, gE2, if_pos (show isLst (some (Ow.p (Ow1.lst (nL rl)))) = true from rfl), h1]
      dsimp only
      rw [gE2]
      dsimp only
      rw [if_pos hk2, hget]
      dsimp only
      rw [Int.toNat_natCast]
      have : (nL rl).eraseIdx k = nL (rl.eraseIdx k) := nL_erase rl k
      rw [this]
      rfl)
  obtain ⟨r, rfl, r2, r3⟩ := to_nL q3
  refine ⟨r, s', runFn_of rfl rfl (exs_next (ex_asgP (o := .p (.lst (nL l))) (ev_prV gE1 rfl) rfl) (exs_last (ex_ret q1))) rfl, hs', ?_, r2⟩
  rw [r3, q5, List.length_range]
/-! 11: _law_deed -/
theorem sortI_mem : ∀ {l : List Int} {y : Int}, y ∈ sortI l → y ∈ l
  | [], _, h => h
  | x :: l, y, h => by
    have ins : ∀ (l : List Int), y ∈ insI x l → y = x ∨ y ∈ l := by
      intro l
      induction l with
      | nil => intro h; exact .inl (by simpa [insI] using h)
      | cons z l ih =>
        intro h
        unfold insI at h
        split at h
        · rcases List.mem_cons.mp h with e | e
          · exact .inl e
          · exact .inr e
        · rcases List.mem_cons.mp h with e | e
          · exact .inr (by rw [e]; exact List.mem_cons_self)
          · rcases ih e with e | e
            · exact .inl e
            · exact .inr (List.mem_cons_of_mem _ e)
    rcases ins _ h with e | e
    · rw [e]; exact List.mem_cons_self
    · exact List.mem_cons_of_mem _ (sortI_mem e)
theorem insI_len (x : Int) : ∀ (l : List Int), (insI x l).length = l.length + 1
  | [] => rfl
  | z :: l => by
    unfold insI
    split
    · rfl
    · simp [insI_len x l]
theorem sortI_len : ∀ (l : List Int), (sortI l).length = l.length
  | [] => rfl
  | x :: l => by
    show (insI x (sortI l)).length = _
    rw [insI_len, sortI_len l]; rfl
theorem toInts_nL : ∀ (l : List Nat), toInts (nL l) = some (l.map fun (k : Nat) => (k : Int))
  | [] => rfl
  | x :: l => by
    show (match toInts (nL l) with | some is => some ((x : Int) :: is) | none => none) = _
    rw [toInts_nL l]
    rfl
theorem sem_sorted {N : Nat} {l : List Nat} (h : ∀ x ∈ l, x < N) : ∃ r, Pr.sem .sorted [.lst (nL l)] = some (.lst (nL r)) ∧ r.length = l.length ∧ ∀ x ∈ r, x < N := by
  have h1 : Pr.sem .sorted [.lst (nL l)] = some (.lst ((sortI (l.map fun (k : Nat) => (k : Int))).map .int)) := by
    simp only [Pr.sem, toInts_nL]
  obtain ⟨r, e, h2, h3⟩ := to_nL (N := N) (ys := (sortI (l.map fun (k : Nat) => (k : Int))).map .int) (fun y hy => by
    obtain ⟨i, hi, rfl⟩ := List.mem_map.mp hy
    obtain ⟨k, hk, rfl⟩ := List.mem_map.mp (sortI_mem hi)
    exact ⟨k, h k hk, rfl⟩)
  refine ⟨r, by rw [h1, e], ?_, h2⟩
  rw [h3, List.length_map, sortI_len, List.length_map]
theorem rep_nL (k : Nat) : ∀ (N : Nat), (List.replicate N (nL [k])).flatten = nL (List.replicate N k)
  | 0 => rfl
  | N + 1 => by
    rw [List.replicate_succ, List.flatten_cons, rep_nL k N, List.replicate_succ]
    rfl
theorem sem_mulT {N k : Nat} (h : N ≤ 16) : Pr.sem .mul [nT [k], .int (N : Int)] = some (.imm (nT (List.replicate N k))) := by
  have hc : -(2 ^ 63) ≤ (N : Int) ∧ (N : Int) < 2 ^ 63 ∧ (nL [k]).length * (N : Int).toNat ≤ sizeLine := ⟨by omega, by omega, by rw [szl, nL_len, Int.toNat_natCast]; simp; omega⟩
  unfold nT
  simp only [Pr.sem]
  rw [if_pos hc, Int.toNat_natCast, rep_nL]
  rfl
section
variable {C : Cl}
/-- the slots of _law_deed -/
def DI (N : Nat) (w : Int) (y : Option Ow) (r : List Nat) (e : En) : Prop := ∃ (s : Ow) (x : Option Ow), Src s ∧ (∀ z ∈ r, z < N) ∧ e = [some s, some (im (.int (N : Int))), some (im (.int w)), x, y]
theorem DI_set {N : Nat} {w : Int} {y : Option Ow} (r : List Nat) (e : En) (x : Option Ow) (h : DI N w y r e) : DI N w y r (e.set 3 x) := by
  obtain ⟨s, x', a, b, rfl⟩ := h
  exact ⟨s, x, a, b, rfl⟩
theorem DI_len {N : Nat} {w : Int} {y : Option Ow} (r : List Nat) (e : En) (h : DI N w y r e) : 3 < e.length := by
  obtain ⟨s, x', a, b, rfl⟩ := h
  show 3 < 5; decide
theorem DI_0 {N : Nat} {w : Int} {y x : Option Ow} {s : Ow} (hs : Src s) : DI N w y (List.range N) [some s, some (im (.int (N : Int))), some (im (.int w)), x, y] :=
  ⟨s, x, hs, fun z hz => List.mem_range.mp hz, rfl⟩
theorem deed_test {N : Nat} {s : Ow} {x y : Option Ow} {w c : Int} : evt C (.tr (.e (.pr .eq (.cons (.v 2) (.cons (.e (.cst (.int c))) .nil))))) [some s, some (im (.int (N : Int))), some (im (.int w)), x, y] = .ok (decide (w = c)) [some s, some (im (.int (N : Int))), some (im (.int w)), x, y] :=
  evt_tr (ev_prVE gE2 ev_cst gE2 (by simp only [Ow1.dt, Pr.sem, eqv_int, i1]))
/-- what one way gives -/
def Made (C : Cl) (N : Nat) (body : Sms) (E : En) : Prop := ∃ d e' s', exs C WF body E = .ok (.rt (im (nT d))) e' ∧ outsOf e' [.mu, .sh, .sh] 0 = [some s', none, none] ∧ Src s' ∧ DeedOk N d
theorem rng_v1 {N : Nat} (hN : N ≤ 16) {s : Ow} {l : En} : evi C (.rng1 (.var 1)) (some s :: some (im (.int (N : Int))) :: l) = .ok (nL (List.range N)) (some s :: some (im (.int (N : Int))) :: l) :=
  evi_range (by simp only [ev, gE1]) (by omega)
theorem made_lc {N : Nat} {w : Int} {y : Option Ow} {el : Ex} {E : En} (hE : DI N w y (List.range N) E) (hN : N ≤ 16)
    (hg : ∀ x r e, DI N w y (x :: r) e → e[3]? = some (some (im (.int ((x : Nat) : Int)))) → ∃ d e', ev C el e = .ok (im d) e' ∧ DI N w y r e' ∧ ∃ j : Nat, j < N ∧ d = .int (j : Int)) :
    ∃ l s' x, ev C (.lc el (.nm 3) (.rng1 (.var 1)) .nil [3]) E = .ok (.p (.lst (nL l))) [some s', some (im (.int (N : Int))), some (im (.int w)), x, y] ∧ Src s' ∧ DeedOk N l := by
  obtain ⟨s, x, a, b, rfl⟩ := hE
  obtain ⟨ys, e', q1, ⟨s', x', hs', _, rfl⟩, q3, q5⟩ := lc_I0 (C := C) (el := el) (k := 3) (it := .rng1 (.var 1)) (I := DI N w y) (P := fun d => ∃ j : Nat, j < N ∧ d = .int (j : Int)) (rng_v1 hN) rfl rfl (by rw [List.length_range, szl]; omega) (DI_0 a) DI_set DI_len hg
  obtain ⟨l, rfl, r2, r3⟩ := to_nL q3
  exact ⟨l, s', x', q1, hs', ⟨by rw [r3, q5, List.length_range], r2⟩⟩
end
theorem deed_c {C : Cl} (P : PickOk C) (O : OfOk C) (M : MixOk C) {N : Nat} {w : Int} {s : Ow} (hs : Src s) (hN : N ≤ 16) (h1 : 1 ≤ N) : ∃ d s', runFn C WF f_law_deed [s, .p (.imm (.int (N : Int))), .p (.imm (.int w))] = .ret (im (nT d)) [some s', none, none] ∧ Src s' ∧ DeedOk N d := by
  have main : Made C N b_law_deed [some s, some (im (.int (N : Int))), some (im (.int w)), none, none] := by
    have hD : DI N w none (List.range N) [some s, some (im (.int (N : Int))), some (im (.int w)), none, none] := DI_0 hs
    have drawn : ∀ (e : En) (s : Ow) (x y : Option Ow), Src s → e = [some s, some (im (.int (N : Int))), some (im (.int w)), x, y] → ∃ (k : Nat) (s' : Ow), ev C (.call 8 (.cons (.v 0) (.cons (.v 1) .nil))) e = .ok (im (.int (k : Int))) [some s', some (im (.int (N : Int))), some (im (.int w)), x, y] ∧ Src s' ∧ k < N := by
      intro e s x y hs he
      subst he
      obtain ⟨k, s', a, b, c⟩ := ev_pickV P (i := 0) (s := s) (tl := [some (im (.int (N : Int))), some (im (.int w)), x, y]) (many := N) hs rfl (by omega)
      exact ⟨k, s', a, b, by omega⟩
    by_cases w1 : w = 1
    · have t : evt C (.tr (.e (.pr .eq (.cons (.v 2) (.cons (.e (.cst (.int 1))) .nil))))) [some s, some (im (.int (N : Int))), some (im (.int w)), none, none] = .ok true [some s, some (im (.int (N : Int))), some (im (.int w)), none, none] := by
        rw [deed_test, decide_eq_true w1]
      obtain ⟨l, s', x, q1, q2, q3⟩ := made_lc (C := C) (el := .call 8 (.cons (.v 0) (.cons (.e (.pr .add (.cons (.v 3) (.cons (.e (.cst (.int 1))) .nil)))) .nil))) hD hN (fun x r e ⟨s, y, a, b, c⟩ hx => by
        subst c
        have hy : y = some (im (.int (x : Int))) := by simpa using hx
        subst hy
        have hxN := b x List.mem_cons_self
        obtain ⟨k, s', h1, h2, h3⟩ := ev_pick P (x := .pr .add (.cons (.v 3) (.cons (.e (.cst (.int 1))) .nil))) (s := s) (s1 := s) (tl := [some (im (.int (N : Int))), some (im (.int w)), some (im (.int (x : Int))), none]) (tl1 := [some (im (.int (N : Int))), some (im (.int w)), some (im (.int (x : Int))), none]) (many := x + 1) a
          (ev_prVE gE3 ev_cst gE3 (by simp only [Ow1.dt, Pr.sem, i1]; rfl)) (by omega)
        exact ⟨_, _, h1, ⟨s', _, h2, fun z hz => b z (List.mem_cons_of_mem _ hz), rfl⟩, ⟨k, by omega, rfl⟩⟩)
      exact ⟨l, _, s', exs_last ((ex_iteT t).trans (exs_last (ex_ret (ev_pr1 q1 (sem_tuple l))))), rfl, q2, q3⟩
    have T1 : ∀ b, evt C (.tr (.e (.pr .eq (.cons (.v 2) (.cons (.e (.cst (.int b))) .nil))))) [some s, some (im (.int (N : Int))), some (im (.int w)), none, none] = .ok (decide (w = b)) [some s, some (im (.int (N : Int))), some (im (.int w)), none, none] := fun b => deed_test
    have nx : ∀ {b : Int} {X Y : Sms}, ¬ w = b → Made C N Y [some s, some (im (.int (N : Int))), some (im (.int w)), none, none] → Made C N (.cons (.ite (.tr (.e (.pr .eq (.cons (.v 2) (.cons (.e (.cst (.int b))) .nil))))) X .nil) Y) [some s, some (im (.int (N : Int))), some (im (.int w)), none, none] := by
      intro b X Y hb ⟨d, e', s', h, r⟩
      exact ⟨d, e', s', exs_next ((ex_iteF (by rw [T1, decide_eq_false hb])).trans exs_nil) h, r⟩
    have yes : ∀ {b : Int} {X Y : Sms}, w = b → Made C N X [some s, some (im (.int (N : Int))), some (im (.int w)), none, none] → Made C N (.cons (.ite (.tr (.e (.pr .eq (.cons (.v 2) (.cons (.e (.cst (.int b))) .nil))))) X .nil) Y) [some s, some (im (.int (N : Int))), some (im (.int w)), none, none] := by
      intro b X Y hb ⟨d, e', s', h, r⟩
      exact ⟨d, e', s', exs_last ((ex_iteT (by rw [T1, decide_eq_true hb])).trans h), r⟩
    refine nx w1 ?_
    by_cases w2 : w = 2
    · refine yes w2 ?_
      obtain ⟨l, s', x, q1, q2, q3⟩ := made_lc (C := C) (el := .pr .int (.cons (.e (.call 8 (.cons (.v 0) (.cons (.v 1) .nil)))) .nil)) hD hN (fun x r e ⟨s, y, a, b, c⟩ hx => by
        obtain ⟨k, s', h1, h2, h3⟩ := drawn e s y none a c
        exact ⟨_, _, ev_pr1 h1 rfl, ⟨s', _, h2, fun z hz => b z (List.mem_cons_of_mem _ hz), rfl⟩, ⟨k, h3, rfl⟩⟩)
      obtain ⟨r, r1, r2, r3⟩ := sem_sorted q3.b
      exact ⟨r, _, s', exs_last (ex_ret (ev_pr1 (ev_pr1 q1 r1) (sem_tuple r))), rfl, q2, ⟨by rw [r2, q3.l], r3⟩⟩
    refine nx w2 ?_
    by_cases w3 : w = 3
    · refine yes w3 ?_
      obtain ⟨ys, e1, q1, ⟨s1, x1, hs1, _, rfl⟩, q3, q4, _⟩ := lc_I (C := C) (el := .var 3) (k := 3) (it := .rng1 (.var 1)) (ifs := .one (.tr (.e (.pr .eq (.cons (.e (.call 8 (.cons (.v 0) (.cons (.e (.cst (.int 2))) .nil)))) (.cons (.e (.cst (.int 0))) .nil)))))) (I := DI N w none) (P := fun d => ∃ j : Nat, j < N ∧ d = .int (j : Int)) (rng_v1 hN) rfl rfl (by rw [List.length_range, szl]; omega) hD DI_set DI_len
        (fun x r e ⟨s, y, a, b, c⟩ hx => by
          subst c
          have hy : y = some (im (.int (x : Int))) := by simpa using hx
          subst hy
          obtain ⟨k, s', h1, h2, h3⟩ := ev_pick P (x := .cst (.int 2)) (s := s) (s1 := s) (tl := [some (im (.int (N : Int))), some (im (.int w)), some (im (.int (x : Int))), none]) (tl1 := [some (im (.int (N : Int))), some (im (.int w)), some (im (.int (x : Int))), none]) (many := 2) a ev_cst (by decide)
          refine ⟨decide ((k : Int) = 0), _, evf_tr (ev_pr2 h1 ev_cst (by simp only [Ow1.dt, Pr.sem, eqv_int, i1])), fun _ => ⟨⟨s', _, h2, b, rfl⟩, rfl⟩, fun _ => ⟨(fun z => nomatch z), s', _, h2, fun z hz => b z (List.mem_cons_of_mem _ hz), rfl⟩⟩)
        (fun x r e ⟨s, y, a, b, c⟩ hx => by
          subst c
          have hy : y = some (im (.int (x : Int))) := by simpa using hx
          subst hy
          exact ⟨.int (x : Int), _, by simp only [ev, gE3]; rfl, ⟨s, _, a, fun z hz => b z (List.mem_cons_of_mem _ hz), rfl⟩, ⟨x, b x List.mem_cons_self, rfl⟩⟩)
      obtain ⟨l, rfl, r2, r3⟩ := to_nL q3
      rw [List.length_range] at q4
      obtain ⟨k, s2, h1, h2, h3⟩ := drawn _ s1 x1 none hs1 rfl
      have hkl : ∀ x ∈ l ++ [k], x < N := fun x hx => by
        rcases List.mem_append.mp hx with z | z
        · exact r2 x z
        · rw [List.mem_singleton.mp z]; exact h3
      have hkz : (l ++ [k]).length ≤ 100 := by simp only [List.length_append, List.length_cons, List.length_nil]; omega
      have c1 : ev C (.lst (.cons (.call 8 (.cons (.v 0) (.cons (.v 1) .nil))) .nil)) [some s1, some (im (.int (N : Int))), some (im (.int w)), x1, none] = .ok (.p (.lst (nL [k]))) [some s2, some (im (.int (N : Int))), some (im (.int w)), x1, none] := by
        rw [ev, evs, h1]
        simp only [Ow.dt?, Ow1.dt, evs]
        rfl
      have c2 : Pr.sem .add [.lst (nL l), .lst (nL [k])] = some (.lst (nL (l ++ [k]))) := by
        simp only [Pr.sem]
        rw [if_pos (by rw [nL_len, nL_len, szl]; simp; omega)]
        simp [nL]
      have s3 : ex C WF (.asg 4 (.pr .add (.cons (.e (.lc (.var 3) (.nm 3) (.rng1 (.var 1)) (.one (.tr (.e (.pr .eq (.cons (.e (.call 8 (.cons (.v 0) (.cons (.e (.cst (.int 2))) .nil)))) (.cons (.e (.cst (.int 0))) .nil)))))) [3])) (.cons (.e (.lst (.cons (.call 8 (.cons (.v 0) (.cons (.v 1) .nil))) .nil))) .nil)))) [some s, some (im (.int (N : Int))), some (im (.int w)), none, none] = .ok .nx [some s2, some (im (.int (N : Int))), some (im (.int w)), x1, some (.p (.lst (nL (l ++ [k]))))] := by
        rw [ex_asg (ev_pr2 q1 c1 c2)]
        rfl
      obtain ⟨ys, e2, p1, ⟨s4, x4, o4, hs4, _, _, rfl⟩, p3, p5⟩ := lc_I0 (C := C) (el := .cond (.tr (.e (.pr .isIn (.cons (.v 3) (.cons (.v 4) .nil))))) (.var 3) (.call 9 (.cons (.v 0) (.cons (.v 4) .nil)))) (k := 3) (it := .rng1 (.var 1))
        (I := fun r e => ∃ (s : Ow) (x : Option Ow) (o : Ow1), Src s ∧ (∀ z ∈ r, z < N) ∧ o.dt = .lst (nL (l ++ [k])) ∧ e = [some s, some (im (.int (N : Int))), some (im (.int w)), x, some (.p o)]) (P := fun d => ∃ j : Nat, j < N ∧ d = .int (j : Int))
        (env := [some s2, some (im (.int (N : Int))), some (im (.int w)), x1, some (.p (.lst (nL (l ++ [k]))))]) (rng_v1 hN) rfl rfl (by rw [List.length_range, szl]; omega) ⟨s2, x1, .lst (nL (l ++ [k])), h2, (fun z hz => List.mem_range.mp hz), rfl, rfl⟩
        (fun r e x ⟨s, y, o, a, b, c, d⟩ => ⟨s, x, o, a, b, c, by rw [d]; rfl⟩) (fun r e ⟨s, y, o, a, b, c, d⟩ => by rw [d]; show 3 < 5; decide)
        (fun x r e ⟨s, y, o, a, b, c, d⟩ hx => by
          subst d
          have hy : y = some (im (.int (x : Int))) := by simpa using hx
          subst hy
          have hb' : ∀ z ∈ r, z < N := fun z hz => b z (List.mem_cons_of_mem _ hz)
          obtain ⟨bb, hbb⟩ := sem_inL (p := x) (l := l ++ [k]) (big' hN hkl)
          have t : evt C (.tr (.e (.pr .isIn (.cons (.v 3) (.cons (.v 4) .nil))))) [some s, some (im (.int (N : Int))), some (im (.int w)), some (im (.int (x : Int))), some (.p o)] = .ok bb [some s, some (im (.int (N : Int))), some (im (.int w)), some (im (.int (x : Int))), some (.p o)] :=
            evt_tr (ev_prVV gE3 gE4 (by rw [c]; exact hbb))
          cases bb with
          | true =>
            refine ⟨.int (x : Int), [some s, some (im (.int (N : Int))), some (im (.int w)), some (im (.int (x : Int))), some (.p o)], ?_, ⟨s, some (im (.int (x : Int))), o, a, hb', c, rfl⟩, ⟨x, b x List.mem_cons_self, rfl⟩⟩
            rw [ev, t]
            simp only [ev, gE3]
          | false =>
            obtain ⟨j, s', f1, f2, f3⟩ := O.fn s (l ++ [k]) a (by simp) (by omega)
            refine ⟨.int (j : Int), [some s', some (im (.int (N : Int))), some (im (.int w)), some (im (.int (x : Int))), some (.p (.imm o.dt))], ?_, ⟨s', some (im (.int (x : Int))), .imm o.dt, f2, hb', c, rfl⟩, ⟨j, hkl j f3, rfl⟩⟩
            rw [ev, t]
            dsimp only
            exact ev_muV (i := 3) (o := o) O.md a rfl (by rw [c]; exact f1))
      obtain ⟨l2, rfl, r4, r5⟩ := to_nL p3
      exact ⟨l2, _, s4, exs_next s3 (exs_last (ex_ret (ev_pr1 p1 (sem_tuple l2)))), rfl, hs4, ⟨by rw [r5, p5, List.length_range], r4⟩⟩
    refine nx w3 ?_
    by_cases w4 : w = 4
    · refine yes w4 ?_
      obtain ⟨r, s', r1, r2, r3, r4⟩ := M.fn s (List.range N) N hs (fun x hx => List.mem_range.mp hx) (by rw [List.length_range]; omega)
      have c1 : ev C (.call 10 (.cons (.v 0) (.cons (.e (.pr .lrng (.cons (.v 1) .nil))) .nil))) [some s, some (im (.int (N : Int))), some (im (.int w)), none, none] = .ok (.p (.lst (nL r))) [some s', some (im (.int (N : Int))), some (im (.int w)), none, none] :=
        ev_muE M.md hs (ev_prV gE1 (sem_lrng hN)) r1
      exact ⟨r, _, s', exs_last (ex_ret (ev_pr1 c1 (sem_tuple r))), rfl, r2, ⟨by rw [r3, List.length_range], r4⟩⟩
    refine nx w4 ?_
    by_cases w5 : w = 5
    · refine yes w5 ?_
      obtain ⟨k, s', h1, h2, h3⟩ := drawn _ s none none hs rfl
      have c1 : ev C (.tup (.cons (.call 8 (.cons (.v 0) (.cons (.v 1) .nil))) .nil)) [some s, some (im (.int (N : Int))), some (im (.int w)), none, none] = .ok (im (nT [k])) [some s', some (im (.int (N : Int))), some (im (.int w)), none, none] := by
        rw [ev, evs, h1]
        simp only [Ow.dt?, Ow1.dt, evs]
        rfl
      exact ⟨List.replicate N k, _, s', exs_last (ex_ret (ev_prEV c1 gE1 (sem_mulT hN))), rfl, h2, ⟨List.length_replicate, fun x hx => by rw [List.eq_of_mem_replicate hx]; exact h3⟩⟩
    refine nx w5 ?_
    obtain ⟨l, s', x, q1, q2, q3⟩ := made_lc (C := C) (el := .call 8 (.cons (.v 0) (.cons (.v 1) .nil))) hD hN (fun x r e ⟨s, y, a, b, c⟩ hx => by
      obtain ⟨k, s', h1, h2, h3⟩ := drawn e s y none a c
      exact ⟨_, _, h1, ⟨s', _, h2, fun z hz => b z (List.mem_cons_of_mem _ hz), rfl⟩, ⟨k, h3, rfl⟩⟩)
    exact ⟨l, _, s', exs_last (ex_ret (ev_pr1 q1 (sem_tuple l))), rfl, q2, q3⟩
  obtain ⟨d, e', s', a, b, c, f⟩ := main
  exact ⟨d, s', runFn_of rfl rfl a b, c, f⟩
end Pd
set_option Elab.async false
set_option linter.all false
set_option maxRecDepth 100000
set_option maxHeartbeats 1000000
namespace Pd
open PySem
/-! 12: _law_led -/
def ledN (ds : List (List Nat)) (w : List Nat) (p : Nat) : Nat := w.foldl (fun p l => (ds.getD l []).getD p 0) p
theorem led_lt {N : Nat} {ds : List (List Nat)} (ok : BookOk N ds) : ∀ (w : List Nat) (p : Nat), (∀ l ∈ w, l < ds.length) → p < N → ledN ds w p < N
  | [], p, _, h => h
  | l :: w, p, hw, h => by
    have hd := ok.d _ (ds_mem (hw l List.mem_cons_self))
    exact led_lt ok w _ (fun k hk => hw k (List.mem_cons_of_mem _ hk)) (hd.b _ (getD_mem (by rw [hd.l]; exact h)))
theorem foldl_led (ds : List (List Nat)) : ∀ (w f : List Nat), w.foldl (fun f l => prod f (ds.getD l [])) f = f.map (ledN ds w)
  | [], f => by show f = f.map id; simp
  | l :: w, f => by
    rw [List.foldl_cons, foldl_led ds w]
    unfold prod
    rw [List.map_map]
    rfl
theorem done_led (N : Nat) (ds : List (List Nat)) (w : List Nat) : doneN N ds w = (List.range N).map (ledN ds w) := foldl_led ds w _
theorem led_app (ds : List (List Nat)) (u v : List Nat) (p : Nat) : ledN ds (u ++ v) p = ledN ds v (ledN ds u p) := by
  unfold ledN
  rw [List.foldl_append]
theorem done_app {N : Nat} {ds : List (List Nat)} (ok : BookOk N ds) {u v : List Nat} (hu : ∀ l ∈ u, l < ds.length) : prod (doneN N ds u) (doneN N ds v) = doneN N ds (u ++ v) := by
  rw [done_led, done_led, done_led]
  unfold prod
  rw [List.map_map]
  refine List.map_congr_left fun p hp => ?_
  have h := led_lt ok u p hu (List.mem_range.mp hp)
  simp only [Function.comp]
  rw [List.getD_eq_getElem?_getD, List.getElem?_map, List.getElem?_range h, led_app]
  rfl
abbrev ledB : Sms := (.cons (.asg 2 (.pr .ix (.cons (.e (.pr .ix (.cons (.e (.pr .ix (.cons (.v 0) (.cons (.e (.cst (.int 1))) .nil)))) (.cons (.v 3) .nil)))) (.cons (.v 2) .nil)))) .nil)
theorem led_loop {C : Cl} {N : Nat} {ds : List (List Nat)} {wd : Dt} (ok : BookOk N ds) : ∀ (w : List Nat) (p : Nat) (x : Option Ow), p < N → (∀ l ∈ w, l < ds.length) → ∃ x',
    forGo (stepFor C WF (.nm 3) ledB) (nL w)
      [some (im (bookD N ds)), some (im wd), some (im (.int (p : Int))), x] = .ok .nx [some (im (bookD N ds)), some (im wd), some (im (.int ((ledN ds w p : Nat) : Int))), x']
  | [], p, x, _, _ => ⟨x, rfl⟩
  | l :: w, p, x, hp, hw => by
    have hl := hw l List.mem_cons_self
    have hd := ok.d _ (ds_mem hl)
    have hp' : p < (ds.getD l []).length := by rw [hd.l]; exact hp
    obtain ⟨x', h'⟩ := led_loop (C := C) (wd := wd) ok w ((ds.getD l []).getD p 0) (some (im (.int (l : Int)))) (hd.b _ (getD_mem hp')) fun k hk => hw k (List.mem_cons_of_mem _ hk)
    refine ⟨x', ?_⟩
    show forGo _ (Dt.int (l : Int) :: nL w) _ = _
    unfold forGo
    have s1 : stepFor C WF (.nm 3) ledB (Dt.int (l : Int)) [some (im (bookD N ds)), some (im wd), some (im (.int (p : Int))), x] = .ok .nx [some (im (bookD N ds)), some (im wd), some (im (.int (((ds.getD l []).getD p 0 : Nat) : Int))), some (im (.int (l : Int)))] := by
      simp only [stepFor, tgSet, exs, ex, ev, evo, evp, gE0, gE2, gE3, vws, Tm.vw, Ow.vw, Ow1.dt, i1, sem_bk1, sem_dix hl, sem_ix hp', List.set_cons_zero, List.set_cons_succ]
    rw [s1]
    exact h'
theorem led_run {C : Cl} {N : Nat} {ds : List (List Nat)} {w : List Nat} {p : Nat} (ok : BookOk N ds) (hw : ∀ l ∈ w, l < ds.length) (hp : p < N) : runFn C WF f_law_led [.p (.imm (bookD N ds)), .p (.imm (nT w)), .p (.imm (.int (p : Int)))] = .ret (im (.int ((ledN ds w p : Nat) : Int))) [none, none, none] := by
  obtain ⟨x', hl⟩ := led_loop (C := C) (wd := nT w) ok w p none hp hw
  have s2 : ex C WF (.fors (.nm 3) (.op (.v 1)) ledB) [some (im (bookD N ds)), some (im (nT w)), some (im (.int (p : Int))), none] = .ok .nx [some (im (bookD N ds)), some (im (nT w)), some (im (.int ((ledN ds w p : Nat) : Int))), x'] := by
    rw [ex_for (ds := nL w) (e1 := [some (im (bookD N ds)), some (im (nT w)), some (im (.int (p : Int))), none]) (by simp only [evi, evp, gE1, Tm.vw, Ow.vw, Ow1.dt, seqD_nT]) rfl, hl]
    rfl
  have s3 : ex C WF (.retV 2) [some (im (bookD N ds)), some (im (nT w)), some (im (.int ((ledN ds w p : Nat) : Int))), x'] = .ok (.rt (im (.int ((ledN ds w p : Nat) : Int)))) [some (im (bookD N ds)), some (im (nT w)), none, x'] := by
    rw [ex, gE2]
    rfl
  exact runFn_of rfl rfl (exs_next s2 (exs_last s3)) rfl
/-! 15: _law_beside -/
structure DeedFn (C : Cl) : Prop where
  md : C.md 11 = [.mu, .sh, .sh]
  fn : ∀ (s : Ow) (N : Nat) (w : Int), Src s → N ≤ 16 → 1 ≤ N → ∃ (d : List Nat) (s' : Ow), C.fn 11 [s, .p (.imm (.int (N : Int))), .p (.imm (.int w))] = .ret (im (nT d)) [some s', none, none] ∧ Src s' ∧ DeedOk N d
theorem deed_CC (n : Nat) : DeedFn (CC (n + 3)) := by
  refine ⟨md11, fun s N w hs hN h1 => ?_⟩
  rw [R_at (n := n + 2) (g := f_law_deed) rfl]
  exact deed_c (pick_CC (n + 1)) (of_CC n) (mixed_CC n) hs hN h1
theorem sem_addT {a b : List Nat} (h : a.length + b.length ≤ 100) : Pr.sem .add [nT a, nT b] = some (.imm (nT (a ++ b))) := by
  unfold nT
  simp only [Pr.sem]
  rw [if_pos (by rw [nL_len, nL_len, szl]; omega)]
  simp [nL, i1]
section
variable {C : Cl}
/-- a call of _law_deed -/
theorem ev_deed (P : PickOk C) (D : DeedFn C) {i N : Nat} {s : Ow} {tl : En} (hs : Src s) (hN : N ≤ 16) (h1 : 1 ≤ N) (hx : tl[i]? = some (some (im (.int (N : Int))))) :
    ∃ (d : List Nat) (s' : Ow), ev C (.call 11 (.cons (.v 0) (.cons (.v (i + 1)) (.cons (.e (.call 8 (.cons (.v 0) (.cons (.e (.cst (.int 6))) .nil)))) .nil)))) (some s :: tl) = .ok (im (nT d)) (some s' :: tl) ∧ Src s' ∧ DeedOk N d := by
  obtain ⟨k, s1, a, b, c⟩ := ev_pick P (x := .cst (.int 6)) (s := s) (s1 := s) (tl := tl) (tl1 := tl) (many := 6) hs ev_cst (by decide)
  obtain ⟨d, s', q1, q2, q3⟩ := D.fn s1 N (k : Int) b hN h1
  refine ⟨d, s', ?_, q2, q3⟩
  obtain ⟨_, _, _, _, _, rfl⟩ := b
  have hg : getE tl i = some (im (.int (N : Int))) := by unfold getE; rw [hx]
  rw [ev, evo, evp, gE0]
  dsimp only
  rw [evo, evp, getE_cons, hg]
  dsimp only
  rw [evo, evp, a]
  simp only [evo, D.md, args, gE0, getE_cons, hg, List.set_cons_zero, List.set_cons_succ, set_same hx, Ow1.dt, q1, backs]
theorem beside_c (P : PickOk C) (D : DeedFn C) {n m : Nat} {s : Ow} (hs : Src s) (h1 : 1 ≤ n) (hn : n ≤ 8) (hm : m ≤ 8) : ∃ d s', runFn C WF f_law_beside [s, .p (.imm (.int (n : Int))), .p (.imm (.int (m : Int)))] = .ret (im (nT d)) [some s', none, none] ∧ Src s' ∧ DeedOk (n + m) d := by
  obtain ⟨d1, s1, a1, a2, a3⟩ := ev_deed P D (i := 0) (N := n) (tl := [some (im (.int (n : Int))), some (im (.int (m : Int))), none, none, none]) hs (by omega) h1 rfl
  have st1 : ex C WF (.asgT [3, 4] (.cons (.call 11 (.cons (.v 0) (.cons (.v 1) (.cons (.e (.call 8 (.cons (.v 0) (.cons (.e (.cst (.int 6))) .nil)))) .nil)))) (.cons (.tup .nil) .nil))) [some s, some (im (.int (n : Int))), some (im (.int (m : Int))), none, none, none] = .ok .nx [some s1, some (im (.int (n : Int))), some (im (.int (m : Int))), some (im (nT d1)), some (im (nT [])), none] := by
    rw [ex, evw, a1]
    dsimp only
    rw [evw, ev, evs]
    rfl
  have key : ∃ d2 s2 x, (∀ Y, exs C WF (.cons (.ite (.tr (.e (.pr .gt (.cons (.v 2) (.cons (.e (.cst (.int 0))) .nil))))) (.cons (.asg 4 (.pr .tuple (.cons (.e (.lc (.pr .add (.cons (.v 1) (.cons (.v 5) .nil))) (.nm 5) (.op (.e (.call 11 (.cons (.v 0) (.cons (.v 2) (.cons (.e (.call 8 (.cons (.v 0) (.cons (.e (.cst (.int 6))) .nil)))) .nil)))))) .nil [5])) .nil))) .nil) .nil) Y) [some s1, some (im (.int (n : Int))), some (im (.int (m : Int))), some (im (nT d1)), some (im (nT [])), none]
      = exs C WF Y [some s2, some (im (.int (n : Int))), some (im (.int (m : Int))), some (im (nT d1)), some (im (nT d2)), x]) ∧ Src s2 ∧ d2.length = m ∧ ∀ z ∈ d2, z < n + m := by
    have t : evt C (.tr (.e (.pr .gt (.cons (.v 2) (.cons (.e (.cst (.int 0))) .nil))))) [some s1, some (im (.int (n : Int))), some (im (.int (m : Int))), some (im (nT d1)), some (im (nT [])), none] = .ok (decide ((0 : Int) < (m : Int))) [some s1, some (im (.int (n : Int))), some (im (.int (m : Int))), some (im (nT d1)), some (im (nT [])), none] :=
      evt_tr (ev_prVE gE2 ev_cst gE2 rfl)
    by_cases h0 : 0 < m
    · rw [decide_eq_true (show (0 : Int) < (m : Int) by omega)] at t
      obtain ⟨d, s2, b1, b2, b3⟩ := ev_deed P D (i := 1) (N := m) (tl := [some (im (.int (n : Int))), some (im (.int (m : Int))), some (im (nT d1)), some (im (nT [])), none]) a2 (by omega) h0 rfl
      obtain ⟨ys, e', q1, ⟨x, _, rfl⟩, q3, q5⟩ := lc_I0 (C := C) (el := .pr .add (.cons (.v 1) (.cons (.v 5) .nil))) (k := 5) (it := .op (.e (.call 11 (.cons (.v 0) (.cons (.v 2) (.cons (.e (.call 8 (.cons (.v 0) (.cons (.e (.cst (.int 6))) .nil)))) .nil))))))
        (I := fun r e => ∃ (x : Option Ow), (∀ z ∈ r, z < m) ∧ e = [some s2, some (im (.int (n : Int))), some (im (.int (m : Int))), some (im (nT d1)), some (im (nT [])), x]) (P := fun y => ∃ j : Nat, j < n + m ∧ y = .int (j : Int))
        (xs := d) (e1 := [some s2, some (im (.int (n : Int))), some (im (.int (m : Int))), some (im (nT d1)), some (im (nT [])), none])
        (by rw [evi, evp, b1]; rfl) rfl rfl (by rw [b3.l, szl]; omega) ⟨none, b3.b, rfl⟩ (fun r e x ⟨y, a, b⟩ => ⟨x, a, by rw [b]; rfl⟩) (fun r e ⟨y, a, b⟩ => by rw [b]; show 5 < 6; decide)
        (fun x r e ⟨y, a, b⟩ hx => by
          subst b
          have hy : y = some (im (.int (x : Int))) := by simpa using hx
          subst hy
          exact ⟨.int ((n + x : Nat) : Int), _, ev_prVV gE1 gE5 rfl, ⟨_, fun z hz => a z (List.mem_cons_of_mem _ hz), rfl⟩, ⟨n + x, by have := a x List.mem_cons_self; omega, rfl⟩⟩)
      obtain ⟨l, rfl, r2, r3⟩ := to_nL q3
      refine ⟨l, s2, x, fun Y => exs_next ((ex_iteT t).trans (exs_next (ex_asg (ev_pr1 q1 (sem_tuple l))) exs_nil)) rfl, b2, by rw [r3, q5, b3.l], r2⟩
    · rw [decide_eq_false (show ¬ (0 : Int) < (m : Int) by omega)] at t
      exact ⟨[], s1, none, fun Y => exs_next ((ex_iteF t).trans exs_nil) rfl, a2, by simp; omega, fun z h => nomatch h⟩
  obtain ⟨d2, s2, x, k1, k2, k3, k4⟩ := key
  refine ⟨d1 ++ d2, s2, runFn_of rfl rfl (exs_next st1 ((k1 _).trans (exs_last (ex_ret (ev_prVV gE3 gE4 (sem_addT (by rw [a3.l, k3]; omega))))))) rfl, k2, ⟨by rw [List.length_append, a3.l, k3], fun z hz => ?_⟩⟩
  rcases List.mem_append.mp hz with h | h
  · have := a3.b z h; omega
  · exact k4 z h
end
end Pd
set_option Elab.async false
set_option linter.all false
set_option maxRecDepth 100000
set_option maxHeartbeats 1000000
namespace Pd
open PySem
/-! 14: _law_words_right -/
theorem nodup_le : ∀ {l m : List Nat}, l.Nodup → (∀ x ∈ l, x ∈ m) → l.length ≤ m.length
  | [], m, _, _ => Nat.zero_le _
  | x :: l, m, hn, h => by
    have hx := h x List.mem_cons_self
    have hn' := List.nodup_cons.mp hn
    have : l.length ≤ (m.erase x).length := nodup_le hn'.2 fun y hy => by
      have hne : y ≠ x := fun e => hn'.1 (by rw [← e]; exact hy)
      exact (List.mem_erase_of_ne hne).mpr (h y (List.mem_cons_of_mem _ hy))
    rw [List.length_erase_of_mem hx] at this
    have := List.length_pos_of_mem hx
    simp only [List.length_cons]
    omega
theorem reach_mem {N : Nat} {d : List Nat} (h : DeedOk N d) {x : Nat} : x ∈ reachN d ↔ x ∈ d := by
  unfold reachN
  rw [List.mem_filter, decide_eq_true_eq, List.mem_range, h.l]
  exact ⟨fun z => z.2, fun z => ⟨h.b x z, z⟩⟩
theorem reach_nodup (d : List Nat) : (reachN d).Nodup := List.Pairwise.filter _ List.nodup_range
theorem rank_r {N : Nat} {a b : List Nat} (ha : DeedOk N a) (hb : DeedOk N b) : (reachN (prod a b)).length ≤ (reachN b).length := by
  refine nodup_le (reach_nodup _) fun x hx => ?_
  rw [reach_mem (prod_ok ha hb)] at hx
  rw [reach_mem hb]
  obtain ⟨y, hy, rfl⟩ := List.mem_map.mp hx
  exact getD_mem (by rw [hb.l]; exact ha.b y hy)
theorem rank_l {N : Nat} {a b : List Nat} (ha : DeedOk N a) (hb : DeedOk N b) : (reachN (prod a b)).length ≤ (reachN a).length := by
  have : (reachN (prod a b)).length ≤ ((reachN a).map fun y => b.getD y 0).length := nodup_le (reach_nodup _) fun x hx => by
    rw [reach_mem (prod_ok ha hb)] at hx
    obtain ⟨y, hy, rfl⟩ := List.mem_map.mp hx
    exact List.mem_map.mpr ⟨y, (reach_mem ha).mpr hy, rfl⟩
  rwa [List.length_map] at this
theorem plL_map {N : Nat} (hN : N ≤ 16) : ∀ {ds : List (List Nat)}, (∀ d ∈ ds, DeedOk N d) → plL (ds.map nT) = true
  | [], _ => rfl
  | d :: ds, h => by
    show (pl (nT d) && plL (ds.map nT)) = true
    rw [plT (big (h d List.mem_cons_self) hN), plL_map hN fun x hx => h x (List.mem_cons_of_mem _ hx)]
    rfl
theorem dpL_map : ∀ (ds : List (List Nat)), dpL (ds.map nT) ≤ 1
  | [] => by show 0 ≤ 1; omega
  | d :: ds => by
    show max (dpD (nT d)) (dpL (ds.map nT)) ≤ 1
    have := dpL_map ds
    rw [dpT]; omega
theorem wtL_map {N : Nat} (hN : N ≤ 16) : ∀ {ds : List (List Nat)}, (∀ d ∈ ds, DeedOk N d) → wtL (ds.map nT) ≤ 700 * ds.length
  | [], _ => Nat.le_refl _
  | d :: ds, h => by
    show wt (nT d) + 1 + wtL (ds.map nT) ≤ _
    have h1 := wtL_map hN fun x hx => h x (List.mem_cons_of_mem d hx)
    have h2 := (h d List.mem_cons_self).l
    rw [wtT, List.length_cons]; omega
theorem fit_book {N : Nat} {ds : List (List Nat)} {w : List Nat} (ok : BookOk N ds) (hw : ∀ l ∈ w, l < ds.length) (hz : w.length ≤ 2001) : Fit (.lst [bookD N ds, nT w]) := by
  have hn := ok.n
  have hg := ok.g
  have pw : pl (nT w) = true := plT fun x hx => by have := hw x hx; omega
  refine ⟨?_, ?_, ?_⟩
  · show ((decide ((N : Int).natAbs < 10 ^ 12) && (plL (ds.map nT) && true)) && (pl (nT w) && true)) = true
    rw [pw, plL_map hn ok.d, decide_eq_true (show (N : Int).natAbs < 10 ^ 12 by omega)]; rfl
  · show max (max 0 (max (dpL (ds.map nT) + 1) 0) + 1) (max (dpD (nT w)) 0) + 1 ≤ 60
    have := dpL_map ds
    rw [dpT]; omega
  · show (41 + 1 + (wtL (ds.map nT) + 1 + 0)) + 1 + (wt (nT w) + 1 + 0) ≤ _
    have := wtL_map hn ok.d
    rw [wtT]; omega
theorem fit_two {N : Nat} {a b : List Nat} (hN : N ≤ 16) (ha : DeedOk N a) (hb : DeedOk N b) : Fit (.lst [nT a, nT b]) := by
  have := ha.l
  have := hb.l
  refine ⟨?_, ?_, ?_⟩
  · show (pl (nT a) && (pl (nT b) && true)) = true
    rw [plT (big ha hN), plT (big hb hN)]; rfl
  · show max (dpD (nT a)) (max (dpD (nT b)) 0) + 1 ≤ 60
    rw [dpT, dpT]; decide
  · show wt (nT a) + 1 + (wt (nT b) + 1 + 0) ≤ _
    rw [wtT, wtT]; omega
theorem sem_takeT {l : List Nat} {k : Nat} (h : k ≤ l.length) : Pr.sem (.cut false true) [nT l, .int (k : Int)] = some (.imm (nT (l.take k))) := by
  unfold nT
  simp only [Pr.sem, cutD, cutN, nL_len, i1]
  rw [if_neg (by omega), Int.toNat_natCast, Nat.min_eq_left h]
  simp [nL]
theorem sem_dropT {l : List Nat} {k : Nat} (h : k ≤ l.length) : Pr.sem (.cut true false) [nT l, .int (k : Int)] = some (.imm (nT (l.drop k))) := by
  unfold nT
  simp only [Pr.sem, cutD, cutN, nL_len, i1]
  rw [if_neg (by omega), Int.toNat_natCast, Nat.min_eq_left h]
  simp [nL]
  rw [List.take_of_length_le (by simp)]
section
variable {C : Cl}
def Ends (C : Cl) (ss : Sms) (e : En) : Prop := ∃ e' s', exs C WF ss e = .ok (.rt (im (.bl true))) e' ∧ outsOf e' [.mu, .sh, .sh] 0 = [some s', none, none] ∧ Src s'
theorem Ends.nx {s : Sm} {ss : Sms} {e e1 : En} (h : ex C WF s e = .ok .nx e1) (k : Ends C ss e1) : Ends C (.cons s ss) e := by
  obtain ⟨e', s', a, b, c⟩ := k
  exact ⟨e', s', exs_next h a, b, c⟩
theorem Ends.ite {t : Te} {a ss : Sms} {e e1 : En} (h : evt C t e = .ok false e1) (k : Ends C ss e1) : Ends C (.cons (.ite t a .nil) ss) e :=
  .nx ((ex_iteF h).trans exs_nil) k
theorem evt_notT {t : Te} {e e1 : En} (h : evt C t e = .ok true e1) : evt C (.lnot t) e = .ok false e1 := by
  rw [evt, h]; rfl
structure WordsFn (C : Cl) (N : Nat) (ds : List (List Nat)) : Prop where
  p : PickOk C
  o : OfOk C
  m1 : C.md 1 = [.sh, .sh]
  m2 : C.md 2 = [.sh, .sh]
  m5 : C.md 5 = [.sh]
  m12 : C.md 12 = [.sh, .sh, .sh]
  m13 : C.md 13 = [.sh]
  f1 : ∀ a b, DeedOk N a → DeedOk N b → C.fn 1 [.p (.imm (nT a)), .p (.imm (nT b))] = .ret (im (nT (prod a b))) [none, none]
  f2 : ∀ w, (∀ l ∈ w, l < ds.length) → C.fn 2 [.p (.imm (bookD N ds)), .p (.imm (nT w))] = .ret (im (nT (doneN N ds w))) [none, none]
  f5 : ∀ d, DeedOk N d → C.fn 5 [.p (.imm (nT d))] = .ret (im (.int ((reachN d).length : Int))) [none]
  f12 : ∀ w p, (∀ l ∈ w, l < ds.length) → p < N → C.fn 12 [.p (.imm (bookD N ds)), .p (.imm (nT w)), .p (.imm (.int (p : Int)))] = .ret (im (.int ((ledN ds w p : Nat) : Int))) [none, none, none]
  f13 : ∀ d, DeedOk N d → C.fn 13 [.p (.imm (nT d))] = .ret (im (.bl true)) [none]
theorem words_c {N : Nat} {ds : List (List Nat)} {dd : List Nat} {s : Ow} (F : WordsFn C N ds) (ok : BookOk N ds) (hd : DeedOk N dd) (hs : Src s) : Ends C b_law_words_right [some s, some (im (bookD N ds)), some (im (nT dd)), none, none, none, none, none, none, none, none, none, none, none] := by
  have hN := ok.n
  -- many
  refine .nx (e1 := [some s, some (im (bookD N ds)), some (im (nT dd)), some (im (.int (ds.length : Int))), none, none, none, none, none, none, none, none, none, none]) (ex_asgP (ev_pr1 (ev_prVE gE1 ev_cst gE1 (sem_bk1 N ds)) (r := .imm (.int (ds.length : Int))) (by simp [Ow1.dt, Pr.sem, i1])) rfl) ?_
  -- long
  obtain ⟨k1, s1, g1, hs1, g3⟩ := F.o.fn s [3, 9, 61, 9, 61, 2001] hs (by simp) (by decide)
  have hk1 : k1 ≤ 2001 := by simp at g3; omega
  have c1 : ev C (.lst (.cons (.cst (.int 3)) (.cons (.cst (.int 9)) (.cons (.cst (.int 61)) (.cons (.cst (.int 9)) (.cons (.cst (.int 61)) (.cons (.cst (.int 2001)) .nil))))))) [some s, some (im (bookD N ds)), some (im (nT dd)), some (im (.int (ds.length : Int))), none, none, none, none, none, none, none, none, none, none] = .ok (.p (.lst (nL [3, 9, 61, 9, 61, 2001]))) [some s, some (im (bookD N ds)), some (im (nT dd)), some (im (.int (ds.length : Int))), none, none, none, none, none, none, none, none, none, none] := by
    simp only [ev, evs, Ow.dt?, Ow1.dt]; rfl
  have c2 := ev_muE (tl1 := [some (im (bookD N ds)), some (im (nT dd)), some (im (.int (ds.length : Int))), none, none, none, none, none, none, none, none, none, none]) F.o.md hs c1 g1
  obtain ⟨j, s2, h1, hs2, h3⟩ := ev_pick F.p hs1 c2 (by omega)
  obtain ⟨L, hL, hL2, hL3⟩ : ∃ L : Nat, (L : Int) = (j : Int) * (if decide ((0 : Int) < (ds.length : Int)) then 1 else 0) ∧ L ≤ 2001 ∧ (0 < L → 0 < ds.length) := by
    by_cases h0 : 0 < ds.length
    · exact ⟨j, by rw [decide_eq_true (by omega)]; simp, by omega, fun _ => h0⟩
    · exact ⟨0, by rw [decide_eq_false (by omega)]; simp, by omega, fun z => by omega⟩
  refine .nx (e1 := [some s2, some (im (bookD N ds)), some (im (nT dd)), some (im (.int (ds.length : Int))), some (im (.int (L : Int))), none, none, none, none, none, none, none, none, none]) ?_ ?_
  · rw [ex_asg (ev_pr2 h1 (ev_pr1 (ev_prVE gE3 ev_cst gE3 (r := .imm (.bl (decide ((0 : Int) < (ds.length : Int))))) rfl) (r := .imm (.int (if decide ((0 : Int) < (ds.length : Int)) then 1 else 0))) rfl) (r := .imm (.int (L : Int))) (by
      simp only [Ow1.dt, Pr.sem]
      rw [if_pos (okMul_r (by split <;> decide)), ← hL]; rfl))]
    rfl
  -- word
  obtain ⟨ys, e1, q1, ⟨s3, x6, hs3, _, rfl⟩, q3, q5⟩ := lc_I0 (C := C) (el := .call 8 (.cons (.v 0) (.cons (.v 3) .nil))) (k := 6) (it := .rng1 (.var 4))
    (I := fun r e => ∃ (s : Ow) (x : Option Ow), Src s ∧ (r ≠ [] → 0 < ds.length) ∧ e = [some s, some (im (bookD N ds)), some (im (nT dd)), some (im (.int (ds.length : Int))), some (im (.int (L : Int))), none, x, none, none, none, none, none, none, none]) (P := fun y => ∃ j : Nat, j < ds.length ∧ y = .int (j : Int))
    (xs := List.range L) (env := [some s2, some (im (bookD N ds)), some (im (nT dd)), some (im (.int (ds.length : Int))), some (im (.int (L : Int))), none, none, none, none, none, none, none, none, none]) (e1 := [some s2, some (im (bookD N ds)), some (im (nT dd)), some (im (.int (ds.length : Int))), some (im (.int (L : Int))), none, none, none, none, none, none, none, none, none]) (evi_range (by simp only [ev, gE4]) (by omega)) rfl rfl (by rw [List.length_range, szl]; omega)
    ⟨s2, none, hs2, fun z => hL3 (by cases L with | zero => exact absurd rfl z | succ n => omega), rfl⟩ (fun r e x ⟨s, y, a, b, c⟩ => ⟨s, x, a, b, by rw [c]; rfl⟩) (fun r e ⟨s, y, a, b, c⟩ => by rw [c]; show 6 < 14; decide)
    (fun x r e ⟨s, y, a, b, c⟩ hx => by
      subst c
      have h0 := b (List.cons_ne_nil _ _)
      obtain ⟨k, s', f1, f2, f3⟩ := ev_pickV F.p (i := 2) (s := s) (tl := [some (im (bookD N ds)), some (im (nT dd)), some (im (.int (ds.length : Int))), some (im (.int (L : Int))), none, y, none, none, none, none, none, none, none]) (many := ds.length) a rfl (by have := ok.g; omega)
      exact ⟨_, _, f1, ⟨s', y, f2, fun _ => h0, rfl⟩, ⟨k, by omega, rfl⟩⟩)
  obtain ⟨w, rfl, hw, r3⟩ := to_nL q3
  have hwz : w.length ≤ 2001 := by rw [r3, q5, List.length_range]; exact hL2
  refine .nx (e1 := [some s3, some (im (bookD N ds)), some (im (nT dd)), some (im (.int (ds.length : Int))), some (im (.int (L : Int))), some (im (nT w)), x6, none, none, none, none, none, none, none]) (by rw [ex_asg (ev_pr1 q1 (sem_tuple w))]; rfl) ?_
  have hdo : DeedOk N (doneN N ds w) := done_ok ok hw
  -- due
  refine .nx (e1 := [some s3, some (im (bookD N ds)), some (im (nT dd)), some (im (.int (ds.length : Int))), some (im (.int (L : Int))), some (im (nT w)), x6, some (im (nT (doneN N ds w))), none, none, none, none, none, none]) (ex_asgP (ev_pr1 (o := .lst (nL (doneN N ds w))) ?_ (sem_tuple _)) rfl) ?_
  · rw [lc_nat (xs := List.range N) (fun _ => true) (fun p => .int ((ledN ds w p : Nat) : Int)) (evi_range (ev_prVE gE1 ev_cst gE1 (sem_bk0 N ds)) (by omega)) rfl rfl (by rw [List.length_range, szl]; omega) (fun _ _ => rfl)
      (fun p hp _ => by simp only [ev, evo, evp, gE1, gE5, gE8, F.m12, args, backs, List.set_cons_zero, List.set_cons_succ, Ow1.dt, F.f12 w p hw (List.mem_range.mp hp)])]
    rw [done_led]
    simp [nL, filt, Function.comp_def]
  -- shown
  have fb := fit_book ok hw hwz
  refine .nx (e1 := [some s3, some (im (bookD N ds)), some (im (nT dd)), some (im (.int (ds.length : Int))), some (im (.int (L : Int))), some (im (nT w)), x6, some (im (nT (doneN N ds w))), none, some (im (.str (shw (.lst [bookD N ds, nT w])))), none, none, none, none]) (ex_asgP (ev_pr1 (o := .lst [bookD N ds, nT w]) ?_ fb.r) rfl) ?_
  · simp only [ev, evs, gE1, gE5, Ow.dt?, Ow1.dt]; rfl
  -- told
  refine .nx (e1 := [some s3, some (im (bookD N ds)), some (im (nT dd)), some (im (.int (ds.length : Int))), some (im (.int (L : Int))), some (im (nT w)), x6, some (im (nT (doneN N ds w))), none, some (im (.str (shw (.lst [bookD N ds, nT w])))), some (.p (.lst [nT (doneN N ds w), nT (doneN N ds w)])), none, none, none]) (ex_asgP (o := .p (.lst [nT (doneN N ds w), nT (doneN N ds w)])) ?_ rfl) ?_
  · simp only [ev, evs, evo, evp, gE1, gE5, F.m2, args, backs, List.set_cons_zero, List.set_cons_succ, Ow.dt?, Ow1.dt, F.f2 w hw]; rfl
  have ft := fit_two hN hdo hdo
  refine .ite (e1 := [some s3, some (im (bookD N ds)), some (im (nT dd)), some (im (.int (ds.length : Int))), some (im (.int (L : Int))), some (im (nT w)), x6, some (im (nT (doneN N ds w))), none, some (im (.str (shw (.lst [bookD N ds, nT w])))), some (.p (.lst [nT (doneN N ds w), nT (doneN N ds w)])), none, none, none]) ?_ ?_
  · refine evt_orF (e1 := [some s3, some (im (bookD N ds)), some (im (nT dd)), some (im (.int (ds.length : Int))), some (im (.int (L : Int))), some (im (nT w)), x6, some (im (nT (doneN N ds w))), none, some (im (.str (shw (.lst [bookD N ds, nT w])))), some (.p (.lst [nT (doneN N ds w), nT (doneN N ds w)])), none, none, none]) (evt_tr (ev_pr2 (ev_prV gE10 ft.r) (ev_pr1 (o := .lst [nT (doneN N ds w), nT (doneN N ds w)]) ?_ ft.r) (sem_neS ft.s))) (evt_orF (e1 := [some s3, some (im (bookD N ds)), some (im (nT dd)), some (im (.int (ds.length : Int))), some (im (.int (L : Int))), some (im (nT w)), x6, some (im (nT (doneN N ds w))), none, some (im (.str (shw (.lst [bookD N ds, nT w])))), some (.p (.lst [nT (doneN N ds w), nT (doneN N ds w)])), none, none, none]) (evt_tr (ev_prEV (ev_pr1 (o := .lst [bookD N ds, nT w]) ?_ fb.r) gE9 (sem_neS fb.s))) (evt_notT (evt_tr ?_)))
    · simp only [ev, evs, gE7, Ow.dt?, Ow1.dt]; rfl
    · simp only [ev, evs, gE1, gE5, Ow.dt?, Ow1.dt]; rfl
    · simp only [ev, evo, evp, gE7, F.m13, args, backs, List.set_cons_zero, List.set_cons_succ, Ow1.dt, F.f13 _ hdo]
  -- k
  obtain ⟨k, s4, p1, hs4, p3⟩ := ev_pick F.p (s := s3) (s1 := s3) (x := .pr .add (.cons (.e (.pr .len (.cons (.v 5) .nil))) (.cons (.e (.cst (.int 1))) .nil))) (tl := [some (im (bookD N ds)), some (im (nT dd)), some (im (.int (ds.length : Int))), some (im (.int (L : Int))), some (im (nT w)), x6, some (im (nT (doneN N ds w))), none, some (im (.str (shw (.lst [bookD N ds, nT w])))), some (.p (.lst [nT (doneN N ds w), nT (doneN N ds w)])), none, none, none]) (tl1 := [some (im (bookD N ds)), some (im (nT dd)), some (im (.int (ds.length : Int))), some (im (.int (L : Int))), some (im (nT w)), x6, some (im (nT (doneN N ds w))), none, some (im (.str (shw (.lst [bookD N ds, nT w])))), some (.p (.lst [nT (doneN N ds w), nT (doneN N ds w)])), none, none, none]) (many := w.length + 1) hs3
    (ev_pr2 (ev_prV gE5 (sem_len w)) ev_cst (by simp only [Ow1.dt, Pr.sem, i1]; rfl)) (by omega)
  have hk : k ≤ w.length := by omega
  refine .nx (e1 := [some s4, some (im (bookD N ds)), some (im (nT dd)), some (im (.int (ds.length : Int))), some (im (.int (L : Int))), some (im (nT w)), some (im (.int (k : Int))), some (im (nT (doneN N ds w))), none, some (im (.str (shw (.lst [bookD N ds, nT w])))), some (.p (.lst [nT (doneN N ds w), nT (doneN N ds w)])), none, none, none]) (by rw [ex_asg p1]; rfl) ?_
  have hu : ∀ l ∈ w.take k, l < ds.length := fun l hl => hw l (List.mem_of_mem_take hl)
  have hv : ∀ l ∈ w.drop k, l < ds.length := fun l hl => hw l (List.mem_of_mem_drop hl)
  refine .ite (e1 := [some s4, some (im (bookD N ds)), some (im (nT dd)), some (im (.int (ds.length : Int))), some (im (.int (L : Int))), some (im (nT w)), some (im (.int (k : Int))), some (im (nT (doneN N ds w))), none, some (im (.str (shw (.lst [bookD N ds, nT w])))), some (.p (.lst [nT (doneN N ds w), nT (doneN N ds w)])), none, none, none]) ?_ ?_
  · refine evt_tr (ev_prEV (o := .imm (nT (doneN N ds w))) ?_ gE7 (by show Pr.sem .ne [nT _, nT _] = _; rw [sem_neT (big hdo hN) (big hdo hN)]; simp))
    have c3 : ev C (.call 2 (.cons (.v 1) (.cons (.e (.pr (.cut false true) (.cons (.v 5) (.cons (.v 6) .nil)))) .nil))) [some s4, some (im (bookD N ds)), some (im (nT dd)), some (im (.int (ds.length : Int))), some (im (.int (L : Int))), some (im (nT w)), some (im (.int (k : Int))), some (im (nT (doneN N ds w))), none, some (im (.str (shw (.lst [bookD N ds, nT w])))), some (.p (.lst [nT (doneN N ds w), nT (doneN N ds w)])), none, none, none] = .ok (im (nT (doneN N ds (w.take k)))) [some s4, some (im (bookD N ds)), some (im (nT dd)), some (im (.int (ds.length : Int))), some (im (.int (L : Int))), some (im (nT w)), some (im (.int (k : Int))), some (im (nT (doneN N ds w))), none, some (im (.str (shw (.lst [bookD N ds, nT w])))), some (.p (.lst [nT (doneN N ds w), nT (doneN N ds w)])), none, none, none] := by
      simp only [ev, evo, evp, gE1, gE5, gE6, vws, Tm.vw, Ow.vw, Ow1.dt, sem_takeT hk, F.m2, args, backs, List.set_cons_zero, List.set_cons_succ, F.f2 _ hu]
    have c4 : ev C (.call 2 (.cons (.v 1) (.cons (.e (.pr (.cut true false) (.cons (.v 5) (.cons (.v 6) .nil)))) .nil))) [some s4, some (im (bookD N ds)), some (im (nT dd)), some (im (.int (ds.length : Int))), some (im (.int (L : Int))), some (im (nT w)), some (im (.int (k : Int))), some (im (nT (doneN N ds w))), none, some (im (.str (shw (.lst [bookD N ds, nT w])))), some (.p (.lst [nT (doneN N ds w), nT (doneN N ds w)])), none, none, none] = .ok (im (nT (doneN N ds (w.drop k)))) [some s4, some (im (bookD N ds)), some (im (nT dd)), some (im (.int (ds.length : Int))), some (im (.int (L : Int))), some (im (nT w)), some (im (.int (k : Int))), some (im (nT (doneN N ds w))), none, some (im (.str (shw (.lst [bookD N ds, nT w])))), some (.p (.lst [nT (doneN N ds w), nT (doneN N ds w)])), none, none, none] := by
      simp only [ev, evo, evp, gE1, gE5, gE6, vws, Tm.vw, Ow.vw, Ow1.dt, sem_dropT hk, F.m2, args, backs, List.set_cons_zero, List.set_cons_succ, F.f2 _ hv]
    rw [ev, evo, evp, c3]
    dsimp only
    rw [evo, evp, c4]
    simp only [evo, F.m1, args, backs, Ow1.dt, F.f1 _ _ (done_ok ok hu) (done_ok ok hv)]
    rw [done_app ok hu, List.take_append_drop]
  -- both
  have ha := prod_ok hdo hd
  have hb := prod_ok hd hdo
  refine .nx (e1 := [some s4, some (im (bookD N ds)), some (im (nT dd)), some (im (.int (ds.length : Int))), some (im (.int (L : Int))), some (im (nT w)), some (im (.int (k : Int))), some (im (nT (doneN N ds w))), none, some (im (.str (shw (.lst [bookD N ds, nT w])))), some (.p (.lst [nT (doneN N ds w), nT (doneN N ds w)])), some (.p (.lst [nT (prod (doneN N ds w) dd), nT (prod dd (doneN N ds w))])), none, none]) (ex_asgP (o := .p (.lst [nT (prod (doneN N ds w) dd), nT (prod dd (doneN N ds w))])) ?_ rfl) ?_
  · simp only [ev, evs, evo, evp, gE2, gE7, F.m1, args, backs, List.set_cons_zero, List.set_cons_succ, Ow.dt?, Ow1.dt, F.f1 _ _ hdo hd, F.f1 _ _ hd hdo]; rfl
  have f2 := fit_two hN ha hb
  refine .ite (e1 := [some s4, some (im (bookD N ds)), some (im (nT dd)), some (im (.int (ds.length : Int))), some (im (.int (L : Int))), some (im (nT w)), some (im (.int (k : Int))), some (im (nT (doneN N ds w))), none, some (im (.str (shw (.lst [bookD N ds, nT w])))), some (.p (.lst [nT (doneN N ds w), nT (doneN N ds w)])), some (.p (.lst [nT (prod (doneN N ds w) dd), nT (prod dd (doneN N ds w))])), none, none]) ?_ ?_
  · refine evt_tr (ev_pr2 (ev_prV gE11 f2.r) (ev_pr1 (o := .lst [nT (prod (doneN N ds w) dd), nT (prod dd (doneN N ds w))]) ?_ f2.r) (sem_neS f2.s))
    have c5 : ev C (.pr .tuple (.cons (.e (.lc (.pr .ix (.cons (.v 2) (.cons (.v 12) .nil))) (.nm 12) (.op (.v 7)) .nil [12])) .nil)) [some s4, some (im (bookD N ds)), some (im (nT dd)), some (im (.int (ds.length : Int))), some (im (.int (L : Int))), some (im (nT w)), some (im (.int (k : Int))), some (im (nT (doneN N ds w))), none, some (im (.str (shw (.lst [bookD N ds, nT w])))), some (.p (.lst [nT (doneN N ds w), nT (doneN N ds w)])), some (.p (.lst [nT (prod (doneN N ds w) dd), nT (prod dd (doneN N ds w))])), none, none] = .ok (im (nT (prod (doneN N ds w) dd))) [some s4, some (im (bookD N ds)), some (im (nT dd)), some (im (.int (ds.length : Int))), some (im (.int (L : Int))), some (im (nT w)), some (im (.int (k : Int))), some (im (nT (doneN N ds w))), none, some (im (.str (shw (.lst [bookD N ds, nT w])))), some (.p (.lst [nT (doneN N ds w), nT (doneN N ds w)])), some (.p (.lst [nT (prod (doneN N ds w) dd), nT (prod dd (doneN N ds w))])), none, none] := by
      refine ev_pr1 (o := .lst (nL (prod (doneN N ds w) dd))) ?_ (sem_tuple _)
      rw [lc_nat (env := [some s4, some (im (bookD N ds)), some (im (nT dd)), some (im (.int (ds.length : Int))), some (im (.int (L : Int))), some (im (nT w)), some (im (.int (k : Int))), some (im (nT (doneN N ds w))), none, some (im (.str (shw (.lst [bookD N ds, nT w])))), some (.p (.lst [nT (doneN N ds w), nT (doneN N ds w)])), some (.p (.lst [nT (prod (doneN N ds w) dd), nT (prod dd (doneN N ds w))])), none, none]) (k := 12) (el := (.pr .ix (.cons (.v 2) (.cons (.v 12) .nil)))) (it := (.op (.v 7))) (xs := doneN N ds w) (fun _ => true) (fun x => .int ((dd.getD x 0 : Nat) : Int)) (by simp only [evi, evp, gE7, Tm.vw, Ow.vw, Ow1.dt, seqD_nT]) rfl rfl (by rw [hdo.l, szl]; omega) (fun _ _ => rfl)
        (fun x hx _ => ev_prVV gE2 gE12 (sem_ix (by rw [hd.l]; exact hdo.b x hx)))]
      simp [nL, filt, prod, Function.comp_def]
    have c6 : ev C (.pr .tuple (.cons (.e (.lc (.pr .ix (.cons (.v 7) (.cons (.v 12) .nil))) (.nm 12) (.op (.v 2)) .nil [12])) .nil)) [some s4, some (im (bookD N ds)), some (im (nT dd)), some (im (.int (ds.length : Int))), some (im (.int (L : Int))), some (im (nT w)), some (im (.int (k : Int))), some (im (nT (doneN N ds w))), none, some (im (.str (shw (.lst [bookD N ds, nT w])))), some (.p (.lst [nT (doneN N ds w), nT (doneN N ds w)])), some (.p (.lst [nT (prod (doneN N ds w) dd), nT (prod dd (doneN N ds w))])), none, none] = .ok (im (nT (prod dd (doneN N ds w)))) [some s4, some (im (bookD N ds)), some (im (nT dd)), some (im (.int (ds.length : Int))), some (im (.int (L : Int))), some (im (nT w)), some (im (.int (k : Int))), some (im (nT (doneN N ds w))), none, some (im (.str (shw (.lst [bookD N ds, nT w])))), some (.p (.lst [nT (doneN N ds w), nT (doneN N ds w)])), some (.p (.lst [nT (prod (doneN N ds w) dd), nT (prod dd (doneN N ds w))])), none, none] := by
      refine ev_pr1 (o := .lst (nL (prod dd (doneN N ds w)))) ?_ (sem_tuple _)
      rw [lc_nat (env := [some s4, some (im (bookD N ds)), some (im (nT dd)), some (im (.int (ds.length : Int))), some (im (.int (L : Int))), some (im (nT w)), some (im (.int (k : Int))), some (im (nT (doneN N ds w))), none, some (im (.str (shw (.lst [bookD N ds, nT w])))), some (.p (.lst [nT (doneN N ds w), nT (doneN N ds w)])), some (.p (.lst [nT (prod (doneN N ds w) dd), nT (prod dd (doneN N ds w))])), none, none]) (k := 12) (el := (.pr .ix (.cons (.v 7) (.cons (.v 12) .nil)))) (it := (.op (.v 2))) (xs := dd) (fun _ => true) (fun x => .int (((doneN N ds w).getD x 0 : Nat) : Int)) (by simp only [evi, evp, gE2, Tm.vw, Ow.vw, Ow1.dt, seqD_nT]) rfl rfl (by rw [hd.l, szl]; omega) (fun _ _ => rfl)
        (fun x hx _ => ev_prVV gE7 gE12 (sem_ix (by rw [hdo.l]; exact hd.b x hx)))]
      simp [nL, filt, prod, Function.comp_def]
    rw [ev, evs, c5]
    dsimp only [Ow.dt?, Ow1.dt]
    rw [evs, c6]
    simp only [Ow.dt?, Ow1.dt, evs]
    rfl
  -- ranks
  have last : ev C (.lc (.var 13) (.nm 13) (.op (.v 11)) (.one (.tr (.e (.pr .gt (.cons (.e (.call 5 (.cons (.v 13) .nil))) (.cons (.e (.pr .min2 (.cons (.e (.call 5 (.cons (.v 7) .nil))) (.cons (.e (.call 5 (.cons (.v 2) .nil))) .nil)))) .nil)))))) [13]) [some s4, some (im (bookD N ds)), some (im (nT dd)), some (im (.int (ds.length : Int))), some (im (.int (L : Int))), some (im (nT w)), some (im (.int (k : Int))), some (im (nT (doneN N ds w))), none, some (im (.str (shw (.lst [bookD N ds, nT w])))), some (.p (.lst [nT (doneN N ds w), nT (doneN N ds w)])), some (.p (.lst [nT (prod (doneN N ds w) dd), nT (prod dd (doneN N ds w))])), none, none] = .ok (.p (.lst ([nT (prod (doneN N ds w) dd), nT (prod dd (doneN N ds w))].filterMap fun _ => none))) [some s4, some (im (bookD N ds)), some (im (nT dd)), some (im (.int (ds.length : Int))), some (im (.int (L : Int))), some (im (nT w)), some (im (.int (k : Int))), some (im (nT (doneN N ds w))), none, some (im (.str (shw (.lst [bookD N ds, nT w])))), some (.p (.lst [nT (doneN N ds w), nT (doneN N ds w)])), some (.p (.lst [nT (prod (doneN N ds w) dd), nT (prod dd (doneN N ds w))])), none, none] := by
    refine lc_pure (fun _ => none) (e2 := [some s4, some (im (bookD N ds)), some (im (nT dd)), some (im (.int (ds.length : Int))), some (im (.int (L : Int))), some (im (nT w)), some (im (.int (k : Int))), some (im (nT (doneN N ds w))), none, some (im (.str (shw (.lst [bookD N ds, nT w])))), some (.p (.lst [nT (doneN N ds w), nT (doneN N ds w)])), some (.lk (.lst [nT (prod (doneN N ds w) dd), nT (prod dd (doneN N ds w))])), none, none]) (by simp only [evi, evp, gE11, Tm.vw, Ow.vw, Ow1.dt, seqD]) rfl rfl (by rw [szl]; show 2 < _; decide) fun t ht => ?_
    have one : ∃ o, t = nT o ∧ DeedOk N o ∧ (reachN o).length ≤ (reachN (doneN N ds w)).length ∧ (reachN o).length ≤ (reachN dd).length := by
      rcases List.mem_cons.mp ht with z | z
      · exact ⟨_, z, ha, rank_l hdo hd, rank_r hdo hd⟩
      · exact ⟨_, List.mem_singleton.mp z, hb, rank_r hd hdo, rank_l hd hdo⟩
    obtain ⟨o, rfl, ho, o1, o2⟩ := one
    refine ⟨[some s4, some (im (bookD N ds)), some (im (nT dd)), some (im (.int (ds.length : Int))), some (im (.int (L : Int))), some (im (nT w)), some (im (.int (k : Int))), some (im (nT (doneN N ds w))), none, some (im (.str (shw (.lst [bookD N ds, nT w])))), some (.p (.lst [nT (doneN N ds w), nT (doneN N ds w)])), some (.lk (.lst [nT (prod (doneN N ds w) dd), nT (prod dd (doneN N ds w))])), none, some (im (nT o))], ?_, rfl⟩
    have t : evf C (.one (.tr (.e (.pr .gt (.cons (.e (.call 5 (.cons (.v 13) .nil))) (.cons (.e (.pr .min2 (.cons (.e (.call 5 (.cons (.v 7) .nil))) (.cons (.e (.call 5 (.cons (.v 2) .nil))) .nil)))) .nil)))))) [some s4, some (im (bookD N ds)), some (im (nT dd)), some (im (.int (ds.length : Int))), some (im (.int (L : Int))), some (im (nT w)), some (im (.int (k : Int))), some (im (nT (doneN N ds w))), none, some (im (.str (shw (.lst [bookD N ds, nT w])))), some (.p (.lst [nT (doneN N ds w), nT (doneN N ds w)])), some (.lk (.lst [nT (prod (doneN N ds w) dd), nT (prod dd (doneN N ds w))])), none, some (im (nT o))] = .ok false [some s4, some (im (bookD N ds)), some (im (nT dd)), some (im (.int (ds.length : Int))), some (im (.int (L : Int))), some (im (nT w)), some (im (.int (k : Int))), some (im (nT (doneN N ds w))), none, some (im (.str (shw (.lst [bookD N ds, nT w])))), some (.p (.lst [nT (doneN N ds w), nT (doneN N ds w)])), some (.lk (.lst [nT (prod (doneN N ds w) dd), nT (prod dd (doneN N ds w))])), none, some (im (nT o))] := by
      have v13 : ∀ {i : Nat} {d : List Nat} {e : En}, getE e i = some (im (nT d)) → e.set i (some (im (nT d))) = e → DeedOk N d → ev C (.call 5 (.cons (.v i) .nil)) e = .ok (im (.int ((reachN d).length : Int))) e := by
        intro i d e h1 h2 h3
        simp only [ev, evo, evp, h1, F.m5, args, backs, Ow1.dt, F.f5 d h3, h2]
      refine evf_tr (ev_pr2 (v13 gE13 rfl ho) (ev_pr2 (v13 gE7 rfl hdo) (v13 gE2 rfl hd) rfl) ?_)
      show i1 (.bl (decide ((if ((reachN dd).length : Int) < ((reachN (doneN N ds w)).length : Int) then ((reachN dd).length : Int) else ((reachN (doneN N ds w)).length : Int)) < ((reachN o).length : Int)))) = _
      rw [decide_eq_false (by split <;> omega)]
      rfl
    simp only [stepLc, tgSet, wipeE, List.set_cons_zero, List.set_cons_succ, t]
  refine ⟨_, s4, exs_last (ex_ret (ev_pr2 last ev_lst0 (r := .imm (.bl true)) ?_)), rfl, hs4⟩
  exact sem_eq0 (a := []) (fun _ h => nomatch h)
end
end Pd
set_option Elab.async false
set_option linter.all false
set_option maxRecDepth 100000
set_option maxHeartbeats 1000000
namespace Pd
open PySem
/-! 16: law -/
structure BesFn (C : Cl) : Prop where
  md : C.md 15 = [.mu, .sh, .sh]
  fn : ∀ (s : Ow) (n m : Nat), Src s → 1 ≤ n → n ≤ 8 → m ≤ 8 → ∃ (d : List Nat) (s' : Ow), C.fn 15 [s, .p (.imm (.int (n : Int))), .p (.imm (.int (m : Int)))] = .ret (im (nT d)) [some s', none, none] ∧ Src s' ∧ DeedOk (n + m) d
theorem bes_CC (n : Nat) : BesFn (CC (n + 4)) := by
  refine ⟨md15, fun s a b hs h1 h2 h3 => ?_⟩
  rw [R_at (n := n + 3) (g := f_law_beside) rfl]
  exact beside_c (pick_CC (n + 2)) (deed_CC n) hs h1 h2 h3
theorem wordsFn_CC (n : Nat) {N : Nat} {ds : List (List Nat)} (ok : BookOk N ds) : WordsFn (CC (n + 3)) N ds where
  p := pick_CC (n + 2)
  o := of_CC (n + 1)
  m1 := md1
  m2 := md2
  m5 := md5
  m12 := md12
  m13 := md13
  f1 := fun a b ha hb => prod_run' (n + 2) ha hb ok.n
  f2 := fun w hw => done_run (n + 1) ok hw
  f5 := fun d hd => rank_run (n + 1) (by rw [hd.l]; have := ok.n; omega)
  f12 := fun w p hw hp => by
    rw [R_at (n := n + 2) (g := f_law_led) rfl]
    exact led_run ok hw hp
  f13 := fun d hd => right_run n hd ok.n
structure WrdFn (C : Cl) : Prop where
  md : C.md 14 = [.mu, .sh, .sh]
  fn : ∀ (s : Ow) (N : Nat) (ds : List (List Nat)) (dd : List Nat), Src s → BookOk N ds → DeedOk N dd → ∃ (s' : Ow), C.fn 14 [s, .p (.imm (bookD N ds)), .p (.imm (nT dd))] = .ret (im (.bl true)) [some s', none, none] ∧ Src s'
theorem wrd_CC (n : Nat) : WrdFn (CC (n + 4)) := by
  refine ⟨md14, fun s N ds dd hs ok hd => ?_⟩
  rw [R_at (n := n + 3) (g := f_law_words_right) rfl]
  obtain ⟨e', s', a, b, c⟩ := words_c (wordsFn_CC n ok) ok hd hs
  exact ⟨s', runFn_of rfl rfl a b, c⟩
theorem to_ds {N : Nat} : ∀ {ys : List Dt}, (∀ y ∈ ys, ∃ d, DeedOk N d ∧ y = nT d) → ∃ ds : List (List Nat), ys = ds.map nT ∧ (∀ d ∈ ds, DeedOk N d) ∧ ds.length = ys.length
  | [], _ => ⟨[], rfl, (fun _ h => nomatch h), rfl⟩
  | y :: ys, h => by
    obtain ⟨d, hd, rfl⟩ := h y List.mem_cons_self
    obtain ⟨ds, rfl, h2, h3⟩ := to_ds fun z hz => h z (List.mem_cons_of_mem _ hz)
    refine ⟨d :: ds, rfl, fun x hx => ?_, by simp⟩
    rcases List.mem_cons.mp hx with z | z
    · rw [z]; exact hd
    · exact h2 x z
section
variable {C : Cl}
theorem ev_pick1 (P : PickOk C) {x : Ex} {s s1 : Ow} {a a1 : Option Ow} {tl tl1 : En} {many : Nat} (hs : Src s1) (hx : ev C x (a :: some s :: tl) = .ok (im (.int (many : Int))) (a1 :: some s1 :: tl1)) (hm : many < 2 ^ 62) :
    ∃ (k : Nat) (s' : Ow), ev C (.call 8 (.cons (.v 1) (.cons (.e x) .nil))) (a :: some s :: tl) = .ok (im (.int (k : Int))) (a1 :: some s' :: tl1) ∧ Src s' ∧ (k < many ∨ k = 0) := by
  obtain ⟨k, s', h1, h2, h3⟩ := P.fn s1 many hs hm
  refine ⟨k, s', ?_, h2, h3⟩
  obtain ⟨_, _, _, _, _, rfl⟩ := hs
  simp only [ev, evo, evp, gE1, hx, P.md, args, List.set_cons_zero, List.set_cons_succ, Ow1.dt, h1, backs]
theorem ev_bes1 (B : BesFn C) {s : Ow} {a a2 : Option Ow} {n m : Nat} {tl : En} (hs : Src s) (h1 : 1 ≤ n) (h2 : n ≤ 8) (h3 : m ≤ 8) :
    ∃ (d : List Nat) (s' : Ow), ev C (.call 15 (.cons (.v 1) (.cons (.v 3) (.cons (.v 4) .nil)))) (a :: some s :: a2 :: some (im (.int (n : Int))) :: some (im (.int (m : Int))) :: tl) = .ok (im (nT d)) (a :: some s' :: a2 :: some (im (.int (n : Int))) :: some (im (.int (m : Int))) :: tl) ∧ Src s' ∧ DeedOk (n + m) d := by
  obtain ⟨d, s', q1, q2, q3⟩ := B.fn s n m hs h1 h2 h3
  refine ⟨d, s', ?_, q2, q3⟩
  obtain ⟨_, _, _, _, _, rfl⟩ := hs
  simp only [ev, evo, evp, gE1, gE3, gE4, B.md, args, List.set_cons_zero, List.set_cons_succ, Ow1.dt, q1, backs]
/-- the loop over the deeds -/
abbrev rightB : Sms := (.cons (.ite (.lnot (.tr (.e (.call 13 (.cons (.v 7) .nil))))) (.cons (.ret (.cst (.bl false))) .nil) .nil) .nil)
theorem right_loop {N : Nat} (m13 : C.md 13 = [.sh]) (f13 : ∀ d, DeedOk N d → C.fn 13 [.p (.imm (nT d))] = .ret (im (.bl true)) [none]) {a0 a1 a2 a3 a4 a5 a6 : Option Ow} {tl : En} : ∀ (ds : List (List Nat)) (x : Option Ow), (∀ d ∈ ds, DeedOk N d) → ∃ x',
    forGo (stepFor C WF (.nm 7) rightB) (ds.map nT) (a0 :: a1 :: a2 :: a3 :: a4 :: a5 :: a6 :: x :: tl) = .ok .nx (a0 :: a1 :: a2 :: a3 :: a4 :: a5 :: a6 :: x' :: tl)
  | [], x, _ => ⟨x, rfl⟩
  | d :: ds, x, h => by
    obtain ⟨x', h'⟩ := right_loop m13 f13 ds (some (im (nT d))) fun z hz => h z (List.mem_cons_of_mem _ hz)
    refine ⟨x', ?_⟩
    have s1 : stepFor C WF (.nm 7) rightB (nT d) (a0 :: a1 :: a2 :: a3 :: a4 :: a5 :: a6 :: x :: tl) = .ok .nx (a0 :: a1 :: a2 :: a3 :: a4 :: a5 :: a6 :: some (im (nT d)) :: tl) := by
      have t : evt C (.lnot (.tr (.e (.call 13 (.cons (.v 7) .nil))))) (a0 :: a1 :: a2 :: a3 :: a4 :: a5 :: a6 :: some (im (nT d)) :: tl) = .ok false (a0 :: a1 :: a2 :: a3 :: a4 :: a5 :: a6 :: some (im (nT d)) :: tl) :=
        evt_notT (evt_tr (by simp only [ev, evo, evp, gE7, m13, args, backs, List.set_cons_zero, List.set_cons_succ, Ow1.dt, f13 d (h d List.mem_cons_self)]))
      show exs C WF rightB (a0 :: a1 :: a2 :: a3 :: a4 :: a5 :: a6 :: some (im (nT d)) :: tl) = _
      exact exs_next ((ex_iteF t).trans exs_nil) exs_nil
    rw [List.map_cons]
    unfold forGo
    rw [s1]
    exact h'
structure LawFn (C : Cl) : Prop where
  p : PickOk C
  b : BesFn C
  w : WrdFn C
  m13 : C.md 13 = [.sh]
  f13 : ∀ {N : Nat} d, N ≤ 16 → DeedOk N d → C.fn 13 [.p (.imm (nT d))] = .ret (im (.bl true)) [none]
/-- one lap -/
abbrev lapB : Sms := (.cons (.asgT [3, 4] (.cons (.pr .add (.cons (.e (.cst (.int 1))) (.cons (.e (.call 8 (.cons (.v 1) (.cons (.e (.cst (.int 8))) .nil)))) .nil))) (.cons (.pr .mul (.cons (.e (.call 8 (.cons (.v 1) (.cons (.e (.cst (.int 9))) .nil)))) (.cons (.e (.pr .int (.cons (.e (.pr .eq (.cons (.e (.call 8 (.cons (.v 1) (.cons (.e (.cst (.int 3))) .nil)))) (.cons (.e (.cst (.int 0))) .nil)))) .nil))) .nil))) .nil)))
    (.cons (.asg 5 (.pr .tuple (.cons (.e (.lc (.call 15 (.cons (.v 1) (.cons (.v 3) (.cons (.v 4) .nil)))) (.nm 6) (.rng1 (.call 8 (.cons (.v 1) (.cons (.e (.cst (.int 7))) .nil)))) .nil [6])) .nil)))
    (.cons (.fors (.nm 7) (.op (.v 5)) rightB)
    (.cons (.ite (.lnot (.tr (.e (.call 14 (.cons (.v 1) (.cons (.e (.tup (.cons (.pr .add (.cons (.v 3) (.cons (.v 4) .nil))) (.cons (.var 5) .nil)))) (.cons (.e (.call 15 (.cons (.v 1) (.cons (.v 3) (.cons (.v 4) .nil))))) .nil))))))) (.cons (.ret (.cst (.bl false)))
      .nil) .nil)
    .nil))))
def LI (a : Option Ow) (e : En) : Prop := ∃ (s : Ow) (x2 x3 x4 x5 x6 x7 : Option Ow), Src s ∧ e = [a, some s, x2, x3, x4, x5, x6, x7, none, none, none]
theorem lap_run (F : LawFn C) {a : Option Ow} {e : En} (h : LI a e) : ∃ e', exs C WF lapB e = .ok .nx e' ∧ LI a e' := by
  obtain ⟨s, x2, x3, x4, x5, x6, x7, hs, rfl⟩ := h
  obtain ⟨k1, s1, p1, hs1, q1⟩ := ev_pick1 F.p (x := .cst (.int 8)) (s := s) (s1 := s) (a := a) (a1 := a) (tl := [x2, x3, x4, x5, x6, x7, none, none, none]) (tl1 := [x2, x3, x4, x5, x6, x7, none, none, none]) (many := 8) hs ev_cst (by decide)
  obtain ⟨k2, s2, p2, hs2, q2⟩ := ev_pick1 F.p (x := .cst (.int 9)) (s := s1) (s1 := s1) (a := a) (a1 := a) (tl := [x2, x3, x4, x5, x6, x7, none, none, none]) (tl1 := [x2, x3, x4, x5, x6, x7, none, none, none]) (many := 9) hs1 ev_cst (by decide)
  obtain ⟨k3, s3, p3, hs3, q3⟩ := ev_pick1 F.p (x := .cst (.int 3)) (s := s2) (s1 := s2) (a := a) (a1 := a) (tl := [x2, x3, x4, x5, x6, x7, none, none, none]) (tl1 := [x2, x3, x4, x5, x6, x7, none, none, none]) (many := 3) hs2 ev_cst (by decide)
  obtain ⟨m, hm, hm8⟩ : ∃ m : Nat, (m : Int) = (k2 : Int) * (if decide ((k3 : Int) = 0) then 1 else 0) ∧ m ≤ 8 := by
    by_cases h0 : k3 = 0
    · exact ⟨k2, by rw [decide_eq_true (by omega)]; simp, by omega⟩
    · exact ⟨0, by rw [decide_eq_false (by omega)]; simp, by omega⟩
  let n := 1 + k1
  have hn1 : 1 ≤ n := by show 1 ≤ 1 + k1; omega
  have hn8 : n ≤ 8 := by show 1 + k1 ≤ 8; omega
  have st1 : ex C WF (.asgT [3, 4] (.cons (.pr .add (.cons (.e (.cst (.int 1))) (.cons (.e (.call 8 (.cons (.v 1) (.cons (.e (.cst (.int 8))) .nil)))) .nil))) (.cons (.pr .mul (.cons (.e (.call 8 (.cons (.v 1) (.cons (.e (.cst (.int 9))) .nil)))) (.cons (.e (.pr .int (.cons (.e (.pr .eq (.cons (.e (.call 8 (.cons (.v 1) (.cons (.e (.cst (.int 3))) .nil)))) (.cons (.e (.cst (.int 0))) .nil)))) .nil))) .nil))) .nil))) [a, some s, x2, x3, x4, x5, x6, x7, none, none, none]
      = .ok .nx [a, some s3, x2, some (im (.int (n : Int))), some (im (.int (m : Int))), x5, x6, x7, none, none, none] := by
    rw [ex, evw, ev_pr2 ev_cst p1 (r := .imm (.int (n : Int))) (by simp only [Ow1.dt, Pr.sem, i1]; rfl)]
    dsimp only
    rw [evw, ev_pr2 p2 (ev_pr1 (ev_pr2 p3 ev_cst (r := .imm (.bl (decide ((k3 : Int) = 0)))) (by simp only [Ow1.dt, Pr.sem, eqv_int, i1])) (r := .imm (.int (if decide ((k3 : Int) = 0) then 1 else 0))) rfl) (r := .imm (.int (m : Int))) (by
      simp only [Ow1.dt, Pr.sem]
      rw [if_pos (okMul_r (by split <;> decide)), ← hm]; rfl)]
    rfl
  obtain ⟨k4, s4, p4, hs4, q4⟩ := ev_pick1 F.p (x := .cst (.int 7)) (s := s3) (s1 := s3) (a := a) (a1 := a) (tl := [x2, some (im (.int (n : Int))), some (im (.int (m : Int))), x5, x6, x7, none, none, none]) (tl1 := [x2, some (im (.int (n : Int))), some (im (.int (m : Int))), x5, x6, x7, none, none, none]) (many := 7) hs3 ev_cst (by decide)
  obtain ⟨ys, e1, r1, ⟨s5, y6, hs5, rfl⟩, r3, r5⟩ := lc_I0 (C := C) (el := .call 15 (.cons (.v 1) (.cons (.v 3) (.cons (.v 4) .nil)))) (k := 6) (it := .rng1 (.call 8 (.cons (.v 1) (.cons (.e (.cst (.int 7))) .nil))))
    (I := fun _ e => ∃ (s : Ow) (x : Option Ow), Src s ∧ e = [a, some s, x2, some (im (.int (n : Int))), some (im (.int (m : Int))), x5, x, x7, none, none, none]) (P := fun y => ∃ d, DeedOk (n + m) d ∧ y = nT d)
    (xs := List.range k4) (env := [a, some s3, x2, some (im (.int (n : Int))), some (im (.int (m : Int))), x5, x6, x7, none, none, none]) (evi_range p4 (by omega)) rfl rfl (by rw [List.length_range, szl]; omega)
    ⟨s4, x6, hs4, rfl⟩ (fun r e x ⟨s, y, a, b⟩ => ⟨s, x, a, by rw [b]; rfl⟩) (fun r e ⟨s, y, a, b⟩ => by rw [b]; show 6 < 11; decide)
    (fun x r e ⟨s, y, h, c⟩ hx => by
      subst c
      obtain ⟨d, s', f1, f2, f3⟩ := ev_bes1 F.b (a := a) (a2 := x2) (n := n) (m := m) (tl := [x5, y, x7, none, none, none]) h hn1 hn8 hm8
      exact ⟨_, _, f1, ⟨s', y, f2, rfl⟩, ⟨d, f3, rfl⟩⟩)
  obtain ⟨ds, rfl, hds, r6⟩ := to_ds r3
  have hk4 : ds.length ≤ 16 := by rw [r6, r5, List.length_range]; omega
  have ok : BookOk (n + m) ds := ⟨by omega, hk4, hds⟩
  have st2 : ex C WF (.asg 5 (.pr .tuple (.cons (.e (.lc (.call 15 (.cons (.v 1) (.cons (.v 3) (.cons (.v 4) .nil)))) (.nm 6) (.rng1 (.call 8 (.cons (.v 1) (.cons (.e (.cst (.int 7))) .nil)))) .nil [6])) .nil))) [a, some s3, x2, some (im (.int (n : Int))), some (im (.int (m : Int))), x5, x6, x7, none, none, none]
      = .ok .nx [a, some s5, x2, some (im (.int (n : Int))), some (im (.int (m : Int))), some (im (.tup (ds.map nT))), y6, x7, none, none, none] := by
    rw [ex_asg (ev_pr1 r1 (r := .imm (.tup (ds.map nT))) rfl)]
    rfl
  obtain ⟨x7', hl⟩ := right_loop (C := C) (N := n + m) F.m13 (fun d hd => F.f13 d ok.n hd) (a0 := a) (a1 := some s5) (a2 := x2) (a3 := some (im (.int (n : Int)))) (a4 := some (im (.int (m : Int)))) (a5 := some (im (.tup (ds.map nT)))) (a6 := y6) (tl := [none, none, none]) ds x7 hds
  have st3 : ex C WF (.fors (.nm 7) (.op (.v 5)) rightB) [a, some s5, x2, some (im (.int (n : Int))), some (im (.int (m : Int))), some (im (.tup (ds.map nT))), y6, x7, none, none, none]
      = .ok .nx [a, some s5, x2, some (im (.int (n : Int))), some (im (.int (m : Int))), some (im (.tup (ds.map nT))), y6, x7', none, none, none] := by
    rw [ex_for (ds := ds.map nT) (e1 := [a, some s5, x2, some (im (.int (n : Int))), some (im (.int (m : Int))), some (im (.tup (ds.map nT))), y6, x7, none, none, none]) (by simp only [evi, evp, gE5, Tm.vw, Ow.vw, Ow1.dt, seqD]) rfl, hl]
    rfl
  obtain ⟨dd, s6, b1, hs6, b3⟩ := ev_bes1 F.b (a := a) (a2 := x2) (n := n) (m := m) (tl := [some (im (.tup (ds.map nT))), y6, x7', none, none, none]) hs5 hn1 hn8 hm8
  obtain ⟨s7, w1, hs7⟩ := F.w.fn s6 (n + m) ds dd hs6 ok b3
  have c1 : ev C (.tup (.cons (.pr .add (.cons (.v 3) (.cons (.v 4) .nil))) (.cons (.var 5) .nil))) [a, some s5, x2, some (im (.int (n : Int))), some (im (.int (m : Int))), some (im (.tup (ds.map nT))), y6, x7', none, none, none]
      = .ok (im (bookD (n + m) ds)) [a, some s5, x2, some (im (.int (n : Int))), some (im (.int (m : Int))), some (im (.tup (ds.map nT))), y6, x7', none, none, none] := by
    rw [ev, evs, ev_prVV gE3 gE4 (r := .imm (.int ((n + m : Nat) : Int))) rfl]
    simp only [evs, ev, gE5, Ow.dt?, Ow1.dt]
    rfl
  have t4 : evt C (.lnot (.tr (.e (.call 14 (.cons (.v 1) (.cons (.e (.tup (.cons (.pr .add (.cons (.v 3) (.cons (.v 4) .nil))) (.cons (.var 5) .nil)))) (.cons (.e (.call 15 (.cons (.v 1) (.cons (.v 3) (.cons (.v 4) .nil))))) .nil))))))) [a, some s5, x2, some (im (.int (n : Int))), some (im (.int (m : Int))), some (im (.tup (ds.map nT))), y6, x7', none, none, none]
      = .ok false [a, some s7, x2, some (im (.int (n : Int))), some (im (.int (m : Int))), some (im (.tup (ds.map nT))), y6, x7', none, none, none] := by
    refine evt_notT (evt_tr ?_)
    obtain ⟨_, _, _, _, _, rfl⟩ := hs6
    rw [ev, evo, evp, gE1]
    dsimp only
    rw [evo, evp, c1]
    dsimp only
    rw [evo, evp, b1]
    simp only [evo, F.w.md, args, gE1, List.set_cons_zero, List.set_cons_succ, Ow1.dt, w1, backs]
  exact ⟨_, exs_next st1 (exs_next st2 (exs_next st3 (exs_next ((ex_iteF t4).trans exs_nil) exs_nil))), ⟨s7, x2, _, _, _, y6, x7', hs7, rfl⟩⟩
theorem laps_run (F : LawFn C) {a : Option Ow} : ∀ (ds : List Dt) (e : En), LI a e → ∃ e', forGo (stepFor C WF (.nm 2) lapB) ds e = .ok .nx e' ∧ LI a e'
  | [], e, h => ⟨e, rfl, h⟩
  | d :: ds, e, h => by
    obtain ⟨s, x2, x3, x4, x5, x6, x7, hs, rfl⟩ := h
    obtain ⟨e1, h1, h2⟩ := lap_run F (a := a) (e := [a, some s, some (im d), x3, x4, x5, x6, x7, none, none, none]) ⟨s, _, _, _, _, _, _, hs, rfl⟩
    obtain ⟨e2, h3, h4⟩ := laps_run F ds e1 h2
    refine ⟨e2, ?_, h4⟩
    have s1 : stepFor C WF (.nm 2) lapB d [a, some s, x2, x3, x4, x5, x6, x7, none, none, none] = .ok .nx e1 := h1
    unfold forGo
    rw [s1]
    exact h3
end
end Pd
set_option Elab.async false
set_option linter.all false
set_option maxRecDepth 100000
set_option maxHeartbeats 1000000
namespace Pd
open PySem
def dsC : List (List Nat) := [[1, 2, 0], [0, 0, 2]]
def wsC : List (List Nat) := [[], [0, 1], [1, 0], [0, 0, 0]]
def toC : List (List Nat) := [[0, 1, 2], [0, 2, 0], [1, 1, 0], [0, 1, 2]]
theorem okC : BookOk 3 dsC := ⟨by decide, by decide, fun d hd => by
  have : d = [1, 2, 0] ∨ d = [0, 0, 2] := by simpa [dsC] using hd
  rcases this with rfl | rfl
  · exact ⟨rfl, by decide⟩
  · exact ⟨rfl, by decide⟩⟩
theorem wsC_lt : ∀ w ∈ wsC, ∀ l ∈ w, l < dsC.length := by decide
theorem toC_eq : wsC.map (doneN 3 dsC) = toC := by decide
theorem eqv_same {d : Dt} (h : pl d = true) (hd : dpD d ≤ 60) : eqvD d d = some true := by
  rw [eqv_pl h h hd hd]; simp
/-- the numbers of a row -/
def unN : Dt → List Nat
  | .tup xs => xs.filterMap fun d => match d with | .int i => some i.toNat | _ => none
  | _ => []
theorem unN_nT (l : List Nat) : unN (nT l) = l := by
  show (nL l).filterMap _ = l
  unfold nL
  rw [List.filterMap_map]
  simp [Function.comp_def]
section
variable {C : Cl}
theorem ev_callE1 {f : Nat} {x : Ex} {e e1 : En} {o : Ow1} {r : Ow} (h : ev C x e = .ok (.p o) e1) (hm : C.md f = [.sh]) (hf : C.fn f [.p (.imm o.dt)] = .ret r [none]) : ev C (.call f (.cons (.e x) .nil)) e = .ok r e1 := ev_callE h hm hf
theorem law_c (F : LawFn C) (m2 : C.md 2 = [.sh, .sh]) (m3 : C.md 3 = [.sh]) (m4 : C.md 4 = [.sh]) (m7 : C.md 7 = [.sh]) {ns : List Int}
    (f2 : ∀ w, (∀ l ∈ w, l < dsC.length) → C.fn 2 [.p (.imm (bookD 3 dsC)), .p (.imm (nT w))] = .ret (im (nT (doneN 3 dsC w))) [none, none])
    (f3 : C.fn 3 [.p (.imm (nT [0, 2, 0]))] = .ret (im (nT [0])) [none])
    (f4 : C.fn 4 [.p (.imm (nT [1, 1, 0]))] = .ret (im (nT [0, 1])) [none])
    (f7 : ∃ s, Src s ∧ C.fn 7 [.p (.imm (.scr ns))] = .ret s [none]) :
    runFn C WF flaw [.p (.imm (.scr ns))] = .ret (im (.bl true)) [none] := by
  obtain ⟨s, hs, h7⟩ := f7
  have st1 : ex C WF (.asg 1 (.call 7 (.cons (.v 0) .nil))) [some (im (.scr ns)), none, none, none, none, none, none, none, none, none, none] = .ok .nx [some (im (.scr ns)), some s, none, none, none, none, none, none, none, none, none] := by
    refine ex_asgP (o := s) ?_ rfl
    simp only [ev, evo, evp, gE0, m7, args, backs, List.set_cons_zero, Ow1.dt, h7]
  obtain ⟨e2, hl, s2, x2, x3, x4, x5, x6, x7, hs2, rfl⟩ := laps_run F (a := some (im (.scr ns))) (rngD 0 12) [some (im (.scr ns)), some s, none, none, none, none, none, none, none, none, none] ⟨s, none, none, none, none, none, none, hs, rfl⟩
  have st2 : ex C WF (.fors (.nm 2) (.rng1 (.cst (.int 12))) lapB) [some (im (.scr ns)), some s, none, none, none, none, none, none, none, none, none] = .ok .nx [some (im (.scr ns)), some s2, x2, x3, x4, x5, x6, x7, none, none, none] := by
    rw [ex_for (ds := rngD 0 12) (e1 := [some (im (.scr ns)), some s, none, none, none, none, none, none, none, none, none]) (by simp only [evi, ev]; rfl) rfl, hl]
    rfl
  have c3 : ∀ e : En, ev C (.tup (.cons (.cst (.int 3)) (.cons (.tup (.cons (.tup (.cons (.cst (.int 1)) (.cons (.cst (.int 2)) (.cons (.cst (.int 0)) .nil)))) (.cons (.tup (.cons (.cst (.int 0)) (.cons (.cst (.int 0)) (.cons (.cst (.int 2)) .nil)))) .nil))) .nil))) e = .ok (im (bookD 3 dsC)) e := fun e => by
    simp only [ev, evs, Ow.dt?, Ow1.dt]; rfl
  have c4 : ∀ e : En, ev C (.lst (.cons (.tup .nil) (.cons (.tup (.cons (.cst (.int 0)) (.cons (.cst (.int 1)) .nil))) (.cons (.tup (.cons (.cst (.int 1)) (.cons (.cst (.int 0)) .nil))) (.cons (.tup (.cons (.cst (.int 0)) (.cons (.cst (.int 0)) (.cons (.cst (.int 0)) .nil)))) .nil))))) e = .ok (.p (.lst (wsC.map nT))) e := fun e => by
    simp only [ev, evs, Ow.dt?, Ow1.dt]; rfl
  have c5 : ev C (.lc (.call 2 (.cons (.v 8) (.cons (.v 10) .nil))) (.nm 10) (.op (.e (.lst (.cons (.tup .nil) (.cons (.tup (.cons (.cst (.int 0)) (.cons (.cst (.int 1)) .nil))) (.cons (.tup (.cons (.cst (.int 1)) (.cons (.cst (.int 0)) .nil))) (.cons (.tup (.cons (.cst (.int 0)) (.cons (.cst (.int 0)) (.cons (.cst (.int 0)) .nil)))) .nil))))))) .nil [10]) [some (im (.scr ns)), some s2, x2, x3, x4, x5, x6, x7, some (im (bookD 3 dsC)), none, none]
      = .ok (.p (.lst (toC.map nT))) [some (im (.scr ns)), some s2, x2, x3, x4, x5, x6, x7, some (im (bookD 3 dsC)), none, none] := by
    have e : toC.map nT = (wsC.map nT).filterMap fun d => some (nT (doneN 3 dsC (unN d))) := by
      rw [← toC_eq, List.filterMap_map, List.map_map]
      simp [Function.comp_def, unN_nT]
    rw [e]
    refine lc_pure _ (by rw [evi, evp, c4]; rfl) rfl rfl (by rw [szl]; decide) fun d hd => ?_
    obtain ⟨w, hw, rfl⟩ := List.mem_map.mp hd
    refine ⟨[some (im (.scr ns)), some s2, x2, x3, x4, x5, x6, x7, some (im (bookD 3 dsC)), none, some (im (nT w))], ?_, rfl⟩
    have c : ev C (.call 2 (.cons (.v 8) (.cons (.v 10) .nil))) [some (im (.scr ns)), some s2, x2, x3, x4, x5, x6, x7, some (im (bookD 3 dsC)), none, some (im (nT w))] = .ok (im (nT (doneN 3 dsC w))) [some (im (.scr ns)), some s2, x2, x3, x4, x5, x6, x7, some (im (bookD 3 dsC)), none, some (im (nT w))] := by
      simp only [ev, evo, evp, gE8, gE10, m2, args, backs, List.set_cons_zero, List.set_cons_succ, Ow1.dt, f2 w (wsC_lt w hw)]
    rw [unN_nT]
    simp only [stepLc, tgSet, wipeE, List.set_cons_zero, List.set_cons_succ, evf, c, Ow.dt?, Ow1.dt]
  have pT : pl (.lst (toC.map nT)) = true := by decide
  have eT : eqvD (.lst (toC.map nT)) (.lst (toC.map nT)) = some true := eqv_same pT (by decide)
  have pU : pl (.lst [nT [0], nT [0, 1]]) = true := by decide
  have eU : eqvD (.lst [nT [0], nT [0, 1]]) (.lst [nT [0], nT [0, 1]]) = some true := eqv_same pU (by decide)
  let E : En := [some (im (.scr ns)), some s2, x2, x3, x4, x5, x6, x7, some (im (bookD 3 dsC)), some (.p (.lst (toC.map nT))), none]
  have d1 : ev C (.lst (.cons (.tup (.cons (.cst (.int 0)) (.cons (.cst (.int 1)) (.cons (.cst (.int 2)) .nil)))) (.cons (.tup (.cons (.cst (.int 0)) (.cons (.cst (.int 2)) (.cons (.cst (.int 0)) .nil)))) (.cons (.tup (.cons (.cst (.int 1)) (.cons (.cst (.int 1)) (.cons (.cst (.int 0)) .nil)))) (.cons (.tup (.cons (.cst (.int 0)) (.cons (.cst (.int 1)) (.cons (.cst (.int 2)) .nil)))) .nil))))) E = .ok (.p (.lst (toC.map nT))) E := by
    simp only [ev, evs, Ow.dt?, Ow1.dt]; rfl
  have i1' : ev C (.pr .ix (.cons (.v 9) (.cons (.e (.cst (.int 1))) .nil))) E = .ok (im (nT [0, 2, 0])) E := ev_prVE gE9 ev_cst gE9 rfl
  have i2' : ev C (.pr .ix (.cons (.v 9) (.cons (.e (.cst (.int 2))) .nil))) E = .ok (im (nT [1, 1, 0])) E := ev_prVE gE9 ev_cst gE9 rfl
  have d2 : ev C (.lst (.cons (.call 3 (.cons (.e (.pr .ix (.cons (.v 9) (.cons (.e (.cst (.int 1))) .nil)))) .nil)) (.cons (.call 4 (.cons (.e (.pr .ix (.cons (.v 9) (.cons (.e (.cst (.int 2))) .nil)))) .nil)) .nil))) E = .ok (.p (.lst [nT [0], nT [0, 1]])) E := by
    rw [ev, evs, ev_callE1 i1' m3 f3]
    dsimp only [Ow.dt?, Ow1.dt]
    rw [evs, ev_callE1 i2' m4 f4]
    simp only [Ow.dt?, Ow1.dt, evs]
    rfl
  have d3 : ev C (.lst (.cons (.tup (.cons (.cst (.int 0)) .nil)) (.cons (.tup (.cons (.cst (.int 0)) (.cons (.cst (.int 1)) .nil))) .nil))) E = .ok (.p (.lst [nT [0], nT [0, 1]])) E := by
    simp only [ev, evs, Ow.dt?, Ow1.dt]; rfl
  have last := ev_landT (C := C) (ev_prVE (q := .eq) (e := E) gE9 d1 gE9 (r := .imm (.bl true)) (by show Pr.sem .eq [.lst (toC.map nT), .lst (toC.map nT)] = _; simp only [Pr.sem, eT, i1])) (ev_pr2 (q := .eq) d2 d3 (r := .imm (.bl true)) (by show Pr.sem .eq [.lst [nT [0], nT [0, 1]], .lst [nT [0], nT [0, 1]]] = _; simp only [Pr.sem, eU, i1]))
  refine runFn_of rfl rfl (exs_next st1 (exs_next st2 (exs_next (ex_asg (c3 _)) (exs_next (ex_asg c5) (exs_last (ex_ret last)))))) rfl
end
theorem law_true (ns : List Int) (hz : ns.length ≤ 63) : run T 100000 40 16 [im (.scr ns)] = .ret (im (.bl true)) [none] := by
  show (CC 40).fn 16 [.p (.imm (.scr ns))] = _
  rw [R_at (n := 39) (g := flaw) rfl]
  refine law_c ⟨pick_CC 38, bes_CC 35, wrd_CC 35, md13, fun d hN hd => right_run 36 hd hN⟩ md2 md3 md4 md7 (fun w hw => done_run 37 okC hw) (held_run 38 (by decide)) (reach_run 38 (by decide)) ?_
  obtain ⟨s, h1, h2⟩ := source_run (C := CC 38) hz
  refine ⟨s, h1, ?_⟩
  rw [R_at (n := 38) (g := f_law_source) rfl]
  exact h2
end Pd
set_option Elab.async false
set_option linter.all false
set_option maxRecDepth 100000
set_option maxHeartbeats 4000000
namespace Pd
open PySem PySem.Spec PyProof.Rows L2
inductive FnsOk (K : PySem.W.Frag) (mg : Str → Option Value) : List Df → Prop
  | nil : FnsOk K mg []
  | cons {d : Df} {r : List Df} : (∃ a fd, mg d.nm = some (.ref a) ∧ Fun K d.nm d.nm d.st a fd ∧ Binds K fd d.ps []) → FnsOk K mg r → FnsOk K mg (d :: r)
theorem FnsOk.get {K : PySem.W.Frag} {mg : Str → Option Value} : ∀ {dfs : List Df}, FnsOk K mg dfs → ∀ (f : Nat) (d : Df), dfs[f]? = some d → ∃ a fd, mg d.nm = some (.ref a) ∧ Fun K d.nm d.nm d.st a fd ∧ Binds K fd d.ps []
  | _, .nil, f, d, h => by simp at h
  | _, .cons h _, 0, d, e => by simp at e; subst e; exact h
  | _, .cons _ t, f + 1, d, e => t.get f d (by simpa using e)
def xv0 : Xv := fun _ _ _ _ _ _ => False
def spLaw (K : PySem.W.Frag) : Sp := spF K xv0 1 (run T 100000 40 16)
theorem all_mk {P : Program} {w : World} {K : PySem.W.Frag} {h : Heap} {mg : Str → Option Value} {fa q0 q1 q2 q3 q4 q5 q6 q7 q8 q9 q10 q11 q12 q13 q14 q15 q16 : Addr} (X : K.In h) (G : h.Ns mainGlobals mg) (hfa : mg "law" = some (.ref fa))
    {u0 v0 : Option Addr} {s0 : Array (Option Value)} {o0 k0 c0 p0 d0 t0 : Value}
    (a0 : PySem.W.nsIn K mainGlobals "idle" = some (some (.ref q0))) (l0 : K.lookup q0 = some ⟨o0, u0, .func (PySem.W.fnOf "idle" "idle" (defArgs (topS 1)) (defBody (topS 1)) (defScope (topS 1)) .none k0 c0 p0 v0 d0 t0), s0⟩) (e0 : PySem.W.codeIn K d0 "idle" = true) (f0 : PySem.W.keepIn K (.ref q0) = true)
    {u1 v1 : Option Addr} {s1 : Array (Option Value)} {o1 k1 c1 p1 d1 t1 : Value}
    (a1 : PySem.W.nsIn K mainGlobals "product" = some (some (.ref q1))) (l1 : K.lookup q1 = some ⟨o1, u1, .func (PySem.W.fnOf "product" "product" (defArgs (topS 2)) (defBody (topS 2)) (defScope (topS 2)) .none k1 c1 p1 v1 d1 t1), s1⟩) (e1 : PySem.W.codeIn K d1 "product" = true) (f1 : PySem.W.keepIn K (.ref q1) = true)
    {u2 v2 : Option Addr} {s2 : Array (Option Value)} {o2 k2 c2 p2 d2 t2 : Value}
    (a2 : PySem.W.nsIn K mainGlobals "done" = some (some (.ref q2))) (l2 : K.lookup q2 = some ⟨o2, u2, .func (PySem.W.fnOf "done" "done" (defArgs (topS 3)) (defBody (topS 3)) (defScope (topS 3)) .none k2 c2 p2 v2 d2 t2), s2⟩) (e2 : PySem.W.codeIn K d2 "done" = true) (f2 : PySem.W.keepIn K (.ref q2) = true)
    {u3 v3 : Option Addr} {s3 : Array (Option Value)} {o3 k3 c3 p3 d3 t3 : Value}
    (a3 : PySem.W.nsIn K mainGlobals "held" = some (some (.ref q3))) (l3 : K.lookup q3 = some ⟨o3, u3, .func (PySem.W.fnOf "held" "held" (defArgs (topS 4)) (defBody (topS 4)) (defScope (topS 4)) .none k3 c3 p3 v3 d3 t3), s3⟩) (e3 : PySem.W.codeIn K d3 "held" = true) (f3 : PySem.W.keepIn K (.ref q3) = true)
    {u4 v4 : Option Addr} {s4 : Array (Option Value)} {o4 k4 c4 p4 d4 t4 : Value}
    (a4 : PySem.W.nsIn K mainGlobals "reach" = some (some (.ref q4))) (l4 : K.lookup q4 = some ⟨o4, u4, .func (PySem.W.fnOf "reach" "reach" (defArgs (topS 5)) (defBody (topS 5)) (defScope (topS 5)) .none k4 c4 p4 v4 d4 t4), s4⟩) (e4 : PySem.W.codeIn K d4 "reach" = true) (f4 : PySem.W.keepIn K (.ref q4) = true)
    {u5 v5 : Option Addr} {s5 : Array (Option Value)} {o5 k5 c5 p5 d5 t5 : Value}
    (a5 : PySem.W.nsIn K mainGlobals "rank" = some (some (.ref q5))) (l5 : K.lookup q5 = some ⟨o5, u5, .func (PySem.W.fnOf "rank" "rank" (defArgs (topS 6)) (defBody (topS 6)) (defScope (topS 6)) .none k5 c5 p5 v5 d5 t5), s5⟩) (e5 : PySem.W.codeIn K d5 "rank" = true) (f5 : PySem.W.keepIn K (.ref q5) = true)
    {u6 v6 : Option Addr} {s6 : Array (Option Value)} {o6 k6 c6 p6 d6 t6 : Value}
    (a6 : PySem.W.nsIn K mainGlobals "is_settled" = some (some (.ref q6))) (l6 : K.lookup q6 = some ⟨o6, u6, .func (PySem.W.fnOf "is_settled" "is_settled" (defArgs (topS 7)) (defBody (topS 7)) (defScope (topS 7)) .none k6 c6 p6 v6 d6 t6), s6⟩) (e6 : PySem.W.codeIn K d6 "is_settled" = true) (f6 : PySem.W.keepIn K (.ref q6) = true)
    {u7 v7 : Option Addr} {s7 : Array (Option Value)} {o7 k7 c7 p7 d7 t7 : Value}
    (a7 : PySem.W.nsIn K mainGlobals "_law_source" = some (some (.ref q7))) (l7 : K.lookup q7 = some ⟨o7, u7, .func (PySem.W.fnOf "_law_source" "_law_source" (defArgs (topS 9)) (defBody (topS 9)) (defScope (topS 9)) .none k7 c7 p7 v7 d7 t7), s7⟩) (e7 : PySem.W.codeIn K d7 "_law_source" = true) (f7 : PySem.W.keepIn K (.ref q7) = true)
    {u8 v8 : Option Addr} {s8 : Array (Option Value)} {o8 k8 c8 p8 d8 t8 : Value}
    (a8 : PySem.W.nsIn K mainGlobals "_law_pick" = some (some (.ref q8))) (l8 : K.lookup q8 = some ⟨o8, u8, .func (PySem.W.fnOf "_law_pick" "_law_pick" (defArgs (topS 10)) (defBody (topS 10)) (defScope (topS 10)) .none k8 c8 p8 v8 d8 t8), s8⟩) (e8 : PySem.W.codeIn K d8 "_law_pick" = true) (f8 : PySem.W.keepIn K (.ref q8) = true)
    {u9 v9 : Option Addr} {s9 : Array (Option Value)} {o9 k9 c9 p9 d9 t9 : Value}
    (a9 : PySem.W.nsIn K mainGlobals "_law_of" = some (some (.ref q9))) (l9 : K.lookup q9 = some ⟨o9, u9, .func (PySem.W.fnOf "_law_of" "_law_of" (defArgs (topS 11)) (defBody (topS 11)) (defScope (topS 11)) .none k9 c9 p9 v9 d9 t9), s9⟩) (e9 : PySem.W.codeIn K d9 "_law_of" = true) (f9 : PySem.W.keepIn K (.ref q9) = true)
    {u10 v10 : Option Addr} {s10 : Array (Option Value)} {o10 k10 c10 p10 d10 t10 : Value}
    (a10 : PySem.W.nsIn K mainGlobals "_law_mixed" = some (some (.ref q10))) (l10 : K.lookup q10 = some ⟨o10, u10, .func (PySem.W.fnOf "_law_mixed" "_law_mixed" (defArgs (topS 12)) (defBody (topS 12)) (defScope (topS 12)) .none k10 c10 p10 v10 d10 t10), s10⟩) (e10 : PySem.W.codeIn K d10 "_law_mixed" = true) (f10 : PySem.W.keepIn K (.ref q10) = true)
    {u11 v11 : Option Addr} {s11 : Array (Option Value)} {o11 k11 c11 p11 d11 t11 : Value}
    (a11 : PySem.W.nsIn K mainGlobals "_law_deed" = some (some (.ref q11))) (l11 : K.lookup q11 = some ⟨o11, u11, .func (PySem.W.fnOf "_law_deed" "_law_deed" (defArgs (topS 13)) (defBody (topS 13)) (defScope (topS 13)) .none k11 c11 p11 v11 d11 t11), s11⟩) (e11 : PySem.W.codeIn K d11 "_law_deed" = true) (f11 : PySem.W.keepIn K (.ref q11) = true)
    {u12 v12 : Option Addr} {s12 : Array (Option Value)} {o12 k12 c12 p12 d12 t12 : Value}
    (a12 : PySem.W.nsIn K mainGlobals "_law_led" = some (some (.ref q12))) (l12 : K.lookup q12 = some ⟨o12, u12, .func (PySem.W.fnOf "_law_led" "_law_led" (defArgs (topS 14)) (defBody (topS 14)) (defScope (topS 14)) .none k12 c12 p12 v12 d12 t12), s12⟩) (e12 : PySem.W.codeIn K d12 "_law_led" = true) (f12 : PySem.W.keepIn K (.ref q12) = true)
    {u13 v13 : Option Addr} {s13 : Array (Option Value)} {o13 k13 c13 p13 d13 t13 : Value}
    (a13 : PySem.W.nsIn K mainGlobals "_law_deed_right" = some (some (.ref q13))) (l13 : K.lookup q13 = some ⟨o13, u13, .func (PySem.W.fnOf "_law_deed_right" "_law_deed_right" (defArgs (topS 15)) (defBody (topS 15)) (defScope (topS 15)) .none k13 c13 p13 v13 d13 t13), s13⟩) (e13 : PySem.W.codeIn K d13 "_law_deed_right" = true) (f13 : PySem.W.keepIn K (.ref q13) = true)
    {u14 v14 : Option Addr} {s14 : Array (Option Value)} {o14 k14 c14 p14 d14 t14 : Value}
    (a14 : PySem.W.nsIn K mainGlobals "_law_words_right" = some (some (.ref q14))) (l14 : K.lookup q14 = some ⟨o14, u14, .func (PySem.W.fnOf "_law_words_right" "_law_words_right" (defArgs (topS 16)) (defBody (topS 16)) (defScope (topS 16)) .none k14 c14 p14 v14 d14 t14), s14⟩) (e14 : PySem.W.codeIn K d14 "_law_words_right" = true) (f14 : PySem.W.keepIn K (.ref q14) = true)
    {u15 v15 : Option Addr} {s15 : Array (Option Value)} {o15 k15 c15 p15 d15 t15 : Value}
    (a15 : PySem.W.nsIn K mainGlobals "_law_beside" = some (some (.ref q15))) (l15 : K.lookup q15 = some ⟨o15, u15, .func (PySem.W.fnOf "_law_beside" "_law_beside" (defArgs (topS 17)) (defBody (topS 17)) (defScope (topS 17)) .none k15 c15 p15 v15 d15 t15), s15⟩) (e15 : PySem.W.codeIn K d15 "_law_beside" = true) (f15 : PySem.W.keepIn K (.ref q15) = true)
    {u16 v16 : Option Addr} {s16 : Array (Option Value)} {o16 k16 c16 p16 d16 t16 : Value}
    (a16 : PySem.W.nsIn K mainGlobals "law" = some (some (.ref q16))) (l16 : K.lookup q16 = some ⟨o16, u16, .func (PySem.W.fnOf "law" "law" (defArgs (topS 18)) (defBody (topS 18)) (defScope (topS 18)) .none k16 c16 p16 v16 d16 t16), s16⟩) (e16 : PySem.W.codeIn K d16 "law" = true) (f16 : PySem.W.keepIn K (.ref q16) = true)
    (z_len : PySem.W.nsIn K mainGlobals "len" = some none)
    (z_abs : PySem.W.nsIn K mainGlobals "abs" = some none)
    (z_max : PySem.W.nsIn K mainGlobals "max" = some none)
    (z_min : PySem.W.nsIn K mainGlobals "min" = some none)
    (z_int : PySem.W.nsIn K mainGlobals "int" = some none)
    (z_str : PySem.W.nsIn K mainGlobals "str" = some none)
    (z_repr : PySem.W.nsIn K mainGlobals "repr" = some none)
    (z_tuple : PySem.W.nsIn K mainGlobals "tuple" = some none)
    (z_list : PySem.W.nsIn K mainGlobals "list" = some none)
    (z_sorted : PySem.W.nsIn K mainGlobals "sorted" = some none)
    (z_sum : PySem.W.nsIn K mainGlobals "sum" = some none)
    (z_any : PySem.W.nsIn K mainGlobals "any" = some none)
    (z_all : PySem.W.nsIn K mainGlobals "all" = some none)
    (z_range : PySem.W.nsIn K mainGlobals "range" = some none)
    (z_enumerate : PySem.W.nsIn K mainGlobals "enumerate" = some none)
    (z_zip : PySem.W.nsIn K mainGlobals "zip" = some none)
    : ∃ fd : FuncData, (∀ (s : Shared) (v : Value), BindsTo s fd ⟨[v], []⟩ [("script", v)]) ∧ ∀ base : Heap, FnG P w K mg base 40 fa fd ["script"] (spLaw K) := by
  have e := hfa.symm.trans (PySem.W.mg_of X G a16)
  cases e
  have F0 := fun_mk (st := topS 1) l0 e0 f0
  have B0 := F0.binds (ps := ["n"]) fun _ _ _ _ _ _ us hl => match us, hl with | [_], _ => rfl
  have F1 := fun_mk (st := topS 2) l1 e1 f1
  have B1 := F1.binds (ps := ["deed", "other"]) fun _ _ _ _ _ _ us hl => match us, hl with | [_, _], _ => rfl
  have F2 := fun_mk (st := topS 3) l2 e2 f2
  have B2 := F2.binds (ps := ["book", "word"]) fun _ _ _ _ _ _ us hl => match us, hl with | [_, _], _ => rfl
  have F3 := fun_mk (st := topS 4) l3 e3 f3
  have B3 := F3.binds (ps := ["deed"]) fun _ _ _ _ _ _ us hl => match us, hl with | [_], _ => rfl
  have F4 := fun_mk (st := topS 5) l4 e4 f4
  have B4 := F4.binds (ps := ["deed"]) fun _ _ _ _ _ _ us hl => match us, hl with | [_], _ => rfl
  have F5 := fun_mk (st := topS 6) l5 e5 f5
  have B5 := F5.binds (ps := ["deed"]) fun _ _ _ _ _ _ us hl => match us, hl with | [_], _ => rfl
  have F6 := fun_mk (st := topS 7) l6 e6 f6
  have B6 := F6.binds (ps := ["deed"]) fun _ _ _ _ _ _ us hl => match us, hl with | [_], _ => rfl
  have F7 := fun_mk (st := topS 9) l7 e7 f7
  have B7 := F7.binds (ps := ["script"]) fun _ _ _ _ _ _ us hl => match us, hl with | [_], _ => rfl
  have F8 := fun_mk (st := topS 10) l8 e8 f8
  have B8 := F8.binds (ps := ["source", "many"]) fun _ _ _ _ _ _ us hl => match us, hl with | [_, _], _ => rfl
  have F9 := fun_mk (st := topS 11) l9 e9 f9
  have B9 := F9.binds (ps := ["source", "things"]) fun _ _ _ _ _ _ us hl => match us, hl with | [_, _], _ => rfl
  have F10 := fun_mk (st := topS 12) l10 e10 f10
  have B10 := F10.binds (ps := ["source", "things"]) fun _ _ _ _ _ _ us hl => match us, hl with | [_, _], _ => rfl
  have F11 := fun_mk (st := topS 13) l11 e11 f11
  have B11 := F11.binds (ps := ["source", "n", "way"]) fun _ _ _ _ _ _ us hl => match us, hl with | [_, _, _], _ => rfl
  have F12 := fun_mk (st := topS 14) l12 e12 f12
  have B12 := F12.binds (ps := ["book", "word", "place"]) fun _ _ _ _ _ _ us hl => match us, hl with | [_, _, _], _ => rfl
  have F13 := fun_mk (st := topS 15) l13 e13 f13
  have B13 := F13.binds (ps := ["deed"]) fun _ _ _ _ _ _ us hl => match us, hl with | [_], _ => rfl
  have F14 := fun_mk (st := topS 16) l14 e14 f14
  have B14 := F14.binds (ps := ["source", "book", "deed"]) fun _ _ _ _ _ _ us hl => match us, hl with | [_, _, _], _ => rfl
  have F15 := fun_mk (st := topS 17) l15 e15 f15
  have B15 := F15.binds (ps := ["source", "n", "m"]) fun _ _ _ _ _ _ us hl => match us, hl with | [_, _, _], _ => rfl
  have F16 := fun_mk (st := topS 18) l16 e16 f16
  have B16 := F16.binds (ps := ["script"]) fun _ _ _ _ _ _ us hl => match us, hl with | [_], _ => rfl
  have fns : FnsOk K mg dfs := .cons ⟨_, _, PySem.W.mg_of X G a0, F0, B0⟩ (.cons ⟨_, _, PySem.W.mg_of X G a1, F1, B1⟩ (.cons ⟨_, _, PySem.W.mg_of X G a2, F2, B2⟩ (.cons ⟨_, _, PySem.W.mg_of X G a3, F3, B3⟩ (.cons ⟨_, _, PySem.W.mg_of X G a4, F4, B4⟩ (.cons ⟨_, _, PySem.W.mg_of X G a5, F5, B5⟩ (.cons ⟨_, _, PySem.W.mg_of X G a6, F6, B6⟩ (.cons ⟨_, _, PySem.W.mg_of X G a7, F7, B7⟩ (.cons ⟨_, _, PySem.W.mg_of X G a8, F8, B8⟩ (.cons ⟨_, _, PySem.W.mg_of X G a9, F9, B9⟩ (.cons ⟨_, _, PySem.W.mg_of X G a10, F10, B10⟩ (.cons ⟨_, _, PySem.W.mg_of X G a11, F11, B11⟩ (.cons ⟨_, _, PySem.W.mg_of X G a12, F12, B12⟩ (.cons ⟨_, _, PySem.W.mg_of X G a13, F13, B13⟩ (.cons ⟨_, _, PySem.W.mg_of X G a14, F14, B14⟩ (.cons ⟨_, _, PySem.W.mg_of X G a15, F15, B15⟩ (.cons ⟨_, _, PySem.W.mg_of X G a16, F16, B16⟩ (.nil)))))))))))))))))
  have pf : PF K mg dfs [] := ⟨fns.get, fun b => by cases b <;> first | exact PySem.W.mg_none_of X G z_len | exact PySem.W.mg_none_of X G z_abs | exact PySem.W.mg_none_of X G z_max | exact PySem.W.mg_none_of X G z_min | exact PySem.W.mg_none_of X G z_int | exact PySem.W.mg_none_of X G z_str | exact PySem.W.mg_none_of X G z_repr | exact PySem.W.mg_none_of X G z_tuple | exact PySem.W.mg_none_of X G z_list | exact PySem.W.mg_none_of X G z_sorted | exact PySem.W.mg_none_of X G z_sum | exact PySem.W.mg_none_of X G z_any | exact PySem.W.mg_none_of X G z_all | exact PySem.W.mg_none_of X G z_range | exact PySem.W.mg_none_of X G z_enumerate | exact PySem.W.mg_none_of X G z_zip, fun x d e => by cases e⟩
  exact ⟨_, fun s v => .of_eq rfl, fun base => prog_fn pf T_read T_ok 40 16 _ _ _ rfl (PySem.W.mg_of X G a16) F16 B16⟩
end Pd
open PySem PySem.W PyProof.Rows
set_option maxRecDepth 100000 in
set_option maxHeartbeats 0 in
theorem PySem.Challenge.cw_drawndeeds_k02_whole_deeds_done_holds : PySem.Challenge.rw_drawndeeds_k02_whole_deeds_done.Holds := by
  w_on; o_law; k_head; (case hw => w_witness2)
  k_fill
  refine Pd.walk_G (l := PySem.Challenge.rw_drawndeeds_k02_whole_deeds_done) (n := 63) (k := 40) (x := "script") (sp := fun w => Pd.spLaw _) rfl (by decide) rfl (Pd.room_top (by decide)) (fun w h Y => PySem.W.kIn_of Y) ?F (fun w H a ns hl hO hS => Pd.law_sp hS ⟨_, Pd.law_true ns hl⟩)
  case F =>
    intro w mg fa h KX G hmg
    refine' Pd.all_mk KX G hmg ?a0 ?l0 ?e0 ?f0 ?a1 ?l1 ?e1 ?f1 ?a2 ?l2 ?e2 ?f2 ?a3 ?l3 ?e3 ?f3 ?a4 ?l4 ?e4 ?f4 ?a5 ?l5 ?e5 ?f5 ?a6 ?l6 ?e6 ?f6 ?a7 ?l7 ?e7 ?f7 ?a8 ?l8 ?e8 ?f8 ?a9 ?l9 ?e9 ?f9 ?a10 ?l10 ?e10 ?f10 ?a11 ?l11 ?e11 ?f11 ?a12 ?l12 ?e12 ?f12 ?a13 ?l13 ?e13 ?f13 ?a14 ?l14 ?e14 ?f14 ?a15 ?l15 ?e15 ?f15 ?a16 ?l16 ?e16 ?f16 ?z_len ?z_abs ?z_max ?z_min ?z_int ?z_str ?z_repr ?z_tuple ?z_list ?z_sorted ?z_sum ?z_any ?z_all ?z_range ?z_enumerate ?z_zip
    (case a0 => k_is); (case l0 => k_is); (case e0 => k_is); (case f0 => k_is); (case a1 => k_is); (case l1 => k_is); (case e1 => k_is); (case f1 => k_is); (case a2 => k_is); (case l2 => k_is); (case e2 => k_is); (case f2 => k_is); (case a3 => k_is); (case l3 => k_is); (case e3 => k_is); (case f3 => k_is); (case a4 => k_is); (case l4 => k_is); (case e4 => k_is); (case f4 => k_is); (case a5 => k_is); (case l5 => k_is); (case e5 => k_is); (case f5 => k_is); (case a6 => k_is); (case l6 => k_is); (case e6 => k_is); (case f6 => k_is); (case a7 => k_is); (case l7 => k_is); (case e7 => k_is); (case f7 => k_is); (case a8 => k_is); (case l8 => k_is); (case e8 => k_is); (case f8 => k_is); (case a9 => k_is); (case l9 => k_is); (case e9 => k_is); (case f9 => k_is); (case a10 => k_is); (case l10 => k_is); (case e10 => k_is); (case f10 => k_is); (case a11 => k_is); (case l11 => k_is); (case e11 => k_is); (case f11 => k_is); (case a12 => k_is); (case l12 => k_is); (case e12 => k_is); (case f12 => k_is); (case a13 => k_is); (case l13 => k_is); (case e13 => k_is); (case f13 => k_is); (case a14 => k_is); (case l14 => k_is); (case e14 => k_is); (case f14 => k_is); (case a15 => k_is); (case l15 => k_is); (case e15 => k_is); (case f15 => k_is); (case a16 => k_is); (case l16 => k_is); (case e16 => k_is); (case f16 => k_is); (case z_len => k_is); (case z_abs => k_is); (case z_max => k_is); (case z_min => k_is); (case z_int => k_is); (case z_str => k_is); (case z_repr => k_is); (case z_tuple => k_is); (case z_list => k_is); (case z_sorted => k_is); (case z_sum => k_is); (case z_any => k_is); (case z_all => k_is); (case z_range => k_is); (case z_enumerate => k_is); (case z_zip => k_is)
