import PyProof.Rows.All
import Wide.All
import OpenK.AllK
import Wide.FinOn
import KE.SortData
import KE.DataMinMax
import KE.DataAny
import KE.DataFind
import HandS.ForMost
import KE.GoesEnum
import PyProof.EnumMake
import HandS.Base
import HandS.Call
import HandS.List
import HandS.Comp
import HandS.Dict
import HandS.Iter
import HandS.Walk
import HandS.TupAny
import HandS.Style
import KE.KRevSl
import HandS.Zip
import KE.GoesZip
import KE.GoesMore
import HandS.SetKeys
import HandS.Deep
import HandS.TupMul
import HandS.TupLe
import HandS.Flow
import HandS.Defaults
import HandS.Conv
import PyProof.SeqIndex
import KE.KIndexOf
import HandS.IsInst
import HandS.HeadEnd
import HandS.Head0
import HandS.Head1
import HandS.Head2
import HandS.HeadHook1
import HandS.HeadHook2
import PyProof.ReprBulk
import KE.KStateDown
import HandS.More
import HandS.Words
import HandS.WordsExc
import PySem.Challenge.RW_passedtwice_k55_whole_loops_of_words
set_option Elab.async false
set_option linter.all false
set_option maxRecDepth 100000
set_option maxHeartbeats 0
section
/-! Mi: a small evaluator for the part of Python that the program and its laws use: values are data, lists in one hand alone may be changed. -/
namespace Mi
open PySem

/-- what a name may hold -/
inductive D where
  | py (p : PyData) | dct (kvs : List (L2.Key × PyData)) | set (xs : List PyData) | scr (ns : List Int)

/-- a slot of a frame: empty; a value that nobody changes; a list in this hand alone; one lent by the caller -/
inductive Sl where
  | no | fr (d : D) | ow (d : D) | bo (d : D)
abbrev En := List Sl
/-- what an expression hands on: a value that nobody changes; one just made; what stands in a slot -/
inductive Od where
  | va (d : D) | fe (d : D) | pk (i : Nat)

inductive O2 where
  | add | sub | mul | fdiv | mod | pow
inductive Cm where
  | eq | ne | lt | le | gt | ge | isin | notin | is | isnot
inductive Bi where
  | len | tuple | list | sorted | min | max | sum | any | all | abs | int | bool | str | repr | divmod | dict | set | lrange | trange
inductive Ty where
  | int | bool | str | list | tuple
inductive Me where
  | count | index | get
mutual
inductive Ex where
  | lit (p : PyData) | var (i : Nat) | pk (i : Nat) | glo (x : Str)
  | op (o : O2) (a b : Ex) | neg (a : Ex)
  | cm (o : Cm) (a b : Ex) | cm2 (o o' : Cm) (a b c : Ex)
  | and (a b : Ex) | or (a b : Ex) | nt (a : Ex) | ite (c : T) (a b : Ex)
  | tup (es : Exs) | lst (es : Exs) | dct0
  | ix (a i : Ex) | sl (a : Ex) (lo hi : Pt) | rev (a : Ex)
  | bi (f : Bi) (es : Exs) | isa (a : Ex) (ts : List Ty)
  | cal (f : Str) (perm : List Nat) (es : Exs)
  | me (m : Me) (a : Ex) (es : Exs)
  | pop (i : Nat) (e : Ex)
  | lc (own : List Nat) (tg : List Nat) (one : Bool) (it : I) (c : T) (e : Ex)
  | dc (own : List Nat) (tg : List Nat) (one : Bool) (it : I) (c : T) (k e : Ex)
  | lcf (own : List Nat) (i : Nat) (fs : List (Str × List Nat)) (os : Exs)
  | bad
inductive Exs where
  | nil | cons (e : Ex) (es : Exs)
/-- a part of a slice -/
inductive Pt where
  | no | so (e : Ex)
/-- a test -/
inductive T where
  | v (e : Ex) | and (a b : T) | or (a b : T) | nt (a : T) | ite (c a b : T) | yes
/-- what is walked -/
inductive I where
  | v (e : Ex) | rng (es : Exs) | enu (es : Exs) | zip (es : Exs)
end
mutual
inductive S where
  | asg (i : Nat) (e : Ex) | asgT (is : List Nat) (e : Ex) | par (is : List Nat) (es : Exs)
  | divI (i : Nat) (k : Int) (j : Nat) (e : Ex) | asgTT (is js : List Nat) (e : Ex) | asgSS (i : Nat) (k : Ex) (j : Nat) (l : Ex) (e : Ex)
  | setI (i : Nat) (k e : Ex) | augI (i : Nat) (k : Ex) (e : Ex) | aug (i : Nat) (o : O2) (e : Ex)
  | app (i : Nat) (e : Ex) | ext (i : Nat) (e : Ex) | upd (i : Nat) (e : Ex) | sdf (i : Nat) (k e : Ex)
  | ex (e : Ex) | ret (e : Ex) | retv (i : Nat) | retN | pass | brk | cont | raise
  | ifs (c : T) (a b : Ss) | whl (c : T) (b : Ss) | fr (tg : List Nat) (one : Bool) (it : I) (b : Ss)
inductive Ss where
  | nil | cons (s : S) (ss : Ss)
end
/-- a def: its parameters, how many slots, whether the first parameter is lent, its body -/
structure Fd where
  ps : List Str
  n : Nat
  io : Bool
  body : Ss

/-! ### operations on data -/
def lim : Nat := 1000000
abbrev dp : Nat := 30

def D.tru : D → Option Bool
  | .py (.bool b) => some b
  | .py (.int i) => some (i != 0)
  | .py (.list xs) => some (!xs.isEmpty)
  | .py (.tuple xs) => some (!xs.isEmpty)
  | .py .none => some false
  | .py (.str x) => if x.length ≤ lim then some ((x.length : Int) != 0) else none
  | .scr ns => some (!ns.isEmpty)
  | _ => none
/-- keys of a dict: ints and texts -/
def keyP : PyData → Option L2.Key
  | .int i => some (.inl i)
  | .str x => some (.inr x)
  | _ => none
/-- what a dict holds at a key -/
def getK (kvs : List (L2.Key × PyData)) (k : L2.Key) : Option PyData := (kvs.find? fun q => decide (q.1 = k)).map (·.2)
/-- in its place, or behind all -/
def putKd (kvs : List (L2.Key × PyData)) (k : L2.Key) (p : PyData) : List (L2.Key × PyData) :=
  if (kvs.any fun q => decide (q.1 = k)) = true then kvs.map (fun q => if q.1 = k then (q.1, p) else q) else kvs ++ [(k, p)]
def ofB (b : Bool) : Od := .va (.py (.bool b))
def ofI (i : Int) : Od := .va (.py (.int i))
def okMul (i j : Int) : Bool := decide (i.natAbs < 18446744073709551616) || decide (j.natAbs < 18446744073709551616)
def op2 : O2 → D → D → Option Od
  | .add, .py (.int i), .py (.int j) => some (ofI (i + j))
  | .add, .py (.list xs), .py (.list ys) => if xs.length + ys.length ≤ lim then some (.fe (.py (.list (xs ++ ys)))) else none
  | .add, .py (.tuple xs), .py (.tuple ys) => if xs.length + ys.length ≤ lim then some (.va (.py (.tuple (xs ++ ys)))) else none
  | .sub, .py (.int i), .py (.int j) => some (ofI (i - j))
  | .mul, .py (.int i), .py (.int j) => if okMul i j then some (ofI (i * j)) else none
  | .mul, .py (.list xs), .py (.int j) => if 0 ≤ j ∧ j ≤ 1000 ∧ xs.length ≤ 1000 then some (.fe (.py (.list (List.replicate j.toNat xs).flatten))) else none
  | .fdiv, .py (.int i), .py (.int j) => if 0 < j ∧ j < 1073741824 then some (ofI (i / j)) else none
  | .mod, .py (.int i), .py (.int j) => if 0 < j then some (ofI (i % j)) else none
  | .pow, .py (.int i), .py (.int j) => if 0 ≤ j ∧ j ≤ 1000 ∧ i.natAbs < 1000000 then some (ofI (i ^ j.toNat)) else none
  | _, _, _ => none
def okDp (p : PyData) : Bool := decide (p.depth ≤ dp)
def isNn : PyData → Bool
  | .none => true
  | _ => false
def hasB (x : PyData) (ys : List PyData) : Bool := ys.any fun z => PyData.eqv z x
def cmp : Cm → D → D → Option Bool
  | .eq, .py x, .py y => if okDp x && okDp y then some (PyData.eqv x y) else none
  | .ne, .py x, .py y => if okDp x && okDp y then some (!PyData.eqv x y) else none
  | .lt, .py (.int i), .py (.int j) => some (decide (i < j))
  | .le, .py (.int i), .py (.int j) => some (decide (i ≤ j))
  | .gt, .py (.int i), .py (.int j) => some (decide (j < i))
  | .ge, .py (.int i), .py (.int j) => some (decide (j ≤ i))
  | .isin, .py x, .py (.list ys) => if okDp x then some (hasB x ys) else none
  | .isin, .py x, .py (.tuple ys) => if okDp x then some (hasB x ys) else none
  | .notin, .py x, .py (.list ys) => if okDp x then some (!hasB x ys) else none
  | .notin, .py x, .py (.tuple ys) => if okDp x then some (!hasB x ys) else none
  | .is, .py x, .py .none => some (isNn x)
  | .isnot, .py x, .py .none => some (!isNn x)
  | .is, .py (.bool a), .py (.bool b) => some (decide (a = b))
  | .isnot, .py (.bool a), .py (.bool b) => some (!decide (a = b))
  | .isin, .py x, .dct kvs => (keyP x).map fun k => (getK kvs k).isSome
  | .notin, .py x, .dct kvs => (keyP x).map fun k => !(getK kvs k).isSome
  | _, _, _ => none
/-- the kind of a datum -/
inductive Kd where
  | non | bl | int | str | lst | tup | dct
def kd : PyData → Kd
  | .none => .non
  | .bool _ => .bl
  | .int _ => .int
  | .str _ => .str
  | .list _ => .lst
  | .tuple _ => .tup
  | .dict _ => .dct
def kdTy : Kd → Ty → Bool
  | .int, .int => true
  | .bl, .int => true
  | .bl, .bool => true
  | .str, .str => true
  | .lst, .list => true
  | .tup, .tuple => true
  | _, _ => false
def isTy (p : PyData) (t : Ty) : Bool := kdTy (kd p) t
/-- the place of index i among n items -/
abbrev plc (i : Int) (n : Nat) : Option Nat := L2.ixN n i
def item : D → D → Option D
  | .py (.list xs), .py (.int i) => (L2.ixN xs.length i).bind fun k => (xs[k]?).map .py
  | .py (.tuple xs), .py (.int i) => (L2.ixN xs.length i).bind fun k => (xs[k]?).map .py
  | .scr ns, .py (.int i) => (L2.ixN ns.length i).bind fun k => (ns[k]?).map fun n => .py (.int n)
  | .dct kvs, .py x => (keyP x).bind fun k => (getK kvs k).map .py
  | _, _ => none
/-- xs[lo:hi] -/
def cutP (xs : List PyData) (lo hi : Option Int) : List PyData := (xs.drop (HT.sIx xs.length 0 lo)).take (HT.sIx xs.length xs.length hi - HT.sIx xs.length 0 lo)
def sliceD (d : D) (lo hi : Option Int) : Option Od := match d with
  | .py (.tuple xs) => some (.va (.py (.tuple (cutP xs lo hi))))
  | .py (.list xs) => some (.fe (.py (.list (cutP xs lo hi))))
  | _ => none
def revD : D → Option Od
  | .py (.list xs) => some (.fe (.py (.list xs.reverse)))
  | .py (.tuple xs) => some (.va (.py (.tuple xs.reverse)))
  | _ => none
def alikeB (xs : List PyData) : Bool := xs.all fun x => xs.all fun y => PySem.W.alike x y
def sortB (xs : List PyData) : Bool := (xs.all fun x => match x with | .tuple (_ :: _) => true | _ => false) || (xs.all fun x => match x with | .tuple _ => false | .none => false | _ => true)
def leD (x y : PyData) : Bool := !PySem.W.dataLt y x
def rngL (lo : Int) (n : Nat) : List PyData := (List.range n).map fun (k : Nat) => PyData.int (lo + (k : Int))
def okR (i : Int) : Bool := decide (-1000000 ≤ i) && decide (i ≤ 1000000)
def rngD : List D → Option (List PyData)
  | [.py (.int b)] => if okR b then some (rngL 0 b.toNat) else none
  | [.py (.int a), .py (.int b)] => if okR a && okR b then some (rngL a (b - a).toNat) else none
  | _ => none
def sumI : List PyData → Option Int
  | [] => some 0
  | .int i :: r => (sumI r).map (i + ·)
  | _ => none
def bools : List PyData → Option (List Bool)
  | [] => some []
  | .bool b :: r => (bools r).map (b :: ·)
  | _ => none
def biD : Bi → List D → Option Od
  | .len, [.py (.list xs)] => some (ofI xs.length)
  | .len, [.py (.tuple xs)] => some (ofI xs.length)
  | .len, [.scr ns] => some (ofI ns.length)
  | .len, [.dct kvs] => some (ofI kvs.length)
  | .len, [.py (.str x)] => if x.length ≤ lim then some (ofI x.length) else none
  | .tuple, [.py (.list xs)] => some (.va (.py (.tuple xs)))
  | .tuple, [.py (.tuple xs)] => some (.va (.py (.tuple xs)))
  | .list, [.py (.list xs)] => some (.fe (.py (.list xs)))
  | .list, [.py (.tuple xs)] => some (.fe (.py (.list xs)))
  | .sorted, [.py (.list xs)] => if alikeB xs && sortB xs && okDp (.list xs) && decide (xs.length ≤ lim) then some (.fe (.py (.list (xs.mergeSort leD)))) else none
  | .min, [.py (.list (x :: xs))] => if alikeB (x :: xs) && ((x :: xs).all fun z => !isNn z) && okDp (.list (x :: xs)) then some (.va (.py (PySem.W.minD x xs))) else none
  | .max, [.py (.list (x :: xs))] => if alikeB (x :: xs) && ((x :: xs).all fun z => !isNn z) && okDp (.list (x :: xs)) then some (.va (.py (PySem.W.maxD x xs))) else none
  | .min, [.py (.int i), .py (.int j)] => some (ofI (if j < i then j else i))
  | .max, [.py (.int i), .py (.int j)] => some (ofI (if j > i then j else i))
  | .all, [.py (.list xs)] => (bools xs).map fun bs => ofB (bs.all id)
  | .any, [.py (.list xs)] => (bools xs).map fun bs => ofB (bs.any id)
  | .abs, [.py (.int i)] => some (ofI (if i < 0 then -i else i))
  | .int, [.py (.int i)] => some (ofI i)
  | .int, [.py (.bool b)] => some (ofI (if b then 1 else 0))
  | .divmod, [.py (.int i), .py (.int j)] => if 0 < j ∧ j < 1073741824 then some (.va (.py (.tuple [.int (i / j), .int (i % j)]))) else none
  | .repr, [.py (.bool b)] => some (.va (.py (.str (PyData.bool b).shown)))
  | .repr, [.py (.list xs)] => if okDp (.list xs) && (PyData.list xs).showable && decide ((PyData.list xs).shown.length ≤ lim) then some (.va (.py (.str (PyData.list xs).shown))) else none
  | .repr, [.py (.tuple xs)] => if okDp (.tuple xs) && (PyData.tuple xs).showable && decide ((PyData.tuple xs).shown.length ≤ lim) then some (.va (.py (.str (PyData.tuple xs).shown))) else none
  | .lrange, ds => (rngD ds).map fun xs => .fe (.py (.list xs))
  | .trange, ds => (rngD ds).map fun xs => .va (.py (.tuple xs))
  | _, _ => none
def countD (xs : List PyData) : List D → Option Od
  | [.py x] => if okDp x then some (ofI ((xs.countP fun y => PyData.eqv y x : Nat) : Int)) else none
  | _ => none
def indexD (xs : List PyData) : List D → Option Od
  | [.py x] => if okDp x then (xs.findIdx? fun y => PyData.eqv y x).map fun (k : Nat) => ofI (k : Int) else none
  | [.py x, .py (.int a)] => if okDp x && decide (0 ≤ a) && decide (a ≤ 1000000) then ((xs.drop a.toNat).findIdx? fun y => PyData.eqv y x).map fun (k : Nat) => ofI (a + (k : Int)) else none
  | _ => none
def index1 (xs : List PyData) : List D → Option Od
  | [.py x] => if okDp x then (xs.findIdx? fun y => PyData.eqv y x).map fun (k : Nat) => ofI (k : Int) else none
  | _ => none
def meD : Me → D → List D → Option Od
  | .count, .py (.tuple xs), ds => countD xs ds
  | .count, .py (.list xs), ds => countD xs ds
  | .index, .py (.tuple xs), ds => indexD xs ds
  | .index, .py (.list xs), ds => index1 xs ds
  | _, _, _ => none

def D.tupD : D → Bool
  | .py (.tuple _) => true
  | _ => false
def D.lstD : D → Bool
  | .py (.list _) => true
  | _ => false

/-- the pairs that enumerate gives -/
def enuL : Nat → List PyData → List PyData
  | _, [] => []
  | k, x :: xs => .tuple [.int (k : Int), x] :: enuL (k + 1) xs
def zipL : List PyData → List PyData → List PyData
  | x :: xs, y :: ys => .tuple [x, y] :: zipL xs ys
  | _, _ => []

/-! ### slots -/
def Sl.con : Sl → Option D
  | .no => none
  | .fr d => some d
  | .ow d => some d
  | .bo d => some d
/-- what stands behind an operand now -/
def rd (st : En) : Od → Option D
  | .va d => some d
  | .fe d => some d
  | .pk i => (st[i]?).bind Sl.con
/-- an operand that is kept -/
def Od.val : Od → Option D
  | .va d => some d
  | .fe d => some d
  | .pk _ => none
def D.pyd : D → Option PyData
  | .py p => some p
  | _ => none
/-- what a name comes to hold -/
def Od.slot : Od → Option Sl
  | .va d => some (.fr d)
  | .fe d => some (.ow d)
  | .pk _ => none
def slots : List Od → Option (List Sl)
  | [] => some []
  | o :: os => o.slot.bind fun s => (slots os).map (s :: ·)
def setSl (st : En) : List Nat → List Sl → En
  | i :: is, s :: ss => setSl (st.set i s) is ss
  | _, _ => st
def rds (st : En) : List Od → Option (List D)
  | [] => some []
  | o :: os => (rd st o).bind fun d => (rds st os).map (d :: ·)
def vals : List Od → Option (List D)
  | [] => some []
  | o :: os => o.val.bind fun d => (vals os).map (d :: ·)
def vas : List Od → Option (List D)
  | [] => some []
  | .va d :: os => (vas os).map (d :: ·)
  | _ => none
def pyds : List D → Option (List PyData)
  | [] => some []
  | d :: ds => d.pyd.bind fun p => (pyds ds).map (p :: ·)
/-- a list that may be changed -/
def lstAt (st : En) (i : Nat) : Option (List PyData × (D → Sl)) := match st[i]? with
  | some (.ow (.py (.list xs))) => some (xs, .ow)
  | some (.bo (.py (.list xs))) => some (xs, .bo)
  | _ => none
/-- what may be changed -/
def objAt (st : En) (i : Nat) : Option (D × (D → Sl)) := match st[i]? with
  | some (.ow d) => some (d, .ow)
  | some (.bo d) => some (d, .bo)
  | _ => none
/-- x[k] = p -/
def putO : D → D → PyData → Option D
  | .py (.list xs), .py (.int k), p => (L2.ixN xs.length k).map fun j => .py (.list (xs.set j p))
  | .dct kvs, .py x, p => (keyP x).bind fun k => if kvs.length < lim then some (.dct (putKd kvs k p)) else none
  | _, _, _ => none
/-- x.setdefault(k, p) -/
def sdfO : D → D → PyData → Option D
  | .dct kvs, .py x, p => (keyP x).bind fun k => if kvs.length < lim then some (if (getK kvs k).isSome then .dct kvs else .dct (putKd kvs k p)) else none
  | _, _, _ => none
def D.isDct : D → Bool
  | .dct _ => true
  | _ => false
def wipe (st : En) : List Nat → En
  | [] => st
  | v :: vs => (wipe st vs).set v .no
/-- the outer frame's own slots come back -/
def back (st0 st : En) : List Nat → En
  | [] => st
  | v :: vs => (back st0 st vs).set v (st0.getD v .no)
def calmSl : Sl → Bool
  | .no => true
  | .fr _ => true
  | _ => false
/-- the targets of a loop take a value -/
def bindT (tg : List Nat) (one : Bool) (p : PyData) (st : En) : Option En :=
  if one then (match tg with | [i] => some (st.set i (.fr (.py p))) | _ => none)
  else (match p with
    | .tuple xs => if xs.length = tg.length then some ((tg.zip xs).foldl (fun s q => s.set q.1 (.fr (.py q.2))) st) else none
    | .list xs => if xs.length = tg.length then some ((tg.zip xs).foldl (fun s q => s.set q.1 (.fr (.py q.2))) st) else none
    | _ => none)

def Exs.app : Exs → Exs → Exs
  | .nil, b => b
  | .cons e es, b => .cons e (es.app b)
/-! ### the evaluator -/
structure Ct where
  call : Str → List D → Option (D × Bool × D)
  io : Str → Bool
  glo : Str → Option PyData
  fuel : Nat

/-- a loop of a comprehension -/
def lcL (f : PyData → List PyData → En → Option (List PyData × En)) : List PyData → List PyData → En → Option (List PyData × En)
  | [], acc, st => some (acc, st)
  | x :: xs, acc, st => (f x acc st).bind fun r => lcL f xs r.1 r.2
/-- a comprehension that calls defs in turn -/
def fcL (ev : En → Option (List Od × En)) (ca : Str → List Nat → List Od → En → Option (Od × En)) (own : List Nat) : List (Str × List Nat) → List PyData → En → Option (List PyData × En)
  | [], acc, s => some (acc, s)
  | f :: fs, acc, s => (ev s).bind fun q => (ca f.1 f.2 q.1 q.2).bind fun qe => qe.1.val.bind fun d => d.pyd.bind fun p => if acc.length < lim then fcL ev ca own fs (acc ++ [p]) (wipe qe.2 own) else none
inductive Out where
  | nx | brk | cont | rt (d : D) (fe : Bool)
def frL (f : PyData → En → Option (Out × En)) : List PyData → En → Option (Out × En)
  | [], st => some (.nx, st)
  | x :: xs, st => (f x st).bind fun r => match r.1 with
    | .nx => frL f xs r.2
    | .cont => frL f xs r.2
    | .brk => some (.nx, r.2)
    | .rt d b => some (.rt d b, r.2)
def whL (c : En → Option (Bool × En)) (f : En → Option (Out × En)) : Nat → En → Option (Out × En)
  | 0, _ => none
  | n + 1, st => (c st).bind fun q => if q.1 then (f q.2).bind fun r => match r.1 with
      | .nx => whL c f n r.2
      | .cont => whL c f n r.2
      | .brk => some (.nx, r.2)
      | .rt d b => some (.rt d b, r.2)
    else some (.nx, q.2)
/-- the call of a def of the text: the operands behind one another, perm: which of them each parameter takes -/
def callE (C : Ct) (f : Str) (perm : List Nat) (os : List Od) (st : En) : Option (Od × En) :=
  let os' := perm.map fun j => os.getD j (.pk 0)
  if C.io f then (match os' with
    | .pk i :: r => (match st[i]? with
      | some (.ow d) => (vals r).bind fun ds => (C.call f (d :: ds)).map fun q => (if q.2.1 then .fe q.1 else .va q.1, st.set i (.ow q.2.2))
      | some (.bo d) => (vals r).bind fun ds => (C.call f (d :: ds)).map fun q => (if q.2.1 then .fe q.1 else .va q.1, st.set i (.bo q.2.2))
      | _ => none)
    | .fe d :: r => (vas r).bind fun ds => (C.call f (d :: ds)).map fun q => (if q.2.1 then .fe q.1 else .va q.1, st)
    | _ => none)
  else (vals os').bind fun ds => (C.call f ds).map fun q => (if q.2.1 then .fe q.1 else .va q.1, st)
mutual
def evE (C : Ct) : Ex → En → Option (Od × En)
  | .lit p, st => some (.va (.py p), st)
  | .var i, st => (match st[i]? with
    | some (.fr d) => some (.va d, st)
    | some (.ow d) => some (.va d, st.set i (.fr d))
    | _ => none)
  | .pk i, st => (match st[i]? with
    | some .no => none
    | some _ => some (.pk i, st)
    | none => none)
  | .glo x, st => (C.glo x).map fun p => (.va (.py p), st)
  | .op o a b, st => (evE C a st).bind fun qa => (evE C b qa.2).bind fun qb => (rd qb.2 qa.1).bind fun x => (rd qb.2 qb.1).bind fun y => (op2 o x y).map fun z => (z, qb.2)
  | .neg a, st => (evE C a st).bind fun qa => (match rd qa.2 qa.1 with
    | some (.py (.int i)) => some (ofI (-i), qa.2)
    | _ => none)
  | .cm o a b, st => (evE C a st).bind fun qa => (evE C b qa.2).bind fun qb => (rd qb.2 qa.1).bind fun x => (rd qb.2 qb.1).bind fun y => (cmp o x y).map fun z => (ofB z, qb.2)
  | .cm2 o o' a b c, st => (evE C a st).bind fun qa => (evE C b qa.2).bind fun qb => (rd qb.2 qa.1).bind fun x => (rd qb.2 qb.1).bind fun y => (cmp o x y).bind fun z =>
      if z then (evE C c qb.2).bind fun qc => (rd qc.2 qb.1).bind fun y => (rd qc.2 qc.1).bind fun u => (cmp o' y u).map fun z => (ofB z, qc.2) else some (ofB false, qb.2)
  | .and a b, st => (evE C a st).bind fun qa => (match rd qa.2 qa.1 with
    | some (.py (.bool c)) => if c then evE C b qa.2 else some (ofB false, qa.2)
    | _ => none)
  | .or a b, st => (evE C a st).bind fun qa => (match rd qa.2 qa.1 with
    | some (.py (.bool c)) => if c then some (ofB true, qa.2) else evE C b qa.2
    | _ => none)
  | .nt a, st => (evE C a st).bind fun qa => (match rd qa.2 qa.1 with
    | some (.py (.bool c)) => some (ofB (!c), qa.2)
    | _ => none)
  | .ite c a b, st => (evT C c st).bind fun q => if q.1 then evE C a q.2 else evE C b q.2
  | .tup es, st => (evs C es st).bind fun q => (vals q.1).bind fun ds => (pyds ds).bind fun ps => if ps.length ≤ lim then some (.va (.py (.tuple ps)), q.2) else none
  | .lst es, st => (evs C es st).bind fun q => (vals q.1).bind fun ds => (pyds ds).bind fun ps => if ps.length ≤ lim then some (.fe (.py (.list ps)), q.2) else none
  | .dct0, st => some (.fe (.dct []), st)
  | .ix a i, st => (evE C a st).bind fun qa => (evE C i qa.2).bind fun qi => (rd qi.2 qa.1).bind fun x => (rd qi.2 qi.1).bind fun y => (item x y).map fun z => (.va z, qi.2)
  | .sl a lo hi, st => (evE C a st).bind fun qa => (evP C lo qa.2).bind fun ql => (evP C hi ql.2).bind fun qh => (rd qh.2 qa.1).bind fun x => (sliceD x ql.1 qh.1).map fun o => (o, qh.2)
  | .rev a, st => (evE C a st).bind fun qa => (rd qa.2 qa.1).bind fun x => (revD x).map fun o => (o, qa.2)
  | .bi f es, st => (evs C es st).bind fun q => (rds q.2 q.1).bind fun ds => (biD f ds).map fun o => (o, q.2)
  | .isa a ts, st => (evE C a st).bind fun qa => (rd qa.2 qa.1).bind fun d => d.pyd.map fun p => (ofB (ts.any (isTy p)), qa.2)
  | .cal f perm es, st => (evs C es st).bind fun q => callE C f perm q.1 q.2
  | .me m a es, st => (evE C a st).bind fun qa => (rd qa.2 qa.1).bind fun x0 => (evs C es qa.2).bind fun q => (rd q.2 qa.1).bind fun x => if x0.tupD == x.tupD && x0.lstD == x.lstD then (rds q.2 q.1).bind fun ds => (meD m x ds).map fun o => (o, q.2) else none
  | .pop i e, st => (lstAt st i).bind fun _ => (evE C e st).bind fun q => (rd q.2 q.1).bind fun k => (lstAt q.2 i).bind fun m => (match k with
    | .py (.int k) => if okR k then (L2.ixN m.1.length k).bind fun j => (m.1[j]?).map fun p => (.va (.py p), q.2.set i (m.2 (.py (.list (m.1.eraseIdx j))))) else none
    | _ => none)
  | .lc own tg one it c e, st => (evI C it st).bind fun q => if own.all (fun i => calmSl (q.2.getD i .no)) then
      (lcL (fun x acc s => (bindT tg one x s).bind fun s1 => (evT C c s1).bind fun qc => if qc.1 then (evE C e qc.2).bind fun qe => qe.1.val.bind fun d => d.pyd.bind fun p =>
        if acc.length < lim then some (acc ++ [p], wipe qe.2 own) else none else some (acc, wipe qc.2 own)) q.1 [] (wipe q.2 own)).map fun r => (.fe (.py (.list r.1)), back q.2 r.2 own)
      else none
  | .dc own tg one it c k e, st => none
  | .lcf own i fs os, st => if own.all (fun j => calmSl (st.getD j .no)) && decide (i ∈ own) && decide (i < st.length) then (fcL (fun s => evs C os s) (callE C) own fs [] (wipe st own)).map fun r => (.fe (.py (.list r.1)), back st r.2 own) else none
  | .bad, st => none
def evP (C : Ct) : Pt → En → Option (Option Int × En)
  | .no, st => some (none, st)
  | .so e, st => (evE C e st).bind fun q => (match rd q.2 q.1 with
    | some (.py (.int i)) => some (some i, q.2)
    | _ => none)
def evT (C : Ct) : T → En → Option (Bool × En)
  | .and a b, st => (evT C a st).bind fun q => if q.1 then evT C b q.2 else some (false, q.2)
  | .or a b, st => (evT C a st).bind fun q => if q.1 then some (true, q.2) else evT C b q.2
  | .nt a, st => (evT C a st).map fun q => (!q.1, q.2)
  | .ite c a b, st => (evT C c st).bind fun q => if q.1 then evT C a q.2 else evT C b q.2
  | .yes, st => some (true, st)
  | .v e, st => (evE C e st).bind fun q => ((rd q.2 q.1).bind D.tru).map fun b => (b, q.2)
def evs (C : Ct) : Exs → En → Option (List Od × En)
  | .nil, st => some ([], st)
  | .cons e es, st => (evE C e st).bind fun q => (evs C es q.2).map fun r => (q.1 :: r.1, r.2)
/-- what is walked -/
def evI (C : Ct) : I → En → Option (List PyData × En)
  | .rng es, st => (evs C es st).bind fun q => (rds q.2 q.1).bind fun ds => (rngD ds).map fun xs => (xs, q.2)
  | .enu es, st => (evs C es st).bind fun q => (vals q.1).bind fun ds => (match ds with
    | [.py (.list xs)] => some (enuL 0 xs, q.2)
    | [.py (.tuple xs)] => some (enuL 0 xs, q.2)
    | _ => none)
  | .zip es, st => (evs C es st).bind fun q => (vals q.1).bind fun ds => (match ds with
    | [.py (.list xs), .py (.list ys)] => some (zipL xs ys, q.2)
    | [.py (.tuple xs), .py (.tuple ys)] => some (zipL xs ys, q.2)
    | [.py (.list xs), .py (.tuple ys)] => some (zipL xs ys, q.2)
    | _ => none)
  | .v e, st => (evE C e st).bind fun q => q.1.val.bind fun d => (match d with
    | .py (.list xs) => some (xs, q.2)
    | .py (.tuple xs) => some (xs, q.2)
    | _ => none)
end
/-- a value is handed back -/
def retE (o : Od) : Option Out := match o with
  | .va d => some (.rt d false)
  | .fe d => some (.rt d true)
  | .pk _ => none
mutual
def exS (C : Ct) : S → En → Option (Out × En)
  | .asg i e, st => (evE C e st).bind fun q => q.1.slot.map fun s => (.nx, q.2.set i s)
  | .asgT is e, st => (evE C e st).bind fun q => (rd q.2 q.1).bind fun d => d.pyd.bind fun p => (bindT is false p q.2).map fun s => (.nx, s)
  | .par is es, st => (evs C es st).bind fun q => (slots q.1).bind fun ss => if ss.length = is.length then some (.nx, setSl q.2 is ss) else none
  | .divI i k j e, st => (evE C e st).bind fun q => (rd q.2 q.1).bind fun d => (lstAt q.2 i).bind fun m => (match d with
    | .py (.tuple [a, b]) => (L2.ixN m.1.length k).map fun n => (.nx, (q.2.set i (m.2 (.py (.list (m.1.set n a))))).set j (.fr (.py b)))
    | _ => none)
  | .asgTT is js e, st => (evE C e st).bind fun q => (rd q.2 q.1).bind fun d => (match d with
    | .py (.tuple [a, b]) => (bindT is false a q.2).bind fun s1 => (bindT js false b s1).map fun s => (.nx, s)
    | _ => none)
  | .asgSS i k j l e, st => (evE C e st).bind fun q => (rd q.2 q.1).bind fun d => (match d with
    | .py (.tuple [a, b]) => (objAt q.2 i).bind fun _ => (evE C k q.2).bind fun qk => (rd qk.2 qk.1).bind fun kd => (objAt qk.2 i).bind fun m => (putO m.1 kd a).bind fun d1 =>
      (objAt (qk.2.set i (m.2 d1)) j).bind fun _ => (evE C l (qk.2.set i (m.2 d1))).bind fun ql => (rd ql.2 ql.1).bind fun ld => (objAt ql.2 j).bind fun m2 => (putO m2.1 ld b).map fun d2 => (.nx, ql.2.set j (m2.2 d2))
    | _ => none)
  | .setI i k e, st => (evE C e st).bind fun q => q.1.val.bind fun d => d.pyd.bind fun p => (objAt q.2 i).bind fun _ => (evE C k q.2).bind fun qk => (rd qk.2 qk.1).bind fun kd => (objAt qk.2 i).bind fun m =>
      (putO m.1 kd p).map fun d' => (.nx, qk.2.set i (m.2 d'))
  | .augI i k e, st => (objAt st i).bind fun _ => (evE C k st).bind fun qk => (rd qk.2 qk.1).bind fun kd => (objAt qk.2 i).bind fun m => (match item m.1 kd with
    | some (.py (.int x)) => (evE C e qk.2).bind fun q => (rd q.2 q.1).bind fun d => (objAt q.2 i).bind fun m2 => (match kd, d with
      | .py kp, .py (.int y) => (putO m2.1 (.py kp) (.int (x + y))).map fun d' => (.nx, q.2.set i (m2.2 d'))
      | _, _ => none)
    | _ => none)
  | .aug i o e, st => (match st[i]? with
    | some (.fr (.py (.int x))) => (evE C e st).bind fun q => (rd q.2 q.1).bind fun d => (match o, d with
      | .add, .py (.int y) => some (.nx, q.2.set i (.fr (.py (.int (x + y)))))
      | .sub, .py (.int y) => some (.nx, q.2.set i (.fr (.py (.int (x - y)))))
      | _, _ => none)
    | _ => none)
  | .app i e, st => (lstAt st i).bind fun _ => (evE C e st).bind fun q => q.1.val.bind fun d => d.pyd.bind fun p => (lstAt q.2 i).bind fun m =>
      if m.1.length < lim then some (.nx, q.2.set i (m.2 (.py (.list (m.1 ++ [p]))))) else none
  | .ext i e, st => (lstAt st i).bind fun _ => (evE C e st).bind fun q => (rd q.2 q.1).bind fun d => (lstAt q.2 i).bind fun m => (match d with
    | .py (.list ys) => if m.1.length + ys.length < lim then some (.nx, q.2.set i (m.2 (.py (.list (m.1 ++ ys))))) else none
    | _ => none)
  | .upd _ _, _ => none
  | .sdf i k e, st => (objAt st i).bind fun m0 => if m0.1.isDct then (evE C k st).bind fun qk => (rd qk.2 qk.1).bind fun kd => (evE C e qk.2).bind fun q => q.1.val.bind fun d => d.pyd.bind fun p => (objAt q.2 i).bind fun m =>
      (sdfO m.1 kd p).map fun d' => (.nx, q.2.set i (m.2 d')) else none
  | .ex e, st => (evE C e st).map fun q => (.nx, q.2)
  | .ret e, st => (evE C e st).bind fun q => (retE q.1).map fun o => (o, q.2)
  | .retv i, st => (match st[i]? with
    | some (.fr d) => some (.rt d false, st)
    | some (.ow d) => some (.rt d true, st.set i .no)
    | _ => none)
  | .retN, st => some (.rt (.py .none) false, st)
  | .pass, st => some (.nx, st)
  | .brk, st => some (.brk, st)
  | .cont, st => some (.cont, st)
  | .raise, _ => none
  | .ifs c a b, st => (evT C c st).bind fun q => if q.1 then exs C a q.2 else exs C b q.2
  | .whl c b, st => whL (evT C c) (exs C b) C.fuel st
  | .fr tg one it b, st => (evI C it st).bind fun q => frL (fun x s => (bindT tg one x s).bind (exs C b)) q.1 q.2
def exs (C : Ct) : Ss → En → Option (Out × En)
  | .nil, st => some (.nx, st)
  | .cons s ss, st => (exS C s st).bind fun r => match r.1 with
    | .nx => exs C ss r.2
    | .brk => some (.brk, r.2)
    | .cont => some (.cont, r.2)
    | .rt d b => some (.rt d b, r.2)
end
/-- the slots at a def's entry -/
def enter (F : Fd) (ds : List D) : En := (match F.io, ds with
    | true, d :: r => .bo d :: r.map .fr
    | _, ds => ds.map .fr) ++ List.replicate (F.n - ds.length) .no
/-- what the lent first parameter is at the end -/
def lentE (io : Bool) (st : En) : Option D := match io, st with
  | false, _ => some (.py .none)
  | true, .bo d :: _ => some d
  | _, _ => none
/-- the defs of a text -/
structure Tab where
  fds : List (Str × Fd)
  glos : List (Str × PyData)
def Tab.ct (T : Tab) (fuel : Nat) (call : Str → List D → Option (D × Bool × D)) : Ct := ⟨call, fun f => (T.fds.lookup f).elim false Fd.io, fun x => T.glos.lookup x, fuel⟩
/-- a call, at most n deep -/
def run (T : Tab) (fuel : Nat) : Nat → Str → List D → Option (D × Bool × D)
  | 0, _, _ => none
  | n + 1, f, ds => (T.fds.lookup f).bind fun F => if ds.length = F.ps.length then (exs (T.ct fuel (run T fuel n)) F.body (enter F ds)).bind fun r =>
      (lentE F.io r.2).bind fun fin => match r.1 with
      | .rt d b => some (d, b, fin)
      | .nx => some (.py .none, false, fin)
      | _ => none
    else none
end Mi
end
section
/-! Mi0: enumerate of a tuple, a list taken apart. -/
namespace Mi
open PySem PySem.Spec
open PyProof.Rows hiding St Fr
open L2

/-! ### a list taken apart -/
section
variable {prog : Program} {w : World} {A : Around} {E : Value → Shared → Prop} {s : Shared}
theorem list_ext {h h' : Heap} {it l : Addr} {xs : Array Value} (hl : h.IsList l xs) (ne : l ≠ it) (k : ∀ b o, b ≠ it → h.get? b = some o → h'.get? b = some o) : h'.IsList l xs := hl.at fun o e => k l o ne e
theorem draw_lst {l it : Addr} {xs : Array Value} (ne : l ≠ it) : ∀ (m j : Nat) (s : Shared) (Q : List Value → Shared → Prop), s.heap.IsListIter it l j → s.heap.IsList l xs → j + m ≤ xs.size →
    (∀ h', h'.IsListIter it l (j + m) → (∀ b o, b ≠ it → s.heap.get? b = some o → h'.get? b = some o) → Q ((xs.toList.drop j).take m) { s with heap := h' }) → wpAny (model prog w) A (draw (.ref it) m) Q E s
  | 0, j, s, Q, hi, hl, hm, q => wpAny_pure (q s.heap hi fun _ _ _ e => e)
  | m + 1, j, s, Q, hi, hl, hm, q => by
    have lt : j < xs.size := by omega
    show wpAny _ _ (pyNext (.ref it) >>= _) Q E s
    refine wpAny_bind (wpAny_pyNext_list_item hi hl (x := xs[j]) (by simp [lt]) fun h1 i1 k1 => ?_)
    have k1' : ∀ b o, b ≠ it → s.heap.get? b = some o → h1.get? b = some o := fun b o hb e => (k1.2 b hb).trans e
    refine wpAny_bind (wpAny_holding (draw_lst ne m (j + 1) { s with heap := h1 } _ i1 (list_ext hl ne k1') (by omega) fun h2 i2 k2 => wpAny_pure ?_))
    have e1 : xs.toList.drop j = xs[j] :: xs.toList.drop (j + 1) := by rw [List.drop_eq_getElem_cons (by simpa using lt)]; simp
    rw [e1, List.take_succ_cons] at q
    exact q h2 (by rw [show j + (m + 1) = j + 1 + m by omega]; exact i2) fun b o hb e => k2 b o hb (k1' b o hb e)
theorem unpack_lst {l : Addr} {xs : Array Value} {Q : List Value → Shared → Prop} (hh : A.handled = none) (hl : s.heap.IsList l xs)
    (q : ∀ h', (∀ b o, b ≠ s.heap.objs.size → s.heap.get? b = some o → h'.get? b = some o) → Q xs.toList { s with heap := h' }) : wpAny (model prog w) A (unpackItems (.ref l) xs.size none) Q E s := by
  have ne : l ≠ s.heap.objs.size := by
    obtain ⟨o, e, _⟩ := hl
    exact Nat.ne_of_lt (Heap.lt_size e)
  unfold unpackItems notIterableAtAll
  refine wpAny_bind (wpAny_bind (wpAny_specialOf hl.typeIs PySem.F.slot_list_iter.lookup (wpAny_pure ?_)))
  simp only [Bool.false_eq_true, if_false]
  refine wpAny_bind (wpAny_holding (wpAny_pyIter_list hl ?_))
  have push : ∀ (o : Obj) (b : Addr) (u : Obj), s.heap.get? b = some u → (s.heap.push o).get? b = some u := fun o b u e => Heap.get?_push_of_some _ e
  refine wpAny_bind (wpAny_holding (draw_lst ne xs.size 0 _ _ ⟨_, Heap.get?_push_size _ rfl, rfl, rfl⟩ (hl.at fun o e => push _ l o e) (by omega) fun h1 i1 k1 => ?_))
  have all : List.take xs.size (List.drop 0 xs.toList) = xs.toList := by
    rw [List.drop_zero]
    exact List.take_of_length_le (by simp)
  rw [all, if_neg (by simp)]
  have l1 : h1.IsList l xs := list_ext (hl.at fun o e => push _ l o e) ne k1
  refine wpAny_bind (wpAny_holding (wpAny_pyNext_list_end (s := { s with heap := h1 }) hh i1 l1 (by simp) fun h2 k2 => ?_))
  simp only [Option.isSome_none, Bool.false_eq_true, if_false]
  exact wpAny_pure (q h2 fun b o hb e => k2 b o hb (k1 b o hb (push _ b o e)))
end
/-- (a, b, ..) = a list of that length -/
def gLst (K : PySem.W.Frag) (n : Nat) (t : TGs) : TG := fun v σ H Q => ∃ a xs, v = .ref a ∧ SqL K H a xs ∧ xs.length = n ∧ t xs σ H Q
section
variable {X : Cx} {pos : Pos}
theorem pg_lst {es : List Expr} {k : Nat} {t : TGs} {n : Nat} (hc : X.calm = true) (h : PGs X es t) (hn : (assignEach es X.env).length = n) (hst : (assignEach es X.env).findIdx? (·.1) = none) : PG X (.Tuple es k pos) (gLst X.K n t) := by
  refine ⟨fun pins s σ H v u Q I r hw => ?_⟩
  obtain ⟨a, xs, rfl, hq, hl, hw⟩ := hw
  cases r
  obtain ⟨its, rv, pl, _⟩ := I.list hq
  have e1 : its.toArray.size = (assignEach es X.env).length := by rw [hn, List.size_toArray, ← hl, rv.length]
  rw [PyProof.Rows.assign_Tuple]
  refine wpAny_bind (wpAny_standAt ?_)
  unfold unpack
  rw [← e1, hst]
  refine wpAny_bind (wpAny_holding (unpack_lst (I.ok.hd hc) pl.isList fun h1 k1 => ?_))
  have I1 : Inv X pins σ H { s with heap := h1 } := I.kept (t' := s.toks) fun b o e => k1 b o (Nat.ne_of_lt (Heap.lt_size e)) e
  exact h.run pins _ σ H xs _ Q I1 (by simpa using rv) hw
end
/-! ### enumerate of a tuple -/
theorem get_lt' {α : Type} {l : List α} {i : Nat} {x : α} (h : l[i]? = some x) : i < l.length := (List.getElem?_eq_some_iff.mp h).1
open PySem in
theorem meets_enuT (t : Addr) (xs : Array Value) :
    Meets (Builtin.«enumerate.__new__» ⟨[.type "enumerate", .ref t], []⟩) (fun _ R s => s.heap.IsTuple t xs ∧
      R (.ok (.ret (.ref (s.heap.push { cls := .type "tuple_iterator", data := .fields #[.ref t, .int 0 0] }).objs.size)))
        { s with heap := (s.heap.push { cls := .type "tuple_iterator", data := .fields #[.ref t, .int 0 0] }).push { cls := .type "enumerate", data := .fields #[.none, .bool false, .ref s.heap.objs.size, rawInt 0, .none, .none] } }) :=
  .of_wp fun prog w A R s h => by
    obtain ⟨hp, g, d, tk, os⟩ := s
    obtain ⟨ht, h⟩ := h
    have hsub := sub_enumerate
    wp_walk using wpAny_pyIter_tuple ht
    refine wpAny_stack_any fun st => wpAny_pure ?_
    split
    · rename_i c _ _ _ _ _
      cases (c == Value.type "enumerate")
      · wp_walk using wpAny_pyIter_tuple ht
        exact ⟨_, rfl, h⟩
      · wp_walk using wpAny_pyIter_tuple ht
        exact ⟨_, rfl, h⟩
    · wp_walk using wpAny_pyIter_tuple ht
      exact ⟨_, rfl, h⟩
section
variable {prog : Program} {w : World} {A : Around} {E : Value → Shared → Prop} {s : Shared}
theorem call_enuT {t : Addr} {xs : Array Value} {Q : Value → Shared → Prop} (ht : s.heap.IsTuple t xs)
    (h : ∀ h', IsEnum h' (s.heap.objs.size + 1) s.heap.objs.size ((0 : Nat) : Int) .none → h'.IsTupleIter s.heap.objs.size t 0 → h'.objs.size = s.heap.objs.size + 2 → (∀ b o, s.heap.get? b = some o → h'.get? b = some o) → Q (.ref (s.heap.objs.size + 1)) { s with heap := h' }) :
    wpAny (model prog w) A (call (.type "enumerate") [.ref t]) Q E s := by
  refine callType_new F.called_enumerate (by decide) (F.typeCall_enumerate_1 _) (F.newCall_enumerate_1 _) (fun obj => F.args_object_init_2 obj _) F.entry_enumerate_new (meets_enuT t xs) ⟨ht, ?_⟩
  generalize hit : ({ cls := .type "tuple_iterator", data := .fields #[.ref t, .int 0 0] } : Obj) = oi
  have z1 : (s.heap.push oi).objs.size = s.heap.objs.size + 1 := Heap.size_push ..
  have g1 : (s.heap.push oi).get? s.heap.objs.size = some oi := by rw [← hit]; exact Heap.get?_push_size _ rfl
  show _ ∧ _
  rw [z1]
  generalize hen : ({ cls := .type "enumerate", data := .fields #[.none, .bool false, .ref s.heap.objs.size, rawInt 0, .none, .none] } : Obj) = oe
  have g2 : ((s.heap.push oi).push oe).get? (s.heap.objs.size + 1) = some oe := by rw [← z1, ← hen]; exact Heap.get?_push_size _ rfl
  refine ⟨⟨_, g2, by rw [← hen]⟩, h _ (by rw [← hen] at g2 ⊢; exact g2) ⟨oi, Heap.get?_push_of_some _ g1, by rw [← hit], by rw [← hit] <;> rfl⟩ (by rw [Heap.size_push, z1]) fun b o e => Heap.get?_push_of_some _ (Heap.get?_push_of_some _ e)⟩
end
/-- the tuple at a, each item in a new pair -/
def ItE (K : PySem.W.Frag) (a : Addr) : It where
  go := fun i H => ∃ (xs : List V) (x : V), SqT K H a xs ∧ xs[i]? = some x
  yld := fun i H v H' => ∃ T x, v = .ref T ∧ H T = none ∧ H' = upd H T (.tup [.int (i : Nat), x]) ∧ ∀ xs, SqT K H a xs → xs[i]? = some x
  stop := fun i H => ∃ xs : List V, SqT K H a xs ∧ xs.length = i
theorem turn_enuT {P : Program} {w : World} {K : PySem.W.Frag} {elts : List Expr} {kk : Nat} {tp : Pos} (a e it : Addr) :
    Turn P w K (.Tuple elts kk tp) (ItE K a) [e, it] e (fun i h => (∃ old, IsEnum h e it ((i : Nat) : Int) old) ∧ h.IsTupleIter it a i ∧ e ≠ it ∧ a ≠ it ∧ a ≠ e) where
  mem := List.mem_cons_self ..
  obj := fun i h ⟨⟨old, he⟩, ⟨o, ho, _, hd⟩, _⟩ b hb => by
    rcases List.mem_cons.mp hb with rfl | hb
    · exact ⟨_, he, fun v q => nomatch q⟩
    · rw [List.mem_singleton.mp hb]
      exact ⟨o, ho, fun v q => by rw [hd] at q; cases q⟩
  keep := fun i h h' ⟨⟨old, he⟩, hi, r⟩ k => ⟨⟨old, k e (List.mem_cons_self ..) _ he⟩, hi.at fun o q => k it (by simp) o q, r⟩
  item := by
    intro X hP hw hK hc i pins s σ H E I hf st hg
    subst hP hw hK
    obtain ⟨⟨old, he⟩, hit, n1, n2, n3⟩ := st
    obtain ⟨xs, x, hq, hx⟩ := hg
    obtain ⟨its, rv, pt, hz⟩ := I.tuple hq
    obtain ⟨u, hu, ru⟩ := rv.get hx
    have lt : i < its.toArray.size := by
      have := get_lt' hu
      simpa using this
    have le : e < s.heap.objs.size := Heap.lt_size he
    have li : it < s.heap.objs.size := by
      obtain ⟨o, q, _⟩ := hit
      exact Heap.lt_size q
    refine wpAny_pyNext_enum_itemC (Draws.tuple (prog := X.prog) (w := X.w) (A := X.A.in1) (I.ok.hd hc) it a n2 its.toArray) he ⟨hit, pt⟩ lt n1 (by simp [n1, Ne.symm n3]) fun y h1 tk hy out st1 hT hsz hk => ?_
    obtain rfl : u = y := by
      have hy : its.toArray[i]? = some y := hy
      have : its[i]? = some y := by simpa using hy
      rw [hu] at this
      exact Option.some.inj this
    refine ⟨_, rfl, wpAny_letOwnedTupleGo_enum (s := { s with heap := h1, toks := tk + 1 }) out fun h2 he2 sb => ?_⟩
    have new : h2.get? s.heap.objs.size = some { cls := .type "tuple", data := .seq #[.int i tk, u] } := (sb.2 _ (Nat.ne_of_gt le)).trans hT
    have okN : ObjOk X.prog X.w (upd H s.heap.objs.size (.tup [.int (i : Nat), x])) h2 s.heap.objs.size (.tup [.int (i : Nat), x]) :=
      ⟨by show 2 ≤ sizeLine; decide, [.int i tk, u], .cons ⟨_, rfl⟩ (.cons ru .nil), ⟨_, new, rfl, _, rfl⟩⟩
    have I1 : Inv X pins σ (upd H s.heap.objs.size (.tup [.int (i : Nat), x])) { s with heap := h2, toks := tk + 1 } :=
      I.turnedNew (ch := [e, it]) (fun b ob hb q => (sb.2 b (fun z => hb (by simp [z]))).trans (hk b ob (fun z => hb (by simp [z])) (fun z => hb (by simp [z])) q)) hf (Nat.le_refl _) okN
    refine ⟨.ref s.heap.objs.size, _, I1, rfl, ⟨_, x, rfl, I.hok.fresh (Nat.le_refl _), rfl, fun ys hy => by rw [I.tuple_inj hy hq]; exact hx⟩, ⟨⟨u, ?_⟩, st1.1.at fun o q => (sb.2 it (Ne.symm n1)).trans q, n1, n2, n3⟩, fun b hb => ?_⟩
    · rw [show ((i + 1 : Nat) : Int) = (i : Int) + 1 by omega]
      exact he2
    · have hb' : b < s.heap.objs.size := by
        rcases List.mem_cons.mp hb with rfl | q
        · exact le
        · rw [List.mem_singleton.mp q]; exact li
      rw [upd_ne (Nat.ne_of_lt hb')]
      exact (hf b hb).1
  done := by
    intro X hP hw hK hc i pins s σ H E I hf st hg
    subst hP hw hK
    obtain ⟨⟨old, he⟩, hit, n1, n2, n3⟩ := st
    obtain ⟨xs, hq, hx⟩ := hg
    obtain ⟨its, rv, pt, hz⟩ := I.tuple hq
    obtain ⟨f0, f1, f2, f3, f4, f5⟩ := hf it (by simp)
    have len : i = its.toArray.size := by rw [← hx, rv.length, List.size_toArray]
    subst len
    exact wpAny_pyNext_enum_endD (Draws.tuple (prog := X.prog) (w := X.w) (A := X.A.in1) (I.ok.hd hc) it a n2 its.toArray) he ⟨hit, pt⟩ fun h' eb => ⟨rfl, I.turned (t' := s.toks) (fun b o hb q => eb b o hb q) f0 f1 f3 f4 f5⟩
  self := fun A i s Q E st h => by
    obtain ⟨⟨old, he⟩, _⟩ := st
    exact wpAny_pyIter_enum he h
theorem walk_enuT {K : PySem.W.Frag} {a : Addr} {xs : List V} : Walk (ItE K a) xs.length (fun H => SqT K H a xs) (YPair (fun i => some (.int (i : Nat))) (fun i => xs[i]?)) := by
  constructor
  · intro i H hi q
    exact ⟨xs, xs[i], q, by simp [hi]⟩
  · intro H q
    exact ⟨xs, q, rfl⟩
  · intro i H v H' _ q y
    obtain ⟨T, x, c1, c2, c3, c4⟩ := y
    exact ⟨T, .int (i : Nat), x, c1, c2, c3, rfl, c4 xs q⟩
def iEnuT (K : PySem.W.Frag) (ta : TA) : TI := fun σ H R => ta σ H fun vs H1 => ∃ a xs, vs = [.ref a] ∧ SqT K H1 a xs ∧ R (ItE K a) H1
theorem pi_enuT {X : Cx} {e : Expr} {ta : TA} {p pos tp : Pos} {elts : List Expr} {kk : Nat} (gl : Gl X "enumerate") (hm : X.mg "enumerate" = none) (ha : PA X [e] ta) (hs : starEach [e] X.env = [(false, eval e X.env)]) :
    PI X (.Tuple elts kk tp) (.Call (.Name "enumerate" p) [e] [] pos) (iEnuT X.K ta) := by
  refine ⟨fun pins s σ H R I h => ?_⟩
  refine Call_ (ld_blt I gl hm boot_enumerate (PyProof.Rows.callWith_type1 (thn (ha.run pos pins s σ H _ I h) fun us t ⟨vs, H1, I1, r1, q1⟩ => ?_) hs rfl))
  obtain ⟨a, xs, rfl, hq, q⟩ := q1
  obtain ⟨u, rfl, ru⟩ := Vals.one r1
  cases ru
  obtain ⟨its, rv, pt, hz⟩ := I1.tuple hq
  have la : a < t.heap.objs.size := by
    obtain ⟨o, e, _⟩ := (show t.heap.IsTuple a its.toArray from pt)
    exact Heap.lt_size e
  refine call_enuT (show t.heap.IsTuple a its.toArray from pt) fun h' he hit hsz hk => wpAny_pyIter_enum he ?_
  have I2 : Inv X pins σ H1 { t with heap := h' } := I1.kept (t' := t.toks) hk
  refine ⟨t.heap.objs.size + 1, [t.heap.objs.size + 1, t.heap.objs.size], _, _, H1, rfl, I2, turn_enuT a (t.heap.objs.size + 1) t.heap.objs.size, ⟨⟨.none, he⟩, hit, Nat.succ_ne_self _, Nat.ne_of_lt la, Nat.ne_of_lt (Nat.lt_succ_of_lt la)⟩, fun b hb => ?_, q⟩
  have ge : t.heap.objs.size ≤ b := by
    rcases List.mem_cons.mp hb with rfl | z
    · exact Nat.le_succ _
    · rw [List.mem_singleton.mp z]; exact Nat.le_refl _
  exact I1.fpOk ge (I1.hok.fresh ge)
end Mi
end
section
/-! MiR: a tuple turned round by a slice. -/
namespace HT
open PySem PySem.Spec PyProof.Rows
section
variable {prog : Program} {w : World} {A : Around} {E : Value → Shared → Prop} {s : Shared}
theorem sliceApplied_rev {sl : Addr} {vs : Value} {n : Nat} {Q : Int × Int × Nat → Shared → Prop} (hs : s.heap.IsSliceOf sl .none .none vs) (ps : IsPart vs (some (-1)))
    (h : Q ((n : Int) - 1, -1, n) s) : wpAny (model prog w) A (Builtin.Slice.sliceApplied (.ref sl) (pure (n : Int))) Q E s := by
  obtain ⟨os, hos, hcs, hds⟩ := id hs
  unfold Builtin.Slice.sliceApplied Builtin.Slice.sliceFields
  refine wpAny_bind (wpAny_bind (wpAny_field hos hds (x := .none) rfl (wpAny_bind (wpAny_field hos hds (x := .none) rfl (wpAny_bind (wpAny_field hos hds (x := vs) rfl (wpAny_pure ?_)))))))
  refine wpAny_bind (slicePart_ ps ?_)
  show wpAny _ _ (if ((-1 : Int) == 0) = true then _ else _) _ _ s
  rw [if_neg (by decide)]
  refine wpAny_bind (slicePart_none (wpAny_bind (slicePart_none (wpAny_bind (wpAny_pure ?_)))))
  show wpAny _ _ (match Builtin.Slice.sliceAdjust none none (-1) (n : Int) with | (lo, hi) => pure (lo, (-1 : Int), Builtin.Slice.slicePlaces lo hi (-1))) _ _ s
  have e : Builtin.Slice.sliceAdjust none none (-1) (n : Int) = ((n : Int) - 1, -1) := by
    unfold Builtin.Slice.sliceAdjust
    simp
  rw [e]
  show wpAny _ _ (pure ((n : Int) - 1, (-1 : Int), Builtin.Slice.slicePlaces ((n : Int) - 1) (-1) (-1))) _ _ s
  have e2 : Builtin.Slice.slicePlaces ((n : Int) - 1) (-1) (-1) = n := by
    unfold Builtin.Slice.slicePlaces
    by_cases h0 : n = 0
    · subst h0; simp
    · simp
      omega
  rw [e2]
  exact wpAny_pure h
theorem pick_rev (xs : Array Value) : ((List.range xs.size).filterMap fun (m : Nat) => xs[((xs.size : Int) - 1 + (m : Int) * (-1)).toNat]?).toArray = xs.toList.reverse.toArray := by
  congr 1
  have e : ∀ m ∈ List.range xs.size, xs[((xs.size : Int) - 1 + (m : Int) * (-1)).toNat]? = some (xs.toList.reverse.getD m .none) := fun m hm => by
    have hm := List.mem_range.mp hm
    have h1 : ((xs.size : Int) - 1 + (m : Int) * (-1)).toNat = xs.size - 1 - m := by omega
    have h2 : xs.size - 1 - m < xs.size := by omega
    rw [h1, Array.getElem?_eq_getElem h2, List.getD_eq_getElem?_getD, List.getElem?_reverse (by simpa using hm)]
    simp [h2]
  have e2 : ∀ (l : List Nat) (f : Nat → Option Value) (g : Nat → Value), (∀ m ∈ l, f m = some (g m)) → l.filterMap f = l.map g := by
    intro l f g h
    induction l with
    | nil => rfl
    | cons x l ih =>
      rw [List.filterMap_cons_some (h x (List.mem_cons_self ..)), List.map_cons, ih fun m hm => h m (List.mem_cons_of_mem _ hm)]
  rw [e2 _ _ _ e]
  apply List.ext_getElem
  · simp
  · intro i h1 h2
    rw [List.getElem_map, List.getElem_range, List.getD_eq_getElem?_getD, List.getElem?_eq_getElem h2]
    rfl
theorem getItem_tuple_rev {t sl : Addr} {items : Array Value} {vs : Value} {Q : Value → Shared → Prop} (ht : IsTup s.heap t items) (hs : s.heap.IsSliceOf sl .none .none vs) (ps : IsPart vs (some (-1)))
    (h : Q (.ref s.heap.objs.size) { s with heap := s.heap.push { cls := .type "tuple", data := .seq items.toList.reverse.toArray } })
    (hsz : items.size ≤ sizeLine) : wpAny (model prog w) A (getItem (.ref t) (.ref sl)) Q E s := by
  have htake : sizeOk (.seq items.toList.reverse.toArray) := by
    show items.toList.reverse.toArray.size ≤ sizeLine
    rw [List.size_toArray, List.length_reverse, Array.length_toList]
    exact hsz
  obtain ⟨os, hos, hcs, hds⟩ := id hs
  have hTs : s.TypeIs (.ref sl) "slice" := ⟨os, hos, hcs⟩
  unfold getItem
  try with_reducible refine wpAny_holding ?_
  first | refine wpAny_bind (wpAny_pure ?_) | skip
  refine wpAny_bind (wpAny_sequenceKey ht.typeIs (by decide) ?_)
  refine wpAny_bind (wpAny_callSpecial?_slot (name := Str.ofString "__getitem__") ht.typeIs PyProof.Rows.slot_tuple_getitem
    (wpAny_call_entry PyProof.Rows.slot_tuple_getitem ht.typeIs entry_tuple_getitem ?_ (args_tuple_getitem _ _)))
  show wpAny _ _ (Builtin.Tuple.tupleItemsOf (.ref t) >>= _) _ _ s
  refine wpAny_bind (tupleItemsOf_ ht ?_)
  refine wpAny_bind (wpAny_typeOf hTs ?_)
  rw [if_pos (by decide)]
  refine wpAny_bind (sliceApplied_rev hs ps ?_)
  have hno : ¬ ((((items.size : Int) - 1) == 0 && (-1 : Int) == 1 && items.size == items.size) = true) := by
    intro q
    rw [Bool.and_eq_true, Bool.and_eq_true] at q
    exact absurd q.1.2 (by decide)
  show wpAny _ _ (if (((items.size : Int) - 1) == 0 && (-1 : Int) == 1 && items.size == items.size) = true then _ else _) _ _ s
  rw [if_neg hno, pick_rev]
  first
    | exact wpAny_bind (m := Builtin.Tuple.tupleExact _) (wpAny_newObj_type (wpAny_pure ⟨_, rfl, wpAny_pure h⟩) htake)
    | exact wpAny_bind (m := Builtin.Tuple.tupleExact _) (wpAny_newObj_type (wpAny_bind (wpAny_pure (wpAny_pure ⟨_, rfl, wpAny_pure h⟩))) htake)
    | exact wpAny_bind (wpAny_bind (m := Builtin.Tuple.tupleExact _) (wpAny_newObj_type (wpAny_pure (wpAny_pure ⟨_, rfl, wpAny_pure h⟩)) htake))
    | exact wpAny_bind (wpAny_bind (m := Builtin.Tuple.tupleExact _) (wpAny_newObj_type (wpAny_pure ⟨_, rfl, wpAny_pure h⟩) htake))
end
end HT
namespace L2
open PySem PySem.Spec PyProof.Rows
section
variable {X : Cx}
/-- xs[::-1], a list or a tuple -/
def tRevA (K : PySem.W.Frag) (te : TE) : TE := fun σ H Q => te σ H fun v H1 => ∃ (a : Addr) (xs : List V), v = .ref a ∧ ((SqL K H1 a xs ∧ ∀ p, H1 p = none → Q (.ref p) (upd H1 p (.lst xs.reverse))) ∨
  (SqT K H1 a xs ∧ ∀ p us, H1 p = none → Q (.ref p) (upd H1 p (.frz { cls := .type "tuple", data := .seq us } (.tup xs.reverse)))))
theorem pe_revA {e : Expr} {te : TE} {k : Nat} {p1 p2 p3 pos : Pos} (he : PE X e te) : PE X (.Subscript e (.Slice none none (some (.UnaryOp .USub (.Constant (.int 1) k p1) p2)) p3) pos) (tRevA X.K te) := by
  refine ⟨fun pins s σ H Q I h => ?_⟩
  refine Subscript_ (thn (he.run pins s σ H _ I h) fun v s1 ⟨x, H1, I1, r1, q1⟩ => ?_)
  obtain ⟨a, xs, ex, q⟩ := q1
  subst ex
  cases r1
  have hst : PO X (some (.UnaryOp .USub (.Constant (.int 1) k p1) p2)) (tPart (tUn (rU fun i => .int (-i)) (tC (.int 1)))) := po_some (pe_un un_neg pe_int)
  refine wpAny_Slice (thn (po_none.run pins s1 σ H1 (fun o H2 => o = none ∧ H2 = H1) I1 ⟨rfl, rfl⟩) fun vl s2 ⟨l, H2, I2, pl, el, e2⟩ => ?_)
  subst el e2
  refine thn (po_none.run pins s2 σ H2 (fun o H3 => o = none ∧ H3 = H2) I2 ⟨rfl, rfl⟩) fun vu s3 ⟨u, H3, I3, pu, eu, e3⟩ => ?_
  subst eu e3
  refine thn (hst.run pins s3 σ H3 (fun o H4 => o = some (-1) ∧ H4 = H3) I3 ⟨1, rfl, -1, rfl, rfl, rfl⟩) fun vs s4 ⟨o, H4, I4, ps, eo, e4⟩ => ?_
  subst eo e4
  have I5 : Inv X pins σ H4 { s4 with heap := s4.heap.push { cls := .type "slice", data := .fields #[vl, vu, vs] } } := I4.kept (t' := s4.toks) fun b ob q => Heap.get?_push_of_some _ q
  show wpAny (model X.prog X.w) X.A (subscriptTail e (.Slice none none (some (.UnaryOp .USub (.Constant (.int 1) k p1) p2)) p3) (.ref a) (.ref s4.heap.objs.size)) (EP X pins σ Q) X.xe { s4 with heap := s4.heap.push { cls := .type "slice", data := .fields #[vl, vu, vs] } }
  rcases q with ⟨hx, q⟩ | ⟨hx, q⟩
  · obtain ⟨its, r, ht, hz⟩ := I5.list hx
    have hlen := r.length
    refine tail_any (ops := [.ref a, .ref s4.heap.objs.size]) ht.isList.typeIs (PySem.slot_list_getitem.lookup) ?_ (by with_unfolding_all rfl)
    refine wpAny_getItem_list_slice ht.isList (Heap.IsSliceOf.new _ vl vu vs) pl pu ps (by decide) ?_ (by rw [List.size_toArray]; omega)
    rw [PySem.W.krv_pick]
    refine ⟨.ref _, _, I5.laid (t' := s4.toks) (o := .lst xs.reverse) (fun b ob q => Heap.get?_push_of_some _ q) (Nat.le_refl _) ?_, rfl, q _ (I5.hok.fresh (Nat.le_refl _))⟩
    exact ⟨by rw [List.length_reverse]; exact hz, _, 0, r.reverse, Heap.get?_push_size _ rfl⟩
  · obtain ⟨its, r, ht, hz⟩ := I5.tuple hx
    have hlen := r.length
    cases pl; cases pu
    refine tail_any (ops := [.ref a, .ref s4.heap.objs.size]) ht.typeIs PyProof.Rows.slot_tuple_getitem.lookup ?_ (by with_unfolding_all rfl)
    refine HT.getItem_tuple_rev ht (Heap.IsSliceOf.new _ .none .none vs) ps ?_ (by rw [List.size_toArray]; omega)
    refine ⟨.ref _, _, I5.laid (t' := s4.toks) (o := .frz { cls := .type "tuple", data := .seq its.toArray.toList.reverse.toArray } (.tup xs.reverse)) (fun b ob q => Heap.get?_push_of_some _ q) (Nat.le_refl _) ?_, rfl, q _ _ (I5.hok.fresh (Nat.le_refl _))⟩
    exact ⟨Heap.get?_push_size _ rfl, by rw [List.length_reverse]; exact hz, its.reverse, r.reverse, ⟨_, Heap.get?_push_size _ rfl, rfl, _, rfl⟩⟩
end
end L2
end
section
/-! MiZ: zip of a list and a tuple. -/
namespace Mz
open PySem PySem.Spec PyProof.Rows L2
/-- a list at a, a tuple at b, as they stand at each turn; the pairs are new -/
def ItM (K : PySem.W.Frag) (a b : Addr) : It where
  go := fun m G => ∃ (us ws : List V) (p q : V), SqL K G a us ∧ SqT K G b ws ∧ us[m]? = some p ∧ ws[m]? = some q
  yld := fun m G v G' => ∃ T p q, v = .ref T ∧ G T = none ∧ G' = upd G T (.tup [p, q]) ∧ (∀ us, SqL K G a us → us[m]? = some p) ∧ (∀ ws, SqT K G b ws → ws[m]? = some q)
  stop := fun m G => ∃ us ws : List V, SqL K G a us ∧ SqT K G b ws ∧ (us.length = m ∨ ws.length = m) ∧ m ≤ us.length ∧ m ≤ ws.length
theorem sep_of {a b z TI TO i1 i2 : Addr} (D : ZipApart z TI TO i1 i2 a b) : PySem.ZipSep2 z TI TO i1 i2 [i1, a] [i2, b] where
  TIz := D.TIz
  TOz := D.TOz
  TITO := D.TITO
  TIi1 := D.TIi1
  mem1 := List.mem_cons_self ..
  zf1 := by simp [Ne.symm D.i1z, Ne.symm D.l1z]
  Tf1 := by simp [D.TOi1, Ne.symm D.l1TO]
  TIi2 := D.TIi2
  mem2 := List.mem_cons_self ..
  zf2 := by simp [Ne.symm D.i2z, Ne.symm D.l2z]
  Tf2 := by simp [D.TOi2, Ne.symm D.l2TO]
  sep1_2 := by simp [D.i12, Ne.symm D.l2i1]
  sep2_1 := by simp [Ne.symm D.i12, Ne.symm D.l1i2]
section
variable {P : Program} {w : World} {K : PySem.W.Frag} {tgs : List Expr} {nn : Nat} {ps : Pos} {a b z TI TO i1 i2 : Addr}
abbrev cells (z TI TO i1 i2 : Addr) : List Addr := [z, TI, TO, i1, i2]
theorem in_cells {c : Addr} (h : c ∈ cells z TI TO i1 i2) : c = z ∨ c = TI ∨ c = TO ∨ c = i1 ∨ c = i2 := by simpa [cells] using h
theorem not_cells {c : Addr} (h : c ∉ cells z TI TO i1 i2) : c ≠ z ∧ c ≠ TI ∧ c ≠ TO ∧ c ≠ i1 ∧ c ≠ i2 := by
  simp only [cells, List.mem_cons, List.mem_nil_iff, or_false, not_or] at h
  exact h
/-- where the five cells stand ahead of turn m -/
def StM (z TI TO i1 i2 a b : Addr) (m : Nat) (g : Heap) : Prop := IsZip g z TI TO .none ∧ IsPair g TI (.ref i1) (.ref i2) ∧ (∃ p q, IsPair g TO p q) ∧ g.IsListIter i1 a m ∧ g.IsTupleIter i2 b m
theorem StM.lt {m : Nat} {g : Heap} (S : StM z TI TO i1 i2 a b m g) {c : Addr} (h : c ∈ cells z TI TO i1 i2) : c < g.objs.size := by
  obtain ⟨s1, s2, ⟨p, q, s3⟩, ⟨o1, e1, _⟩, ⟨o2, e2, _⟩⟩ := S
  rcases in_cells h with rfl | rfl | rfl | rfl | rfl
  · exact Heap.lt_size s1
  · exact Heap.lt_size s2
  · exact Heap.lt_size s3
  · exact Heap.lt_size e1
  · exact Heap.lt_size e2
theorem turnM (D : ZipApart z TI TO i1 i2 a b) : Turn P w K (.Tuple tgs nn ps) (ItM K a b) (cells z TI TO i1 i2) z (StM z TI TO i1 i2 a b) where
  mem := List.mem_cons_self ..
  obj := fun m g S c hc => by
    obtain ⟨s1, s2, ⟨p, q, s3⟩, ⟨o1, e1, _, d1⟩, ⟨o2, e2, _, d2⟩⟩ := S
    rcases in_cells hc with rfl | rfl | rfl | rfl | rfl
    · exact ⟨_, s1, fun v n => nomatch n⟩
    · exact ⟨_, s2, fun v n => nomatch n⟩
    · exact ⟨_, s3, fun v n => nomatch n⟩
    · exact ⟨o1, e1, fun v n => by rw [d1] at n; cases n⟩
    · exact ⟨o2, e2, fun v n => by rw [d2] at n; cases n⟩
  keep := fun m g g' S kp => by
    obtain ⟨s1, s2, ⟨p, q, s3⟩, s4, s5⟩ := S
    have mz : ∀ c ∈ cells z TI TO i1 i2, ∀ o, g.get? c = some o → g'.get? c = some o := kp
    exact ⟨mz z (by simp [cells]) _ s1, mz TI (by simp [cells]) _ s2, ⟨p, q, mz TO (by simp [cells]) _ s3⟩, s4.at fun o e => mz i1 (by simp [cells]) o e, s5.at fun o e => mz i2 (by simp [cells]) o e⟩
  item := by
    intro X eP ew eK hc m pins s σ G E I hf S hg
    subst eP ew eK
    have low : ∀ c ∈ cells z TI TO i1 i2, c < s.heap.objs.size := fun c hm => S.lt hm
    obtain ⟨s1, s2, ⟨p0, q0, s3⟩, s4, s5⟩ := S
    obtain ⟨us, ws, p, q, gu, gw, hp, hq⟩ := hg
    obtain ⟨ius, ru, pu, _⟩ := I.list gu
    obtain ⟨iws, rw_, pw, _⟩ := I.tuple gw
    obtain ⟨vu, eu, rvu⟩ := ru.get hp
    obtain ⟨vw, ew, rvw⟩ := rw_.get hq
    have hh : X.A.in1.handled = none := I.ok.hd hc
    have l1 : m < ius.toArray.size := by rw [List.size_toArray]; exact (List.getElem?_eq_some_iff.mp eu).1
    have l2 : m < iws.toArray.size := by rw [List.size_toArray]; exact (List.getElem?_eq_some_iff.mp ew).1
    refine PySem.wpAny_pyNext_zipD2_item (sep_of D) (Draws.list hh i1 a D.l1i1 ius.toArray) (Draws.tuple hh i2 b D.l2i2 iws.toArray) s1 s2 s3 ⟨s4, pu.isList⟩ ⟨s5, pw⟩ l1 l2 fun x1 x2 g tk y1 y2 n1 n2 n3 n4 n5 n6 kp => ?_
    have e1 : x1 = vu := by
      have : ius.toArray[m]? = some vu := by simpa using eu
      rw [this] at y1
      exact (Option.some.inj y1).symm
    have e2 : x2 = vw := by
      have : iws.toArray[m]? = some vw := by simpa using ew
      rw [this] at y2
      exact (Option.some.inj y2).symm
    subst e1 e2
    have T : Addr := s.heap.objs.size
    refine ⟨_, rfl, wpAny_letOwnedTupleGo_zip (s := { s with heap := g, toks := tk }) n1 fun g2 n1' sb => ?_⟩
    have zl := low z (by simp [cells])
    have keepT : g2.get? s.heap.objs.size = some { cls := .type "tuple", data := .seq #[x1, x2] } := (sb.2 _ (Nat.ne_of_gt zl)).trans n5
    have made : ObjOk X.prog X.w (upd G s.heap.objs.size (.tup [p, q])) g2 s.heap.objs.size (.tup [p, q]) := ⟨(by decide : 2 ≤ sizeLine), [x1, x2], .cons rvu (.cons rvw .nil), ⟨_, keepT, rfl, _, rfl⟩⟩
    have I' : Inv X pins σ (upd G s.heap.objs.size (.tup [p, q])) { s with heap := g2, toks := tk } :=
      I.turnedNew (t' := tk) (ch := cells z TI TO i1 i2) (fun c o no e => by
        obtain ⟨c1, c2, c3, c4, c5⟩ := not_cells no
        exact (sb.2 c c1).trans (kp c o c1 c3 c4 c5 e)) hf (Nat.le_refl _) made
    refine ⟨.ref s.heap.objs.size, _, I', rfl, ⟨_, p, q, rfl, I.hok.fresh (Nat.le_refl _), rfl, fun us' hu' => ?_, fun ws' hw' => ?_⟩, ⟨n1', ?_, ⟨x1, x2, (sb.2 _ D.TOz).trans n2⟩, ?_, ?_⟩, fun c hcm => ?_⟩
    · rw [I.list_inj hu' gu]; exact hp
    · rw [I.tuple_inj hw' gw]; exact hq
    · exact (sb.2 _ D.TIz).trans (kp _ _ D.TIz D.TITO D.TIi1 D.TIi2 s2)
    · exact n3.1.at fun o e => (sb.2 _ D.i1z).trans e
    · exact n4.1.at fun o e => (sb.2 _ D.i2z).trans e
    · rw [upd_ne (Nat.ne_of_lt (low c hcm))]
      exact (hf c hcm).1
  done := by
    intro X eP ew eK hc m pins s σ G E I hf S hg
    subst eP ew eK
    obtain ⟨s1, s2, ⟨p0, q0, s3⟩, s4, s5⟩ := S
    obtain ⟨us, ws, gu, gw, fin, le1, le2⟩ := hg
    obtain ⟨ius, ru, pu, _⟩ := I.list gu
    obtain ⟨iws, rw_, pw, _⟩ := I.tuple gw
    have hh : X.A.in1.handled = none := I.ok.hd hc
    have k1 := ru.length
    have k2 := rw_.length
    exact PySem.wpAny_pyNext_zipD2_end (sep_of D) (Draws.list hh i1 a D.l1i1 ius.toArray) (Draws.tuple hh i2 b D.l2i2 iws.toArray) s1 s2 s3 ⟨s4, pu.isList⟩ ⟨s5, pw⟩ (by rw [List.size_toArray]; omega) (by rw [List.size_toArray]; omega) (by rw [List.size_toArray, List.size_toArray]; omega)
      fun g tk kp => ⟨rfl, I.turnedL (t' := tk) (ch := cells z TI TO i1 i2) (fun c o no e => by
        obtain ⟨c1, c2, c3, c4, c5⟩ := not_cells no
        exact kp c o c1 c3 c4 c5 e) hf⟩
  self := fun A m s Q E S h => wpAny_pyIter_zip S.1 h
end
/-- zip(list, tuple) -/
def iZipM (K : PySem.W.Frag) (ta : TA) : TI := fun σ G R => ta σ G fun vs G1 => ∃ a b us ws, vs = [.ref a, .ref b] ∧ SqL K G1 a us ∧ SqT K G1 b ws ∧ R (ItM K a b) G1
theorem pi_zipM {X : Cx} {e e2 : Expr} {ta : TA} {p pos tpos : Pos} {tgs : List Expr} {nn : Nat} (hg : Gl X "zip") (hm : X.mg "zip" = none) (ha : PA X [e, e2] ta)
    (hs : starEach [e, e2] X.env = (false, eval e X.env) :: starEach [e2] X.env) (hpl : (backTo pos (starEach [e2] X.env)).any (·.1) = false) :
    PI X (.Tuple tgs nn tpos) (.Call (.Name "zip" p) [e, e2] [] pos) (iZipM X.K ta) := by
  refine ⟨fun pins s σ G R I h => ?_⟩
  refine Call_ (ld_blt I hg hm PyProof.Rows.boot_zip (PyProof.Rows.callWith_type1 (thn (ha.run pos pins s σ G _ I h) fun vs s1 ⟨xs, G1, I1, rv, more⟩ => ?_) hs hpl))
  obtain ⟨a, b, us, ws, rfl, gu, gw, fin⟩ := more
  obtain ⟨va, vb, rfl, ra, rb⟩ := vals2 rv
  cases ra; cases rb
  obtain ⟨ius, ru, pu, _⟩ := I1.list gu
  obtain ⟨iws, rw_, pw, _⟩ := I1.tuple gw
  have la : a < s1.heap.objs.size := pu.lt
  have lb : b < s1.heap.objs.size := by obtain ⟨o, ho, _⟩ := id pw; exact Heap.lt_size ho
  have young : ∀ c ∈ cells (s1.heap.objs.size + 4) (s1.heap.objs.size + 2) (s1.heap.objs.size + 3) s1.heap.objs.size (s1.heap.objs.size + 1), FpOk X pins G1 c := fun c hc => by
    have ge : s1.heap.objs.size ≤ c := by
      rcases in_cells hc with rfl | rfl | rfl | rfl | rfl <;> omega
    exact I1.fpOk ge (I1.hok.fresh ge)
  refine PySem.zip_begins2 (PySem.begins_list a ius.toArray) (PySem.begins_tuple b iws.toArray) pu.isList pw fun g n1 n2 n3 n4 n5 n6 kp => wpAny_pyIter_zip n1 ?_
  have I2 : Inv X pins σ G1 { s1 with heap := g } := I1.kept (t' := s1.toks) kp
  exact ⟨_, _, _, _, G1, rfl, I2, turnM (PySem.W.ktu_apart s1.heap.objs.size a b la lb), ⟨n1, n2, ⟨_, _, n3⟩, ⟨_, n4, rfl, rfl⟩, ⟨_, n5, rfl, rfl⟩⟩, young, fin⟩
end Mz
end
section
/-! Mi2: what the evaluator's frames have to do with HandS's frames and heaps. -/
namespace Mi
open PySem PySem.Spec
open PyProof.Rows hiding St Fr
open L2

/-! ### data in a heap -/
/-- a tuple without a dict of its own -/
def Tp (K : PySem.W.Frag) (F : Hp) (a : Addr) (xs : List V) : Prop := (∃ ob : Obj, ob.dict = none ∧ F a = some (.frz ob (.tup xs))) ∨
  ∃ (o : Obj) (vs : Array Value) (n : Nat), K.lookup a = some o ∧ o.cls = .type "tuple" ∧ o.dict = none ∧ o.data = .seq vs n ∧ vs.size ≤ sizeLine ∧ Vals xs vs.toList
theorem Tp.same {K : PySem.W.Frag} {H H' : Hp} {a : Addr} {xs : List V} (e : Same H H') (h : Tp K H a xs) : Tp K H' a xs := by
  rcases h with ⟨ob, h1, h2⟩ | h
  · exact .inl ⟨ob, h1, e _ _ h2⟩
  · exact .inr h
mutual
inductive Dn (K : PySem.W.Frag) (F : Hp) : V → PyData → Prop
  | non : Dn K F .non .none
  | bl (b : Bool) : Dn K F (.bl b) (.bool b)
  | int (i : Int) : Dn K F (.int i) (.int i)
  | str (x : Str) : Dn K F (.str x) (.str x)
  | lst {a : Addr} {xs : List V} {ds : List PyData} : F a = some (.lst xs) → DnAll K F xs ds → Dn K F (.ref a) (.list ds)
  | tup {a : Addr} {xs : List V} {ds : List PyData} : Tp K F a xs → DnAll K F xs ds → Dn K F (.ref a) (.tuple ds)
inductive DnAll (K : PySem.W.Frag) (F : Hp) : List V → List PyData → Prop
  | nil : DnAll K F [] []
  | cons {v : V} {vs : List V} {d : PyData} {ds : List PyData} : Dn K F v d → DnAll K F vs ds → DnAll K F (v :: vs) (d :: ds)
end
theorem Tp.sq {K : PySem.W.Frag} {H : Hp} {a : Addr} {xs : List V} (h : Tp K H a xs) : SqT K H a xs := by
  rcases h with ⟨ob, h1, h2⟩ | ⟨o, vs, n, h1, h2, h3, h4, h5, h6⟩
  · exact .inl (.inr ⟨ob, h2⟩)
  · exact .inr ⟨o, vs, n, h1, h2, h4, h5, h6⟩
mutual
theorem dn_dp {K : PySem.W.Frag} {F : Hp} : ∀ (p : PyData) (v : V), Dn K F v p → Dp K F v p
  | .none, _, h => by cases h; exact .non
  | .bool b, _, h => by cases h; exact .bl b
  | .int i, _, h => by cases h; exact .int i
  | .str x, _, h => by cases h; exact .str x
  | .list ds, _, h => by
    cases h with
    | lst h1 h2 => exact .lst (.inl (.inl h1)) (dnAll_dp ds _ h2)
  | .tuple ds, _, h => by
    cases h with
    | tup h1 h2 => exact .tup h1.sq (dnAll_dp ds _ h2)
  | .dict _, _, h => by cases h
theorem dnAll_dp {K : PySem.W.Frag} {F : Hp} : ∀ (ps : List PyData) (vs : List V), DnAll K F vs ps → DpAll K F vs ps
  | [], _, h => by cases h; exact .nil
  | p :: ps, _, h => by
    cases h with
    | cons h1 h2 => exact .cons (dn_dp p _ h1) (dnAll_dp ps _ h2)
end

mutual
theorem dp_same {K : PySem.W.Frag} {F F' : Hp} (e : Same F F') : ∀ (p : PyData) (v : V), Dn K F v p → Dn K F' v p
  | .none, _, h => by cases h; exact .non
  | .bool b, _, h => by cases h; exact .bl b
  | .int i, _, h => by cases h; exact .int i
  | .str x, _, h => by cases h; exact .str x
  | .list ds, _, h => by
    cases h with
    | lst h1 h2 => exact .lst (e _ _ h1) (dpAll_same e ds _ h2)
  | .tuple ds, _, h => by
    cases h with
    | tup h1 h2 => exact .tup (h1.same e) (dpAll_same e ds _ h2)
  | .dict _, _, h => by cases h
theorem dpAll_same {K : PySem.W.Frag} {F F' : Hp} (e : Same F F') : ∀ (ps : List PyData) (vs : List V), DnAll K F vs ps → DnAll K F' vs ps
  | [], _, h => by cases h; exact .nil
  | p :: ps, _, h => by
    cases h with
    | cons h1 h2 => exact .cons (dp_same e p _ h1) (dpAll_same e ps _ h2)
end
section
variable {K : PySem.W.Frag} {F F' H H' : Hp} {vs ws : List V} {ps qs : List PyData} {v : V} {p : PyData}
theorem dpl_len : ∀ {vs : List V} {ps : List PyData}, DnAll K F vs ps → vs.length = ps.length
  | _, _, .nil => rfl
  | _, _, .cons _ t => congrArg Nat.succ (dpl_len t)
theorem dpl_app : ∀ {vs ws : List V} {ps qs : List PyData}, DnAll K F vs ps → DnAll K F ws qs → DnAll K F (vs ++ ws) (ps ++ qs)
  | _, _, _, _, .nil, s => s
  | _, _, _, _, .cons r t, s => .cons r (dpl_app t s)
theorem dpl_get : ∀ {vs : List V} {ps : List PyData} {i : Nat} {p : PyData}, DnAll K F vs ps → ps[i]? = some p → ∃ v, vs[i]? = some v ∧ Dn K F v p
  | _, _, _, _, .nil, e => by simp at e
  | _, _, 0, _, .cons r _, e => by simp at e; subst e; exact ⟨_, rfl, r⟩
  | _, _, i + 1, p, .cons _ t, e => by
    obtain ⟨v, h1, h2⟩ := dpl_get (i := i) (p := p) t (by simpa using e)
    exact ⟨v, by simpa using h1, h2⟩
theorem dpl_get' : ∀ {vs : List V} {ps : List PyData} {i : Nat} {v : V}, DnAll K F vs ps → vs[i]? = some v → ∃ p, ps[i]? = some p ∧ Dn K F v p
  | _, _, _, _, .nil, e => by simp at e
  | _, _, 0, _, .cons r _, e => by simp at e; subst e; exact ⟨_, rfl, r⟩
  | _, _, i + 1, p, .cons _ t, e => by
    obtain ⟨v, h1, h2⟩ := dpl_get' (i := i) (v := p) t (by simpa using e)
    exact ⟨v, by simpa using h1, h2⟩
theorem dpl_set (r : Dn K F v p) : ∀ {vs : List V} {ps : List PyData} (i : Nat), DnAll K F vs ps → DnAll K F (vs.set i v) (ps.set i p)
  | _, _, _, .nil => .nil
  | _, _, 0, .cons _ t => .cons r t
  | _, _, i + 1, .cons q t => .cons q (dpl_set r i t)
theorem dpl_erase : ∀ {vs : List V} {ps : List PyData} (i : Nat), DnAll K F vs ps → DnAll K F (vs.eraseIdx i) (ps.eraseIdx i)
  | _, _, _, .nil => .nil
  | _, _, 0, .cons _ t => t
  | _, _, i + 1, .cons q t => .cons q (dpl_erase i t)
theorem dpl_take : ∀ {vs : List V} {ps : List PyData} (n : Nat), DnAll K F vs ps → DnAll K F (vs.take n) (ps.take n)
  | _, _, 0, _ => .nil
  | _, _, _ + 1, .nil => .nil
  | _, _, n + 1, .cons r t => .cons r (dpl_take n t)
theorem dpl_drop : ∀ {vs : List V} {ps : List PyData} (n : Nat), DnAll K F vs ps → DnAll K F (vs.drop n) (ps.drop n)
  | _, _, 0, r => r
  | _, _, _ + 1, .nil => .nil
  | _, _, n + 1, .cons r t => dpl_drop n t
theorem dpl_rev : ∀ {vs : List V} {ps : List PyData}, DnAll K F vs ps → DnAll K F vs.reverse ps.reverse
  | _, _, .nil => .nil
  | _, _, .cons r t => by rw [List.reverse_cons, List.reverse_cons]; exact dpl_app (dpl_rev t) (.cons r .nil)
theorem dpl_rep : ∀ (n : Nat), DnAll K F vs ps → DnAll K F (List.replicate n vs).flatten (List.replicate n ps).flatten
  | 0, _ => .nil
  | n + 1, h => by rw [List.replicate_succ, List.replicate_succ, List.flatten_cons, List.flatten_cons]; exact dpl_app h (dpl_rep n h)
mutual
theorem dp_plain : ∀ (p : PyData) (v : V), Dn K F v p → p.plain = true
  | .none, _, _ => rfl
  | .bool _, _, _ => rfl
  | .int _, _, _ => rfl
  | .str _, _, _ => rfl
  | .list ds, _, h => by
    cases h with
    | lst h1 h2 => show PyData.plainAll ds = true; exact dpl_plain ds _ h2
  | .tuple ds, _, h => by
    cases h with
    | tup h1 h2 => show PyData.plainAll ds = true; exact dpl_plain ds _ h2
  | .dict _, _, h => by cases h
theorem dpl_plain : ∀ (ps : List PyData) (vs : List V), DnAll K F vs ps → PyData.plainAll ps = true
  | [], _, _ => rfl
  | p :: ps, _, h => by
    cases h with
    | cons h1 h2 =>
      show (p.plain && PyData.plainAll ps) = true
      rw [dp_plain p _ h1, dpl_plain ps _ h2] <;> rfl
end
end

/-- a dict's pairs -/
inductive DnKV (K : PySem.W.Frag) (F : Hp) : List (Key × V) → List (Key × PyData) → Prop
  | nil : DnKV K F [] []
  | cons {k : Key} {v : V} {p : PyData} {vs : List (Key × V)} {ps : List (Key × PyData)} : Dn K F v p → DnKV K F vs ps → DnKV K F ((k, v) :: vs) ((k, p) :: ps)
section
variable {K : PySem.W.Frag} {F F' : Hp}
theorem dkv_same (e : Same F F') : ∀ {vs : List (Key × V)} {ps : List (Key × PyData)}, DnKV K F vs ps → DnKV K F' vs ps
  | _, _, .nil => .nil
  | _, _, .cons h t => .cons (dp_same e _ _ h) (dkv_same e t)
theorem dkv_len : ∀ {vs : List (Key × V)} {ps : List (Key × PyData)}, DnKV K F vs ps → vs.length = ps.length
  | _, _, .nil => rfl
  | _, _, .cons _ t => congrArg Nat.succ (dkv_len t)
theorem dkv_get (k : Key) : ∀ {vs : List (Key × V)} {ps : List (Key × PyData)}, DnKV K F vs ps → (∀ p, getK ps k = some p → ∃ v, valV vs k = some v ∧ Dn K F v p) ∧ (getK ps k = none → valV vs k = none)
  | _, _, .nil => ⟨fun p h => (by cases h), fun _ => rfl⟩
  | _, _, .cons (k := j) (v := v) (p := p0) h t => by
    obtain ⟨h1, h2⟩ := dkv_get k t
    by_cases e : j = k
    · subst e
      refine ⟨fun p hp => ?_, fun hp => ?_⟩
      · simp [getK] at hp
        subst hp
        exact ⟨v, valV_pos rfl, h⟩
      · simp [getK] at hp
    · have g : ∀ ps : List (Key × PyData), getK ((j, p0) :: ps) k = getK ps k := fun ps => by simp [getK, List.find?_cons, e]
      refine ⟨fun p hp => ?_, fun hp => ?_⟩
      · rw [g] at hp
        obtain ⟨u, q1, q2⟩ := h1 p hp
        exact ⟨u, by rw [valV_neg (show ¬ ((j, v) : Key × V).1 = k from e)]; exact q1, q2⟩
      · rw [g] at hp
        rw [valV_neg (show ¬ ((j, v) : Key × V).1 = k from e)]
        exact h2 hp
theorem dkv_some (k : Key) {vs : List (Key × V)} {ps : List (Key × PyData)} (h : DnKV K F vs ps) : (valV vs k).isSome = (getK ps k).isSome := by
  obtain ⟨h1, h2⟩ := dkv_get k h
  cases e : getK ps k with
  | none => rw [h2 e] <;> rfl
  | some p =>
    obtain ⟨v, q, _⟩ := h1 p e
    rw [q] <;> rfl
theorem dkv_any (k : Key) : ∀ {vs : List (Key × V)} {ps : List (Key × PyData)}, DnKV K F vs ps → (vs.any fun q => decide (q.1 = k)) = (ps.any fun q => decide (q.1 = k))
  | _, _, .nil => rfl
  | _, _, .cons _ t => by rw [List.any_cons, List.any_cons, dkv_any k t]
theorem dkv_repl (k : Key) {v : V} {p : PyData} (h : Dn K F v p) : ∀ {vs : List (Key × V)} {ps : List (Key × PyData)}, DnKV K F vs ps → DnKV K F (vs.map fun q => if q.1 = k then (q.1, v) else q) (ps.map fun q => if q.1 = k then (q.1, p) else q)
  | _, _, .nil => .nil
  | _, _, .cons (k := j) h0 t => by
    rw [List.map_cons, List.map_cons]
    by_cases e : j = k
    · rw [if_pos e, if_pos e]; exact .cons h (dkv_repl k h t)
    · rw [if_neg e, if_neg e]; exact .cons h0 (dkv_repl k h t)
theorem dkv_snoc {k : Key} {v : V} {p : PyData} (h : Dn K F v p) : ∀ {vs : List (Key × V)} {ps : List (Key × PyData)}, DnKV K F vs ps → DnKV K F (vs ++ [(k, v)]) (ps ++ [(k, p)])
  | _, _, .nil => .cons h .nil
  | _, _, .cons h0 t => .cons h0 (dkv_snoc h t)
theorem dkv_put (k : Key) {v : V} {p : PyData} (h : Dn K F v p) {vs : List (Key × V)} {ps : List (Key × PyData)} (t : DnKV K F vs ps) : DnKV K F (putK vs k v) (putKd ps k p) := by
  unfold putK putKd
  rw [dkv_any k t]
  split
  · exact dkv_repl k h t
  · exact dkv_snoc h t
/-- a key's value -/
theorem dn_key {v : V} {p : PyData} {k : Key} (h : Dn K F v p) (e : keyP p = some k) : v = kV k := by
  cases h with
  | int i => cases e; rfl
  | str x => cases e; rfl
  | _ => cases e
end
/-- the frozen value -/
def Den (K : PySem.W.Frag) (F : Hp) (v : V) : D → Prop
  | .py p => Dn K F v p
  | .dct kvs => ∃ a vs, v = .ref a ∧ F a = some (.dK vs) ∧ DnKV K F vs kvs
  | .set _ => False
  | .scr ns => ∃ a, v = .ref a ∧ SqL K F a (ns.map V.int)
/-- what stands at an address in one hand alone -/
def OwnAt (K : PySem.W.Frag) (F H : Hp) (a : Addr) : D → Prop
  | .py (.list ds) => ∃ vs, H a = some (.lst vs) ∧ DnAll K F vs ds
  | .dct kvs => ∃ vs, H a = some (.dK vs) ∧ DnKV K F vs kvs
  | _ => False
def Sl.owned : Sl → Bool
  | .ow _ => true
  | .bo _ => true
  | _ => false
def SlR (K : PySem.W.Frag) (F H : Hp) (σ : St) (i : Nat) : Sl → Prop
  | .no => True
  | .fr d => ∃ v, σ[i]? = some (some v) ∧ Den K F v d
  | .ow d => ∃ a, σ[i]? = some (some (V.ref a)) ∧ F a = none ∧ OwnAt K F H a d
  | .bo d => ∃ a, σ[i]? = some (some (V.ref a)) ∧ F a = none ∧ OwnAt K F H a d
/-- the addresses that this frame may change -/
def Owns (st : En) (σ : St) (a : Addr) : Prop := ∃ (i : Nat) (s : Sl), st[i]? = some s ∧ s.owned = true ∧ σ[i]? = some (some (V.ref a))
structure Rel (K : PySem.W.Frag) (F : Hp) (st : En) (σ : St) (H : Hp) : Prop where
  le : Same F H
  len : σ.length = st.length
  sl : ∀ (i : Nat) (s : Sl), st[i]? = some s → SlR K F H σ i s
  inj : ∀ (i j : Nat) (s t : Sl) (a : Addr), st[i]? = some s → st[j]? = some t → s.owned = true → t.owned = true → σ[i]? = some (some (V.ref a)) → σ[j]? = some (some (V.ref a)) → i = j
/-- from one heap to a later one: O may be changed -/
structure Stp (O : Addr → Prop) (F H F' H' : Hp) (O' : Addr → Prop) : Prop where
  fr : Same F F'
  keep : ∀ a o, H a = some o → ¬ O a → H' a = some o
  live : ∀ a, H a ≠ none → H' a ≠ none
  own : ∀ a, O' a → O a ∨ H a = none
  frz : ∀ a, F' a ≠ none → F a ≠ none ∨ O a ∨ H a = none
theorem Stp.refl (O : Addr → Prop) (F H : Hp) : Stp O F H F H O := ⟨Same.refl F, fun _ _ h _ => h, fun _ h => h, fun _ h => .inl h, fun _ h => .inl h⟩
theorem Stp.trans {O O1 O2 : Addr → Prop} {F H F1 H1 F2 H2 : Hp} (a : Stp O F H F1 H1 O1) (b : Stp O1 F1 H1 F2 H2 O2) : Stp O F H F2 H2 O2 where
  fr := a.fr.trans b.fr
  keep := fun x o h n => b.keep x o (a.keep x o h n) fun q => (a.own x q).elim n fun z => by rw [z] at h; cases h
  live := fun x h => b.live x (a.live x h)
  own := fun x h => (b.own x h).elim (a.own x) fun z => .inr (by
    cases q : H x with
    | none => rfl
    | some o => exact absurd z (a.live x (by rw [q]; simp)))
  frz := fun x h => (b.frz x h).elim (a.frz x) fun z => z.elim (fun z => .inr (a.own x z)) fun z => .inr (.inr (by
    cases q : H x with
    | none => rfl
    | some o => exact absurd z (a.live x (by rw [q]; simp))))
/-- what is lent stays lent, at its place -/
def Bos (st : En) (σ : St) (st' : En) (σ' : St) : Prop := ∀ (i : Nat) (d : D), st'[i]? = some (Sl.bo d) → σ'[i]? = σ[i]? ∧ ∃ d0 : D, st[i]? = some (Sl.bo d0)
theorem Bos.refl (st : En) (σ : St) : Bos st σ st σ := fun i d h => ⟨rfl, d, h⟩
theorem Bos.trans {st st1 st2 : En} {σ σ1 σ2 : St} (a : Bos st σ st1 σ1) (b : Bos st1 σ1 st2 σ2) : Bos st σ st2 σ2 := fun i d h => by
  obtain ⟨e, d1, h1⟩ := b i d h
  obtain ⟨e0, d0, h0⟩ := a i d1 h1
  exact ⟨e.trans e0, d0, h0⟩
structure Go (K : PySem.W.Frag) (st : En) (σ : St) (F H : Hp) (st' : En) (σ' : St) (F' H' : Hp) : Prop where
  stp : Stp (Owns st σ) F H F' H' (Owns st' σ')
  rel : Rel K F' st' σ' H'
  bos : Bos st σ st' σ'
theorem Go.refl {K : PySem.W.Frag} {st : En} {σ : St} {F H : Hp} (r : Rel K F st σ H) : Go K st σ F H st σ F H := ⟨Stp.refl _ _ _, r, Bos.refl _ _⟩
theorem Go.trans {K : PySem.W.Frag} {st st1 st2 : En} {σ σ1 σ2 : St} {F H F1 H1 F2 H2 : Hp} (a : Go K st σ F H st1 σ1 F1 H1) (b : Go K st1 σ1 F1 H1 st2 σ2 F2 H2) : Go K st σ F H st2 σ2 F2 H2 :=
  ⟨a.stp.trans b.stp, b.rel, a.bos.trans b.bos⟩
/-- how a value stands for an operand -/
def ORel (K : PySem.W.Frag) (F H : Hp) (st : En) (σ : St) (v : V) : Od → Prop
  | .va d => Den K F v d
  | .fe d => ∃ a, v = .ref a ∧ F a = none ∧ OwnAt K F H a d ∧ ¬ Owns st σ a
  | .pk i => σ[i]? = some (some v)
section
variable {K : PySem.W.Frag} {F H F' H' : Hp} {st st' : En} {σ σ' : St} {v : V} {od : Od} {d : D} {a : Addr}
theorem Den.same (e : Same F F') : ∀ {d : D}, Den K F v d → Den K F' v d
  | .py p, h => dp_same e p v h
  | .dct _, h => by
    obtain ⟨a, vs, h1, h2, h3⟩ := h
    exact ⟨a, vs, h1, e _ _ h2, dkv_same e h3⟩
  | .set _, h => h.elim
  | .scr _, h => by
    obtain ⟨a, h1, h2⟩ := h
    exact ⟨a, h1, e.seq h2⟩
theorem OwnAt.same (e : Same F F') (h2 : ∀ o, H a = some o → H' a = some o) : ∀ {d : D}, OwnAt K F H a d → OwnAt K F' H' a d
  | .py (.list ds), h => by
    obtain ⟨vs, h1, h3⟩ := h
    exact ⟨vs, h2 _ h1, dpAll_same e ds _ h3⟩
  | .dct kvs, h => by
    obtain ⟨vs, h1, h3⟩ := h
    exact ⟨vs, h2 _ h1, dkv_same e h3⟩
theorem OwnAt.live : ∀ {d : D}, OwnAt K F H a d → H a ≠ none
  | .py (.list ds), h => by
    obtain ⟨vs, h1, _⟩ := h
    rw [h1]; simp
  | .dct kvs, h => by
    obtain ⟨vs, h1, _⟩ := h
    rw [h1]; simp
theorem Rel.ownsAt (r : Rel K F st σ H) {i : Nat} {s : Sl} (h : st[i]? = some s) (o : s.owned = true) : ∃ a d, σ[i]? = some (some (V.ref a)) ∧ F a = none ∧ OwnAt K F H a d ∧ s.con = some d := by
  have q := r.sl i s h
  cases s with
  | no => cases o
  | fr d => cases o
  | ow d => obtain ⟨a, h1, h2, h3⟩ := q; exact ⟨a, d, h1, h2, h3, rfl⟩
  | bo d => obtain ⟨a, h1, h2, h3⟩ := q; exact ⟨a, d, h1, h2, h3, rfl⟩
theorem Rel.owns (r : Rel K F st σ H) (h : Owns st σ a) : F a = none ∧ H a ≠ none := by
  obtain ⟨i, s, h1, h2, h3⟩ := h
  obtain ⟨b, d, e1, e2, e3, _⟩ := r.ownsAt h1 h2
  rw [h3] at e1
  cases e1
  exact ⟨e2, e3.live⟩
theorem ORel.step (g : Go K st σ F H st' σ F' H') (h : ORel K F H st σ v od) : ORel K F' H' st' σ v od := by
  cases od with
  | va d => exact Den.same g.stp.fr h
  | fe d =>
    obtain ⟨a, e, n, o, w⟩ := h
    refine ⟨a, e, ?_, o.same g.stp.fr fun u q => g.stp.keep a u q w, fun z => (g.stp.own a z).elim w fun z => o.live z⟩
    cases q : F' a with
    | none => rfl
    | some u => exact ((g.stp.frz a (by rw [q]; simp)).elim (fun z => absurd n z) fun z => z.elim (fun z => absurd z w) fun z => absurd z o.live)
  | pk i => exact h
/-- a value that may be read as d now -/
def RdR (K : PySem.W.Frag) (F H : Hp) (v : V) (d : D) : Prop := Den K F v d ∨ ∃ a, v = .ref a ∧ OwnAt K F H a d
theorem ORel.rd (r : Rel K F st σ H) (h : ORel K F H st σ v od) (e : rd st od = some d) : RdR K F H v d := by
  cases od with
  | va d' => cases e; exact .inl h
  | fe d' =>
    cases e
    obtain ⟨a, e, _, o, _⟩ := h
    exact .inr ⟨a, e, o⟩
  | pk i =>
    have h : σ[i]? = some (some v) := h
    cases q : st[i]? with
    | none => simp only [Mi.rd, q, Option.bind_none] at e; cases e
    | some s =>
      simp only [Mi.rd, q, Option.bind_some] at e
      have z := r.sl i s q
      cases s with
      | no => cases e
      | fr d' =>
        cases e
        obtain ⟨u, h1, h2⟩ := z
        rw [h] at h1; cases h1
        exact .inl h2
      | ow d' =>
        cases e
        obtain ⟨u, h1, _, h2⟩ := z
        rw [h] at h1; cases h1
        exact .inr ⟨u, rfl, h2⟩
      | bo d' =>
        cases e
        obtain ⟨u, h1, _, h2⟩ := z
        rw [h] at h1; cases h1
        exact .inr ⟨u, rfl, h2⟩
/-- read as data -/
theorem RdR.dn (le : Same F H) : ∀ {p : PyData}, RdR K F H v (.py p) → Dn K H v p
  | p, .inl h => dp_same le p v h
  | .list ds, .inr ⟨a, e, h⟩ => by
    obtain ⟨vs, h1, h2⟩ := h
    subst e
    exact .lst h1 (dpAll_same le ds _ h2)
  | .none, .inr ⟨a, e, h⟩ => h.elim
  | .bool _, .inr ⟨a, e, h⟩ => h.elim
  | .int _, .inr ⟨a, e, h⟩ => h.elim
  | .str _, .inr ⟨a, e, h⟩ => h.elim
  | .tuple _, .inr ⟨a, e, h⟩ => h.elim
  | .dict _, .inr ⟨a, e, h⟩ => h.elim
theorem RdR.dp (le : Same F H) {p : PyData} (h : RdR K F H v (.py p)) : Dp K H v p := dn_dp p v (h.dn le)
/-- a list that is read, with its items -/
theorem RdR.list {ds : List PyData} (le : Same F H) (h : RdR K F H v (.py (.list ds))) : ∃ a vs, v = .ref a ∧ H a = some (.lst vs) ∧ DnAll K F vs ds := by
  rcases h with h | ⟨a, e, vs, h1, h2⟩
  · cases h with
    | lst h1 h2 => exact ⟨_, _, rfl, le _ _ h1, h2⟩
  · exact ⟨a, vs, e, h1, h2⟩
theorem RdR.tup {ds : List PyData} (le : Same F H) (h : RdR K F H v (.py (.tuple ds))) : ∃ a vs, v = .ref a ∧ Tp K H a vs ∧ DnAll K F vs ds := by
  rcases h with h | ⟨a, e, h⟩
  · cases h with
    | tup h1 h2 => exact ⟨_, _, rfl, h1.same le, h2⟩
  · exact h.elim
theorem RdR.scr {ns : List Int} (le : Same F H) (h : RdR K F H v (.scr ns)) : ∃ a, v = .ref a ∧ SqL K H a (ns.map V.int) := by
  rcases h with ⟨a, e, h⟩ | ⟨a, e, h⟩
  · exact ⟨a, e, le.seq h⟩
  · exact h.elim
theorem RdR.dct {kvs : List (Key × PyData)} (le : Same F H) (h : RdR K F H v (.dct kvs)) : ∃ a vs, v = .ref a ∧ H a = some (.dK vs) ∧ DnKV K F vs kvs := by
  rcases h with ⟨a, vs, e, h1, h2⟩ | ⟨a, e, vs, h1, h2⟩
  · exact ⟨a, vs, e, le _ _ h1, h2⟩
  · exact ⟨a, vs, e, h1, h2⟩
theorem RdR.int {i : Int} (h : RdR K F H v (.py (.int i))) : v = .int i := by
  rcases h with h | ⟨a, e, h⟩
  · cases h; rfl
  · exact h.elim
theorem RdR.bl {i : Bool} (h : RdR K F H v (.py (.bool i))) : v = .bl i := by
  rcases h with h | ⟨a, e, h⟩
  · cases h; rfl
  · exact h.elim
theorem RdR.non (h : RdR K F H v (.py .none)) : v = .non := by
  rcases h with h | ⟨a, e, h⟩
  · cases h; rfl
  · exact h.elim
theorem RdR.str {x : Str} (h : RdR K F H v (.py (.str x))) : v = .str x := by
  rcases h with h | ⟨a, e, h⟩
  · cases h; rfl
  · exact h.elim
theorem RdR.plain {p : PyData} (h : RdR K F H v (.py p)) : p.plain = true := by
  rcases h with h | ⟨a, e, h⟩
  · exact dp_plain p v h
  · cases p with
    | list ds =>
      obtain ⟨vs, _, h2⟩ := h
      exact dpl_plain ds vs h2
    | _ => exact h.elim
/-- what an operation hands back: nothing that stood is changed -/
structure New (F H F' H' : Hp) : Prop where
  fr : Same F F'
  hp : Same H H'
  le : Same F' H'
  frz : ∀ a, F' a ≠ none → F a ≠ none ∨ H a = none
def NewR (K : PySem.W.Frag) (H F' H' : Hp) (v : V) : Od → Prop
  | .va d => Den K F' v d
  | .fe d => ∃ a, v = .ref a ∧ H a = none ∧ F' a = none ∧ OwnAt K F' H' a d
  | .pk _ => False
theorem New.refl (le : Same F H) : New F H F H := ⟨Same.refl F, Same.refl H, le, fun _ h => .inl h⟩
theorem New.trans {F1 H1 F2 H2 : Hp} (a : New F H F1 H1) (b : New F1 H1 F2 H2) : New F H F2 H2 :=
  ⟨a.fr.trans b.fr, a.hp.trans b.hp, b.le, fun x h => (b.frz x h).elim (a.frz x) fun z => .inr (a.hp.free z)⟩
theorem New.go (r : Rel K F st σ H) (n : New F H F' H') : Go K st σ F H st σ F' H' := by
  have fn : ∀ a, Owns st σ a → F' a = none := fun a h => by
    obtain ⟨h1, h2⟩ := r.owns h
    cases q : F' a with
    | none => rfl
    | some u => exact ((n.frz a (by rw [q]; simp)).elim (fun z => absurd h1 z) fun z => absurd z h2)
  refine ⟨⟨n.fr, fun a o h _ => n.hp a o h, fun a h => ?_, fun _ h => .inl h, fun a h => (n.frz a h).elim .inl fun z => .inr (.inr z)⟩, ⟨n.le, r.len, fun i s h => ?_, r.inj⟩, Bos.refl _ _⟩
  · cases q : H a with
    | none => exact absurd q h
    | some o => rw [n.hp a o q]; simp
  · have z := r.sl i s h
    cases s with
    | no => trivial
    | fr d => obtain ⟨v, h1, h2⟩ := z; exact ⟨v, h1, h2.same n.fr⟩
    | ow d => obtain ⟨a, h1, h2, h3⟩ := z; exact ⟨a, h1, fn a ⟨i, _, h, rfl, h1⟩, h3.same n.fr fun o q => n.hp a o q⟩
    | bo d => obtain ⟨a, h1, h2, h3⟩ := z; exact ⟨a, h1, fn a ⟨i, _, h, rfl, h1⟩, h3.same n.fr fun o q => n.hp a o q⟩
theorem NewR.orel (r : Rel K F st σ H) (n : New F H F' H') (h : NewR K H F' H' v od) : ORel K F' H' st σ v od := by
  cases od with
  | va d => exact h
  | fe d =>
    obtain ⟨a, e, h1, h2, h3⟩ := h
    exact ⟨a, e, h2, h3, fun z => (r.owns z).2 h1⟩
  | pk i => exact h.elim
theorem NewR.bl (b : Bool) : NewR K H F' H' (.bl b) (ofB b) := Dn.bl b
theorem NewR.int (i : Int) : NewR K H F' H' (.int i) (ofI i) := Dn.int i
/-- a new object, frozen at once -/
theorem New.put {p : Addr} {u : HO} (le : Same F H) (hp : H p = none) : New F H (upd F p u) (upd H p u) := by
  have hF : F p = none := le.free hp
  refine ⟨fun a o h => ?_, fun a o h => ?_, fun a o h => ?_, fun a h => ?_⟩
  · rw [upd_ne (ne_of_none h hF)]; exact h
  · rw [upd_ne (ne_of_none h hp)]; exact h
  · by_cases e : a = p
    · subst e; rw [upd_same] at h ⊢; exact h
    · rw [upd_ne e] at h ⊢; exact le _ _ h
  · by_cases e : a = p
    · subst e; exact .inr hp
    · rw [upd_ne e] at h; exact .inl h
theorem NewR.tup {p : Addr} {vs : List V} {ds : List PyData} {ob : Obj} (le : Same F H) (hp : H p = none) (hd : ob.dict = none) (h : DnAll K F vs ds) : NewR K H (upd F p (.frz ob (.tup vs))) (upd H p (.frz ob (.tup vs))) (.ref p) (.va (.py (.tuple ds))) :=
  Dn.tup (.inl ⟨ob, hd, upd_same⟩) (dpAll_same (New.put le hp).fr ds vs h)
/-- a new list, in this hand alone -/
theorem New.lst {p : Addr} {vs : List V} (le : Same F H) (hp : H p = none) : New F H F (upd H p (.lst vs)) := by
  refine ⟨Same.refl F, fun a o h => ?_, fun a o h => ?_, fun a h => .inl h⟩
  · rw [upd_ne (ne_of_none h hp)]; exact h
  · rw [upd_ne (ne_of_none (le a o h) hp)]; exact le a o h
theorem NewR.lst {p : Addr} {vs : List V} {ds : List PyData} (le : Same F H) (hp : H p = none) (h : DnAll K F vs ds) : NewR K H F (upd H p (.lst vs)) (.ref p) (.fe (.py (.list ds))) :=
  ⟨p, rfl, hp, le.free hp, vs, upd_same, h⟩
/-- a new dict, in this hand alone -/
theorem New.dct {p : Addr} {vs : List (Key × V)} (le : Same F H) (hp : H p = none) : New F H F (upd H p (.dK vs)) := by
  refine ⟨Same.refl F, fun a o h => ?_, fun a o h => ?_, fun a h => .inl h⟩
  · rw [upd_ne (ne_of_none h hp)]; exact h
  · rw [upd_ne (ne_of_none (le a o h) hp)]; exact le a o h
theorem NewR.dct {p : Addr} (le : Same F H) (hp : H p = none) : NewR K H F (upd H p (.dK [])) (.ref p) (.fe (.dct [])) :=
  ⟨p, rfl, hp, le.free hp, [], upd_same, .nil⟩
end
end Mi
end
section
/-! Mi3: the operations. -/
namespace Mi
open PySem PySem.Spec
open PyProof.Rows hiding St Fr
open L2

theorem lim_line {n : Nat} (h : n ≤ lim) : n ≤ sizeLine := Nat.le_trans h (by rw [sizeLine_eq]; decide)
theorem lim_lt {n : Nat} (h : n ≤ lim) : n < sizeLine := Nat.lt_of_le_of_lt h (by rw [sizeLine_eq]; decide)
section
variable {X : Cx} {pins : List (Addr × Obj)} {σ : L2.St} {H F : Hp} {s : Shared} {Q : VK}
/-- a tuple just laid -/
theorem lay_tup {us : List Value} {vs : List V} {t' : Nat} (I : Inv X pins σ H s) (r : Vals vs us) (z : vs.length ≤ sizeLine) :
    Inv X pins σ (upd H s.heap.objs.size (.frz { cls := .type "tuple", data := .seq us.toArray } (.tup vs))) { s with heap := s.heap.push { cls := .type "tuple", data := .seq us.toArray }, toks := t' } :=
  I.laid (fun b u e => Heap.get?_push_of_some _ e) (Nat.le_refl _) ⟨Heap.get?_push_size _ rfl, z, us, r, ⟨_, Heap.get?_push_size _ rfl, rfl, _, rfl⟩⟩
theorem lay_lst {us : List Value} {vs : List V} {t' : Nat} (I : Inv X pins σ H s) (r : Vals vs us) (z : vs.length ≤ sizeLine) :
    Inv X pins σ (upd H s.heap.objs.size (.lst vs)) { s with heap := s.heap.push { cls := .type "list", data := .seq us.toArray }, toks := t' } :=
  I.laid (fun b u e => Heap.get?_push_of_some _ e) (Nat.le_refl _) ⟨z, us, 0, r, Heap.get?_push_size _ rfl⟩
theorem ep_of {v : V} {u : Value} (I : Inv X pins σ H s) (r : RelV v u) (q : Q v H) : EP X pins σ Q u s := ⟨v, H, I, r, q⟩
/-- the result is a new tuple -/
theorem ep_tup {us : List Value} {vs : List V} {ds : List PyData} {t' : Nat} (I : Inv X pins σ H s) (le : Same F H) (r : Vals vs us) (z : vs.length ≤ sizeLine) (h : DnAll X.K F vs ds)
    (q : ∀ v F' H', New F H F' H' → NewR X.K H F' H' v (.va (.py (.tuple ds))) → Q v H') : EP X pins σ Q (.ref s.heap.objs.size) { s with heap := s.heap.push { cls := .type "tuple", data := .seq us.toArray }, toks := t' } :=
  ⟨.ref s.heap.objs.size, _, lay_tup I r z, rfl, q _ _ _ (New.put le (I.hok.fresh (Nat.le_refl _))) (NewR.tup le (I.hok.fresh (Nat.le_refl _)) rfl h)⟩
theorem ep_lst {us : List Value} {vs : List V} {ds : List PyData} {t' : Nat} (I : Inv X pins σ H s) (le : Same F H) (r : Vals vs us) (z : vs.length ≤ sizeLine) (h : DnAll X.K F vs ds)
    (q : ∀ v F' H', New F H F' H' → NewR X.K H F' H' v (.fe (.py (.list ds))) → Q v H') : EP X pins σ Q (.ref s.heap.objs.size) { s with heap := s.heap.push { cls := .type "list", data := .seq us.toArray }, toks := t' } :=
  ⟨.ref s.heap.objs.size, _, lay_lst I r z, rfl, q _ _ _ (New.lst le (I.hok.fresh (Nat.le_refl _))) (NewR.lst le (I.hok.fresh (Nat.le_refl _)) h)⟩
theorem tp_vals (I : Inv X pins σ H s) {a : Addr} {vs : List V} (h : Tp X.K H a vs) : ∃ its : List Value, Vals vs its ∧ IsTup s.heap a its.toArray ∧ vs.length ≤ sizeLine := I.tuple h.sq
theorem okMul_ok {i j : Int} (h : okMul i j = true) : CMul i j := by
  unfold okMul at h
  rw [Bool.or_eq_true, decide_eq_true_eq, decide_eq_true_eq] at h
  rcases h with h | h
  · exact .inl ⟨by omega, by omega⟩
  · exact .inr ⟨by omega, by omega⟩
end

def O2.op : O2 → Operator
  | .add => .Add
  | .sub => .Sub
  | .mul => .Mult
  | .fdiv => .FloorDiv
  | .mod => .Mod
  | .pow => .Pow
def rOp2 (K : PySem.W.Frag) (o : O2) : R2 := fun x y H Q => ∃ F dx dy od, Same F H ∧ RdR K F H x dx ∧ RdR K F H y dy ∧ op2 o dx dy = some od ∧ ∀ v F' H', New F H F' H' → NewR K H F' H' v od → Q v H'
theorem op2_ok {X : Cx} (o : O2) : OpR X (binaryOp o.op) (rOp2 X.K o) := by
  intro pins s σ H x y v u Q I rx ry h
  obtain ⟨F, dx, dy, od, le, hx, hy, e, q⟩ := h
  unfold op2 at e
  split at e
  · cases e; obtain rfl := hx.int; obtain rfl := hy.int
    exact op_add pins s σ H _ _ v u Q I rx ry ⟨_, _, rfl, rfl, q _ F H (New.refl le) (NewR.int _)⟩
  · rename_i xs ys
    split at e
    · rename_i hl
      cases e
      obtain ⟨a, vs, rfl, ha, h1⟩ := hx.list le
      obtain ⟨b, ws, rfl, hb, h2⟩ := hy.list le
      have z : vs.length + ws.length ≤ sizeLine := by rw [dpl_len h1, dpl_len h2]; exact lim_line hl
      exact op_cat pins s σ H _ _ v u Q I rx ry ⟨a, b, vs, ws, rfl, rfl, ha, hb, z, fun p hp => q _ _ _ (New.lst le hp) (NewR.lst le hp (dpl_app h1 h2))⟩
    · cases e
  · rename_i xs ys
    split at e
    · rename_i hl
      cases e
      obtain ⟨a, vs, rfl, ha, h1⟩ := hx.tup le
      obtain ⟨b, ws, rfl, hb, h2⟩ := hy.tup le
      have z : vs.length + ws.length ≤ sizeLine := by rw [dpl_len h1, dpl_len h2]; exact lim_line hl
      obtain ⟨its, r1, p1, _⟩ := tp_vals I ha
      obtain ⟨jts, r2, p2, _⟩ := tp_vals I hb
      cases rx; cases ry
      by_cases hv : its = []
      · subst hv
        cases r1
        cases h1
        refine cat_tup0 p1 p2 (ep_of (v := .ref b) I rfl (q _ F H (New.refl le) ?_))
        rw [List.nil_append]
        rcases hy with hy | ⟨_, _, hy⟩
        · exact hy
        · exact hy.elim
      · refine HT.cat_tup p1 p2 hv (fun hw => ?_) (fun hw => ?_) (by rw [← r1.length, ← r2.length]; exact z)
        · subst hw
          cases r2
          cases h2
          refine ep_of (v := .ref a) I rfl (q _ F H (New.refl le) ?_)
          rw [List.append_nil]
          rcases hx with hx | ⟨_, _, hx⟩
          · exact hx
          · exact hx.elim
        · exact ep_tup I le (r1.append r2) (by rw [List.length_append]; exact z) (dpl_app h1 h2) q
    · cases e
  · cases e; obtain rfl := hx.int; obtain rfl := hy.int
    exact op_sub pins s σ H _ _ v u Q I rx ry ⟨_, _, rfl, rfl, q _ F H (New.refl le) (NewR.int _)⟩
  · split at e
    · rename_i hc
      cases e; obtain rfl := hx.int; obtain rfl := hy.int
      exact op_mul pins s σ H _ _ v u Q I rx ry ⟨_, _, rfl, rfl, okMul_ok hc, q _ F H (New.refl le) (NewR.int _)⟩
    · cases e
  · rename_i xs j
    split at e
    · rename_i hc
      cases e; obtain rfl := hy.int
      obtain ⟨a, vs, rfl, ha, h1⟩ := hx.list le
      refine op_rep pins s σ H _ _ v u Q I rx ry ⟨a, j, vs, rfl, rfl, ha, by omega, by omega, ?_, fun p hp => q _ _ _ (New.lst le hp) (NewR.lst le hp (dpl_rep _ h1))⟩
      rw [dpl_len h1]
      have a1 : xs.length * j.toNat ≤ 1000 * 1000 := Nat.mul_le_mul hc.2.2 (by omega)
      exact lim_line (Nat.le_trans a1 (by decide))
    · cases e
  · split at e
    · rename_i hc
      cases e; obtain rfl := hx.int; obtain rfl := hy.int
      exact op_fdiv pins s σ H _ _ v u Q I rx ry ⟨_, _, rfl, rfl, hc, q _ F H (New.refl le) (NewR.int _)⟩
    · cases e
  · split at e
    · rename_i hc
      cases e; obtain rfl := hx.int; obtain rfl := hy.int
      exact op_mod pins s σ H _ _ v u Q I rx ry ⟨_, _, rfl, rfl, hc, q _ F H (New.refl le) (NewR.int _)⟩
    · cases e
  · split at e
    · rename_i hc
      cases e; obtain rfl := hx.int; obtain rfl := hy.int
      exact op_pow pins s σ H _ _ v u Q I rx ry ⟨_, _, rfl, rfl, ⟨hc.1, by omega, by omega⟩, q _ F H (New.refl le) (NewR.int _)⟩
    · cases e
  · cases e

/-! ### comparisons -/
def Cm.op : Cm → CmpOp
  | .eq => .Eq
  | .ne => .NotEq
  | .lt => .Lt
  | .le => .LtE
  | .gt => .Gt
  | .ge => .GtE
  | .isin => .In
  | .notin => .NotIn
  | .is => .Is
  | .isnot => .IsNot
def rCm (K : PySem.W.Frag) (o : Cm) : R2 := fun x y H Q => ∃ F dx dy b, Same F H ∧ RdR K F H x dx ∧ RdR K F H y dy ∧ cmp o dx dy = some b ∧ Q (.bl b) H
theorem room_dp {k : Nat} {A : Around} (hr : Room k A) {n m : Nat} (h : n ≤ dp) : A.units + min n m < cLine := by
  have := hr.units
  have h2 : n ≤ 30 := h
  have h3 := Nat.min_le_left n m
  omega
theorem room_dp1 {k : Nat} {A : Around} (hr : Room k A) {n m : Nat} (h : n ≤ dp) : A.units + 1 + min n m < cLine := by
  have := hr.units
  have h2 : n ≤ 30 := h
  have h3 := Nat.min_le_left n m
  omega
theorem okDp_ok {p : PyData} (h : okDp p = true) : p.depth ≤ dp := of_decide_eq_true h
theorem cm_ok {X : Cx} {k : Nat} (hr : Room k X.A) (o : Cm) : OpR X (compareOp o.op) (rCm X.K o) := by
  intro pins s σ H x y v u Q I rx ry h
  obtain ⟨F, dx, dy, b, le, hx, hy, e, q⟩ := h
  have fin : EP X pins σ Q (.bool b) s := ep_of (v := .bl b) I rfl q
  have hu : X.A.units + 1 < cLine := by
    have := hr.units
    omega
  unfold cmp at e
  split at e
  · split at e
    · rename_i hd
      rw [Bool.and_eq_true] at hd
      cases e
      obtain ⟨as, r1⟩ := Dp.reads I _ _ _ (hx.dp le) rx
      obtain ⟨bs, r2⟩ := Dp.reads I _ _ _ (hy.dp le) ry
      exact PySem.SeqAt.eq_plain r1 r2 hx.plain hy.plain (room_dp hr (okDp_ok hd.1)) fin
    · cases e
  · split at e
    · rename_i hd
      rw [Bool.and_eq_true] at hd
      cases e
      obtain ⟨as, r1⟩ := Dp.reads I _ _ _ (hx.dp le) rx
      obtain ⟨bs, r2⟩ := Dp.reads I _ _ _ (hy.dp le) ry
      exact PySem.SeqAt.ne_plain r1 r2 hx.plain hy.plain (room_dp hr (okDp_ok hd.1)) fin
    · cases e
  · cases e; obtain rfl := hx.int; obtain rfl := hy.int
    exact op_lt pins s σ H _ _ v u Q I rx ry ⟨_, _, rfl, rfl, q⟩
  · cases e; obtain rfl := hx.int; obtain rfl := hy.int
    exact op_le pins s σ H _ _ v u Q I rx ry ⟨_, _, rfl, rfl, q⟩
  · cases e; obtain rfl := hx.int; obtain rfl := hy.int
    exact op_gt pins s σ H _ _ v u Q I rx ry ⟨_, _, rfl, rfl, q⟩
  · cases e; obtain rfl := hx.int; obtain rfl := hy.int
    exact op_ge pins s σ H _ _ v u Q I rx ry ⟨_, _, rfl, rfl, q⟩
  · split at e
    · rename_i hd
      cases e
      obtain ⟨as, r1⟩ := Dp.reads I _ _ _ (hx.dp le) rx
      obtain ⟨bs, r2⟩ := Dp.reads I _ _ _ (hy.dp le) ry
      refine PySem.SeqAt.in_list_data r2 r1 hy.plain hx.plain ?_ fin
      rw [Nat.min_comm]
      exact room_dp1 hr (okDp_ok hd)
    · cases e
  · split at e
    · rename_i hd
      cases e
      obtain ⟨as, r1⟩ := Dp.reads I _ _ _ (hx.dp le) rx
      obtain ⟨bs, r2⟩ := Dp.reads I _ _ _ (hy.dp le) ry
      refine PySem.SeqAt.in_tuple_data r2 r1 hy.plain hx.plain ?_ fin
      rw [Nat.min_comm]
      exact room_dp1 hr (okDp_ok hd)
    · cases e
  · split at e
    · rename_i hd
      cases e
      obtain ⟨as, r1⟩ := Dp.reads I _ _ _ (hx.dp le) rx
      obtain ⟨bs, r2⟩ := Dp.reads I _ _ _ (hy.dp le) ry
      refine PySem.SeqAt.notIn_list_data r2 r1 hy.plain hx.plain ?_ fin
      rw [Nat.min_comm]
      exact room_dp1 hr (okDp_ok hd)
    · cases e
  · split at e
    · rename_i hd
      cases e
      obtain ⟨as, r1⟩ := Dp.reads I _ _ _ (hx.dp le) rx
      obtain ⟨bs, r2⟩ := Dp.reads I _ _ _ (hy.dp le) ry
      refine PySem.SeqAt.notIn_tuple_data r2 r1 hy.plain hx.plain ?_ fin
      rw [Nat.min_comm]
      exact room_dp1 hr (okDp_ok hd)
    · cases e
  · rename_i p
    cases e
    obtain rfl := hy.non
    refine op_isN pins s σ H _ _ v u Q I rx ry ⟨rfl, ?_⟩
    have e2 : decide (x = V.non) = isNn p := by
      have z := hx.dn le
      cases z <;> simp [isNn]
    rw [e2]; exact q
  · rename_i p
    cases e
    obtain rfl := hy.non
    refine op_notN pins s σ H _ _ v u Q I rx ry ⟨rfl, ?_⟩
    have e2 : (!decide (x = V.non)) = !isNn p := by
      have z := hx.dn le
      cases z <;> simp [isNn]
    rw [e2]; exact q
  · cases e; obtain rfl := hx.bl; obtain rfl := hy.bl
    exact op_is_bl pins s σ H _ _ v u Q I rx ry ⟨_, _, rfl, rfl, q⟩
  · cases e; obtain rfl := hx.bl; obtain rfl := hy.bl
    exact op_isnot_bl pins s σ H _ _ v u Q I rx ry ⟨_, _, rfl, rfl, q⟩
  · rename_i p kvs
    rw [Option.map_eq_some_iff] at e
    obtain ⟨kk, ek, rfl⟩ := e
    obtain ⟨a, vs, rfl, ha, h2⟩ := hy.dct le
    obtain rfl := dn_key (hx.dn le) ek
    cases ry
    refine d_in (o := valV vs kk) hu I (DGet.k ha) rx fun s' I' => ?_
    rw [dkv_some kk h2]
    exact ep_of (v := .bl _) I' rfl q
  · rename_i p kvs
    rw [Option.map_eq_some_iff] at e
    obtain ⟨kk, ek, rfl⟩ := e
    obtain ⟨a, vs, rfl, ha, h2⟩ := hy.dct le
    obtain rfl := dn_key (hx.dn le) ek
    cases ry
    refine d_notIn (o := valV vs kk) hu I (DGet.k ha) rx fun s' I' => ?_
    rw [dkv_some kk h2]
    exact ep_of (v := .bl _) I' rfl q
  · cases e
end Mi
end
section
/-! Mi4: the built-in functions. -/
namespace Mi
open PySem PySem.Spec
open PyProof.Rows hiding St Fr
open L2

inductive RdRs (K : PySem.W.Frag) (F H : Hp) : List V → List D → Prop
  | nil : RdRs K F H [] []
  | cons {v : V} {vs : List V} {d : D} {ds : List D} : RdR K F H v d → RdRs K F H vs ds → RdRs K F H (v :: vs) (d :: ds)
def Bi.f : Bi → Value
  | .len => .builtin "len"
  | .tuple => .type "tuple"
  | .list => .type "list"
  | .sorted => .builtin "sorted"
  | .min => .builtin "min"
  | .max => .builtin "max"
  | .sum => .builtin "sum"
  | .any => .builtin "any"
  | .all => .builtin "all"
  | .abs => .builtin "abs"
  | .int => .type "int"
  | .bool => .type "bool"
  | .str => .type "str"
  | .repr => .builtin "repr"
  | .divmod => .builtin "divmod"
  | .dict => .type "dict"
  | .set => .type "set"
  | .lrange => .type "list"
  | .trange => .type "tuple"
def rBi (K : PySem.W.Frag) (f : Bi) : List V → Hp → VK → Prop := fun vs H Q => ∃ F ds od, Same F H ∧ RdRs K F H vs ds ∧ biD f ds = some od ∧ ∀ v F' H', New F H F' H' → NewR K H F' H' v od → Q v H'
theorem bools_ok : ∀ {xs : List PyData} {bs : List Bool}, bools xs = some bs → xs = bs.map PyData.bool
  | [], bs, h => by cases h; rfl
  | .bool b :: r, bs, h => by
    simp only [bools, Option.map_eq_some_iff] at h
    obtain ⟨c, h1, rfl⟩ := h
    rw [bools_ok h1]; rfl
  | .none :: _, _, h => by cases h
  | .int _ :: _, _, h => by cases h
  | .str _ :: _, _, h => by cases h
  | .list _ :: _, _, h => by cases h
  | .tuple _ :: _, _, h => by cases h
  | .dict _ :: _, _, h => by cases h
theorem dn_bools {K : PySem.W.Frag} {F : Hp} : ∀ {bs : List Bool} {vs : List V}, DnAll K F vs (bs.map PyData.bool) → vs = bs.map V.bl
  | [], _, h => by cases h; rfl
  | b :: bs, _, h => by
    cases h with
    | cons h1 h2 => cases h1; rw [dn_bools h2]; rfl
/-- pairs of a value and its datum -/
abbrev VD := V × PyData
theorem each_vd {K : PySem.W.Frag} {H : Hp} {X : Cx} {pins : List (Addr × Obj)} {σ : L2.St} {s : Shared} (I : Inv X pins σ H s) : ∀ {vs : List V} {ds : List PyData} {us : List Value}, DnAll X.K H vs ds → Vals vs us →
    PySem.W.EachIs (fun u (b : VD) => RelV b.1 u) us (vs.zip ds) ∧ PySem.W.EachIs (fun u (b : VD) => ∃ as, Reads s.heap u b.2 as) us (vs.zip ds) ∧ (vs.zip ds).map (·.2) = ds ∧ (vs.zip ds).map (·.1) = vs
  | _, _, _, .nil, .nil => ⟨.nil, .nil, rfl, rfl⟩
  | _, _, _, .cons h1 h2, .cons r1 r2 => by
    obtain ⟨a, b, c, d⟩ := each_vd (K := K) I h2 r2
    refine ⟨.cons r1 a, .cons (Dp.reads I _ _ _ (dn_dp _ _ h1) r1) b, ?_, ?_⟩
    · rw [List.zip_cons_cons, List.map_cons, c]
    · rw [List.zip_cons_cons, List.map_cons, d]
theorem each_vals : ∀ {us : List Value} {bs : List VD}, PySem.W.EachIs (fun u (b : VD) => RelV b.1 u) us bs → Vals (bs.map (·.1)) us
  | _, _, .nil => .nil
  | _, _, .cons h t => .cons h (each_vals t)
theorem dn_zip {K : PySem.W.Frag} {F : Hp} : ∀ {vs : List V} {ds : List PyData}, DnAll K F vs ds → ∀ b ∈ vs.zip ds, Dn K F b.1 b.2
  | _, _, .nil, b, h => by simp at h
  | _, _, .cons h1 h2, b, h => by
    rw [List.zip_cons_cons] at h
    rcases List.mem_cons.mp h with e | h
    · subst e; exact h1
    · exact dn_zip h2 b h
theorem dn_of_mem {K : PySem.W.Frag} {F : Hp} : ∀ {bs : List VD}, (∀ b ∈ bs, Dn K F b.1 b.2) → DnAll K F (bs.map (·.1)) (bs.map (·.2))
  | [], _ => .nil
  | b :: bs, h => .cons (h b (List.mem_cons_self ..)) (dn_of_mem fun c hc => h c (List.mem_cons_of_mem _ hc))
theorem alikeB_ok {xs : List PyData} (h : alikeB xs = true) : PySem.W.AllAlike xs := fun d hd d' hd' => List.all_eq_true.mp (List.all_eq_true.mp h d hd) d' hd'
theorem noNn_ok {xs : List PyData} (h : (xs.all fun z => !isNn z) = true) : ∀ x ∈ xs, x ≠ PyData.none := fun x hx e => by
  have z := List.all_eq_true.mp h x hx
  subst e
  cases z
theorem sortB_ok {xs : List PyData} (h : sortB xs = true) : PySem.W.Sortable xs := by
  unfold sortB at h
  rw [Bool.or_eq_true, List.all_eq_true, List.all_eq_true] at h
  rcases h with h | h
  · refine .inl fun d hd => ?_
    have z := h d hd
    split at z
    · exact ⟨_, _, rfl⟩
    · cases z
  · refine .inr fun d hd => ?_
    have z := h d hd
    split at z
    · cases z
    · cases z
    · rename_i h1 h2
      exact ⟨h2, fun xs e => h1 xs e⟩
theorem map_mergeSort {α β : Type} (f : α → β) (le : β → β → Bool) (l : List α) : (l.mergeSort fun a b => le (f a) (f b)).map f = (l.map f).mergeSort le := by
  exact List.map_mergeSort (fun a _ b _ => rfl)
theorem depthAll_mem : ∀ {xs : List PyData} {x : PyData}, x ∈ xs → x.depth ≤ PyData.depthAll xs
  | y :: ys, x, h => by
    rw [PyData.depthAll]
    rcases List.mem_cons.mp h with e | h
    · subst e; omega
    · have := depthAll_mem h
      omega
theorem dataLe_vd (a b : VD) : PySem.W.dataLe false (fun z : VD => z.2) a b = leD a.2 b.2 := by
  unfold PySem.W.dataLe leD PySem.W.dataLt
  rfl
theorem callT_1 {K : PySem.W.Frag} {F H : Hp} {vs : List V} {d : D} (h : RdRs K F H vs [d]) : ∃ v, vs = [v] ∧ RdR K F H v d := by
  cases h with
  | cons h1 h2 => cases h2; exact ⟨_, rfl, h1⟩
theorem callT_2 {K : PySem.W.Frag} {F H : Hp} {vs : List V} {d e : D} (h : RdRs K F H vs [d, e]) : ∃ v w, vs = [v, w] ∧ RdR K F H v d ∧ RdR K F H w e := by
  cases h with
  | cons h1 h2 =>
    obtain ⟨w, rfl, h3⟩ := callT_1 h2
    exact ⟨_, _, rfl, h1, h3⟩
mutual
theorem noDict_plain : ∀ d : PyData, d.plain = true → d.hasDict = false
  | .none, _ => rfl
  | .bool _, _ => rfl
  | .int _, _ => rfl
  | .str _, _ => rfl
  | .list xs, h => noDictAll_plain xs h
  | .tuple xs, h => noDictAll_plain xs h
  | .dict _, h => by cases h
theorem noDictAll_plain : ∀ ds : List PyData, PyData.plainAll ds = true → PyData.hasDictAll ds = false
  | [], _ => rfl
  | d :: ds, h => by
    have h' : d.plain = true ∧ PyData.plainAll ds = true := by simpa [PyData.plainAll] using h
    show (d.hasDict || PyData.hasDictAll ds) = false
    rw [noDict_plain d h'.1, noDictAll_plain ds h'.2] <;> rfl
end
section
variable {X : Cx} {k : Nat}
theorem sorted_run {pins : List (Addr × Obj)} {s : Shared} {σ : L2.St} {H F : Hp} {Q : VK} {a : Addr} {vs : List V} {xs : List PyData} (hr : Room k X.A) (I : Inv X pins σ H s) (le : Same F H) (ha : H a = some (.lst vs)) (h1 : DnAll X.K F vs xs)
    (c1 : PySem.W.AllAlike xs) (c2 : PySem.W.Sortable xs) (c3 : (PyData.list xs).depth ≤ dp) (c4 : xs.length ≤ lim) (q : ∀ v F' H', New F H F' H' → NewR X.K H F' H' v (.fe (.py (.list (xs.mergeSort leD)))) → Q v H') :
    wpAny (model X.prog X.w) X.A (call (.builtin "sorted") [.ref a]) (EP X pins σ Q) X.xe s := by
  obtain ⟨zl, its, n, r, e⟩ := I.hok a _ ha
  obtain ⟨e1, e2, e3, e4⟩ := each_vd (K := X.K) I (dpAll_same le xs vs h1) r
  have hzl : (vs.zip xs).length = xs.length := by rw [List.length_zip, dpl_len h1, Nat.min_self]
  refine PySem.W.sorted_data (vs := its) (bs := vs.zip xs) (enc := fun z : VD => z.2) (R := fun u (b : VD) => RelV b.1 u ∧ b ∈ vs.zip xs) ⟨_, e, rfl, n, rfl⟩ ?_ e2 (by rw [e3]; exact c1) (by rw [e3]; exact c2) (by rw [hzl]; exact lim_line c4) (fun b hb => ?_) (fun out ho hR => ?_)
  · have : ∀ {us : List Value} {bs : List VD}, PySem.W.EachIs (fun u (b : VD) => RelV b.1 u) us bs → (∀ b ∈ bs, b ∈ vs.zip xs) → PySem.W.EachIs (fun u (b : VD) => RelV b.1 u ∧ b ∈ vs.zip xs) us bs := by
      intro us bs h
      induction h with
      | nil => intro _; exact .nil
      | cons h t ih => intro m; exact .cons ⟨h, m _ (List.mem_cons_self ..)⟩ (ih fun b hb => m b (List.mem_cons_of_mem _ hb))
    exact this e1 fun b hb => hb
  · have z : b.2 ∈ xs := by rw [← e3]; exact List.mem_map_of_mem hb
    have z2 := depthAll_mem z
    have z3 : PyData.depthAll xs + 1 ≤ 30 := c3
    have := hr.units
    omega
  · have hv : Vals (((vs.zip xs).mergeSort (PySem.W.dataLe false fun z : VD => z.2)).map (·.1)) out := each_vals (hR.mono fun _ _ h => h.1)
    have hd : DnAll X.K F (((vs.zip xs).mergeSort (PySem.W.dataLe false fun z : VD => z.2)).map (·.1)) (((vs.zip xs).mergeSort (PySem.W.dataLe false fun z : VD => z.2)).map (·.2)) := by
      refine dn_of_mem fun b hb => dn_zip h1 b ?_
      exact (List.mergeSort_perm _ _).mem_iff.mp hb
    have hs : ((vs.zip xs).mergeSort (PySem.W.dataLe false fun z : VD => z.2)).map (·.2) = xs.mergeSort leD := by
      have z : PySem.W.dataLe false (fun z : VD => z.2) = fun a b : VD => leD a.2 b.2 := by funext a b; exact dataLe_vd a b
      rw [z, map_mergeSort (fun z : VD => z.2) leD, e3]
    rw [hs] at hd
    obtain ⟨c, hc⟩ := PyProof.Rows.sortedAll_at s.heap its out.toArray
    have hn : H (s.heap.objs.size + 1) = none := I.hok.fresh (Nat.le_succ _)
    have hl : (((vs.zip xs).mergeSort (PySem.W.dataLe false fun z : VD => z.2)).map (·.1)).length ≤ sizeLine := by
      rw [List.length_map, List.length_mergeSort, hzl]
      exact lim_line c4
    exact ⟨.ref (s.heap.objs.size + 1), _, I.laid (t' := s.toks) (a := s.heap.objs.size + 1) (o := .lst (((vs.zip xs).mergeSort (PySem.W.dataLe false fun z : VD => z.2)).map (·.1))) (fun b o e => PyProof.Rows.sortedAll_old e) (Nat.le_succ _) ⟨hl, out, c, hv, hc⟩, rfl,
      q _ _ _ (New.lst le hn) (NewR.lst le hn hd)⟩
theorem best_of {pins : List (Addr × Obj)} {s : Shared} {σ : L2.St} {H F : Hp} {Q : VK} {vs : List V} {xs : List PyData} {its : List Value} {p : PyData} {i : Nat} {v : Value} {h' : Heap} {tk : Nat} {bs : List Addr} (I : Inv X pins σ H s) (le : Same F H)
    (h1 : DnAll X.K F vs xs) (r : Vals vs its) (hi : its[i]? = some v) (rb : Reads h' v p bs) (kp : ∀ b o, s.heap.get? b = some o → h'.get? b = some o) (q : ∀ v F' H', New F H F' H' → NewR X.K H F' H' v (.va (.py p)) → Q v H') : EP X pins σ Q v { s with heap := h', toks := tk } := by
  have I' : Inv X pins σ H { s with heap := h', toks := tk } := I.kept kp
  have hv : ∃ z, vs[i]? = some z := by
    cases e : vs[i]? with
    | none => rw [r.none_of e] at hi; cases hi
    | some z => exact ⟨z, rfl⟩
  obtain ⟨z, hz⟩ := hv
  obtain ⟨u, hu, ru⟩ := r.get hz
  rw [hi] at hu; cases hu
  obtain ⟨p', _, hp'⟩ := dpl_get' h1 hz
  obtain ⟨as, ra⟩ := Dp.reads I' _ _ _ (dn_dp _ _ (dp_same le _ _ hp')) ru
  have e := PySem.SeqAt.plain_unique p' p v _ _ (dp_plain p' z hp') ra rb
  subst e
  exact ⟨z, H, I', ru, q z F H (New.refl le) hp'⟩
theorem bi_ok (hr : Room k X.A) (hc : X.calm = true) (hg : X.A.guards = some []) (f : Bi) (hf : f ≠ .lrange) (hf' : f ≠ .trange) : CallR X f.f (rBi X.K f) := by
  intro pins s σ H xs us Q I r h
  obtain ⟨F, ds, od, le, hx, e, q⟩ := h
  have hh : X.A.handled = none := I.ok.hd hc
  unfold biD at e
  split at e
  · cases e
    obtain ⟨v, rfl, h1⟩ := callT_1 hx
    obtain ⟨a, vs, rfl, ha, h2⟩ := h1.list le
    exact call_len_seq pins s σ H _ us Q I r ⟨a, vs, rfl, .inl (.inl (.inl ha)), by rw [dpl_len h2]; exact q _ F H (New.refl le) (NewR.int _)⟩
  · cases e
    obtain ⟨v, rfl, h1⟩ := callT_1 hx
    obtain ⟨a, vs, rfl, ha, h2⟩ := h1.tup le
    exact call_len_seq pins s σ H _ us Q I r ⟨a, vs, rfl, .inr ha.sq, by rw [dpl_len h2]; exact q _ F H (New.refl le) (NewR.int _)⟩
  · cases e
    obtain ⟨v, rfl, h1⟩ := callT_1 hx
    obtain ⟨a, rfl, ha⟩ := h1.scr le
    exact call_len_seq pins s σ H _ us Q I r ⟨a, _, rfl, .inl ha, by rw [List.length_map]; exact q _ F H (New.refl le) (NewR.int _)⟩
  · cases e
    obtain ⟨v, rfl, h1⟩ := callT_1 hx
    obtain ⟨a, vs, rfl, ha, h2⟩ := h1.dct le
    obtain ⟨u, rfl, rx⟩ := vals1 r
    cases rx
    refine d_len I (.inl ha) fun t s' I' => ?_
    rw [dkv_len h2]
    exact ⟨.int _, H, I', ⟨t, rfl⟩, q _ F H (New.refl le) (NewR.int _)⟩
  · split at e
    · rename_i hl
      cases e
      obtain ⟨v, rfl, h1⟩ := callT_1 hx
      obtain rfl := h1.str
      exact call_len_str pins s σ H _ us Q I r ⟨_, rfl, lim_line hl, q _ F H (New.refl le) (NewR.int _)⟩
    · cases e
  · cases e
    obtain ⟨v, rfl, h1⟩ := callT_1 hx
    obtain ⟨a, vs, rfl, ha, h2⟩ := h1.list le
    obtain ⟨u, rfl, rx⟩ := vals1 r
    cases rx
    obtain ⟨its, r', pl, hz⟩ := I.list (.inl (.inl ha))
    have hlen := r'.length
    refine call_tuple_list pl.isList (fun h' kp => ?_) (by simp only [List.size_toArray] <;> omega)
    have I1 : Inv X pins σ H { s with heap := h' } := I.kept (t' := s.toks) kp
    exact ep_tup (s := { s with heap := h' }) I1 le r' hz h2 q
  · cases e
    obtain ⟨v, rfl, h1⟩ := callT_1 hx
    obtain ⟨a, vs, rfl, ha, h2⟩ := h1.tup le
    refine call_tuple_of pins s σ H _ us Q I r ⟨a, vs, rfl, .inr ⟨ha.sq, q _ F H (New.refl le) ?_⟩⟩
    rcases h1 with h1 | ⟨_, _, h1⟩
    · exact h1
    · exact h1.elim
  · cases e
    obtain ⟨v, rfl, h1⟩ := callT_1 hx
    obtain ⟨a, vs, rfl, ha, h2⟩ := h1.list le
    exact call_list_of pins s σ H _ us Q I r ⟨a, vs, rfl, .inl (.inl (.inl ha)), fun p hp => q _ _ _ (New.lst le hp) (NewR.lst le hp h2)⟩
  · cases e
    obtain ⟨v, rfl, h1⟩ := callT_1 hx
    obtain ⟨a, vs, rfl, ha, h2⟩ := h1.tup le
    exact call_list_of pins s σ H _ us Q I r ⟨a, vs, rfl, .inr ha.sq, fun p hp => q _ _ _ (New.lst le hp) (NewR.lst le hp h2)⟩
  · split at e
    · rename_i c
      simp only [Bool.and_eq_true, decide_eq_true_eq] at c
      cases e
      obtain ⟨v, rfl, h1⟩ := callT_1 hx
      obtain ⟨a, vs, rfl, ha, h2⟩ := h1.list le
      obtain ⟨u, rfl, rx⟩ := vals1 r
      cases rx
      exact sorted_run hr I le ha h2 (alikeB_ok c.1.1.1) (sortB_ok c.1.1.2) (okDp_ok c.1.2) c.2 q
    · cases e
  · split at e
    · rename_i c
      rw [Bool.and_eq_true, Bool.and_eq_true] at c
      cases e
      obtain ⟨v, rfl, h1⟩ := callT_1 hx
      obtain ⟨a, vs, rfl, ha, h2⟩ := h1.list le
      obtain ⟨u, rfl, rx⟩ := vals1 r
      cases rx
      obtain ⟨zl, its, n, r', e'⟩ := I.hok a _ ha
      obtain ⟨as, ra⟩ := Dp.readsAll I _ _ _ (dnAll_dp _ _ (dpAll_same le _ _ h2)) r'
      refine PySem.W.min_list_data hh ⟨_, e', rfl, n, rfl⟩ ra ⟨alikeB_ok c.1.1, noNn_ok c.1.2⟩ ?_ (fun i v h' tk bs hi rb kp => best_of I le h2 r' (by simpa using hi) rb kp q)
      have z3 := okDp_ok c.2
      have z4 : PyData.depthAll (_ :: _) + 1 ≤ 30 := z3
      have := hr.units
      omega
    · cases e
  · split at e
    · rename_i c
      rw [Bool.and_eq_true, Bool.and_eq_true] at c
      cases e
      obtain ⟨v, rfl, h1⟩ := callT_1 hx
      obtain ⟨a, vs, rfl, ha, h2⟩ := h1.list le
      obtain ⟨u, rfl, rx⟩ := vals1 r
      cases rx
      obtain ⟨zl, its, n, r', e'⟩ := I.hok a _ ha
      obtain ⟨as, ra⟩ := Dp.readsAll I _ _ _ (dnAll_dp _ _ (dpAll_same le _ _ h2)) r'
      refine PySem.W.max_list_data hh ⟨_, e', rfl, n, rfl⟩ ra ⟨alikeB_ok c.1.1, noNn_ok c.1.2⟩ ?_ (fun i v h' tk bs hi rb kp => best_of I le h2 r' (by simpa using hi) rb kp q)
      have z3 := okDp_ok c.2
      have z4 : PyData.depthAll (_ :: _) + 1 ≤ 30 := z3
      have := hr.units
      omega
    · cases e
  · cases e
    obtain ⟨v, w, rfl, h1, h2⟩ := callT_2 hx
    obtain rfl := h1.int; obtain rfl := h2.int
    exact call_min2 hc pins s σ H _ us Q I r ⟨_, _, rfl, q _ F H (New.refl le) (NewR.int _)⟩
  · cases e
    obtain ⟨v, w, rfl, h1, h2⟩ := callT_2 hx
    obtain rfl := h1.int; obtain rfl := h2.int
    exact call_max2 hc pins s σ H _ us Q I r ⟨_, _, rfl, q _ F H (New.refl le) (NewR.int _)⟩
  · rename_i xs
    rw [Option.map_eq_some_iff] at e
    obtain ⟨bs, e1, rfl⟩ := e
    obtain rfl := bools_ok e1
    obtain ⟨v, rfl, h1⟩ := callT_1 hx
    obtain ⟨a, vs, rfl, ha, h2⟩ := h1.list le
    obtain rfl := dn_bools h2
    exact cr_all hc pins s σ H _ us Q I r ⟨a, bs, rfl, .inl (.inl ha), q _ F H (New.refl le) (NewR.bl _)⟩
  · rename_i xs
    rw [Option.map_eq_some_iff] at e
    obtain ⟨bs, e1, rfl⟩ := e
    obtain rfl := bools_ok e1
    obtain ⟨v, rfl, h1⟩ := callT_1 hx
    obtain ⟨a, vs, rfl, ha, h2⟩ := h1.list le
    obtain rfl := dn_bools h2
    exact cr_any hc pins s σ H _ us Q I r ⟨a, bs, rfl, .inl (.inl ha), q _ F H (New.refl le) (NewR.bl _)⟩
  · cases e
    obtain ⟨v, rfl, h1⟩ := callT_1 hx
    obtain rfl := h1.int
    exact call_abs pins s σ H _ us Q I r ⟨_, rfl, q _ F H (New.refl le) (NewR.int _)⟩
  · cases e
    obtain ⟨v, rfl, h1⟩ := callT_1 hx
    obtain rfl := h1.int
    exact call_int1 pins s σ H _ us Q I r (.inl ⟨_, rfl, q _ F H (New.refl le) (NewR.int _)⟩)
  · cases e
    obtain ⟨v, rfl, h1⟩ := callT_1 hx
    obtain rfl := h1.bl
    exact call_int1 pins s σ H _ us Q I r (.inr ⟨_, rfl, q _ F H (New.refl le) (NewR.int _)⟩)
  · split at e
    · rename_i hj
      cases e
      obtain ⟨v, w, rfl, h1, h2⟩ := callT_2 hx
      obtain rfl := h1.int; obtain rfl := h2.int
      rename_i i j
      obtain ⟨u, w', rfl, ⟨t, rfl⟩, ⟨t', rfl⟩⟩ := vals2 r
      refine divmod_int (by omega) ?_ (.inl (PyProof.noPylong_small (by omega)))
      rw [Int.fdiv_eq_ediv_of_nonneg i (by omega), Int.fmod_eq_emod_of_nonneg i (by omega)]
      exact ep_tup (us := [Value.int (i / j) s.toks, Value.int (i % j) (s.toks + 1)]) (vs := [.int (i / j), .int (i % j)]) I le (.cons ⟨_, rfl⟩ (.cons ⟨_, rfl⟩ .nil)) (show 2 ≤ sizeLine by rw [sizeLine_eq]; decide) (.cons (.int _) (.cons (.int _) .nil)) q
    · cases e
  · rename_i b
    cases e
    obtain ⟨v, rfl, h1⟩ := callT_1 hx
    obtain rfl := h1.bl
    obtain ⟨u, rfl, rx⟩ := vals1 r
    cases rx
    exact P.repr_of_bool ⟨.str _, H, I.tok _, ⟨_, rfl⟩, q _ F H (New.refl le) (Dn.str _)⟩
  · split at e
    · rename_i c
      simp only [Bool.and_eq_true, decide_eq_true_eq] at c
      cases e
      obtain ⟨v, rfl, h1⟩ := callT_1 hx
      obtain ⟨u, rfl, rx⟩ := vals1 r
      have hp := h1.plain
      have hd := h1.dn le
      obtain ⟨as, ra⟩ := Dp.reads I _ _ _ (dn_dp _ _ hd) rx
      cases hd
      cases rx
      refine repr_of_reads' ra c.1.2 (PyData.noDict_hsm (noDict_plain _ hp)) hg ?_ (fun _ _ e => e) (fun h' u tk kp => ⟨.str _, H, I.kept kp, ⟨_, rfl⟩, q _ F H (New.refl le) (Dn.str _)⟩) (lim_line c.2)
      have z3 := okDp_ok c.1.1
      have z4 : PyData.depth _ ≤ 30 := z3
      have := hr.units
      omega
    · cases e
  · split at e
    · rename_i c
      simp only [Bool.and_eq_true, decide_eq_true_eq] at c
      cases e
      obtain ⟨v, rfl, h1⟩ := callT_1 hx
      obtain ⟨u, rfl, rx⟩ := vals1 r
      have hp := h1.plain
      have hd := h1.dn le
      obtain ⟨as, ra⟩ := Dp.reads I _ _ _ (dn_dp _ _ hd) rx
      cases hd
      cases rx
      refine repr_of_reads' ra c.1.2 (PyData.noDict_hsm (noDict_plain _ hp)) hg ?_ (fun _ _ e => e) (fun h' u tk kp => ⟨.str _, H, I.kept kp, ⟨_, rfl⟩, q _ F H (New.refl le) (Dn.str _)⟩) (lim_line c.2)
      have z3 := okDp_ok c.1.1
      have z4 : PyData.depth _ ≤ 30 := z3
      have := hr.units
      omega
    · cases e
  · exact absurd rfl hf
  · exact absurd rfl hf'
  · cases e
end
end Mi
end
section
/-! Mi5: subscripts, methods; how the slots change; what an expression's reading is. -/
namespace Mi
open PySem PySem.Spec
open PyProof.Rows hiding St Fr
open L2

section
variable {X : Cx} {k : Nat}
def rIxM (K : PySem.W.Frag) : R2 := fun x y H Q => ∃ F dx dy d, Same F H ∧ RdR K F H x dx ∧ RdR K F H y dy ∧ item dx dy = some d ∧ ∀ v, Den K F v d → Q v H
theorem ix_ok (hr : Room k X.A) : IxR X (rIxM X.K) := by
  intro value slice pins s σ H x y v u Q I rx ry h hs
  obtain ⟨F, dx, dy, d, le, hx, hy, e, q⟩ := h
  unfold item at e
  split at e
  · obtain rfl := hy.int
    obtain ⟨a, vs, rfl, ha, h2⟩ := hx.list le
    rw [Option.bind_eq_some_iff] at e
    obtain ⟨j, e1, e2⟩ := e
    rw [Option.map_eq_some_iff] at e2
    obtain ⟨p, e3, rfl⟩ := e2
    obtain ⟨z, hz, dz⟩ := dpl_get h2 e3
    refine ix_list value slice pins s σ H _ _ v u Q I rx ry ⟨a, vs, _, z, rfl, rfl, .inl (.inl ha), ?_, q z dz⟩ hs
    unfold atI
    rw [dpl_len h2, e1]
    exact hz
  · obtain rfl := hy.int
    obtain ⟨a, vs, rfl, ha, h2⟩ := hx.tup le
    rw [Option.bind_eq_some_iff] at e
    obtain ⟨j, e1, e2⟩ := e
    rw [Option.map_eq_some_iff] at e2
    obtain ⟨p, e3, rfl⟩ := e2
    obtain ⟨z, hz, dz⟩ := dpl_get h2 e3
    refine ix_tup value slice pins s σ H _ _ v u Q I rx ry ⟨a, vs, _, z, rfl, rfl, ha.sq, ?_, q z dz⟩ hs
    unfold atI
    rw [dpl_len h2, e1]
    exact hz
  · obtain rfl := hy.int
    obtain ⟨a, rfl, ha⟩ := hx.scr le
    rw [Option.bind_eq_some_iff] at e
    obtain ⟨j, e1, e2⟩ := e
    rw [Option.map_eq_some_iff] at e2
    obtain ⟨p, e3, rfl⟩ := e2
    refine ix_list value slice pins s σ H _ _ v u Q I rx ry ⟨a, _, _, .int p, rfl, rfl, ha, ?_, q _ (Dn.int _)⟩ hs
    unfold atI
    rw [List.length_map, e1]
    show (List.map V.int _)[j]? = _
    rw [List.getElem?_map, e3] <;> rfl
  · rename_i kvs p
    rw [Option.bind_eq_some_iff] at e
    obtain ⟨kk, ek, e2⟩ := e
    rw [Option.map_eq_some_iff] at e2
    obtain ⟨p2, e3, rfl⟩ := e2
    obtain ⟨a, vs, rfl, ha, h2⟩ := hx.dct le
    obtain rfl := dn_key (hy.dn le) ek
    obtain ⟨z, hz, dz⟩ := (dkv_get kk h2).1 p2 e3
    cases rx
    have g : DGet H a (kV kk) (some z) := by rw [← hz]; exact DGet.k ha
    have hu : X.A.units + 1 < cLine := by
      have := hr.units
      omega
    exact tail_any (ops := [.ref a, u]) (dict_typeIs I g) PySem.F.slot_dict_getitem.lookup (d_getItem hu I g ry fun w' s' I' rw' => ⟨z, H, I', rw', q z dz⟩) hs
  · cases e
theorem cut_dn {K : PySem.W.Frag} {F : Hp} {vs : List V} {ds : List PyData} (h : DnAll K F vs ds) (lo hi : Option Int) : DnAll K F (cutV vs lo hi) (cutP ds lo hi) := by
  unfold cutV cutP
  rw [dpl_len h]
  exact dpl_take _ (dpl_drop _ h)
def rSlM (K : PySem.W.Frag) : V → Option Int → Option Int → Hp → VK → Prop := fun x lo hi H Q => ∃ F d od, Same F H ∧ RdR K F H x d ∧ sliceD d lo hi = some od ∧ ∀ v F' H', New F H F' H' → NewR K H F' H' v od → Q v H'
theorem sl_ok : L2.SlR X (rSlM X.K) := by
  intro pins s σ H x v vl vu lo hi sl Q I rx hs pl pu h
  obtain ⟨F, d, od, le, hx, e, q⟩ := h
  unfold sliceD at e
  split at e
  · cases e
    obtain ⟨a, vs, rfl, ha, h2⟩ := hx.tup le
    cases rx
    obtain ⟨its, r, ht, hz⟩ := tp_vals I ha
    have hlen : its.toArray.size = vs.length := by rw [List.size_toArray]; exact r.length.symm
    have hl := dpl_len h2
    refine ⟨"tuple", _, PyProof.Rows.slot_tuple_getitem.lookup, ht.typeIs, ?_⟩
    by_cases hw : HT.sIx vs.length 0 lo = 0 ∧ HT.sIx vs.length vs.length hi = vs.length
    · refine getItem_tuple_whole ht hs pl pu (by rw [hlen]; exact hw) (ep_of (v := .ref a) I rfl (q _ F H (New.refl le) ?_))
      have e2 : cutP _ lo hi = _ := show cutP _ lo hi = _ from by
        unfold cutP
        rw [← hl, hw.1, hw.2, List.drop_zero, Nat.sub_zero, List.take_of_length_le (by omega)]
      rw [e2]
      rcases hx with hx | ⟨_, _, hx⟩
      · exact hx
      · exact hx.elim
    · refine HT.getItem_tuple_cut ht hs pl pu (by rw [hlen]; exact hw) ?_ (by rw [hlen]; exact hz)
      rw [hlen]
      have rc : Vals (cutV vs lo hi) (((its.toArray).toList.drop (HT.sIx vs.length 0 lo)).take (HT.sIx vs.length vs.length hi - HT.sIx vs.length 0 lo)) := by
        unfold cutV
        exact (r.drop _).take _
      exact ep_tup I le rc (Nat.le_trans (cutV_length _ _ _) hz) (cut_dn h2 lo hi) q
  · cases e
    obtain ⟨a, vs, rfl, ha, h2⟩ := hx.list le
    exact sl_list pins s σ H _ v vl vu lo hi sl Q I rx hs pl pu ⟨a, vs, rfl, .inl (.inl ha), fun p hp => q _ _ _ (New.lst le hp) (NewR.lst le hp (cut_dn h2 lo hi))⟩
  · cases e

/-! ### methods -/
def rMe (K : PySem.W.Frag) (m : Me) (T : PyData → Bool) : V → List V → Hp → VK → Prop := fun x vs H Q => ∃ F p ds od, T p = true ∧ Same F H ∧ RdR K F H x (.py p) ∧ RdRs K F H vs ds ∧ meD m (.py p) ds = some od ∧ ∀ v F' H', New F H F' H' → NewR K H F' H' v od → Q v H'
def isTup : PyData → Bool
  | .tuple _ => true
  | _ => false
def isLst : PyData → Bool
  | .list _ => true
  | _ => false
theorem isTup_ok {p : PyData} (h : isTup p = true) : ∃ ps, p = .tuple ps := by
  cases p with
  | tuple ps => exact ⟨ps, rfl⟩
  | _ => cases h
theorem isLst_ok {p : PyData} (h : isLst p = true) : ∃ ps, p = .list ps := by
  cases p with
  | list ps => exact ⟨ps, rfl⟩
  | _ => cases h
end
section
open PySem.SeqAt
theorem items_ix {A : Around} {s : Shared} {its : Array Value} {xs : List PyData} {as bs : List Addr} {x : Value} {d : PyData} (rs : ReadsAll s.heap its.toList xs as) (rx : Reads s.heap x d bs) (hxs : PyData.plainAll xs = true) (hd : d.plain = true)
    (hu : A.units + 1 + min (PyData.depthAll xs) d.depth < cLine) : ∀ j (hj : j < its.size), EqAt A.in1 s its[j] x (PyData.eqv (xs.getD j .none) d) := fun j hj => by
  obtain ⟨h2, e⟩ := readOf_at rs hxs j hj
  have z := items_plain rs rx hxs hd hu its[j] (Array.getElem_mem hj)
  rw [e] at z
  rw [List.getD_eq_getElem?_getD, List.getElem?_eq_getElem h2]
  exact z
theorem find_hit {xs : List PyData} {f : PyData → Bool} {j : Nat} (h : xs.findIdx? f = some j) : j < xs.length ∧ f (xs.getD j .none) = true ∧ ∀ m, m < j → f (xs.getD m .none) = false := by
  obtain ⟨h1, h2, h3⟩ := List.findIdx?_eq_some_iff_getElem.mp h
  refine ⟨h1, ?_, fun m hm => ?_⟩
  · rw [List.getD_eq_getElem?_getD, List.getElem?_eq_getElem h1]; exact h2
  · have hm' : m < xs.length := by omega
    rw [List.getD_eq_getElem?_getD, List.getElem?_eq_getElem hm']
    have := h3 m hm
    simpa using this
variable {X : Cx} {k : Nat}
theorem room_in {A : Around} (hr : Room k A) {n : Nat} {p : PyData} (h : okDp p = true) : A.units + 1 + min n p.depth < cLine := by
  have := hr.units
  have h2 : p.depth ≤ 30 := okDp_ok h
  have h3 := Nat.min_le_right n p.depth
  omega
theorem mt_tup_count (hr : Room k X.A) : MtR X "tuple.count" (rMe X.K .count isTup) := by
  intro pins s σ H x xs v us Q I rx rs h
  obtain ⟨F, p, ds, od, ht, le, hx, hs, e, q⟩ := h
  obtain ⟨ps, rfl⟩ := isTup_ok ht
  replace e : countD ps ds = some od := e
  unfold countD at e
  split at e <;> try cases e
  rename_i c
  split at e
  · rename_i hd
    cases e
    obtain ⟨y, rfl, h1⟩ := callT_1 hs
    obtain ⟨u, rfl, ry⟩ := vals1 rs
    obtain ⟨a, vs, rfl, ha, h2⟩ := hx.tup le
    cases rx
    obtain ⟨its, r, pl, hz⟩ := tp_vals I ha
    obtain ⟨as, ra⟩ := Dp.readsAll I _ _ _ (dnAll_dp _ _ (dpAll_same le _ _ h2)) r
    obtain ⟨bs, rb⟩ := Dp.reads I _ _ _ (h1.dp le) ry
    exact count_tuple_data pl (by simpa using ra) rb (dpl_plain _ _ h2) h1.plain (room_in hr hd) ⟨.int _, H, I.tok _, ⟨_, rfl⟩, q _ F H (New.refl le) (NewR.int _)⟩
  · cases e
theorem mt_lst_count (hr : Room k X.A) : MtR X "list.count" (rMe X.K .count isLst) := by
  intro pins s σ H x xs v us Q I rx rs h
  obtain ⟨F, p, ds, od, ht, le, hx, hs, e, q⟩ := h
  obtain ⟨ps, rfl⟩ := isLst_ok ht
  replace e : countD ps ds = some od := e
  unfold countD at e
  split at e <;> try cases e
  rename_i c
  split at e
  · rename_i hd
    cases e
    obtain ⟨y, rfl, h1⟩ := callT_1 hs
    obtain ⟨u, rfl, ry⟩ := vals1 rs
    obtain ⟨a, vs, rfl, ha, h2⟩ := hx.list le
    cases rx
    obtain ⟨its, r, pl, hz⟩ := I.list (.inl (.inl ha))
    obtain ⟨as, ra⟩ := Dp.readsAll I _ _ _ (dnAll_dp _ _ (dpAll_same le _ _ h2)) r
    obtain ⟨bs, rb⟩ := Dp.reads I _ _ _ (h1.dp le) ry
    exact count_list_data pl.isList (by simpa using ra) rb (dpl_plain _ _ h2) h1.plain (room_in hr hd) ⟨.int _, H, I.tok _, ⟨_, rfl⟩, q _ F H (New.refl le) (NewR.int _)⟩
  · cases e
theorem mt_tup_ix (hr : Room k X.A) : MtR X "tuple.index" (rMe X.K .index isTup) := by
  intro pins s σ H x xs v us Q I rx rs h
  obtain ⟨F, p, ds, od, ht, le, hx, hs, e, q⟩ := h
  obtain ⟨ps, rfl⟩ := isTup_ok ht
  replace e : indexD ps ds = some od := e
  unfold indexD at e
  split at e <;> try cases e
  · rename_i c
    split at e
    · rename_i hd
      rw [Option.map_eq_some_iff] at e
      obtain ⟨j, ej, rfl⟩ := e
      obtain ⟨f1, f2, f3⟩ := find_hit ej
      obtain ⟨y, rfl, h1⟩ := callT_1 hs
      obtain ⟨u, rfl, ry⟩ := vals1 rs
      obtain ⟨a, vs, rfl, ha, h2⟩ := hx.tup le
      cases rx
      obtain ⟨its, r, pl, hz⟩ := tp_vals I ha
      obtain ⟨as, ra⟩ := Dp.readsAll I _ _ _ (dnAll_dp _ _ (dpAll_same le _ _ h2)) r
      obtain ⟨bs, rb⟩ := Dp.reads I _ _ _ (h1.dp le) ry
      have hl : its.toArray.size = ps.length := by rw [List.size_toArray, ← r.length, dpl_len h2]
      obtain ⟨⟨cls, dd, data, sl⟩, ho, hc, n, hd'⟩ := id pl
      simp only at hc hd'
      subst hc hd'
      exact call_meets PySem.F.slot_tuple_index ⟨_, ho, rfl⟩ PySem.F.entry_tuple_index (PySem.F.args_tuple_index_2 _ _)
        (tuple_index2_found a its.toArray n dd sl _ (fun j => PyData.eqv (ps.getD j .none) c) j (by omega) (Nat.zero_le _) (by omega) f2 fun m hm _ hlt => f3 m hlt)
        ⟨ho, items_ix (by simpa using ra) rb (dpl_plain _ _ h2) h1.plain (room_in hr hd), ⟨.int _, H, I.tok _, ⟨_, rfl⟩, q _ F H (New.refl le) (NewR.int _)⟩⟩
    · cases e
  · rename_i c i
    split at e
    · rename_i hd
      simp only [Bool.and_eq_true, decide_eq_true_eq] at hd
      rw [Option.map_eq_some_iff] at e
      obtain ⟨j, ej, rfl⟩ := e
      obtain ⟨f1, f2, f3⟩ := find_hit ej
      obtain ⟨y, z, rfl, h1, h3⟩ := callT_2 hs
      obtain rfl := h3.int
      obtain ⟨u, u2, rfl, ry, ⟨t, rfl⟩⟩ := vals2 rs
      obtain ⟨a, vs, rfl, ha, h2⟩ := hx.tup le
      cases rx
      obtain ⟨its, r, pl, hz⟩ := tp_vals I ha
      obtain ⟨as, ra⟩ := Dp.readsAll I _ _ _ (dnAll_dp _ _ (dpAll_same le _ _ h2)) r
      obtain ⟨bs, rb⟩ := Dp.reads I _ _ _ (h1.dp le) ry
      have hl : its.toArray.size = ps.length := by rw [List.size_toArray, ← r.length, dpl_len h2]
      rw [List.length_drop] at f1
      have hf : searchFrom i its.toArray.size = i.toNat := searchFrom_nonneg hd.1.2 _
      have hj : ((i.toNat + j : Nat) : Int) = i + (j : Int) := by omega
      have gd : ∀ m, (ps.drop i.toNat).getD m .none = ps.getD (i.toNat + m) .none := fun m => by
        rw [List.getD_eq_getElem?_getD, List.getD_eq_getElem?_getD, List.getElem?_drop]
      obtain ⟨⟨cls, dd, data, sl⟩, ho, hc, n, hd'⟩ := id pl
      simp only at hc hd'
      subst hc hd'
      refine call_meets PySem.F.slot_tuple_index ⟨_, ho, rfl⟩ PySem.F.entry_tuple_index (PySem.F.args_tuple_index_3 _ _ _)
        (tuple_index3_found a its.toArray n dd sl _ (fun j => PyData.eqv (ps.getD j .none) c) i t (i.toNat + j) (by omega) (by omega) (by omega) ?_ fun m hm hlo hlt => ?_)
        ⟨ho, items_ix (by simpa using ra) rb (dpl_plain _ _ h2) h1.plain (room_in hr hd.1.1), ?_⟩
      · have := f2; rw [gd] at this; exact this
      · have := f3 (m - i.toNat) (by omega)
        rw [gd] at this
        rwa [show i.toNat + (m - i.toNat) = m by omega] at this
      · rw [hj]
        exact ⟨.int _, H, I.tok _, ⟨_, rfl⟩, q _ F H (New.refl le) (NewR.int _)⟩
    · cases e
theorem mt_lst_ix (hr : Room k X.A) : MtR X "list.index" (rMe X.K .index isLst) := by
  intro pins s σ H x xs v us Q I rx rs h
  obtain ⟨F, p, ds, od, ht, le, hx, hs, e, q⟩ := h
  obtain ⟨ps, rfl⟩ := isLst_ok ht
  replace e : index1 ps ds = some od := e
  unfold index1 at e
  split at e <;> try cases e
  · rename_i c
    split at e
    · rename_i hd
      rw [Option.map_eq_some_iff] at e
      obtain ⟨j, ej, rfl⟩ := e
      obtain ⟨f1, f2, f3⟩ := find_hit ej
      obtain ⟨y, rfl, h1⟩ := callT_1 hs
      obtain ⟨u, rfl, ry⟩ := vals1 rs
      obtain ⟨a, vs, rfl, ha, h2⟩ := hx.list le
      cases rx
      obtain ⟨its, r, pl, hz⟩ := I.list (.inl (.inl ha))
      obtain ⟨as, ra⟩ := Dp.readsAll I _ _ _ (dnAll_dp _ _ (dpAll_same le _ _ h2)) r
      obtain ⟨bs, rb⟩ := Dp.reads I _ _ _ (h1.dp le) ry
      have hl : its.toArray.size = ps.length := by rw [List.size_toArray, ← r.length, dpl_len h2]
      rw [sizeLine_eq] at hz
      have hv := r.length
      have hw : its.toArray.size = its.length := by simp
      obtain ⟨⟨cls, dd, data, sl⟩, ho, hc, n, hd'⟩ := id pl.isList
      simp only at hc hd'
      subst hc hd'
      exact call_meets PySem.F.slot_list_index ⟨_, ho, rfl⟩ PySem.F.entry_list_index (PySem.F.args_list_index_2 _ _)
        (list_index2_found a its.toArray n dd sl _ (fun j => PyData.eqv (ps.getD j .none) c) j (by omega) (Nat.zero_le _) (by omega) f2 fun m hm _ hlt => f3 m hlt)
        ⟨ho, items_ix (by simpa using ra) rb (dpl_plain _ _ h2) h1.plain (room_in hr hd), ⟨.int _, H, I.tok _, ⟨_, rfl⟩, q _ F H (New.refl le) (NewR.int _)⟩⟩
    · cases e
end
end Mi
end
section
/-! Mi6: how the slots change; readings of expressions, tests, argument lists. -/
namespace Mi
open PySem PySem.Spec
open PyProof.Rows hiding St Fr
open L2

section
variable {K : PySem.W.Frag} {F H F1 H1 F2 H2 : Hp} {st st1 st2 : En} {σ : L2.St} {v : V} {od : Od} {d : D} {a : Addr} {i : Nat}
theorem get_set {α : Type} {l : List α} {i j : Nat} {x y : α} (h : (l.set i x)[j]? = some y) : (j = i ∧ y = x ∧ i < l.length) ∨ (j ≠ i ∧ l[j]? = some y) := by
  by_cases e : j = i
  · subst e
    have hl : j < l.length := by
      have := (List.getElem?_eq_some_iff.mp h).1
      simpa using this
    rw [List.getElem?_set_self hl] at h
    cases h
    exact .inl ⟨rfl, rfl, hl⟩
  · rw [List.getElem?_set_ne (Ne.symm e)] at h
    exact .inr ⟨e, h⟩
theorem get_lt {α : Type} {l : List α} {i : Nat} {x : α} (h : l[i]? = some x) : i < l.length := (List.getElem?_eq_some_iff.mp h).1
/-- what is owned comes to hold other things -/
theorem Rel.putO {s t : Sl} {o' : HO} {d' : D} (r : Rel K F st σ H) (hi : st[i]? = some s) (ho : s.owned = true) (ht : (t = .ow d' ∧ ∃ d, s = .ow d) ∨ (t = .bo d' ∧ ∃ d, s = .bo d)) (ha : σ[i]? = some (some (V.ref a))) (hd : OwnAt K F (upd H a o') a d') :
    Go K st σ F H (st.set i t) σ F (upd H a o') := by
  obtain ⟨a', d0, ea, en, eo, _⟩ := r.ownsAt hi ho
  rw [ha] at ea; cases ea
  have to : t.owned = true := by rcases ht with ⟨rfl, _⟩ | ⟨rfl, _⟩ <;> rfl
  have own : Owns st σ a := ⟨i, s, hi, ho, ha⟩
  have live : H a ≠ none := eo.live
  have back : ∀ b, Owns (st.set i t) σ b → Owns st σ b := fun b ⟨j, u, h1, h2, h3⟩ => by
    rcases get_set h1 with ⟨e, e2, _⟩ | ⟨_, h1⟩
    · subst e; exact ⟨j, s, hi, ho, h3⟩
    · exact ⟨j, u, h1, h2, h3⟩
  refine ⟨⟨Same.refl F, fun b o h n => ?_, fun b h => ?_, fun b h => .inl (back b h), fun b h => .inl h⟩, ⟨fun b o h => ?_, by rw [List.length_set]; exact r.len, fun j u h => ?_, fun j j' u u' b h1 h2 h3 h4 h5 h6 => ?_⟩, fun j d h => ⟨rfl, ?_⟩⟩
  · rw [upd_ne (fun e : b = a => n (by rw [e]; exact own))]; exact h
  · by_cases e : b = a
    · subst e; rw [upd_same]; simp
    · rw [upd_ne e]; exact h
  · rw [upd_ne (fun e => by subst e; rw [en] at h; cases h)]; exact r.le b o h
  · rcases get_set h with ⟨e, e2, _⟩ | ⟨e, h⟩
    · subst e e2
      rcases ht with ⟨rfl, _⟩ | ⟨rfl, _⟩
      · exact ⟨a, ha, en, hd⟩
      · exact ⟨a, ha, en, hd⟩
    · have z := r.sl j u h
      have keep : ∀ b, σ[j]? = some (some (V.ref b)) → u.owned = true → ∀ o, H b = some o → (upd H a o') b = some o := fun b hb hu o q => by
        rw [upd_ne (fun e2 : b = a => e (r.inj j i u s b h hi hu ho hb (by rw [e2]; exact ha)))]; exact q
      cases u with
      | no => trivial
      | fr d => exact z
      | ow d => obtain ⟨b, h1, h2, h3⟩ := z; exact ⟨b, h1, h2, h3.same (Same.refl F) (keep b h1 rfl)⟩
      | bo d => obtain ⟨b, h1, h2, h3⟩ := z; exact ⟨b, h1, h2, h3.same (Same.refl F) (keep b h1 rfl)⟩
  · have e1 : ∃ w : Sl, st[j]? = some w ∧ w.owned = true := by
      rcases get_set h1 with ⟨e, e2, _⟩ | ⟨_, h1⟩
      · subst e; exact ⟨s, hi, ho⟩
      · exact ⟨u, h1, h3⟩
    have e2 : ∃ w : Sl, st[j']? = some w ∧ w.owned = true := by
      rcases get_set h2 with ⟨e, e2, _⟩ | ⟨_, h2⟩
      · subst e; exact ⟨s, hi, ho⟩
      · exact ⟨u', h2, h4⟩
    obtain ⟨w, q1, q2⟩ := e1
    obtain ⟨w', q3, q4⟩ := e2
    exact r.inj j j' w w' b q1 q3 q2 q4 h5 h6
  · rcases get_set h with ⟨e, e2, _⟩ | ⟨e, h⟩
    · subst e
      rcases ht with ⟨rfl, _⟩ | ⟨rfl, d1, rfl⟩
      · cases e2
      · exact ⟨d1, hi⟩
    · exact ⟨d, h⟩
/-- an owned list comes to hold other items -/
theorem Rel.put {s t : Sl} {vs : List V} {ds : List PyData} (r : Rel K F st σ H) (hi : st[i]? = some s) (ho : s.owned = true) (ht : (t = .ow (.py (.list ds)) ∧ ∃ d, s = .ow d) ∨ (t = .bo (.py (.list ds)) ∧ ∃ d, s = .bo d)) (ha : σ[i]? = some (some (V.ref a))) (hd : DnAll K F vs ds) :
    Go K st σ F H (st.set i t) σ F (upd H a (.lst vs)) := r.putO hi ho ht ha ⟨vs, upd_same, hd⟩
/-- what is owned is frozen: its slot is read as a value -/
theorem Rel.frzO {o : HO} (r : Rel K F st σ H) (hi : st[i]? = some (.ow d)) (ha : σ[i]? = some (some (V.ref a))) (en : F a = none) (h1 : H a = some o) (hd : Same F (upd F a o) → Den K (upd F a o) (.ref a) d) :
    Den K (upd F a o) (.ref a) d ∧ Go K st σ F H (st.set i (.fr d)) σ (upd F a o) H := by
  have own : Owns st σ a := ⟨i, _, hi, rfl, ha⟩
  have sF : Same F (upd F a o) := fun b o h => by rw [upd_ne (fun e => by subst e; rw [en] at h; cases h)]; exact h
  have hden := hd sF
  have back : ∀ b, Owns (st.set i (.fr d)) σ b → Owns st σ b ∧ b ≠ a := fun b ⟨j, u, g1, g2, g3⟩ => by
    rcases get_set g1 with ⟨e, e2, _⟩ | ⟨e, g1⟩
    · subst e2; cases g2
    · exact ⟨⟨j, u, g1, g2, g3⟩, fun q : b = a => e (r.inj j i u _ b g1 hi g2 rfl g3 (by rw [q]; exact ha))⟩
  refine ⟨hden, ⟨sF, fun b o h _ => h, fun b h => h, fun b h => .inl (back b h).1, fun b h => ?_⟩, ⟨fun b o h => ?_, by rw [List.length_set]; exact r.len, fun j u h => ?_, fun j j' u u' b g1 g2 g3 g4 g5 g6 => ?_⟩, fun j d h => ⟨rfl, ?_⟩⟩
  · by_cases e : b = a
    · subst e; exact .inr (.inl own)
    · rw [upd_ne e] at h; exact .inl h
  · by_cases e : b = a
    · subst e; rw [upd_same] at h; cases h; exact h1
    · rw [upd_ne e] at h; exact r.le b o h
  · rcases get_set h with ⟨e, e2, _⟩ | ⟨e, h⟩
    · subst e e2; exact ⟨.ref a, ha, hden⟩
    · have z := r.sl j u h
      have nf : ∀ b, σ[j]? = some (some (V.ref b)) → u.owned = true → F b = none → (upd F a o) b = none := fun b hb hu q => by
        rw [upd_ne (fun e2 : b = a => e (r.inj j i u _ b h hi hu rfl hb (by rw [e2]; exact ha)))]; exact q
      cases u with
      | no => trivial
      | fr d => obtain ⟨w, g1, g2⟩ := z; exact ⟨w, g1, g2.same sF⟩
      | ow d => obtain ⟨b, g1, g2, g3⟩ := z; exact ⟨b, g1, nf b g1 rfl g2, g3.same sF fun _ q => q⟩
      | bo d => obtain ⟨b, g1, g2, g3⟩ := z; exact ⟨b, g1, nf b g1 rfl g2, g3.same sF fun _ q => q⟩
  · rcases get_set g1 with ⟨_, e2, _⟩ | ⟨_, g1⟩
    · subst e2; cases g3
    · rcases get_set g2 with ⟨_, e2, _⟩ | ⟨_, g2⟩
      · subst e2; cases g4
      · exact r.inj j j' u u' b g1 g2 g3 g4 g5 g6
  · rcases get_set h with ⟨_, e2, _⟩ | ⟨_, h⟩
    · cases e2
    · exact ⟨d, h⟩
theorem Rel.freeze (r : Rel K F st σ H) (hi : st[i]? = some (.ow d)) : ∃ (a : Addr) (o : HO), σ[i]? = some (some (V.ref a)) ∧ Den K (upd F a o) (.ref a) d ∧ Go K st σ F H (st.set i (.fr d)) σ (upd F a o) H := by
  obtain ⟨a, ha, en, eo⟩ := r.sl i _ hi
  cases d with
  | dct kvs =>
    obtain ⟨vs, h1, h2⟩ := eo
    exact ⟨a, .dK vs, ha, r.frzO hi ha en h1 fun sF => ⟨a, vs, rfl, upd_same, dkv_same sF h2⟩⟩
  | set _ => exact eo.elim
  | scr _ => exact eo.elim
  | py p =>
    cases p with
    | list ds =>
      obtain ⟨vs, h1, h2⟩ := eo
      exact ⟨a, .lst vs, ha, r.frzO hi ha en h1 fun sF => Dn.lst upd_same (dpAll_same sF ds vs h2)⟩
    | _ => exact eo.elim
/-- where a fresh value comes from -/
def Fro (st : En) (σ : L2.St) (H : Hp) (v : V) : Od → Prop
  | .fe _ => ∃ a, v = .ref a ∧ (Owns st σ a ∨ H a = none)
  | _ => True
theorem Fro.back (g : Go K st σ F H st1 σ F1 H1) (h : Fro st1 σ H1 v od) : Fro st σ H v od := by
  cases od with
  | va _ => trivial
  | pk _ => trivial
  | fe _ =>
    obtain ⟨a, e, h⟩ := h
    rcases h with h | h
    · exact ⟨a, e, g.stp.own a h⟩
    · refine ⟨a, e, .inr ?_⟩
      cases q : H a with
      | none => rfl
      | some o => exact absurd h (g.stp.live a (by rw [q]; simp))
structure Res (K : PySem.W.Frag) (st : En) (σ : L2.St) (F H : Hp) (st' : En) (F' H' : Hp) (v : V) (od : Od) : Prop where
  go : Go K st σ F H st' σ F' H'
  rel : ORel K F' H' st' σ v od
  fro : Fro st σ H v od
theorem NewR.res (g : Go K st σ F H st1 σ F1 H1) (n : New F1 H1 F2 H2) (nr : NewR K H1 F2 H2 v od) : Res K st σ F H st1 F2 H2 v od := by
  refine ⟨g.trans (n.go g.rel), nr.orel g.rel n, Fro.back g ?_⟩
  cases od with
  | va _ => trivial
  | pk _ => trivial
  | fe _ => obtain ⟨a, e, h, _⟩ := nr; exact ⟨a, e, .inr h⟩
theorem Res.den (g : Go K st σ F H st1 σ F1 H1) (h : Den K F1 v d) : Res K st σ F H st1 F1 H1 v (.va d) := ⟨g, h, trivial⟩
theorem Res.back (g : Go K st σ F H st1 σ F1 H1) (r : Res K st1 σ F1 H1 st2 F2 H2 v od) : Res K st σ F H st2 F2 H2 v od := ⟨g.trans r.go, r.rel, Fro.back g r.fro⟩
end

/-! ### readings -/
def tE (K : PySem.W.Frag) (C : Ct) (m : Ex) : TE := fun σ H Q => ∃ F st od st', Rel K F st σ H ∧ evE C m st = some (od, st') ∧ ∀ v F' H', Res K st σ F H st' F' H' v od → Q v H'
def tT (K : PySem.W.Frag) (C : Ct) (m : T) : TT := fun σ H Q => ∃ F st b st', Rel K F st σ H ∧ evT C m st = some (b, st') ∧ ∀ F' H', Go K st σ F H st' σ F' H' → Q b H'
inductive ORs (K : PySem.W.Frag) (st0 : En) (H0 : Hp) (F H : Hp) (st : En) (σ : L2.St) : List V → List Od → Prop
  | nil : ORs K st0 H0 F H st σ [] []
  | cons {v : V} {vs : List V} {o : Od} {os : List Od} : ORel K F H st σ v o → Fro st0 σ H0 v o → ORs K st0 H0 F H st σ vs os → ORs K st0 H0 F H st σ (v :: vs) (o :: os)
def tA (K : PySem.W.Frag) (C : Ct) (m : Exs) : TA := fun σ H Q => ∃ F st os st', Rel K F st σ H ∧ evs C m st = some (os, st') ∧ ∀ vs F' H', Go K st σ F H st' σ F' H' → ORs K st H F' H' st' σ vs os → Q vs H'
section
variable {X : Cx} {e a b c : Expr} {es : List Expr} {t t' : TE} {tt tt' : TT} {ta ta' : TA} {pos : Pos}
theorem pe_mono (h : PE X e t) (w : ∀ σ H Q, t' σ H Q → t σ H Q) : PE X e t' := ⟨fun pins s σ H Q I q => h.run pins s σ H Q I (w σ H Q q)⟩
theorem pt_mono (h : PT X e tt) (w : ∀ σ H Q, tt' σ H Q → tt σ H Q) : PT X e tt' := ⟨fun pins s σ H Q I q => h.run pins s σ H Q I (w σ H Q q)⟩
theorem pa_mono (h : PA X es ta) (w : ∀ σ H Q, ta' σ H Q → ta σ H Q) : PA X es ta' := ⟨fun pos pins s σ H Q I q => h.run pos pins s σ H Q I (w σ H Q q)⟩
variable {C : Ct} {ma mb mc : Ex} {k : Nat} {K : PySem.W.Frag}
theorem tE_two {st : En} {F H : Hp} {σ : L2.St} {qa qb : Od × En} {R : V → V → Hp → Prop} (r : Rel K F st σ H) (ea : evE C ma st = some qa) (eb : evE C mb qa.2 = some qb)
    (k : ∀ x y F' H', Go K st σ F H qb.2 σ F' H' → ORel K F' H' qb.2 σ x qa.1 → ORel K F' H' qb.2 σ y qb.1 → R x y H') : tE K C ma σ H fun x H1 => tE K C mb σ H1 fun y H2 => R x y H2 :=
  ⟨F, st, qa.1, qa.2, r, ea, fun x F1 H1 ra => ⟨F1, qa.2, qb.1, qb.2, ra.go.rel, eb, fun y F2 H2 rb => k x y F2 H2 (ra.go.trans rb.go) (ra.rel.step rb.go) rb.rel⟩⟩
theorem me_op {o : O2} (ha : PE X a (tE X.K C ma)) (hb : PE X b (tE X.K C mb)) : PE X (.BinOp a o.op b pos) (tE X.K C (.op o ma mb)) := pe_mono (pe_op (op2_ok o) ha hb) fun σ H Q ⟨F, st, od, st', r, e, q⟩ => by
  simp only [evE, Option.bind_eq_some_iff, Option.map_eq_some_iff] at e
  obtain ⟨qa, ea, qb, eb, x, ex, y, ey, z, ez, e⟩ := e
  cases e
  exact tE_two r ea eb fun u v F' H' g ra rb => ⟨F', x, y, _, g.rel.le, ra.rd g.rel ex, rb.rd g.rel ey, ez, fun w F2 H2 n nr => q w F2 H2 (nr.res g n)⟩
theorem me_neg (ha : PE X a (tE X.K C ma)) : PE X (.UnaryOp .USub a pos) (tE X.K C (.neg ma)) := pe_mono (pe_un un_neg ha) fun σ H Q ⟨F, st, od, st', r, e, q⟩ => by
  simp only [evE, Option.bind_eq_some_iff] at e
  obtain ⟨qa, ea, e⟩ := e
  split at e
  · rename_i i hi
    cases e
    refine ⟨F, st, qa.1, qa.2, r, ea, fun x F' H' ra => ?_⟩
    obtain rfl := (ra.rel.rd ra.go.rel hi).int
    exact ⟨i, rfl, q _ _ _ (Res.den ra.go (Dn.int _))⟩
  · cases e
theorem me_cm {o : Cm} (hr : Room k X.A) (ha : PE X a (tE X.K C ma)) (hb : PE X b (tE X.K C mb)) (hm : behindInMarks o.op b = false) : PE X (.Compare a [o.op] [b] pos) (tE X.K C (.cm o ma mb)) := pe_mono (pe_cmpR (cm_ok hr o) ha hb hm) fun σ H Q ⟨F, st, od, st', r, e, q⟩ => by
  simp only [evE, Option.bind_eq_some_iff, Option.map_eq_some_iff] at e
  obtain ⟨qa, ea, qb, eb, x, ex, y, ey, z, ez, e⟩ := e
  cases e
  exact tE_two r ea eb fun u v F' H' g ra rb => ⟨F', x, y, z, g.rel.le, ra.rd g.rel ex, rb.rd g.rel ey, ez, q _ _ _ (Res.den g (Dn.bl _))⟩
theorem me_cm2 {o o' : Cm} (hr : Room k X.A) (ha : PE X a (tE X.K C ma)) (hb : PE X b (tE X.K C mb)) (hc : PE X c (tE X.K C mc)) (hm : lastMarks [o.op, o'.op] [b, c] = false) :
    PE X (.Compare a [o.op, o'.op] [b, c] pos) (tE X.K C (.cm2 o o' ma mb mc)) := pe_mono (pe_chain (cm_ok hr o) (cm_ok hr o') ha hb hc hm) fun σ H Q ⟨F, st, od, st', r, e, q⟩ => by
  simp only [evE, Option.bind_eq_some_iff] at e
  obtain ⟨qa, ea, qb, eb, x, ex, y, ey, z, ez, e⟩ := e
  refine tE_two r ea eb fun u v F' H' g ra rb => ⟨F', x, y, z, g.rel.le, ra.rd g.rel ex, rb.rd g.rel ey, ez, z, rfl, ?_⟩
  cases z with
  | false =>
    cases e
    exact iteF (q _ _ _ (Res.den g (Dn.bl _)))
  | true =>
    rw [if_pos rfl, Option.bind_eq_some_iff] at e
    obtain ⟨qc, ec, e⟩ := e
    rw [Option.bind_eq_some_iff] at e
    obtain ⟨y', ey', e⟩ := e
    rw [Option.bind_eq_some_iff] at e
    obtain ⟨u', eu', e⟩ := e
    rw [Option.map_eq_some_iff] at e
    obtain ⟨z', ez', e⟩ := e
    cases e
    refine iteT ⟨F', qb.2, qc.1, qc.2, g.rel, ec, fun w F2 H2 rc => ?_⟩
    exact ⟨F2, y', u', z', rc.go.rel.le, (rb.step rc.go).rd rc.go.rel ey', rc.rel.rd rc.go.rel eu', ez', q _ _ _ (Res.den (g.trans rc.go) (Dn.bl _))⟩
end
end Mi
end
section
/-! Mi7: expressions. -/
namespace Mi
open PySem PySem.Spec
open PyProof.Rows hiding St Fr
open L2

/-- no star, no slice stands there -/
def noStar : Expr → Bool
  | .Starred .. => false
  | _ => true
def noSlice : Expr → Bool
  | .Slice .. => false
  | _ => true
def noSet : Expr → Bool
  | .Set .. => false
  | _ => true
theorem star_cons {e : Expr} {es : List Expr} {env : Env} (h : noStar e = true) : starEach (e :: es) env = (false, eval e env) :: starEach es env := by
  cases e <;> first | rfl | cases h
theorem plainIx {b : Expr} (h : noSlice b = true) : PlainIx b := fun o i => by
  cases b <;> first | rfl | cases h
theorem nomarks {o : CmpOp} {b : Expr} (h : noSet b = true) : behindInMarks o b = false := by
  cases b <;> first | rfl | cases h
section
variable {X : Cx} {e a b c : Expr} {es : List Expr} {pos : Pos} {C : Ct} {ma mb mc : Ex} {k : Nat}
/-- a literal -/
def litC : Const → Option PyData
  | .none => some .none
  | .bool b => some (.bool b)
  | .int i => some (.int i)
  | .str x => some (.str x)
  | _ => none
theorem me_lit {v : Const} {j : Nat} {p : PyData} (h : litC v = some p) : PE X (.Constant v j pos) (tE X.K C (.lit p)) := by
  cases v with
  | none => cases h; exact pe_mono pe_non fun σ H Q ⟨F, st, od, st', r, e, q⟩ => by cases e; exact q _ _ _ (Res.den (Go.refl r) Dn.non)
  | bool b => cases h; exact pe_mono pe_bl fun σ H Q ⟨F, st, od, st', r, e, q⟩ => by cases e; exact q _ _ _ (Res.den (Go.refl r) (Dn.bl _))
  | int b => cases h; exact pe_mono pe_int fun σ H Q ⟨F, st, od, st', r, e, q⟩ => by cases e; exact q _ _ _ (Res.den (Go.refl r) (Dn.int _))
  | str b => cases h; exact pe_mono pe_str fun σ H Q ⟨F, st, od, st', r, e, q⟩ => by cases e; exact q _ _ _ (Res.den (Go.refl r) (Dn.str _))
  | _ => cases h
/-- a name of the frame -/
structure NameOk (N : List Str) (sc : Scope) (x : Str) (i : Nat) : Prop where
  ix : N[i]? = some x
  vis : Vis sc x
  d1 : (x == ("__debug__" : Str)) = false
  d2 : (x == ("__classdict__" : Str)) = false
theorem me_var {x : Str} {i : Nat} (h : NameOk X.N X.env.scope x i) : PE X (.Name x pos) (tE X.K C (.var i)) := pe_mono (pe_var h.ix h.vis h.d1 h.d2) fun σ H Q ⟨F, st, od, st', r, e, q⟩ => by
  simp only [evE] at e
  split at e
  · rename_i d hd
    cases e
    obtain ⟨v, h1, h2⟩ := r.sl i _ hd
    exact ⟨v, h1, q _ _ _ (Res.den (Go.refl r) h2)⟩
  · rename_i d hd
    cases e
    obtain ⟨a, o, h1, h2, g⟩ := r.freeze hd
    exact ⟨_, h1, q _ _ _ (Res.den g h2)⟩
  · cases e
theorem me_pk {x : Str} {i : Nat} (h : NameOk X.N X.env.scope x i) : PE X (.Name x pos) (tE X.K C (.pk i)) := pe_mono (pe_var h.ix h.vis h.d1 h.d2) fun σ H Q ⟨F, st, od, st', r, e, q⟩ => by
  simp only [evE] at e
  split at e
  · cases e
  · rename_i s hn hd
    cases e
    have z := r.sl i _ hd
    have : ∃ v, σ[i]? = some (some v) := by
      cases s with
      | no => exact absurd rfl (hn ·)
      | fr d => obtain ⟨v, h1, _⟩ := z; exact ⟨v, h1⟩
      | ow d => obtain ⟨v, h1, _⟩ := z; exact ⟨_, h1⟩
      | bo d => obtain ⟨v, h1, _⟩ := z; exact ⟨_, h1⟩
    obtain ⟨v, h1⟩ := this
    exact ⟨v, h1, q v _ _ ⟨Go.refl r, h1, trivial⟩⟩
  · cases e
/-- and, or, not of bools -/
theorem me_and {rest : List Expr} (ha : PE X a (tE X.K C ma)) (hb : PE X (.BoolOp .And (b :: rest) pos) (tE X.K C mb)) : PE X (.BoolOp .And (a :: b :: rest) pos) (tE X.K C (.and ma mb)) := pe_mono (pe_and ha hb) fun σ H Q ⟨F, st, od, st', r, e, q⟩ => by
  simp only [evE, Option.bind_eq_some_iff] at e
  obtain ⟨qa, ea, e⟩ := e
  refine ⟨F, st, qa.1, qa.2, r, ea, fun x F' H' ra => ?_⟩
  split at e
  · rename_i c hc
    obtain rfl := (ra.rel.rd ra.go.rel hc).bl
    refine ⟨c, rfl, ?_⟩
    cases c with
    | false => cases e; exact iteF (q _ _ _ (Res.den ra.go (Dn.bl _)))
    | true => exact iteT ⟨F', qa.2, od, st', ra.go.rel, e, fun v F2 H2 rb => q _ _ _ (Res.back ra.go rb)⟩
  · cases e
theorem me_or {rest : List Expr} (ha : PE X a (tE X.K C ma)) (hb : PE X (.BoolOp .Or (b :: rest) pos) (tE X.K C mb)) : PE X (.BoolOp .Or (a :: b :: rest) pos) (tE X.K C (.or ma mb)) := pe_mono (pe_or ha hb) fun σ H Q ⟨F, st, od, st', r, e, q⟩ => by
  simp only [evE, Option.bind_eq_some_iff] at e
  obtain ⟨qa, ea, e⟩ := e
  refine ⟨F, st, qa.1, qa.2, r, ea, fun x F' H' ra => ?_⟩
  split at e
  · rename_i c hc
    obtain rfl := (ra.rel.rd ra.go.rel hc).bl
    refine ⟨c, rfl, ?_⟩
    cases c with
    | true => cases e; exact iteT (q _ _ _ (Res.den ra.go (Dn.bl _)))
    | false => exact iteF ⟨F', qa.2, od, st', ra.go.rel, e, fun v F2 H2 rb => q _ _ _ (Res.back ra.go rb)⟩
  · cases e
theorem me_not (ha : PE X a (tE X.K C ma)) : PE X (.UnaryOp .Not a pos) (tE X.K C (.nt ma)) := pe_mono (pe_not ha) fun σ H Q ⟨F, st, od, st', r, e, q⟩ => by
  simp only [evE, Option.bind_eq_some_iff] at e
  obtain ⟨qa, ea, e⟩ := e
  refine ⟨F, st, qa.1, qa.2, r, ea, fun x F' H' ra => ?_⟩
  split at e
  · rename_i c hc
    obtain rfl := (ra.rel.rd ra.go.rel hc).bl
    cases e
    exact ⟨c, rfl, q _ _ _ (Res.den ra.go (Dn.bl _))⟩
  · cases e
theorem me_ite {m : T} (hc : PT X c (tT X.K C m)) (ha : PE X a (tE X.K C ma)) (hb : PE X b (tE X.K C mb)) : PE X (.IfExp c a b pos) (tE X.K C (.ite m ma mb)) := pe_mono (pe_ifExp hc ha hb) fun σ H Q ⟨F, st, od, st', r, e, q⟩ => by
  simp only [evE, Option.bind_eq_some_iff] at e
  obtain ⟨qa, ea, e⟩ := e
  refine ⟨F, st, qa.1, qa.2, r, ea, fun F' H' g => ?_⟩
  cases h : qa.1 with
  | true =>
    rw [h, if_pos rfl] at e
    exact iteT ⟨F', qa.2, od, st', g.rel, e, fun v F2 H2 rb => q _ _ _ (Res.back g rb)⟩
  | false =>
    rw [h, if_neg Bool.false_ne_true] at e
    exact iteF ⟨F', qa.2, od, st', g.rel, e, fun v F2 H2 rb => q _ _ _ (Res.back g rb)⟩
/-- subscripts -/
theorem me_ix (hr : Room k X.A) (hs : noSlice b = true) (ha : PE X a (tE X.K C ma)) (hb : PE X b (tE X.K C mb)) : PE X (.Subscript a b pos) (tE X.K C (.ix ma mb)) := pe_mono (pe_ix (ix_ok hr) ha hb (plainIx hs)) fun σ H Q ⟨F, st, od, st', r, e, q⟩ => by
  simp only [evE, Option.bind_eq_some_iff, Option.map_eq_some_iff] at e
  obtain ⟨qa, ea, qb, eb, x, ex, y, ey, z, ez, e⟩ := e
  cases e
  exact tE_two r ea eb fun u v F' H' g ra rb => ⟨F', x, y, z, g.rel.le, ra.rd g.rel ex, rb.rd g.rel ey, ez, fun w hw => q w _ _ (Res.den g hw)⟩
/-- a part of a slice -/
def tO (K : PySem.W.Frag) (C : Ct) (m : Pt) : TO := fun σ H Q => ∃ F st o st', Rel K F st σ H ∧ evP C m st = some (o, st') ∧ ∀ F' H', Go K st σ F H st' σ F' H' → Q o H'
theorem mo_none : PO X none (tO X.K C .no) := ⟨fun pins s σ H Q I ⟨F, st, o, st', r, e, q⟩ => by
  cases e
  exact po_none.run pins s σ H Q I (q F H (Go.refl r))⟩
theorem mo_some (he : PE X e (tE X.K C ma)) : PO X (some e) (tO X.K C (.so ma)) := ⟨fun pins s σ H Q I ⟨F, st, o, st', r, e, q⟩ => by
  simp only [evP, Option.bind_eq_some_iff] at e
  obtain ⟨qa, ea, e⟩ := e
  refine (po_some he).run pins s σ H Q I ⟨F, st, qa.1, qa.2, r, ea, fun v F' H' ra => ?_⟩
  split at e
  · rename_i i hi
    cases e
    obtain rfl := (ra.rel.rd ra.go.rel hi).int
    exact ⟨_, rfl, q _ _ ra.go⟩
  · cases e⟩
theorem me_sl {lo hi : Option Expr} {ml mh : Pt} {p2 : Pos} (ha : PE X a (tE X.K C ma)) (hl : PO X lo (tO X.K C ml)) (hh : PO X hi (tO X.K C mh)) : PE X (.Subscript a (.Slice lo hi none p2) pos) (tE X.K C (.sl ma ml mh)) := pe_mono (pe_slice sl_ok ha hl hh) fun σ H Q ⟨F, st, od, st', r, e, q⟩ => by
  simp only [evE, Option.bind_eq_some_iff, Option.map_eq_some_iff] at e
  obtain ⟨qa, ea, ql, el, qh, eh, x, ex, z, ez, e⟩ := e
  cases e
  exact ⟨F, st, qa.1, qa.2, r, ea, fun v F1 H1 ra => ⟨F1, qa.2, ql.1, ql.2, ra.go.rel, el, fun F2 H2 g2 => ⟨F2, ql.2, qh.1, qh.2, g2.rel, eh, fun F3 H3 g3 =>
    ⟨F3, x, _, g3.rel.le, ((ra.rel.step g2).step g3).rd g3.rel ex, ez, fun w F4 H4 n nr => q w F4 H4 (nr.res ((ra.go.trans g2).trans g3) n)⟩⟩⟩⟩
/-! ### argument lists, displays, calls of built-ins -/
theorem ma_nil : PA X [] (tA X.K C .nil) := pa_mono pa_nil fun σ H Q ⟨F, st, os, st', r, e, q⟩ => by
  cases e
  exact q _ _ _ (Go.refl r) .nil
end
section
variable {K : PySem.W.Frag} {F H F1 H1 : Hp} {st0 st st1 : En} {H0 : Hp} {σ : L2.St} {vs : List V} {os : List Od}
theorem ORs.step (g : Go K st σ F H st1 σ F1 H1) : ∀ {vs : List V} {os : List Od}, ORs K st0 H0 F H st σ vs os → ORs K st0 H0 F1 H1 st1 σ vs os
  | _, _, .nil => .nil
  | _, _, .cons h f t => .cons (h.step g) f (t.step g)
theorem ORs.back (g : Go K st σ F H st1 σ F1 H1) {F2 H2 : Hp} {st2 : En} : ∀ {vs : List V} {os : List Od}, ORs K st1 H1 F2 H2 st2 σ vs os → ORs K st H F2 H2 st2 σ vs os
  | _, _, .nil => .nil
  | _, _, .cons h f t => .cons h (Fro.back g f) (t.back g)
theorem ORs.rds (r : Rel K F st σ H) : ∀ {vs : List V} {os : List Od} {ds : List D}, ORs K st0 H0 F H st σ vs os → Mi.rds st os = some ds → RdRs K F H vs ds
  | _, _, ds, .nil, e => by cases e; exact .nil
  | _, _, ds, .cons h f t, e => by
    simp only [Mi.rds, Option.bind_eq_some_iff, Option.map_eq_some_iff] at e
    obtain ⟨d, e1, ds', e2, rfl⟩ := e
    exact .cons (h.rd r e1) (t.rds r e2)
end
section
variable {X : Cx} {e a b c : Expr} {es : List Expr} {pos : Pos} {C : Ct} {ma mb mc : Ex} {ms : Exs} {k : Nat}
theorem ma_cons (hs : noStar e = true) (ha : PE X e (tE X.K C ma)) (hr : PA X es (tA X.K C ms)) : PA X (e :: es) (tA X.K C (.cons ma ms)) := pa_mono (pa_cons ha hr (star_cons hs)) fun σ H Q ⟨F, st, os, st', r, e, q⟩ => by
  simp only [evs, Option.bind_eq_some_iff, Option.map_eq_some_iff] at e
  obtain ⟨qa, ea, qr, er, e⟩ := e
  cases e
  exact ⟨F, st, qa.1, qa.2, r, ea, fun v F1 H1 ra => ⟨F1, qa.2, qr.1, qr.2, ra.go.rel, er, fun vs F2 H2 g2 rr => q _ _ _ (ra.go.trans g2) (.cons (ra.rel.step g2) ra.fro (rr.back ra.go))⟩⟩
end
end Mi
end
section
/-! Mi8: displays, built-ins, methods. -/
namespace Mi
open PySem PySem.Spec
open PyProof.Rows hiding St Fr
open L2

inductive Dens (K : PySem.W.Frag) (F : Hp) : List V → List D → Prop
  | nil : Dens K F [] []
  | cons {v : V} {vs : List V} {d : D} {ds : List D} : Den K F v d → Dens K F vs ds → Dens K F (v :: vs) (d :: ds)
section
variable {K : PySem.W.Frag} {F H F1 H1 F2 : Hp} {st0 st st1 : En} {H0 : Hp} {σ : L2.St} {vs : List V} {os : List Od} {a : Addr} {d : D} {v : V}
theorem Go.frz (g : Go K st σ F H st1 σ F1 H1) (hn : ¬ Owns st1 σ a) (fro : Owns st σ a ∨ H a = none) (s1 : Same F1 F2) (s2 : Same F2 H1) (hF : ∀ b, F2 b ≠ none → F1 b ≠ none ∨ b = a) : Go K st σ F H st1 σ F2 H1 := by
  refine ⟨⟨g.stp.fr.trans s1, g.stp.keep, g.stp.live, g.stp.own, fun b h => ?_⟩, ⟨s2, g.rel.len, fun i s h => ?_, g.rel.inj⟩, g.bos⟩
  · rcases hF b h with q | q
    · exact g.stp.frz b q
    · subst q; exact .inr fro
  · have z := g.rel.sl i s h
    have nf : ∀ b, σ[i]? = some (some (V.ref b)) → s.owned = true → F1 b = none → F2 b = none := fun b hb hs q => by
      cases e : F2 b with
      | none => rfl
      | some u =>
        rcases hF b (by rw [e]; simp) with z | z
        · exact absurd q z
        · subst z; exact absurd ⟨i, s, h, hs, hb⟩ hn
    cases s with
    | no => trivial
    | fr d => obtain ⟨w, g1, g2⟩ := z; exact ⟨w, g1, g2.same s1⟩
    | ow d => obtain ⟨b, g1, g2, g3⟩ := z; exact ⟨b, g1, nf b g1 rfl g2, g3.same s1 fun _ q => q⟩
    | bo d => obtain ⟨b, g1, g2, g3⟩ := z; exact ⟨b, g1, nf b g1 rfl g2, g3.same s1 fun _ q => q⟩
/-- an operand is kept: what was just made is frozen -/
theorem keep_one {od : Od} (g : Go K st σ F H st1 σ F1 H1) {F0 : Hp} (s0 : Same F0 F1) (h : ORel K F0 H1 st1 σ v od) (fro : Fro st σ H v od) (e : od.val = some d) : ∃ F2, Same F1 F2 ∧ Go K st σ F H st1 σ F2 H1 ∧ Den K F2 v d := by
  cases od with
  | va d' => cases e; exact ⟨F1, Same.refl _, g, h.same s0⟩
  | pk i => cases e
  | fe d' =>
    cases e
    obtain ⟨a, rfl, _, ho, hn⟩ := h
    obtain ⟨a', e1, fr⟩ := fro
    cases e1
    cases d with
    | dct kvs =>
        obtain ⟨us, h1, h2⟩ := ho
        cases hf : F1 a with
        | some o =>
          have := g.rel.le a o hf
          rw [h1] at this
          cases this
          exact ⟨F1, Same.refl _, g, a, us, rfl, hf, dkv_same s0 h2⟩
        | none =>
          have s1 : Same F1 (upd F1 a (.dK us)) := fun b o q => by rw [upd_ne (fun z : b = a => by subst z; rw [hf] at q; cases q)]; exact q
          refine ⟨upd F1 a (.dK us), s1, g.frz hn fr s1 (fun b o q => ?_) (fun b q => ?_), a, us, rfl, upd_same, dkv_same (s0.trans s1) h2⟩
          · by_cases z : b = a
            · subst z; rw [upd_same] at q; cases q; exact h1
            · rw [upd_ne z] at q; exact g.rel.le b o q
          · by_cases z : b = a
            · exact .inr z
            · rw [upd_ne z] at q; exact .inl q
    | set _ => exact ho.elim
    | scr _ => exact ho.elim
    | py p =>
      cases p with
      | list ds =>
        obtain ⟨us, h1, h2⟩ := ho
        cases hf : F1 a with
        | some o =>
          have := g.rel.le a o hf
          rw [h1] at this
          cases this
          exact ⟨F1, Same.refl _, g, Dn.lst hf (dpAll_same s0 _ _ h2)⟩
        | none =>
          have s1 : Same F1 (upd F1 a (.lst us)) := fun b o q => by rw [upd_ne (fun z : b = a => by subst z; rw [hf] at q; cases q)]; exact q
          refine ⟨upd F1 a (.lst us), s1, g.frz hn fr s1 (fun b o q => ?_) (fun b q => ?_), Dn.lst upd_same (dpAll_same (s0.trans s1) _ _ h2)⟩
          · by_cases z : b = a
            · subst z; rw [upd_same] at q; cases q; exact h1
            · rw [upd_ne z] at q; exact g.rel.le b o q
          · by_cases z : b = a
            · exact .inr z
            · rw [upd_ne z] at q; exact .inl q
      | _ => exact ho.elim
theorem keep_all {F0 : Hp} (h : ∀ {vs : List V} {os : List Od} {ds : List D}, True) : ∀ {vs : List V} {os : List Od} {ds : List D} {F1 : Hp}, ORs K st H F0 H1 st1 σ vs os → vals os = some ds → Same F0 F1 → Go K st σ F H st1 σ F1 H1 →
    ∃ F2, Same F1 F2 ∧ Go K st σ F H st1 σ F2 H1 ∧ Dens K F2 vs ds
  | _, _, _, F1, .nil, e, s0, g => by cases e; exact ⟨F1, Same.refl _, g, .nil⟩
  | _, _, _, F1, .cons h1 h2 t, e, s0, g => by
    simp only [vals, Option.bind_eq_some_iff, Option.map_eq_some_iff] at e
    obtain ⟨d, e1, ds', e2, rfl⟩ := e
    obtain ⟨F2, s1, g1, q1⟩ := keep_one g s0 h1 h2 e1
    obtain ⟨F3, s2, g2, q2⟩ := keep_all (F0 := F0) (fun {_ _ _} => trivial) t e2 (s0.trans s1) g1
    exact ⟨F3, s1.trans s2, g2, .cons (q1.same s2) q2⟩
theorem dens_py : ∀ {vs : List V} {ds : List D} {ps : List PyData}, Dens K F vs ds → pyds ds = some ps → DnAll K F vs ps
  | _, _, _, .nil, e => by cases e; exact .nil
  | _, _, _, .cons (d := d) h t, e => by
    simp only [pyds, Option.bind_eq_some_iff, Option.map_eq_some_iff] at e
    obtain ⟨p, e1, ps', e2, rfl⟩ := e
    cases d <;> cases e1
    exact .cons h (dens_py t e2)
end
section
variable {X : Cx} {e a b c : Expr} {es : List Expr} {pos : Pos} {C : Ct} {ma mb mc : Ex} {ms : Exs} {k : Nat} {t : TA}
theorem pe_tupF {x1 : Nat} (h : PA X es t) : PE X (.Tuple es x1 pos) (fun σ H Q => t σ H fun xs H1 => xs.length ≤ sizeLine ∧ ∀ p ob, ob.dict = none → H1 p = none → Q (.ref p) (upd H1 p (.frz ob (.tup xs)))) := by
  refine ⟨fun pins s σ H Q I hq => wpAny_Tuple_spliced (thn (h.run pos pins s σ H _ I hq) fun us s1 ⟨xs, H1, I1, r, z, q⟩ => ⟨by rw [← r.length]; exact z, ?_⟩)⟩
  exact ⟨.ref s1.heap.objs.size, _, lay_tup I1 r z, rfl, q _ _ rfl (I1.hok.fresh (Nat.le_refl _))⟩
theorem me_tup {x1 : Nat} (h : PA X es (tA X.K C ms)) : PE X (.Tuple es x1 pos) (tE X.K C (.tup ms)) := pe_mono (pe_tupF h) fun σ H Q ⟨F, st, od, st', r, e, q⟩ => by
  simp only [evE, Option.bind_eq_some_iff] at e
  obtain ⟨qa, ea, ds, ed, ps, ep, e⟩ := e
  split at e
  · rename_i hl
    cases e
    refine ⟨F, st, qa.1, qa.2, r, ea, fun vs F1 H1 g rr => ?_⟩
    obtain ⟨F2, s1, g2, hd⟩ := keep_all (fun {_ _ _} => trivial) rr ed (Same.refl _) g
    have hp := dens_py hd ep
    refine ⟨by rw [dpl_len hp]; exact lim_line hl, fun p ob ho hn => q _ _ _ (NewR.res g2 (New.put g2.rel.le hn) (NewR.tup g2.rel.le hn ho hp))⟩
  · cases e
theorem me_lst (h : PA X es (tA X.K C ms)) : PE X (.List es pos) (tE X.K C (.lst ms)) := pe_mono (pe_lst h) fun σ H Q ⟨F, st, od, st', r, e, q⟩ => by
  simp only [evE, Option.bind_eq_some_iff] at e
  obtain ⟨qa, ea, ds, ed, ps, ep, e⟩ := e
  split at e
  · rename_i hl
    cases e
    refine ⟨F, st, qa.1, qa.2, r, ea, fun vs F1 H1 g rr => ?_⟩
    obtain ⟨F2, s1, g2, hd⟩ := keep_all (fun {_ _ _} => trivial) rr ed (Same.refl _) g
    have hp := dens_py hd ep
    refine ⟨by rw [dpl_len hp]; exact lim_line hl, fun p hn => q _ _ _ (NewR.res g2 (New.lst g2.rel.le hn) (NewR.lst g2.rel.le hn hp))⟩
  · cases e
/-! ### built-ins -/
def Bi.nm : Bi → Str
  | .len => "len"
  | .tuple => "tuple"
  | .list => "list"
  | .sorted => "sorted"
  | .min => "min"
  | .max => "max"
  | .sum => "sum"
  | .any => "any"
  | .all => "all"
  | .abs => "abs"
  | .int => "int"
  | .bool => "bool"
  | .str => "str"
  | .repr => "repr"
  | .divmod => "divmod"
  | .dict => "dict"
  | .set => "set"
  | .lrange => "list"
  | .trange => "tuple"
def noStars (es : List Expr) : Bool := es.all noStar
theorem stars_any {env : Env} {pos : Pos} : ∀ {es : List Expr}, noStars es = true → (backTo pos (starEach es env)).any (·.1) = false
  | [], _ => rfl
  | e :: es, h => by
    have h' : noStar e = true ∧ noStars es = true := by simpa [noStars] using h
    rw [star_cons h'.1]
    show (false || (backTo pos (starEach es env)).any (·.1)) = false
    rw [stars_any h'.2] <;> rfl
theorem boot_bi (f : Bi) : bootBuiltins f.nm = some f.f := by cases f <;> decide +kernel
theorem pe_bi (hr : Room k X.A) (hc : X.calm = true) (hg : X.A.guards = some []) (f : Bi) (hf : f ≠ .lrange) (hf' : f ≠ .trange) {p : Pos} (gl : Gl X f.nm) (mg : X.mg f.nm = none) (hs : noStars (e :: es) = true) (ha : PA X (e :: es) t) :
    PE X (.Call (.Name f.nm p) (e :: es) [] pos) (tCB (rBi X.K f) t) := by
  have h' : noStar e = true ∧ noStars es = true := by simpa [noStars] using hs
  have ok := bi_ok hr hc hg f hf hf'
  have bt := boot_bi f
  have n1 : f.nm ≠ "__name__" := by cases f <;> decide
  have n2 : (f.nm == ("__debug__" : Str)) = false := by cases f <;> decide
  have tl := stars_any (env := X.env) (pos := pos) h'.2
  cases f <;> first | exact absurd rfl hf | exact absurd rfl hf' | exact pe_callB ok gl mg bt ha n1 n2 (star_cons h'.1) tl | exact pe_callTy ok gl mg bt ha n1 n2 (star_cons h'.1) tl
theorem me_bi (hr : Room k X.A) (hc : X.calm = true) (hg : X.A.guards = some []) (f : Bi) (hf : f ≠ .lrange) (hf' : f ≠ .trange) {p : Pos} (gl : Gl X f.nm) (mg : X.mg f.nm = none) (hs : noStars (e :: es) = true) (ha : PA X (e :: es) (tA X.K C ms)) :
    PE X (.Call (.Name f.nm p) (e :: es) [] pos) (tE X.K C (.bi f ms)) := pe_mono (pe_bi hr hc hg f hf hf' gl mg hs ha) fun σ H Q ⟨F, st, od, st', r, e, q⟩ => by
  simp only [evE, Option.bind_eq_some_iff, Option.map_eq_some_iff] at e
  obtain ⟨qa, ea, ds, ed, o, eo, e⟩ := e
  cases e
  exact ⟨F, st, qa.1, qa.2, r, ea, fun vs F1 H1 g rr => ⟨F1, ds, _, g.rel.le, rr.rds g.rel ed, eo, fun w F2 H2 n nr => q _ _ _ (nr.res g n)⟩⟩
end
end Mi
end
section
/-! Mi9: ranges as lists, isinstance, methods, tests. -/
namespace Mi
open PySem PySem.Spec
open PyProof.Rows hiding St Fr
open L2

section
variable {X : Cx} {e a b c : Expr} {es : List Expr} {pos : Pos} {C : Ct} {ma mb mc : Ex} {ms : Exs} {k : Nat} {t : TA}
/-! ### list(range(..)), tuple(range(..)) -/
def tRg (K : PySem.W.Frag) (C : Ct) (ms : Exs) : L2.St → Hp → (Int → Int → Hp → Prop) → Prop := fun σ H Q => ∃ F st os st' ds xs, Rel K F st σ H ∧ evs C ms st = some (os, st') ∧ rds st' os = some ds ∧ rngD ds = some xs ∧
  ∀ F' H' i j, Go K st σ F H st' σ F' H' → RgOk i j → xs = (List.range (j - i).toNat).map (fun (k : Nat) => PyData.int (i + (k : Int))) → Q i j H'
theorem rng_one {ds : List D} {xs : List PyData} (h : rngD ds = some xs) : (∃ b, ds = [.py (.int b)] ∧ okR b = true ∧ xs = rngL 0 b.toNat) ∨ ∃ a b, ds = [.py (.int a), .py (.int b)] ∧ okR a = true ∧ okR b = true ∧ xs = rngL a (b - a).toNat := by
  unfold rngD at h
  split at h
  · rename_i b
    split at h
    · rename_i hb
      cases h
      exact .inl ⟨b, rfl, hb, rfl⟩
    · cases h
  · rename_i a b
    split at h
    · rename_i hb
      rw [Bool.and_eq_true] at hb
      cases h
      exact .inr ⟨a, b, rfl, hb.1, hb.2, rfl⟩
    · cases h
  · cases h
theorem okR_ok {i : Int} (h : okR i = true) : -1000000 ≤ i ∧ i ≤ 1000000 := by
  unfold okR at h
  rw [Bool.and_eq_true, decide_eq_true_eq, decide_eq_true_eq] at h
  exact h
theorem mrg_1 {p : Pos} (hg : Gl X "range") (hm : X.mg "range" = none) (hs : noStar a = true) (ha : PE X a (tE X.K C ma)) : PRg X (.Call (.Name "range" p) [a] [] pos) (tRg X.K C (.cons ma .nil)) := by
  intro pins s σ H Q I ⟨F, st, os, st', ds, xs, r, e, e2, e3, q⟩
  simp only [evs, Option.bind_eq_some_iff, Option.map_eq_some_iff] at e
  obtain ⟨qa, ea, qn, en, e⟩ := e
  cases en; cases e
  refine prg_1 hg hm ha (star_cons hs) pins s σ H Q I ⟨F, st, qa.1, qa.2, r, ea, fun v F1 H1 ra => ?_⟩
  simp only [rds, Option.bind_eq_some_iff, Option.map_eq_some_iff] at e2
  obtain ⟨d, ed, ds', e4, rfl⟩ := e2
  cases e4
  rcases rng_one e3 with ⟨n, h1, h2, h3⟩ | ⟨_, _, h1, _⟩
  · cases h1
    obtain rfl := (ra.rel.rd ra.go.rel ed).int
    have hb := okR_ok h2
    exact ⟨n, rfl, q _ _ _ _ ra.go ⟨by omega, by omega, by omega, by omega, by omega⟩ (by rw [h3, Int.sub_zero]; rfl)⟩
  · cases h1
theorem mrg_2 {p : Pos} (hg : Gl X "range") (hm : X.mg "range" = none) (hs : noStar a = true) (hs2 : noStar b = true) (ha : PE X a (tE X.K C ma)) (hb : PE X b (tE X.K C mb)) :
    PRg X (.Call (.Name "range" p) [a, b] [] pos) (tRg X.K C (.cons ma (.cons mb .nil))) := by
  intro pins s σ H Q I ⟨F, st, os, st', ds, xs, r, e, e2, e3, q⟩
  simp only [evs, Option.bind_eq_some_iff, Option.map_eq_some_iff] at e
  obtain ⟨qa, ea, qn, ⟨qb, eb, qn2, en, en2⟩, e⟩ := e
  cases en; cases en2; cases e
  refine prg_2 hg hm ha hb (star_cons hs) (star_cons hs2) (stars_any (by show (noStar b && true) = true; rw [hs2] <;> rfl)) pins s σ H Q I (tE_two r ea eb fun x y F1 H1 g ra rb => ?_)
  simp only [rds, Option.bind_eq_some_iff, Option.map_eq_some_iff] at e2
  obtain ⟨d, ed, ds', ⟨d2, ed2, ds2, e4, rfl⟩, rfl⟩ := e2
  cases e4
  rcases rng_one e3 with ⟨n, h1, _⟩ | ⟨i, j, h1, h2, h3, h4⟩
  · cases h1
  · cases h1
    obtain rfl := (ra.rd g.rel ed).int
    obtain rfl := (rb.rd g.rel ed2).int
    have h5 := okR_ok h2
    have h6 := okR_ok h3
    exact ⟨i, j, rfl, rfl, q _ _ _ _ g ⟨by omega, by omega, by omega, by omega, by omega⟩ (by rw [h4]; rfl)⟩
theorem dn_rg {K : PySem.W.Frag} {F : Hp} (i : Int) : ∀ (l : List Nat), DnAll K F (l.map fun (k : Nat) => V.int (i + (k : Int))) (l.map fun (k : Nat) => PyData.int (i + (k : Int)))
  | [] => .nil
  | _ :: l => .cons (.int _) (dn_rg i l)
theorem me_lrange {p : Pos} (hc : X.calm = true) (hg : Gl X "list") (hm : X.mg "list" = none) (hs : noStar e = true) (he : PRg X e (tRg X.K C ms)) : PE X (.Call (.Name "list" p) [e] [] pos) (tE X.K C (.bi .lrange ms)) :=
  pe_mono (pe_listRg hc hg hm he (star_cons hs)) fun σ H Q ⟨F, st, od, st', r, e, q⟩ => by
    simp only [evE, Option.bind_eq_some_iff, Option.map_eq_some_iff, biD] at e
    obtain ⟨qa, ea, ds, ed, o, ⟨xs, ex, eo⟩, e⟩ := e
    cases eo; cases e
    refine ⟨F, st, qa.1, qa.2, ds, xs, r, ea, ed, ex, fun F1 H1 i j g ok ex => ⟨ok, fun p hp => ?_⟩⟩
    subst ex
    exact q _ _ _ (NewR.res g (New.lst g.rel.le hp) (NewR.lst g.rel.le hp (dn_rg i _)))
theorem pe_tupRgF {p : Pos} {te : L2.St → Hp → (Int → Int → Hp → Prop) → Prop} (hc : X.calm = true) (hg : Gl X "tuple") (hm : X.mg "tuple" = none) (he : PRg X e te) (na : starEach [e] X.env = (false, eval e X.env) :: starEach [] X.env) :
    PE X (.Call (.Name "tuple" p) [e] [] pos) (fun σ H Q => te σ H fun a b H1 => RgOk a b ∧ ∀ q ob, ob.dict = none → H1 q = none → Q (.ref q) (upd H1 q (.frz ob (.tup (rgV a b))))) := by
  refine ⟨fun pins s σ H Q I h => Call_ (ld_blt I hg hm boot_tuple (PyProof.Rows.callWith_type1 (args_cons (thn (he pins s σ H _ I h) fun x s1 ⟨r, a, b, t, u, v, H1, ex, hr, I1, ok, q⟩ => args_nil ?_) na) na))⟩
  subst ex
  obtain ⟨b1, b2, b3, b4, b5⟩ := ok
  refine call_tuple_range (n := (b - a).toNat) (I1.ok.hd hc) hr (small_one b1 b2 b3 b4) (rangeSize_nat a b) b5 fun h' tk acc hk hi => ?_
  have I2 : Inv X pins σ H1 { s1 with heap := h', toks := tk } := I1.kept hk
  have z : (rgV a b).length ≤ sizeLine := by rw [rgV_length, sizeLine_eq]; omega
  have lay := lay_tup (t' := tk) I2 (vals_rg hi) z
  rw [Array.toArray_toList] at lay
  exact ⟨.ref h'.objs.size, _, lay, rfl, q _ _ rfl (I2.hok.fresh (Nat.le_refl _))⟩
theorem me_trange {p : Pos} (hc : X.calm = true) (hg : Gl X "tuple") (hm : X.mg "tuple" = none) (hs : noStar e = true) (he : PRg X e (tRg X.K C ms)) : PE X (.Call (.Name "tuple" p) [e] [] pos) (tE X.K C (.bi .trange ms)) :=
  pe_mono (pe_tupRgF hc hg hm he (star_cons hs)) fun σ H Q ⟨F, st, od, st', r, e, q⟩ => by
    simp only [evE, Option.bind_eq_some_iff, Option.map_eq_some_iff, biD] at e
    obtain ⟨qa, ea, ds, ed, o, ⟨xs, ex, eo⟩, e⟩ := e
    cases eo; cases e
    refine ⟨F, st, qa.1, qa.2, ds, xs, r, ea, ed, ex, fun F1 H1 i j g ok ex => ⟨ok, fun p ob ho hp => ?_⟩⟩
    subst ex
    exact q _ _ _ (NewR.res g (New.put g.rel.le hp) (NewR.tup g.rel.le hp ho (dn_rg i _)))

/-! ### isinstance -/
def Ty.nm : Ty → String
  | .int => "int"
  | .bool => "bool"
  | .str => "str"
  | .list => "list"
  | .tuple => "tuple"
def kdN : Kd → String
  | .non => "NoneType"
  | .bl => "bool"
  | .int => "int"
  | .str => "str"
  | .lst => "list"
  | .tup => "tuple"
  | .dct => "dict"
abbrev tyN (p : PyData) : String := kdN (kd p)
theorem tyX_of {K : PySem.W.Frag} {F H : Hp} {v : V} {p : PyData} (le : Same F H) (h : RdR K F H v (.py p)) : TyX K H v (.type (tyN p)) := by
  have z := h.dn le
  cases z with
  | non => exact .base .non
  | bl b => exact .base (.bl b)
  | int i => exact .base (.int i)
  | str x => exact .base (.str x)
  | lst h1 _ => exact .base (.lst h1)
  | tup h1 _ =>
    rcases h1 with ⟨ob, _, h2⟩ | ⟨o, vs, n, h2, h3, _⟩
    · exact .fTuple h2
    · exact .kTuple h2 h3
theorem kit_kd (k : Kd) (t : Ty) (h : k ≠ .dct) : kitB (kdN k) t.nm = some (kdTy k t) := by
  cases k <;> first | exact absurd rfl h | (cases t <;> decide +kernel)
theorem kit_py {K : PySem.W.Frag} (p : PyData) (hp : p.plain = true) (t : Ty) : PySem.W.kitOne K (.type (tyN p)) (.type t.nm) = some (isTy p t) :=
  kit_kd (kd p) t (by
    cases p with
    | dict _ => cases hp
    | _ => (intro h; cases h))
theorem kits_py {K : PySem.W.Frag} (p : PyData) (hp : p.plain = true) : ∀ (ts : List Ty), PySem.W.kitAny K (.type (tyN p)) (ts.map fun t => Value.type t.nm) = some (ts.any (isTy p))
  | [] => rfl
  | t :: ts => by
    rw [List.map_cons, PySem.W.kitAny, kit_py p hp t, List.any_cons]
    cases isTy p t with
    | true => rfl
    | false => exact kits_py p hp ts
def Ty.s : Ty → Str
  | .int => "int"
  | .bool => "bool"
  | .str => "str"
  | .list => "list"
  | .tuple => "tuple"
theorem boot_ty (t : Ty) : bootBuiltins t.s = some (.type t.nm) := by cases t <;> decide +kernel
theorem pe_ty {t : Ty} {p : Pos} (gl : Gl X t.s) (mg : X.mg t.s = none) : PE X (.Name t.s p) (tC (.ty t.nm)) :=
  pe_bltn gl mg (boot_ty t) rfl (by cases t <;> decide) (by cases t <;> decide)
theorem boot_isi : bootBuiltins "isinstance" = some (.builtin "isinstance") := by decide +kernel
theorem me_isa {t : Ty} {p p2 : Pos} (hs : noStar a = true) (gi : Gl X "isinstance") (mi : X.mg "isinstance" = none) (gl : Gl X t.s) (mg : X.mg t.s = none) (ha : PE X a (tE X.K C ma)) :
    PE X (.Call (.Name "isinstance" p) [a, .Name t.s p2] [] pos) (tE X.K C (.isa ma [t])) :=
  pe_mono (pe_callB call_isi gi mi boot_isi (pa_cons ha (pa_cons (pe_ty gl mg) pa_nil) (star_cons hs)) (by decide) (by decide) (star_cons hs)) fun σ H Q ⟨F, st, od, st', r, e, q⟩ => by
    simp only [evE, Option.bind_eq_some_iff, Option.map_eq_some_iff] at e
    obtain ⟨qa, ea, d, ed, p, ep, e⟩ := e
    cases e
    cases d <;> cases ep
    refine ⟨F, st, qa.1, qa.2, r, ea, fun v F1 H1 ra => ?_⟩
    have z := ra.rel.rd ra.go.rel ed
    refine ⟨v, .ty t.nm, _, _, isTy p t, rfl, .ty _, tyX_of ra.go.rel.le z, kit_py p z.plain t, ?_⟩
    have e1 : ([t].any (isTy p)) = isTy p t := by simp
    rw [← e1]
    exact q _ _ _ (Res.den ra.go (Dn.bl _))
theorem pa_tys : ∀ {ts : List Ty} {es : List Expr}, (∀ t ∈ ts, Gl X t.s ∧ X.mg t.s = none) → Paired (fun (t : Ty) (e : Expr) => ∃ p, e = Expr.Name t.s p) ts es → PA X es (fun σ H Q => Q (ts.map fun t => V.ty t.nm) H)
  | [], _, _, .nil => pa_nil
  | t :: ts, _, h, .cons h1 h2 => by
    obtain ⟨p, rfl⟩ := h1
    obtain ⟨g1, g2⟩ := h t (List.mem_cons_self ..)
    exact pa_mono (pa_cons (pe_ty g1 g2) (pa_tys (fun t ht => h t (List.mem_cons_of_mem _ ht)) h2) (star_cons rfl)) fun σ H Q q => q
theorem pair_cls : ∀ (ts : List Ty), Paired ClsV (ts.map fun t => V.ty t.nm) (ts.map fun t => Value.type t.nm)
  | [] => .nil
  | t :: ts => .cons (.ty _) (pair_cls ts)
theorem noStars_tys : ∀ {ts : List Ty} {es : List Expr}, Paired (fun (t : Ty) (e : Expr) => ∃ p, e = Expr.Name t.s p) ts es → noStars es = true
  | _, _, .nil => rfl
  | _, _, .cons h t => by
    obtain ⟨p, rfl⟩ := h
    simpa [noStars, noStar] using noStars_tys t
theorem me_isaT {ts : List Ty} {p p2 : Pos} {x1 : Nat} (hl : ts.length ≤ 100) (hs : noStar a = true) (gi : Gl X "isinstance") (mi : X.mg "isinstance" = none) (hts : ∀ t ∈ ts, Gl X t.s ∧ X.mg t.s = none)
    (hes : Paired (fun (t : Ty) (e : Expr) => ∃ p, e = Expr.Name t.s p) ts es) (ha : PE X a (tE X.K C ma)) :
    PE X (.Call (.Name "isinstance" p) [a, .Tuple es x1 p2] [] pos) (tE X.K C (.isa ma ts)) :=
  pe_mono (pe_callB call_isiT gi mi boot_isi (pa_cons ha (pa_cons (pe_tup (pa_tys hts hes)) pa_nil (star_cons rfl)) (star_cons hs)) (by decide) (by decide) (star_cons hs) (by rfl)) fun σ H Q ⟨F, st, od, st', r, e, q⟩ => by
    simp only [evE, Option.bind_eq_some_iff, Option.map_eq_some_iff] at e
    obtain ⟨qa, ea, d, ed, p, ep, e⟩ := e
    cases e
    cases d <;> cases ep
    refine ⟨F, st, qa.1, qa.2, r, ea, fun v F1 H1 ra => ⟨by rw [List.length_map, sizeLine_eq]; omega, fun T hT => ?_⟩⟩
    have z := ra.rel.rd ra.go.rel ed
    have nw : New F1 H1 (upd F1 T (.tup (ts.map fun t => V.ty t.nm))) (upd H1 T (.tup (ts.map fun t => V.ty t.nm))) := New.put ra.go.rel.le hT
    have z2 : RdR X.K (upd F1 T (.tup (ts.map fun t => V.ty t.nm))) (upd H1 T (.tup (ts.map fun t => V.ty t.nm))) v (.py p) := by
      rcases z with z | ⟨a, e1, z⟩
      · exact .inl (z.same nw.fr)
      · exact .inr ⟨a, e1, z.same nw.fr fun o q => nw.hp a o q⟩
    refine ⟨v, T, _, _, _, ts.any (isTy p), rfl, upd_same, pair_cls ts, tyX_of nw.le z2, kits_py p z.plain ts, q _ _ _ (Res.den (ra.go.trans (nw.go ra.go.rel)) (Dn.bl _))⟩

/-! ### methods -/
/-- a list or a tuple, without a dict -/
def TyG (K : PySem.W.Frag) (T : String) (x : V) (H : Hp) : Prop := ∃ a, x = .ref a ∧ ((T = "list" ∧ ∃ vs, H a = some (.lst vs)) ∨ (T = "tuple" ∧ ∃ vs, Tp K H a vs))
theorem tyG_is {pins : List (Addr × Obj)} {σ : L2.St} {H : Hp} {s : Shared} {T : String} {x : V} {v : Value} (I : Inv X pins σ H s) (r : RelV x v) (ty : TyG X.K T x H) :
    s.TypeIs v T ∧ ∀ a, v = .ref a → ∃ ob, s.heap.get? a = some ob ∧ ob.dict = none := by
  obtain ⟨p, rfl, ty⟩ := ty
  cases r
  rcases ty with ⟨rfl, vs, hq⟩ | ⟨rfl, vs, hq⟩
  · exact tyV_is (x := V.ref p) I rfl (Or.inl ⟨rfl, vs, .inl (.inl hq)⟩)
  · rcases hq with ⟨ob, h1, h2⟩ | ⟨o, us, n, h1, h2, h3, _⟩
    · obtain ⟨g1, _, its, _, o, g2, g3, _⟩ := I.hok p _ h2
      rw [g1] at g2
      cases g2
      exact ⟨⟨ob, g1, g3⟩, fun a e => by cases e; exact ⟨ob, g1, h1⟩⟩
    · exact ⟨⟨o, I.kIn p o h1, h2⟩, fun a e => by cases e; exact ⟨o, I.kIn _ o h1, h3⟩⟩
theorem few_ok {es : List Expr} {env : Env} {pos : Pos} (h : noStars es = true) (hl : es.length < 29) : ((backTo pos (starEach es env)).all (fun x => !x.1) && (backToKw pos (keywordEach [] env)).all (fun x => x.1.isSome)
      && decide (es.length + ([] : List Keyword).length + (if ([] : List Keyword).isEmpty then 0 else 1) < 30)) = true := by
  have z : (backTo pos (starEach es env)).all (fun x => !x.1) = true := by
    have := stars_any (env := env) (pos := pos) h
    rw [List.all_eq_not_any_not]
    simp only [Bool.not_not]
    rw [this] <;> rfl
  rw [z]
  show (true && true && decide (es.length + 0 + 0 < 30)) = true
  simp
  omega
theorem pe_bmG {o : Expr} {T id : String} {name : Str} {apos cpos : Pos} {r : V → List V → Hp → VK → Prop} {to : TE} (pa : PlainAttrs T) (slot : Slot T name id) (hty : typeOf (.builtin id) = pure (.type "method_descriptor")) (hm : MtR X id r) (ho : PE X o to) (ha : PA X (e :: es) t)
    (hbase : attributeBase o name X.env (eval o X.env) = eval o X.env) (hs : noStars (e :: es) = true) (hl : (e :: es).length < 29) (hline : (apos.endLine == cpos.line) = true) :
    PE X (.Call (.Attribute o name apos) (e :: es) [] cpos) (fun σ H Q => to σ H fun x H1 => TyG X.K T x H1 ∧ t σ H1 fun xs H2 => r x xs H2 Q) := by
  have h' : noStar e = true ∧ noStars es = true := by simpa [noStars] using hs
  refine ⟨fun pins s σ H Q I h => wpAny_Call_method_late hbase (few_ok hs hl) hline rfl (thn (ho.run pins s σ H _ I h) fun v s1 ⟨x, H1, I1, r1, ty, q1⟩ => ?_)⟩
  obtain ⟨h1, h2⟩ := tyG_is I1 r1 ty
  refine ⟨T, id, pa, slot, hty, h1, h2, ?_⟩
  have hA := ha.run cpos pins s1 σ H1 _ I1 q1
  rw [star_cons h'.1] at hA ⊢
  refine Calls.callWith_builtin (by show (false || (backTo cpos (starEach es X.env)).any (·.1)) = false; rw [stars_any h'.2] <;> rfl) (Calls.evalArgs_plain ?_)
  exact thn hA fun us s2 ⟨vs, H2, I2, r2, q2⟩ => hm pins s2 σ H2 x vs v us Q I2 r1 r2 q2
/-- the receiver is a name -/
theorem base_name {x name : Str} {p : Pos} : attributeBase (.Name x p) name X.env (eval (.Name x p) X.env) = eval (.Name x p) X.env := rfl
def Me.nm : Me → Str
  | .count => "count"
  | .index => "index"
  | .get => "get"
theorem meD_py {m : Me} {x : D} {ds : List D} {od : Od} (h : meD m x ds = some od) : (∃ ps, x = .py (.tuple ps)) ∨ ∃ ps, x = .py (.list ps) := by
  unfold meD at h
  split at h
  · exact .inl ⟨_, rfl⟩
  · exact .inr ⟨_, rfl⟩
  · exact .inl ⟨_, rfl⟩
  · exact .inr ⟨_, rfl⟩
  · cases h
theorem tupD_ok {x : D} (h : x.tupD = true) : ∃ ps, x = .py (.tuple ps) := by
  unfold D.tupD at h
  split at h
  · exact ⟨_, rfl⟩
  · cases h
theorem lstD_ok {x : D} (h : x.lstD = true) : ∃ ps, x = .py (.list ps) := by
  unfold D.lstD at h
  split at h
  · exact ⟨_, rfl⟩
  · cases h
theorem me_me {o : Expr} {m : Me} {apos cpos : Pos} (hr : Room k X.A) (hm : m ≠ .get) (ho : PE X o (tE X.K C ma)) (hbase : attributeBase o m.nm X.env (eval o X.env) = eval o X.env) (ha : PA X (e :: es) (tA X.K C ms)) (hs : noStars (e :: es) = true) (hl : (e :: es).length < 29)
    (hline : (apos.endLine == cpos.line) = true) : PE X (.Call (.Attribute o m.nm apos) (e :: es) [] cpos) (tE X.K C (.me m ma ms)) := by
  refine ⟨fun pins s σ H Q I ⟨F, st, od, st', r, e0, q⟩ => ?_⟩
  simp only [evE, Option.bind_eq_some_iff] at e0
  obtain ⟨qa, ea, x0, ex0, qs, es', x, ex, e1⟩ := e0
  split at e1
  · rename_i hk
    simp only [Option.bind_eq_some_iff, Option.map_eq_some_iff] at e1
    obtain ⟨ds, ed, od', eo, e2⟩ := e1
    cases e2
    rw [Bool.and_eq_true, beq_iff_eq, beq_iff_eq] at hk
    have run : ∀ (T : String) (Tp : PyData → Bool) (p : PyData), x = .py p → Tp p = true →
        PE X (.Call (.Attribute o m.nm apos) (e :: es) [] cpos) (fun σ H Q => tE X.K C ma σ H fun x H1 => TyG X.K T x H1 ∧ tA X.K C ms σ H1 fun xs H2 => rMe X.K m Tp x xs H2 Q) →
        (∀ v F1 H1, Rel X.K F1 qa.2 σ H1 → ORel X.K F1 H1 qa.2 σ v qa.1 → TyG X.K T v H1) → wpAny (model X.prog X.w) X.A (eval (.Call (.Attribute o m.nm apos) (e :: es) [] cpos) X.env) (EP X pins σ Q) X.xe s :=
      fun T Tp p ep hT hp ht => hp.run pins s σ H Q I ⟨F, st, qa.1, qa.2, r, ea, fun v F1 H1 ra => ⟨ht v F1 H1 ra.go.rel ra.rel, F1, qa.2, qs.1, qs.2, ra.go.rel, es', fun vs F2 H2 g rr =>
        ⟨F2, p, ds, _, hT, g.rel.le, by rw [← ep]; exact (ra.rel.step g).rd g.rel ex, rr.rds g.rel ed, by rw [← ep]; exact eo, fun w F3 H3 n nr => q _ _ _ (nr.res (ra.go.trans g) n)⟩⟩⟩
    rcases meD_py eo with ⟨ps, ep⟩ | ⟨ps, ep⟩
    · subst ep
      obtain ⟨ps0, e3⟩ := tupD_ok (show x0.tupD = true from hk.1)
      subst e3
      have ty : ∀ v F1 H1, Rel X.K F1 qa.2 σ H1 → ORel X.K F1 H1 qa.2 σ v qa.1 → TyG X.K "tuple" v H1 := fun v F1 H1 r1 ho => by
        obtain ⟨a, vs, e4, h1, _⟩ := (ho.rd r1 ex0).tup r1.le
        exact ⟨a, e4, .inr ⟨rfl, vs, h1⟩⟩
      cases m with
      | count => exact run "tuple" isTup _ rfl rfl (pe_bmG PySem.F.plainAttrs_tuple PySem.F.slot_tuple_count PySem.F.type_tuple_count (mt_tup_count hr) ho ha hbase hs hl hline) ty
      | index => exact run "tuple" isTup _ rfl rfl (pe_bmG PySem.F.plainAttrs_tuple PySem.F.slot_tuple_index PySem.F.type_tuple_index (mt_tup_ix hr) ho ha hbase hs hl hline) ty
      | get => exact absurd rfl hm
    · subst ep
      obtain ⟨ps0, e3⟩ := lstD_ok (show x0.lstD = true from hk.2)
      subst e3
      have ty : ∀ v F1 H1, Rel X.K F1 qa.2 σ H1 → ORel X.K F1 H1 qa.2 σ v qa.1 → TyG X.K "list" v H1 := fun v F1 H1 r1 ho => by
        obtain ⟨a, vs, e4, h1, _⟩ := (ho.rd r1 ex0).list r1.le
        exact ⟨a, e4, .inl ⟨rfl, vs, h1⟩⟩
      cases m with
      | count => exact run "list" isLst _ rfl rfl (pe_bmG PySem.F.plainAttrs_list PySem.F.slot_list_count PySem.F.type_list_count (mt_lst_count hr) ho ha hbase hs hl hline) ty
      | index => exact run "list" isLst _ rfl rfl (pe_bmG PySem.F.plainAttrs_list PySem.F.slot_list_index PySem.F.type_list_index (mt_lst_ix hr) ho ha hbase hs hl hline) ty
      | get => exact absurd rfl hm
  · cases e1
end
end Mi
end
section
/-! Mi10: how arguments bind; calls of the text's defs. -/
namespace Mi
open PySem PySem.Spec
open PyProof.Rows hiding St Fr
open L2

/-! ### binding -/
def simpleArgs (as : List Arg) : Arguments := { posonlyargs := [], args := as, vararg := none, kwonlyargs := [], kw_defaults := [], kwarg := none, defaults := [] }
theorem kw_loop {ps : List Str} (f : Str × Value → List (Str × Value) × List (Str × Value) → Sem (ForInStep (List (Str × Value) × List (Str × Value))))
    (hf : ∀ x s, ps.contains x.1 = true → (List.lookup x.1 s.1).isSome = false → f x s = pure (.yield (s.1 ++ [(x.1, x.2)], s.2))) :
    ∀ (kw slots : List (Str × Value)), (∀ x ∈ kw, x.1 ∈ ps) → (slots.map (·.1) ++ kw.map (·.1)).Nodup → forIn kw (slots, []) f = pure (slots ++ kw, [])
  | [], slots, _, _ => by rw [List.forIn_nil, List.append_nil]
  | x :: kw, slots, h1, h2 => by
    have nl : (List.lookup x.1 slots).isSome = false := by
      cases e : List.lookup x.1 slots with
      | none => rfl
      | some v =>
        have m := PySem.mem_of_lookup e
        rw [List.nodup_append] at h2
        exact absurd rfl (h2.2.2 x.1 (List.mem_map.mpr ⟨_, m, rfl⟩) x.1 (by simp))
    rw [List.forIn_cons, hf x (slots, []) (by simpa using h1 x (List.mem_cons_self ..)) nl]
    have ih := kw_loop f hf kw (slots ++ [(x.1, x.2)]) (fun y hy => h1 y (List.mem_cons_of_mem _ hy)) (by simpa using h2)
    rw [List.append_assoc] at ih
    exact ih
theorem lookup_zip_idx {names : List Str} {vals : List Value} : ∀ {p : Str}, names.length = vals.length → p ∈ names → (names.zip vals).lookup p = vals[names.idxOf p]? := by
  induction names generalizing vals with
  | nil => intro p _ h; cases h
  | cons n ns ih =>
    intro p hl hp
    cases vals with
    | nil => cases hl
    | cons v vs =>
      rw [List.zip_cons_cons, List.lookup_cons, List.idxOf_cons]
      by_cases e : p = n
      · subst e; simp
      · have e1 : (p == n) = false := by simpa using e
        have e2 : (n == p) = false := by simpa using fun h => e h.symm
        rw [e1, e2]
        simp only [cond_false, List.getElem?_cons_succ]
        exact ih (by simpa using hl) ((List.mem_cons.mp hp).resolve_left e)
theorem filterMap_some {α β : Type} {f : α → Option β} {g : α → β} : ∀ {l : List α}, (∀ x ∈ l, f x = some (g x)) → l.filterMap f = l.map g
  | [], _ => rfl
  | x :: l, h => by rw [List.filterMap_cons, h x (List.mem_cons_self ..), List.map_cons, filterMap_some fun y hy => h y (List.mem_cons_of_mem _ hy)]
theorem map_pair {α β : Type} (g : α → β) : ∀ l : List α, (l.map fun p => (p, g p)) = l.zip (l.map g)
  | [] => rfl
  | x :: l => by rw [List.map_cons, List.map_cons, List.zip_cons_cons, map_pair g l]
/-- which of the values each parameter takes: the names of the values are the first parameters, then the keywords -/
def permOf (ps : List Str) (n : Nat) (ks : List Str) : List Nat := ps.map fun p => (ps.take n ++ ks).idxOf p
theorem bind_ok {x qual : Str} {as : List Arg} {body : List Stmt} {scope : Scope} {kV doc pm : Value} {an : Option Addr} {cdv ct : Value} {us ws : List Value} {ks : List Str} (hn : (as.map (·.arg)).Nodup)
    (hks : ks.Nodup) (hd : ∀ k ∈ ks, k ∈ (as.map (·.arg)).drop us.length) (hl : us.length + ks.length = as.length) (all : ∀ p ∈ as.map (·.arg), p ∈ (as.map (·.arg)).take us.length ++ ks) (hw : ws.length = ks.length) :
    bindArgs (PySem.W.fnOf x qual (simpleArgs as) body scope .none kV doc pm an cdv ct) ⟨us, ks.zip ws⟩ =
      pure ((as.map (·.arg)).zip ((permOf (as.map (·.arg)) us.length ks).map fun j => (us ++ ws).getD j .none)) := by
  generalize hps : as.map (·.arg) = ps at hn hd all
  have hpl : ps.length = as.length := by rw [← hps, List.length_map]
  have z1 : ps.zip us = (ps.take us.length).zip us := by
    rw [List.zip_eq_zip_take_min (l₁ := ps) (l₂ := us)]
    have e : min ps.length us.length = us.length := by omega
    rw [e, List.take_of_length_le (Nat.le_refl us.length)]
  have tl : (ps.take us.length).length = us.length := by rw [List.length_take]; omega
  have m1 : (ps.zip us).map (·.1) = ps.take us.length := by rw [z1, List.map_fst_zip (by omega)]
  have m2 : (ks.zip ws).map (·.1) = ks := by rw [List.map_fst_zip (by omega)]
  have nd : (ps.take us.length ++ ks).Nodup := by
    rw [List.nodup_append]
    refine ⟨hn.sublist (List.take_sublist _ _), hks, fun a ha b hb e => ?_⟩
    subst e
    have := hd a hb
    rw [← List.take_append_drop us.length ps, List.nodup_append] at hn
    exact hn.2.2 a ha a this rfl
  have zz : ps.zip us ++ ks.zip ws = (ps.take us.length ++ ks).zip (us ++ ws) := by rw [z1, List.zip_append tl]
  have lk : ∀ p ∈ ps, (ps.zip us ++ ks.zip ws).lookup p = some ((us ++ ws).getD ((ps.take us.length ++ ks).idxOf p) .none) := fun p hp => by
    rw [zz, lookup_zip_idx (by rw [List.length_append, List.length_append, tl, hw]) (all p hp)]
    have lt : (ps.take us.length ++ ks).idxOf p < (us ++ ws).length := by
      have := List.idxOf_lt_length_iff.mpr (all p hp)
      rw [List.length_append, tl] at this
      rw [List.length_append]; omega
    rw [List.getD_eq_getElem?_getD, List.getElem?_eq_getElem lt] <;> rfl
  unfold bindArgs PySem.W.fnOf simpleArgs
  simp only [List.map_nil, List.nil_append, hps]
  rw [kw_loop (ps := ps) _ ?hf (ks.zip ws) (ps.zip us) ?h1 ?h2]
  case hf =>
    intro y s h1 h2
    simp only [h1, h2, Bool.true_or, if_true, Bool.false_eq_true, if_false]
  case h1 =>
    intro y hy
    have : y.1 ∈ ks := by rw [← m2]; exact List.mem_map_of_mem hy
    exact List.mem_of_mem_drop (hd _ this)
  case h2 => rw [m1, m2]; exact nd
  have e0 : seqItems? Value.none = pure none := rfl
  have e1 : ¬ (us.length > ps.length) := by omega
  have e2 : (ps.filter fun n => (List.lookup n (ps.zip us ++ ks.zip ws)).isNone) = [] := by
    rw [List.filter_eq_nil_iff]
    intro p hp
    rw [lk p hp]
    simp
  have e3 : (ps.filterMap fun n => Option.map (fun x => (n, x)) (List.lookup n (ps.zip us ++ ks.zip ws))) = ps.zip ((permOf ps us.length ks).map fun j => (us ++ ws).getD j .none) := by
    rw [filterMap_some (g := fun p => (p, (us ++ ws).getD ((ps.take us.length ++ ks).idxOf p) .none)) (fun p hp => by rw [lk p hp] <;> rfl)]
    unfold permOf
    rw [List.map_map]
    exact map_pair _ ps
  simp [e0, e1, e2, e3]
end Mi
end
section
/-! Mi11: what a def of the text promises, and its calls. -/
namespace Mi
open PySem PySem.Spec
open PyProof.Rows hiding St Fr
open L2

/-- a def whose frames bear no guard (repr asks that) -/
structure FnG (P : Program) (w : World) (K : PySem.W.Frag) (mg : Str → Option Value) (base : Heap) (k : Nat) (f : Addr) (fd : FuncData) (ps : List Str) (sp : Sp) : Prop where
  len : ∀ vs H Q E, sp vs H Q E → vs.length = ps.length
  run : ∀ (A : Around) (outer : List Env) (s : Shared) (H : Hp) (args : Args) (us : List Value) (vs : List V) (Q : VK), Room k A → A.guards = some [] → Env0 P w K mg base A outer s H → BindsTo s fd args (ps.zip us) → Vals vs us → sp vs H Q E0 →
    codeAny (model P w) A (.call (.ref f) args) (CR CX0 outer P w H s Q E0) s
theorem fnG_of {P : Program} {w : World} {K : PySem.W.Frag} {mg : Str → Option Value} {base : Heap} {x qual : Str} {params : Arguments} {body : List Stmt} {scope : Scope} {dvs : List V} {kws : List (Str × V)} {f : Addr} {fd : FuncData} {N ps : List Str} {k : Nat} {sp : Sp}
    (F : FunD K x qual params body scope dvs kws f fd) (S : FnScope N ps scope) (len : ∀ vs H Q E, sp vs H Q E → vs.length = ps.length)
    (hbody : ∀ (cdv : Value) (A : Around) (outer : List Env) (s : Shared) (H : Hp) (vs : List V) (Q : VK), Room k (A.deeper (envOfC qual scope s.heap.objs.size f cdv)) → A.guards = some [] → sp vs H Q E0 →
      ∃ t, PSs (cxOf CX0 P w K mg base N qual scope f cdv A outer s H E0).nox body t ∧ t { nx := fun _ H' => Q .non H', rt := Q } (start N vs) H) : FnG P w K mg base (k + 1) f fd ps sp := by
  obtain ⟨oc, od, dV, kV, doc, pm, an, cdv, ct, osl, rfl, lk, hcd, _, _⟩ := F.ex
  refine ⟨len, fun A outer s H args us vs Q hr hg e0 hb r hsp => ?_⟩
  have hl := len _ _ _ _ hsp
  have KX : K.In s.heap := e0.mod.kin.keeps fun b o e => (e0.bs b o e).1
  have lim : s.heap.NoLimit := e0.mod.nolimit.keeps fun b o e => (e0.bs b o e).1
  have hkind : ∀ y ∈ ps.zip us, scope.names.lookup y.1 = some .local ∨ (scope.names.lookup y.1 = some .cell ∧ ((cellsFrom (s.heap.objs.size + 1) scope.names []).lookup y.1).isSome = true) := fun ⟨n, v⟩ hy =>
    (S.par n (List.of_mem_zip hy).1).elim .inl fun q => .inr ⟨q, PySem.W.cellsFrom_some _ _ _ (.inl q)⟩
  refine codeAny_call_function hr.depth (KX _ _ lk) rfl S.co S.gen rfl (PySem.W.codeRec_of KX hcd) (hb _ _ _ _ (wpAny_newFunctionEnv_cells S.kind hkind fun env he s1 x => ?_))
  subst he
  obtain ⟨t, ht, hq⟩ := hbody cdv A outer s H vs Q (hr.deeper _) hg hsp
  have I : Inv (cxOf CX0 P w K mg base N qual scope f cdv A outer s H E0) [] (start N vs) H s1 := inv_start S hr.hd e0 hl r x
  refine ⟨lim.keeps x.toInCall.keep, codeAny_func (wpAny_mono (ht.nox.run [] s1 (start N vs) H _ I hq) (fun fl s' hs => ?_) fun e s' hs => hs)⟩
  have fin : ∀ {σ' : L2.St} {H' : Hp} {v : V} {u : Value}, Inv (cxOf CX0 P w K mg base N qual scope f cdv A outer s H E0) [] σ' H' s' → RelV v u → Q v H' → CE outer P w H s Q u s' :=
    fun {σ' H' v u} J rv q => ⟨v, H', J.os, J.bare, J.base, J.hok, rv, q⟩
  cases fl with
  | ret u => obtain ⟨v, σ', H', J, rv, q⟩ := hs; exact fin J rv q
  | next => obtain ⟨σ', H', J, q⟩ := hs; exact fin (v := V.non) (u := Value.none) J rfl q
  | brk => obtain ⟨_, _, _, q⟩ := hs; exact q.elim
  | cont => obtain ⟨_, _, _, q⟩ := hs; exact q.elim

/-! ### keywords by name -/
theorem kw_names {env : Env} {pos : Pos} : ∀ {kws : List Keyword} {ks : List Str}, kws.map (·.arg) = ks.map some →
    (backToKw pos (keywordEach kws env)).all (·.1.isSome) = true ∧ (backToKw pos (keywordEach kws env)).filterMap (·.1) = ks ∧ (backToKw pos (keywordEach kws env)).any (·.1.isNone) = false
  | [], [], _ => ⟨rfl, rfl, rfl⟩
  | [], _ :: _, h => by cases h
  | _ :: _, [], h => by cases h
  | ⟨nm, e, kp⟩ :: kws, k :: ks, h => by
    simp only [List.map_cons, List.cons.injEq] at h
    obtain ⟨rfl, h⟩ := h
    obtain ⟨h1, h2, h3⟩ := kw_names (env := env) (pos := pos) h
    refine ⟨?_, ?_, ?_⟩
    · show (true && (backToKw pos (keywordEach kws env)).all (·.1.isSome)) = true
      rw [h1] <;> rfl
    · show k :: (backToKw pos (keywordEach kws env)).filterMap (·.1) = _
      rw [h2]
    · show (false || (backToKw pos (keywordEach kws env)).any (·.1.isNone)) = false
      rw [h3] <;> rfl
section
variable {X : Cx} {e a b c : Expr} {es : List Expr} {pos : Pos} {C : Ct} {ma mb mc : Ex} {ms ms2 : Exs} {k : Nat} {t tk : TA} {kws : List Keyword} {ks : List Str}
theorem vals_perm {vs : List V} {us : List Value} (r : Vals vs us) : ∀ (perm : List Nat), (∀ j ∈ perm, j < vs.length) → Vals (perm.map fun j => vs.getD j .non) (perm.map fun j => us.getD j .none)
  | [], _ => .nil
  | j :: perm, h => by
    have hj := h j (List.mem_cons_self ..)
    have e : vs[j]? = some vs[j] := List.getElem?_eq_getElem hj
    obtain ⟨u, h1, h2⟩ := r.get e
    refine .cons ?_ (vals_perm r perm fun i hi => h i (List.mem_cons_of_mem _ hi))
    show RelV (vs.getD j .non) (us.getD j .none)
    rw [List.getD_eq_getElem?_getD, List.getD_eq_getElem?_getD, e, h1]
    exact h2
/-- the call of a def, once its arguments stand -/
theorem callG_run {f : Addr} {fd : FuncData} {x qual : Str} {as : List Arg} {body : List Stmt} {scope : Scope} {sp : Sp} {n : Nat} (FD : FunD X.K x qual (simpleArgs as) body scope [] [] f fd)
    (F : FnG X.prog X.w X.K X.mg X.base k f fd (as.map (·.arg)) sp) (hr : Room k X.A) (hg : X.A.guards = some [])
    (hn : (as.map (·.arg)).Nodup) (hks : ks.Nodup) (hd : ∀ k ∈ ks, k ∈ (as.map (·.arg)).drop n) (hl : n + ks.length = as.length) (all : ∀ p ∈ as.map (·.arg), p ∈ (as.map (·.arg)).take n ++ ks)
    {pins : List (Addr × Obj)} {s2 : Shared} {σ : L2.St} {H2 : Hp} {vs zs : List V} {us ws : List Value} {Q : VK} (I : Inv X pins σ H2 s2) (r : Vals vs us) (rz : Vals zs ws) (l1 : vs.length = n) (l2 : zs.length = ks.length)
    (h : sp ((permOf (as.map (·.arg)) n ks).map fun j => (vs ++ zs).getD j .non) H2 Q E0) : wpAny (model X.prog X.w) X.A (call (.ref f) us (ks.zip ws)) (EP X pins σ Q) X.xe s2 := by
  obtain ⟨oc, od, dV, kV, doc, pm, an, cdv, ct, osl, rfl, lk, hcd, hD, _⟩ := FD.ex
  rcases hD with ⟨_, rfl⟩ | ⟨z, _⟩
  · have e1 : us.length = n := r.length.symm.trans l1
    have e2 : ws.length = ks.length := rz.length.symm.trans l2
    subst e1
    have bd := bind_ok (x := x) (qual := qual) (body := body) (scope := scope) (kV := kV) (doc := doc) (pm := pm) (an := an) (cdv := cdv) (ct := ct) (us := us) (ws := ws) hn hks hd hl all e2
    have pm : ∀ j ∈ permOf (as.map (·.arg)) us.length ks, j < (vs ++ zs).length := fun j hj => by
      unfold permOf at hj
      obtain ⟨q, hq, rfl⟩ := List.mem_map.mp hj
      have := List.idxOf_lt_length_iff.mpr (all q hq)
      rw [List.length_append, List.length_take, List.length_map] at this
      rw [List.length_append, l1, l2]
      omega
    refine wpAny_call (codeAny_mono (F.run X.A X.stack s2 H2 ⟨us, ks.zip ws⟩ _ _ Q hr hg I.env0 (.of_eq bd) (vals_perm (r.append rz) _ pm) h) fun r s' hq => ?_)
    cases r with
    | error e => exact hq.elim
    | ok fl =>
      cases fl with
      | ret u => exact I.after hq
      | next => exact hq.elim
      | brk => exact hq.elim
      | cont => exact hq.elim
  · exact absurd rfl z
theorem pe_callG0 {f : Addr} {fd : FuncData} {x qual : Str} {as : List Arg} {body : List Stmt} {scope : Scope} {sp : Sp} {p : Pos} (FD : FunD X.K x qual (simpleArgs as) body scope [] [] f fd)
    (F : FnG X.prog X.w X.K X.mg X.base k f fd (as.map (·.arg)) sp) (hr : Room k X.A) (hg : X.A.guards = some []) (gl : Gl X x) (hm : X.mg x = some (.ref f)) (hdb : (x == ("__debug__" : Str)) = false)
    (hn : (as.map (·.arg)).Nodup) (hks : ks.Nodup) (hd : ∀ k ∈ ks, k ∈ (as.map (·.arg)).drop 0) (hl : 0 + ks.length = as.length) (all : ∀ p ∈ as.map (·.arg), p ∈ (as.map (·.arg)).take 0 ++ ks)
    (hkn : kws.map (·.arg) = ks.map some) (hk : PK X kws tk) :
    PE X (.Call (.Name x p) [] kws pos) (fun σ H Q => tk σ H fun zs H2 => zs.length = ks.length ∧ sp ((permOf (as.map (·.arg)) 0 ks).map fun j => zs.getD j .non) H2 Q E0) := by
  obtain ⟨k1, k2, k3⟩ := kw_names (env := X.env) (pos := pos) hkn
  refine ⟨fun pins s σ H Q I h => wpAny_Call_Name_kw (ld_glob I gl hm ?_ hdb)⟩
  refine PySem.W.callWith_KW0 (h₀ := X.base) I.ok.mod.kin FD.kp k1 ?_ (by rw [k3] <;> rfl)
  refine thn (hk.run pos pins s σ H _ I h) fun ws s2 ⟨zs, H2, I2, rz, l2, q2⟩ => ⟨I2.kIn, ?_⟩
  rw [k2]
  exact callG_run FD F hr hg hn hks hd hl all I2 .nil rz rfl l2 q2
theorem pe_callG {f : Addr} {fd : FuncData} {x qual : Str} {as : List Arg} {body : List Stmt} {scope : Scope} {sp : Sp} {p : Pos} (FD : FunD X.K x qual (simpleArgs as) body scope [] [] f fd)
    (F : FnG X.prog X.w X.K X.mg X.base k f fd (as.map (·.arg)) sp) (hr : Room k X.A) (hg : X.A.guards = some []) (gl : Gl X x) (hm : X.mg x = some (.ref f)) (hdb : (x == ("__debug__" : Str)) = false)
    (hn : (as.map (·.arg)).Nodup) (hks : ks.Nodup) (hd : ∀ k ∈ ks, k ∈ (as.map (·.arg)).drop (es.length + 1)) (hl : (es.length + 1) + ks.length = as.length) (all : ∀ p ∈ as.map (·.arg), p ∈ (as.map (·.arg)).take (es.length + 1) ++ ks)
    (hs : noStars (e :: es) = true) (hkn : kws.map (·.arg) = ks.map some) (ha : PA X (e :: es) t) (hk : PK X kws tk) :
    PE X (.Call (.Name x p) (e :: es) kws pos) (fun σ H Q => t σ H fun vs H1 => tk σ H1 fun zs H2 => vs.length = es.length + 1 ∧ zs.length = ks.length ∧ sp ((permOf (as.map (·.arg)) (es.length + 1) ks).map fun j => (vs ++ zs).getD j .non) H2 Q E0) := by
  obtain ⟨k1, k2, k3⟩ := kw_names (env := X.env) (pos := pos) hkn
  have st := stars_any (env := X.env) (pos := pos) hs
  have h' : noStar e = true ∧ noStars es = true := by simpa [noStars] using hs
  have hplain : ((backTo pos (starEach (e :: es) X.env)).any (·.1) || (backToKw pos (keywordEach kws X.env)).any (·.1.isNone)) = false := by rw [st, k3] <;> rfl
  refine ⟨fun pins s σ H Q I h => wpAny_Call_Name_kw (ld_glob I gl hm ?_ hdb)⟩
  refine PySem.W.callWith_KW (h₀ := X.base) I.ok.mod.kin FD.kp k1 (thn (ha.run pos pins s σ H _ I h) fun us s1 ⟨vs, H1, I1, r1, q1⟩ => ?_) hplain (star_cons h'.1)
  refine thn (hk.run pos pins s1 σ H1 _ I1 q1) fun ws s2 ⟨zs, H2, I2, rz, l1, l2, q2⟩ => ⟨I2.kIn, ?_⟩
  rw [k2]
  exact callG_run FD F hr hg hn hks hd hl all I2 r1 rz l1 l2 q2
end
end Mi
end
section
/-! Mi12: calls of the text's defs. -/
namespace Mi
open PySem PySem.Spec
open PyProof.Rows hiding St Fr
open L2

/-- the arguments that a def is handed -/
def ArgR (K : PySem.W.Frag) (F H : Hp) : Bool → List V → List D → Prop
  | true, v :: vr, d :: dr => (∃ a, v = .ref a ∧ F a = none ∧ OwnAt K F H a d) ∧ Dens K F vr dr
  | true, _, _ => False
  | false, vs, ds => Dens K F vs ds
def LentAt (io : Bool) (vs : List V) (a : Addr) : Prop := io = true ∧ vs.head? = some (.ref a)
/-- what a def's call leaves -/
structure RetR (K : PySem.W.Frag) (F H : Hp) (io : Bool) (vs : List V) (d : D) (b : Bool) (fin : D) (v : V) (F' H' : Hp) : Prop where
  stp : Stp (LentAt io vs) F H F' H' (LentAt io vs)
  le : Same F' H'
  lent : ∀ a, LentAt io vs a → F' a = none ∧ OwnAt K F' H' a fin
  va : b = false → Den K F' v d
  fe : b = true → ∃ a, v = .ref a ∧ H a = none ∧ F' a = none ∧ OwnAt K F' H' a d
/-- what a def promises: it answers as the evaluator says -/
def spC (K : PySem.W.Frag) (call : List D → Option (D × Bool × D)) (io : Bool) (n : Nat) : Sp := fun vs H Q _ => vs.length = n ∧ ∃ F ds d b fin, Same F H ∧ call ds = some (d, b, fin) ∧ ArgR K F H io vs ds ∧ ∀ v F' H', RetR K F H io vs d b fin v F' H' → Q v H'
section
variable {K : PySem.W.Frag} {F H F0 H0 F1 H1 F2 H2 F' H' : Hp} {st st0 st1 st2 : En} {σ : L2.St} {v : V} {od : Od} {d d' fin : D} {a : Addr} {i : Nat} {vs : List V} {os : List Od} {ds : List D} {b : Bool} {O : Addr → Prop}
/-- a call that may change what was just made, and nothing of this frame -/
theorem goFree (g : Go K st0 σ F0 H0 st σ F1 H1) (s : Stp O F1 H1 F' H' O) (le : Same F' H') (hO : ∀ b, O b → ¬ Owns st σ b ∧ (Owns st0 σ b ∨ H0 b = none)) : Go K st0 σ F0 H0 st σ F' H' := by
  have nf : ∀ b, Owns st σ b → F' b = none := fun b hb => by
    cases e : F' b with
    | none => rfl
    | some o =>
      rcases s.frz b (by rw [e]; simp) with z | z | z
      · exact absurd (g.rel.owns hb).1 z
      · exact absurd hb (hO b z).1
      · exact absurd z (g.rel.owns hb).2
  have kp : ∀ b, Owns st σ b → ∀ o, H1 b = some o → H' b = some o := fun b hb o q => s.keep b o q fun z => (hO b z).1 hb
  refine ⟨⟨g.stp.fr.trans s.fr, fun b o h n => ?_, fun b h => s.live b (g.stp.live b h), g.stp.own, fun b h => ?_⟩, ⟨le, g.rel.len, fun i u h => ?_, g.rel.inj⟩, g.bos⟩
  · refine s.keep b o (g.stp.keep b o h n) fun z => ?_
    rcases (hO b z).2 with z | z
    · exact n z
    · rw [h] at z; cases z
  · rcases s.frz b h with z | z | z
    · exact g.stp.frz b z
    · rcases (hO b z).2 with z | z
      · exact .inr (.inl z)
      · exact .inr (.inr z)
    · refine .inr (.inr ?_)
      cases e : H0 b with
      | none => rfl
      | some o => exact absurd z (g.stp.live b (by rw [e]; simp))
  · have z := g.rel.sl i u h
    cases u with
    | no => trivial
    | fr d => obtain ⟨w, g1, g2⟩ := z; exact ⟨w, g1, g2.same s.fr⟩
    | ow d => obtain ⟨c, g1, g2, g3⟩ := z; have ow : Owns st σ c := ⟨i, _, h, rfl, g1⟩; exact ⟨c, g1, nf c ow, g3.same s.fr (kp c ow)⟩
    | bo d => obtain ⟨c, g1, g2, g3⟩ := z; have ow : Owns st σ c := ⟨i, _, h, rfl, g1⟩; exact ⟨c, g1, nf c ow, g3.same s.fr (kp c ow)⟩
/-- a call that is lent a list of this frame -/
theorem goLent {s t : Sl} (r : Rel K F st σ H) (hi : st[i]? = some s) (ho : s.owned = true) (ht : (t = .ow fin ∧ ∃ d, s = .ow d) ∨ (t = .bo fin ∧ ∃ d, s = .bo d)) (ha : σ[i]? = some (some (V.ref a))) (le : Same F' H')
    (s1 : Stp (· = a) F H F' H' (· = a)) (hf : F' a = none) (hw : OwnAt K F' H' a fin) : Go K st σ F H (st.set i t) σ F' H' := by
  have to : t.owned = true := by rcases ht with ⟨rfl, _⟩ | ⟨rfl, _⟩ <;> rfl
  have own : Owns st σ a := ⟨i, s, hi, ho, ha⟩
  have back : ∀ b, Owns (st.set i t) σ b → Owns st σ b := fun b ⟨j, u, h1, h2, h3⟩ => by
    rcases get_set h1 with ⟨e, e2, _⟩ | ⟨_, h1⟩
    · subst e; exact ⟨j, s, hi, ho, h3⟩
    · exact ⟨j, u, h1, h2, h3⟩
  have nf : ∀ b, Owns st σ b → b ≠ a → F' b = none := fun b hb ne => by
    cases e : F' b with
    | none => rfl
    | some o =>
      rcases s1.frz b (by rw [e]; simp) with z | z | z
      · exact absurd (r.owns hb).1 z
      · exact absurd z ne
      · exact absurd z (r.owns hb).2
  refine ⟨⟨s1.fr, fun b o h n => s1.keep b o h fun e => n (e ▸ own), s1.live, fun b h => .inl (back b h), fun b h => (s1.frz b h).elim .inl fun z => z.elim (fun e => .inr (.inl (e ▸ own))) fun z => .inr (.inr z)⟩, ⟨le, by rw [List.length_set]; exact r.len, fun j u h => ?_, fun j j' u u' b h1 h2 h3 h4 h5 h6 => ?_⟩, fun j d h => ⟨rfl, ?_⟩⟩
  · rcases get_set h with ⟨e, e2, _⟩ | ⟨e, h⟩
    · subst e e2
      rcases ht with ⟨rfl, _⟩ | ⟨rfl, _⟩
      · exact ⟨a, ha, hf, hw⟩
      · exact ⟨a, ha, hf, hw⟩
    · have z := r.sl j u h
      have ne : ∀ b, σ[j]? = some (some (V.ref b)) → u.owned = true → b ≠ a := fun b hb hu e2 => e (r.inj j i u s b h hi hu ho hb (by rw [e2]; exact ha))
      cases u with
      | no => trivial
      | fr d => obtain ⟨w, g1, g2⟩ := z; exact ⟨w, g1, g2.same s1.fr⟩
      | ow d => obtain ⟨c, g1, g2, g3⟩ := z; exact ⟨c, g1, nf c ⟨j, _, h, rfl, g1⟩ (ne c g1 rfl), g3.same s1.fr fun o q => s1.keep c o q (ne c g1 rfl)⟩
      | bo d => obtain ⟨c, g1, g2, g3⟩ := z; exact ⟨c, g1, nf c ⟨j, _, h, rfl, g1⟩ (ne c g1 rfl), g3.same s1.fr fun o q => s1.keep c o q (ne c g1 rfl)⟩
  · have e1 : ∃ w : Sl, st[j]? = some w ∧ w.owned = true := by
      rcases get_set h1 with ⟨e, e2, _⟩ | ⟨_, h1⟩
      · subst e; exact ⟨s, hi, ho⟩
      · exact ⟨u, h1, h3⟩
    have e2 : ∃ w : Sl, st[j']? = some w ∧ w.owned = true := by
      rcases get_set h2 with ⟨e, e2, _⟩ | ⟨_, h2⟩
      · subst e; exact ⟨s, hi, ho⟩
      · exact ⟨u', h2, h4⟩
    obtain ⟨w, q1, q2⟩ := e1
    obtain ⟨w', q3, q4⟩ := e2
    exact r.inj j j' w w' b q1 q3 q2 q4 h5 h6
  · rcases get_set h with ⟨e, e2, _⟩ | ⟨e, h⟩
    · subst e
      rcases ht with ⟨rfl, _⟩ | ⟨rfl, d1, rfl⟩
      · cases e2
      · exact ⟨d1, hi⟩
    · exact ⟨d, h⟩
/-! ### argument lists behind one another, in another order -/
theorem evs_app {C : Ct} {b : Exs} : ∀ (a : Exs) (st : En), evs C (a.app b) st = (evs C a st).bind fun q => (evs C b q.2).map fun r => (q.1 ++ r.1, r.2)
  | .nil, st => by
    show evs C b st = (some ([], st)).bind fun q => (evs C b q.2).map fun r => (q.1 ++ r.1, r.2)
    rw [Option.bind_some]
    cases evs C b st <;> rfl
  | .cons e es, st => by
    show ((evE C e st).bind fun q => (evs C (es.app b) q.2).map fun r => (q.1 :: r.1, r.2)) = ((evE C e st).bind fun q => (evs C es q.2).map fun r => (q.1 :: r.1, r.2)).bind fun q => (evs C b q.2).map fun r => (q.1 ++ r.1, r.2)
    cases h : evE C e st with
    | none => rfl
    | some q =>
      simp only [Option.bind_some]
      rw [evs_app es q.2]
      cases h2 : evs C es q.2 with
      | none => rfl
      | some q2 =>
        simp only [Option.bind_some, Option.map_some]
        cases h3 : evs C b q2.2 <;> rfl
theorem ORs.len : ∀ {vs : List V} {os : List Od}, ORs K st0 H0 F H st σ vs os → vs.length = os.length
  | _, _, .nil => rfl
  | _, _, .cons _ _ t => congrArg Nat.succ t.len
theorem ORs.app {ws : List V} {os2 : List Od} (s : ORs K st0 H0 F H st σ ws os2) : ∀ {vs : List V} {os : List Od}, ORs K st0 H0 F H st σ vs os → ORs K st0 H0 F H st σ (vs ++ ws) (os ++ os2)
  | _, _, .nil => s
  | _, _, .cons h f t => .cons h f (s.app t)
theorem ORs.at (dv : V) (dod : Od) : ∀ {vs : List V} {os : List Od} {j : Nat}, ORs K st0 H0 F H st σ vs os → j < vs.length → ORel K F H st σ (vs.getD j dv) (os.getD j dod) ∧ Fro st0 σ H0 (vs.getD j dv) (os.getD j dod)
  | _, _, _, .nil, h => by cases h
  | _, _, 0, .cons h f t, _ => ⟨h, f⟩
  | _, _, j + 1, .cons h f t, l => ORs.at dv dod (j := j) t (Nat.lt_of_succ_lt_succ l)
theorem ORs.perm (r : ORs K st0 H0 F H st σ vs os) : ∀ (perm : List Nat), (∀ j ∈ perm, j < vs.length) → ORs K st0 H0 F H st σ (perm.map fun j => vs.getD j .non) (perm.map fun j => os.getD j (.pk 0))
  | [], _ => .nil
  | j :: perm, h => .cons (r.at _ _ (h j (List.mem_cons_self ..))).1 (r.at _ _ (h j (List.mem_cons_self ..))).2 (r.perm perm fun i hi => h i (List.mem_cons_of_mem _ hi))
theorem vas_dens : ∀ {vs : List V} {os : List Od} {ds : List D}, ORs K st0 H0 F H st σ vs os → vas os = some ds → Dens K F vs ds
  | _, _, _, .nil, e => by cases e; exact .nil
  | _, _, _, .cons (o := o) h f t, e => by
    cases o with
    | va d =>
      simp only [vas, Option.map_eq_some_iff] at e
      obtain ⟨ds', e2, rfl⟩ := e
      exact .cons h (vas_dens t e2)
    | fe d => cases e
    | pk i => cases e
/-- the call's answer as an operand -/
theorem retRes {g : Go K st0 σ F0 H0 st1 σ F' H'} {io : Bool} (hr : RetR K F1 H1 io vs d b fin v F' H') (fr : ∀ a, H1 a = none → H0 a = none) (nw : ∀ a, Owns st1 σ a → H1 a ≠ none) : Res K st0 σ F0 H0 st1 F' H' v (if b then .fe d else .va d) := by
  cases b with
  | false => exact ⟨g, hr.va rfl, trivial⟩
  | true =>
    obtain ⟨a, e, h1, h2, h3⟩ := hr.fe rfl
    exact ⟨g, ⟨a, e, h2, h3, fun z => nw a z h1⟩, ⟨a, e, .inr (fr a h1)⟩⟩
theorem call_ok {C : Ct} {f : Str} {perm : List Nat} {st' : En} {od : Od} {Q : VK} {n : Nat} (g : Go K st0 σ F0 H0 st σ F1 H1) (rr : ORs K st0 H0 F1 H1 st σ vs os) (hp : ∀ j ∈ perm, j < vs.length) (e : callE C f perm os st = some (od, st'))
    (hn : perm.length = n) (q : ∀ v F' H', Res K st0 σ F0 H0 st' F' H' v od → Q v H') : spC K (C.call f) (C.io f) n (perm.map fun j => vs.getD j .non) H1 Q E0 := by
  have rp := rr.perm perm hp
  have ln : (perm.map fun j => vs.getD j .non).length = n := by rw [List.length_map]; exact hn
  have fr1 : ∀ {F2 : Hp}, Go K st0 σ F0 H0 st σ F2 H1 → ∀ a, H1 a = none → H0 a = none := fun g2 a h => by
    cases z : H0 a with
    | none => rfl
    | some o => exact absurd h (g2.stp.live a (by rw [z]; simp))
  refine ⟨ln, ?_⟩
  clear hn rr hp
  revert e rp ln
  unfold callE
  generalize (perm.map fun j => os.getD j (.pk 0)) = os'
  generalize (perm.map fun j => vs.getD j .non) = vs'
  intro e rp ln
  dsimp only at e
  split at e
  · rename_i hio
    rw [hio]
    split at e
    · rename_i i r
      cases rp with
      | @cons v vr _ _ h1 h2 h3 =>
        have hv : σ[i]? = some (some v) := h1
        have lent : ∀ (s : Sl) (d0 : D) (mk : D → Sl), st[i]? = some s → s.owned = true → s.con = some d0 → (∀ fin, (mk fin = .ow fin ∧ ∃ d, s = .ow d) ∨ (mk fin = .bo fin ∧ ∃ d, s = .bo d)) →
            ((vals r).bind fun ds => (C.call f (d0 :: ds)).map fun q => (if q.2.1 then Od.fe q.1 else Od.va q.1, st.set i (mk q.2.2))) = some (od, st') →
            ∃ F ds d b fin, Same F H1 ∧ C.call f ds = some (d, b, fin) ∧ ArgR K F H1 true (v :: vr) ds ∧ ∀ v' F' H', RetR K F H1 true (v :: vr) d b fin v' F' H' → Q v' H' := by
          intro s d0 mk hs ho hc hmk e
          simp only [Option.bind_eq_some_iff, Option.map_eq_some_iff] at e
          obtain ⟨ds, ed, ⟨d, b, fin⟩, ec, e⟩ := e
          cases e
          obtain ⟨F2, s1, g2, hd⟩ := keep_all (fun {_ _ _} => trivial) h3 ed (Same.refl _) g
          obtain ⟨a, d1, q1, q2, q3, q4⟩ := g2.rel.ownsAt hs ho
          rw [hv] at q1; cases q1
          rw [hc] at q4; cases q4
          refine ⟨F2, d0 :: ds, d, b, fin, g2.rel.le, ec, ⟨⟨a, rfl, q2, q3⟩, hd⟩, fun v' F' H' hr => ?_⟩
          have isA : ∀ b, LentAt true (V.ref a :: vr) b ↔ b = a := fun b => ⟨fun z => by have := z.2; simp at this; exact this.symm, fun z => ⟨rfl, by rw [z]; rfl⟩⟩
          have sA : Stp (· = a) F2 H1 F' H' (· = a) := ⟨hr.stp.fr, fun b o h n => hr.stp.keep b o h fun z => n ((isA b).mp z), hr.stp.live, fun b h => .inl h, fun b h => (hr.stp.frz b h).elim .inl fun z => z.elim (fun z => .inr (.inl ((isA b).mp z))) fun z => .inr (.inr z)⟩
          have l := hr.lent a ⟨rfl, rfl⟩
          have g3 := goLent g2.rel hs ho (hmk fin) hv hr.le sA l.1 l.2
          refine q _ _ _ (retRes (g := g2.trans g3) hr (fr1 g2) fun b hb => ?_)
          obtain ⟨j, u, k1, k2, k3⟩ := hb
          refine (g2.rel.owns (a := b) ?_).2
          rcases get_set k1 with ⟨e, e2, _⟩ | ⟨_, k1⟩
          · subst e; exact ⟨j, s, hs, ho, k3⟩
          · exact ⟨j, u, k1, k2, k3⟩
        split at e
        · rename_i d0 hs
          exact lent _ d0 .ow hs rfl rfl (fun fin => .inl ⟨rfl, d0, rfl⟩) e
        · rename_i d0 hs
          exact lent _ d0 .bo hs rfl rfl (fun fin => .inr ⟨rfl, d0, rfl⟩) e
        · cases e
    · rename_i d0 r
      cases rp with
      | @cons v vr _ _ h1 h2 h3 =>
        simp only [Option.bind_eq_some_iff, Option.map_eq_some_iff] at e
        obtain ⟨ds, ed, ⟨d, b, fin⟩, ec, e⟩ := e
        cases e
        obtain ⟨a, rfl, n1, n2, n3⟩ := h1
        obtain ⟨a', e1, fro⟩ := h2
        cases e1
        have hd := vas_dens h3 ed
        refine ⟨F1, d0 :: ds, d, b, fin, g.rel.le, ec, ⟨⟨a, rfl, n1, n2⟩, hd⟩, fun v' F' H' hr => ?_⟩
        have isA : ∀ b, LentAt true (V.ref a :: vr) b → b = a := fun b z => by have := z.2; simp at this; exact this.symm
        have g3 := goFree g hr.stp hr.le fun b hb => by rw [isA b hb]; exact ⟨n3, fro⟩
        exact q _ _ _ (retRes (g := g3) hr (fr1 g) fun b hb => (g.rel.owns hb).2)
    · cases e
  · rename_i hio
    have hio : C.io f = false := by simpa using hio
    rw [hio]
    simp only [Option.bind_eq_some_iff, Option.map_eq_some_iff] at e
    obtain ⟨ds, ed, ⟨d, b, fin⟩, ec, e⟩ := e
    cases e
    obtain ⟨F2, s1, g2, hd⟩ := keep_all (fun {_ _ _} => trivial) rp ed (Same.refl _) g
    refine ⟨F2, ds, d, b, fin, g2.rel.le, ec, hd, fun v' F' H' hr => ?_⟩
    have g3 := goFree g2 hr.stp hr.le fun b hb => by cases hb.1
    exact q _ _ _ (retRes (g := g3) hr (fr1 g2) fun b hb => (g2.rel.owns hb).2)
end
section
variable {X : Cx} {e a b c : Expr} {es : List Expr} {pos : Pos} {C : Ct} {ma mb mc : Ex} {ms ms2 : Exs} {k : Nat} {kws : List Keyword} {ks : List Str}
theorem mk_nil : PK X [] (tA X.K C .nil) := ⟨fun pos pins s σ H Q I ⟨F, st, os, st', r, e, q⟩ => by
  cases e
  exact pk_nil.run pos pins s σ H Q I (q _ _ _ (Go.refl r) .nil)⟩
theorem mk_cons {nm : Option Str} {kp : Pos} (ha : PE X e (tE X.K C ma)) (hr : PK X kws (tA X.K C ms)) : PK X (⟨nm, e, kp⟩ :: kws) (tA X.K C (.cons ma ms)) := ⟨fun pos pins s σ H Q I ⟨F, st, os, st', r, e, q⟩ => by
  simp only [evs, Option.bind_eq_some_iff, Option.map_eq_some_iff] at e
  obtain ⟨qa, ea, qr, er, e⟩ := e
  cases e
  exact (pk_cons ha hr).run pos pins s σ H Q I ⟨F, st, qa.1, qa.2, r, ea, fun v F1 H1 ra => ⟨F1, qa.2, qr.1, qr.2, ra.go.rel, er, fun vs F2 H2 g2 rr => q _ _ _ (ra.go.trans g2) (.cons (ra.rel.step g2) ra.fro (rr.back ra.go))⟩⟩⟩
end
end Mi
end
section
/-! Mi13: calls, tests, names of the module, pop. -/
namespace Mi
open PySem PySem.Spec
open PyProof.Rows hiding St Fr
open L2

/-- which keywords go with n arguments -/
def callOk (ps : List Str) (n : Nat) (ks : List Str) : Bool := decide ps.Nodup && decide ks.Nodup && (ks.all fun k => decide (k ∈ ps.drop n)) && decide (n + ks.length = ps.length) && (ps.all fun p => decide (p ∈ ps.take n ++ ks))
theorem callOk_ok {ps : List Str} {n : Nat} {ks : List Str} (h : callOk ps n ks = true) : ps.Nodup ∧ ks.Nodup ∧ (∀ k ∈ ks, k ∈ ps.drop n) ∧ n + ks.length = ps.length ∧ ∀ p ∈ ps, p ∈ ps.take n ++ ks := by
  unfold callOk at h
  simp only [Bool.and_eq_true, List.all_eq_true, decide_eq_true_eq] at h
  obtain ⟨⟨⟨⟨h1, h2⟩, h3⟩, h4⟩, h5⟩ := h
  exact ⟨h1, h2, h3, h4, h5⟩
/-- a def of the text, as it is called -/
structure CallX (X : Cx) (k : Nat) (C : Ct) (x : Str) (ps : List Str) (f : Addr) (fd : FuncData) (qual : Str) (as : List Arg) (body : List Stmt) (scope : Scope) : Prop where
  ar : as.map (·.arg) = ps
  hf : FunD X.K x qual (simpleArgs as) body scope [] [] f fd
  fg : FnG X.prog X.w X.K X.mg X.base k f fd ps (spC X.K (C.call x) (C.io x) ps.length)
  mg : X.mg x = some (.ref f)
  db : (x == ("__debug__" : Str)) = false
def CallOk (X : Cx) (k : Nat) (C : Ct) (x : Str) (ps : List Str) : Prop := ∃ f fd qual as body scope, CallX X k C x ps f fd qual as body scope
section
variable {X : Cx} {e a b c : Expr} {es : List Expr} {pos : Pos} {C : Ct} {ma mb mc : Ex} {ms ms2 : Exs} {k : Nat} {kws : List Keyword} {ks : List Str} {ps : List Str}
theorem perm_lt {n : Nat} (h : ∀ p ∈ ps, p ∈ ps.take n ++ ks) (hl : n + ks.length = ps.length) {m : Nat} (hm : m = n + ks.length) : ∀ j ∈ permOf ps n ks, j < m := fun j hj => by
  unfold permOf at hj
  obtain ⟨q, hq, rfl⟩ := List.mem_map.mp hj
  have := List.idxOf_lt_length_iff.mpr (h q hq)
  rw [List.length_append, List.length_take] at this
  omega
theorem me_call {x : Str} {p : Pos} (hx : CallOk X k C x ps) (hr : Room k X.A) (hg : X.A.guards = some []) (gl : Gl X x) (hk : callOk ps (es.length + 1) ks = true) (hs : noStars (e :: es) = true) (hkn : kws.map (·.arg) = ks.map some)
    (ha : PA X (e :: es) (tA X.K C ms)) (hkw : PK X kws (tA X.K C ms2)) (l1 : ∀ st os st', evs C ms st = some (os, st') → os.length = es.length + 1) (l2 : ∀ st os st', evs C ms2 st = some (os, st') → os.length = ks.length) :
    PE X (.Call (.Name x p) (e :: es) kws pos) (tE X.K C (.cal x (permOf ps (es.length + 1) ks) (ms.app ms2))) := by
  obtain ⟨f, fd, qual, as, body, scope, rfl, FD, F, hm, hdb⟩ := hx
  obtain ⟨c1, c2, c3, c4, c5⟩ := callOk_ok hk
  refine pe_mono (pe_callG FD F hr hg gl hm hdb c1 c2 c3 (by rw [c4, List.length_map]) c5 hs hkn ha hkw) fun σ H Q ⟨F0, st, od, st', r, e0, q⟩ => ?_
  simp only [evE, evs_app, Option.bind_eq_some_iff, Option.map_eq_some_iff] at e0
  obtain ⟨qs, ⟨q1, e1, q2, e2, rfl⟩, e3⟩ := e0
  refine ⟨F0, st, q1.1, q1.2, r, e1, fun vs F1 H1 g1 r1 => ⟨F1, q1.2, q2.1, q2.2, g1.rel, e2, fun zs F2 H2 g2 r2 => ?_⟩⟩
  have n1 : vs.length = es.length + 1 := r1.len.trans (l1 _ _ _ e1)
  have n2 : zs.length = ks.length := r2.len.trans (l2 _ _ _ e2)
  refine ⟨n1, n2, ?_⟩
  exact call_ok (g1.trans g2) (ORs.app (r2.back g1) (r1.step g2)) (perm_lt c5 c4 (by rw [List.length_append, n1, n2])) e3 (by unfold permOf; rw [List.length_map]) q
theorem me_call0 {x : Str} {p : Pos} (hx : CallOk X k C x ps) (hr : Room k X.A) (hg : X.A.guards = some []) (gl : Gl X x) (hk : callOk ps 0 ks = true) (hkn : kws.map (·.arg) = ks.map some)
    (hkw : PK X kws (tA X.K C ms2)) (l2 : ∀ st os st', evs C ms2 st = some (os, st') → os.length = ks.length) :
    PE X (.Call (.Name x p) [] kws pos) (tE X.K C (.cal x (permOf ps 0 ks) ms2)) := by
  obtain ⟨f, fd, qual, as, body, scope, rfl, FD, F, hm, hdb⟩ := hx
  obtain ⟨c1, c2, c3, c4, c5⟩ := callOk_ok hk
  refine pe_mono (pe_callG0 FD F hr hg gl hm hdb c1 c2 c3 (by rw [c4, List.length_map]) c5 hkn hkw) fun σ H Q ⟨F0, st, od, st', r, e0, q⟩ => ?_
  simp only [evE, Option.bind_eq_some_iff] at e0
  obtain ⟨q2, e2, e3⟩ := e0
  refine ⟨F0, st, q2.1, q2.2, r, e2, fun zs F2 H2 g2 r2 => ?_⟩
  have n2 : zs.length = ks.length := r2.len.trans (l2 _ _ _ e2)
  refine ⟨n2, ?_⟩
  exact call_ok g2 r2 (perm_lt c5 c4 (by rw [n2, Nat.zero_add])) e3 (by unfold permOf; rw [List.length_map]) q
/-- a constant of the module -/
def GloOk (X : Cx) (C : Ct) (x : Str) : Prop := ∀ p, C.glo x = some p → ∃ v u, X.mg x = some u ∧ RelV v u ∧ ∀ F, Dn X.K F v p
theorem me_glo {x : Str} (gl : Gl X x) (hx : GloOk X C x) (hd : (x == ("__debug__" : Str)) = false) : PE X (.Name x pos) (tE X.K C (.glo x)) := ⟨fun pins s σ H Q I ⟨F, st, od, st', r, e, q⟩ => by
  simp only [evE, Option.map_eq_some_iff] at e
  obtain ⟨p, ep, e⟩ := e
  cases e
  obtain ⟨v, u, h1, h2, h3⟩ := hx p ep
  exact (pe_glob gl h1 h2 hd).run pins s σ H Q I (q _ _ _ (Res.den (Go.refl r) (h3 F)))⟩
/-- the list turned round -/
theorem me_rev {j : Nat} {p1 p2 p3 : Pos} (ha : PE X a (tE X.K C ma)) : PE X (.Subscript a (.Slice none none (some (.UnaryOp .USub (.Constant (.int 1) j p1) p2)) p3) pos) (tE X.K C (.rev ma)) := pe_mono (pe_revA ha) fun σ H Q ⟨F, st, od, st', r, e, q⟩ => by
  simp only [evE, Option.bind_eq_some_iff, Option.map_eq_some_iff] at e
  obtain ⟨qa, ea, x, ex, z, ez, e⟩ := e
  cases e
  refine ⟨F, st, qa.1, qa.2, r, ea, fun v F1 H1 ra => ?_⟩
  unfold revD at ez
  split at ez
  · rename_i xs
    cases ez
    obtain ⟨p, vs, rfl, h1, h2⟩ := (ra.rel.rd ra.go.rel ex).list ra.go.rel.le
    exact ⟨p, vs, rfl, .inl ⟨.inl (.inl h1), fun n hn => q _ F1 _ (NewR.res ra.go (New.lst ra.go.rel.le hn) (NewR.lst ra.go.rel.le hn (dpl_rev h2)))⟩⟩
  · rename_i xs
    cases ez
    obtain ⟨p, vs, rfl, h1, h2⟩ := (ra.rel.rd ra.go.rel ex).tup ra.go.rel.le
    exact ⟨p, vs, rfl, .inr ⟨h1.sq, fun n us hn => q _ _ _ (NewR.res ra.go (New.put ra.go.rel.le hn) (NewR.tup ra.go.rel.le hn rfl (dpl_rev h2)))⟩⟩
  · cases ez
/-! ### a list of the frame is changed -/
end
section
variable {K : PySem.W.Frag} {F H : Hp} {st : En} {σ : L2.St} {i : Nat} {xs : List PyData} {mk : D → Sl}
theorem lstAt_ok (r : Rel K F st σ H) (h : lstAt st i = some (xs, mk)) : ∃ (s : Sl) (a : Addr) (vs : List V), st[i]? = some s ∧ s.owned = true ∧ (∀ ds, (mk (.py (.list ds)) = .ow (.py (.list ds)) ∧ ∃ d, s = .ow d) ∨ (mk (.py (.list ds)) = .bo (.py (.list ds)) ∧ ∃ d, s = .bo d)) ∧
    σ[i]? = some (some (V.ref a)) ∧ H a = some (.lst vs) ∧ DnAll K F vs xs := by
  unfold lstAt at h
  split at h
  · rename_i ys hs
    cases h
    obtain ⟨a, h1, h2, vs, h3, h4⟩ := r.sl i _ hs
    exact ⟨_, a, vs, hs, rfl, fun ds => .inl ⟨rfl, _, rfl⟩, h1, h3, h4⟩
  · rename_i ys hs
    cases h
    obtain ⟨a, h1, h2, vs, h3, h4⟩ := r.sl i _ hs
    exact ⟨_, a, vs, hs, rfl, fun ds => .inr ⟨rfl, _, rfl⟩, h1, h3, h4⟩
  · cases h
theorem objAt_ok {d : D} (r : Rel K F st σ H) (h : objAt st i = some (d, mk)) : ∃ (s : Sl) (a : Addr), st[i]? = some s ∧ s.owned = true ∧ (∀ d' : D, (mk d' = .ow d' ∧ ∃ d, s = .ow d) ∨ (mk d' = .bo d' ∧ ∃ d, s = .bo d)) ∧
    σ[i]? = some (some (V.ref a)) ∧ OwnAt K F H a d := by
  unfold objAt at h
  split at h
  · rename_i d0 hs
    cases h
    obtain ⟨a, h1, h2, h3⟩ := r.sl i _ hs
    exact ⟨_, a, hs, rfl, fun ds => .inl ⟨rfl, _, rfl⟩, h1, h3⟩
  · rename_i d0 hs
    cases h
    obtain ⟨a, h1, h2, h3⟩ := r.sl i _ hs
    exact ⟨_, a, hs, rfl, fun ds => .inr ⟨rfl, _, rfl⟩, h1, h3⟩
  · cases h
theorem lstAt_tyG {v : V} (r : Rel K F st σ H) (h : lstAt st i = some (xs, mk)) : ∃ a, σ[i]? = some (some (V.ref a)) ∧ TyG K "list" (.ref a) H := by
  obtain ⟨s, a, vs, _, _, _, h1, h2, _⟩ := lstAt_ok r h
  exact ⟨a, h1, a, rfl, .inl ⟨rfl, vs, h2⟩⟩
end
section
variable {X : Cx} {e a b c : Expr} {es : List Expr} {pos : Pos} {C : Ct} {ma mb mc : Ex} {k : Nat}
/-- {} -/
theorem me_dct0 : PE X (.Dict [] [] pos) (tE X.K C .dct0) := pe_mono pe_dnewK fun σ H Q ⟨F, st, od, st', r, e, q⟩ => by
  cases e
  exact fun p hp => q _ F _ (NewR.res (Go.refl r) (New.dct r.le hp) (NewR.dct r.le hp))
theorem me_pop {x : Str} {i : Nat} {p apos cpos : Pos} (h : NameOk X.N X.env.scope x i) (ha : PE X a (tE X.K C ma)) (hs : noStar a = true) (hline : (apos.endLine == cpos.line) = true) :
    PE X (.Call (.Attribute (.Name x p) "pop" apos) [a] [] cpos) (tE X.K C (.pop i ma)) := by
  refine pe_mono (pe_bmG PySem.F.plainAttrs_list PySem.F.slot_list_pop PySem.F.type_list_pop mt_popAt (pe_var h.ix h.vis h.d1 h.d2) (pa_cons ha pa_nil (star_cons hs)) base_name (by simp [noStars, hs]) (by simp) hline) fun σ H Q ⟨F, st, od, st', r, e, q⟩ => ?_
  simp only [evE, Option.bind_eq_some_iff] at e
  obtain ⟨m0, em0, qa, ea, kk, ek, m, em, e⟩ := e
  obtain ⟨a0, h1, h2⟩ := lstAt_tyG (v := .non) r em0
  refine ⟨_, h1, h2, F, st, qa.1, qa.2, r, ea, fun v F1 H1 ra => ?_⟩
  split at e
  · split at e
    · rename_i kn hok
      simp only [Option.bind_eq_some_iff, Option.map_eq_some_iff] at e
      obtain ⟨j, ej, p, ep, e⟩ := e
      cases e
      obtain rfl := (ra.rel.rd ra.go.rel ek).int
      obtain ⟨s, a1, vs, g1, g2, g3, g4, g5, g6⟩ := lstAt_ok ra.go.rel em
      rw [h1] at g4; cases g4
      unfold okR at hok
      simp only [Bool.and_eq_true, decide_eq_true_eq] at hok
      obtain ⟨pv, hp1, hp2⟩ := dpl_get g6 ep
      have hj : seqIndex? kn vs.length = some j := by rw [dpl_len g6]; exact (L2.ixN_seq ej).1
      refine ⟨a0, vs, kn, j, pv, rfl, rfl, g5, by omega, by omega, hj, hp1, ?_⟩
      have gp := ra.go.rel.put g1 g2 (g3 _) h1 (dpl_erase j g6)
      exact q _ F1 _ (Res.den (ra.go.trans gp) hp2)
    · cases e
  · cases e
/-! ### tests -/
def plainT : Expr → Bool
  | .Name .. => true
  | .Call .. => true
  | .Subscript .. => true
  | .Constant .. => true
  | .Tuple .. => true
  | .List .. => true
  | .BinOp .. => true
  | _ => false
theorem plainT_ok {env : Env} (h : plainT e = true) : ∀ whole, isTrue e env whole = (do let v ← whole; standAt e.pos; holding [v] (truthy v)) := by
  cases e <;> first | (intro _; rfl) | cases h
theorem tru_rd {K : PySem.W.Frag} {F H : Hp} {v : V} {d : D} {b : Bool} (le : Same F H) (h : RdR K F H v d) (e : d.tru = some b) : TruV K v H b := by
  unfold D.tru at e
  split at e
  · cases e; rw [h.bl]; exact rfl
  · cases e; rw [h.int]; exact rfl
  · cases e
    obtain ⟨a, vs, rfl, h1, h2⟩ := h.list le
    refine .inl ⟨vs, .inl (.inl h1), ?_⟩
    have := dpl_len h2
    rename_i xs
    cases vs <;> cases xs <;> first | rfl | cases this
  · cases e
    obtain ⟨a, vs, rfl, h1, h2⟩ := h.tup le
    refine .inr (.inl ⟨vs, h1.sq, ?_⟩)
    have := dpl_len h2
    rename_i xs
    cases vs <;> cases xs <;> first | rfl | cases this
  · cases e; rw [h.non]; exact rfl
  · split at e
    · rename_i x hl
      cases e
      rw [h.str]
      have hs : sizeLine = 16777216 := sizeLine_eq
      have hl : x.length ≤ lim := hl
      exact ⟨by unfold lim at hl; omega, rfl⟩
    · cases e
  · rename_i ns
    cases e
    obtain ⟨a, rfl, h1⟩ := h.scr le
    refine .inl ⟨_, h1, ?_⟩
    cases ns <;> rfl
  · cases e
theorem mt_v (hp : plainT a = true) (ha : PE X a (tE X.K C ma)) : PT X a (tT X.K C (.v ma)) := pt_mono (pt_truth ha (plainT_ok hp)) fun σ H Q ⟨F, st, b, st', r, e, q⟩ => by
  simp only [evT, Option.bind_eq_some_iff, Option.map_eq_some_iff] at e
  obtain ⟨qa, ea, t, ⟨d, ed, et⟩, e⟩ := e
  cases e
  exact ⟨F, st, qa.1, qa.2, r, ea, fun v F1 H1 ra => ⟨_, tru_rd ra.go.rel.le (ra.rel.rd ra.go.rel ed) et, q _ _ ra.go⟩⟩
/-- a reading that answers with a bool, as a test -/
theorem tE_test {te : TE} {σ : L2.St} {H : Hp} {Q : Bool → Hp → Prop} (h : PT X a (tTest te)) (hm : ∀ σ H Q, tE X.K C ma σ H Q → te σ H Q) (hb : ∀ st od st' d b, evE C ma st = some (od, st') → rd st' od = some d → d.tru = some b → ∃ c, od = ofB c) : PT X a (tT X.K C (.v ma)) :=
  pt_mono h fun σ H Q ⟨F, st, b, st', r, e, q⟩ => by
    simp only [evT, Option.bind_eq_some_iff, Option.map_eq_some_iff] at e
    obtain ⟨qa, ea, t, ⟨d, ed, et⟩, e⟩ := e
    cases e
    obtain ⟨c, hc⟩ := hb _ _ _ _ _ ea ed et
    refine hm σ H _ ⟨F, st, qa.1, qa.2, r, ea, fun v F1 H1 ra => ?_⟩
    have h1 : ORel X.K F1 H1 qa.2 σ v (ofB c) := by rw [← hc]; exact ra.rel
    have h2 : ed = ed := rfl
    rw [hc] at ed
    cases ed
    cases et
    cases h1
    exact ⟨_, rfl, q _ _ ra.go⟩
theorem cm_ofB {o : Cm} {st st' : En} {od : Od} (h : evE C (.cm o ma mb) st = some (od, st')) : ∃ c, od = ofB c := by
  simp only [evE, Option.bind_eq_some_iff, Option.map_eq_some_iff] at h
  obtain ⟨qa, ea, qb, eb, x, ex, y, ey, z, ez, e⟩ := h
  cases e
  exact ⟨_, rfl⟩
theorem cm2_ofB {o o' : Cm} {st st' : En} {od : Od} (h : evE C (.cm2 o o' ma mb mc) st = some (od, st')) : ∃ c, od = ofB c := by
  simp only [evE, Option.bind_eq_some_iff] at h
  obtain ⟨qa, ea, qb, eb, x, ex, y, ey, z, ez, e⟩ := h
  cases z with
  | false => cases e; exact ⟨_, rfl⟩
  | true =>
    rw [if_pos rfl] at e
    simp only [Option.bind_eq_some_iff, Option.map_eq_some_iff] at e
    obtain ⟨qc, ec, y, ey, u, eu, z, ez, e⟩ := e
    cases e
    exact ⟨_, rfl⟩
theorem mt_cm {o : Cm} (hr : Room k X.A) (ha : PE X a (tE X.K C ma)) (hb : PE X b (tE X.K C mb)) (hm : behindInMarks o.op b = false) : PT X (.Compare a [o.op] [b] pos) (tT X.K C (.v (.cm o ma mb))) :=
  tE_test (σ := []) (H := fun _ => none) (Q := fun _ _ => True) (pt_cmpR (cm_ok hr o) ha hb hm) (fun σ H Q h => by
    obtain ⟨F, st, od, st', r, e, q⟩ := h
    simp only [evE, Option.bind_eq_some_iff, Option.map_eq_some_iff] at e
    obtain ⟨qa, ea, qb, eb, x, ex, y, ey, z, ez, e⟩ := e
    cases e
    exact tE_two r ea eb fun u v F' H' g ra rb => ⟨F', x, y, z, g.rel.le, ra.rd g.rel ex, rb.rd g.rel ey, ez, q _ _ _ (Res.den g (Dn.bl _))⟩) fun _ _ _ _ _ h _ _ => cm_ofB h
theorem mt_and {rest : List Expr} {m m2 : T} (ha : PT X a (tT X.K C m)) (hb : PW X (.BoolOp .And (b :: rest) pos) (tT X.K C m2)) : PW X (.BoolOp .And (a :: b :: rest) pos) (tT X.K C (.and m m2)) :=
  ⟨fun wh pins s σ H Q I ⟨F, st, od, st', r, e, q⟩ => by
    simp only [evT, Option.bind_eq_some_iff] at e
    obtain ⟨qa, ea, e⟩ := e
    refine (pw_and ha hb).run wh pins s σ H Q I ⟨F, st, qa.1, qa.2, r, ea, fun F' H' g => ?_⟩
    cases h : qa.1 with
    | true =>
      rw [h, if_pos rfl] at e
      exact iteT ⟨F', qa.2, od, st', g.rel, e, fun F2 H2 g2 => q _ _ (g.trans g2)⟩
    | false =>
      rw [h, if_neg Bool.false_ne_true] at e
      cases e
      exact iteF (q _ _ g)⟩
theorem mt_or {rest : List Expr} {m m2 : T} (ha : PT X a (tT X.K C m)) (hb : PW X (.BoolOp .Or (b :: rest) pos) (tT X.K C m2)) : PW X (.BoolOp .Or (a :: b :: rest) pos) (tT X.K C (.or m m2)) :=
  ⟨fun wh pins s σ H Q I ⟨F, st, od, st', r, e, q⟩ => by
    simp only [evT, Option.bind_eq_some_iff] at e
    obtain ⟨qa, ea, e⟩ := e
    refine (pw_or ha hb).run wh pins s σ H Q I ⟨F, st, qa.1, qa.2, r, ea, fun F' H' g => ?_⟩
    cases h : qa.1 with
    | false =>
      rw [h, if_neg Bool.false_ne_true] at e
      exact iteF ⟨F', qa.2, od, st', g.rel, e, fun F2 H2 g2 => q _ _ (g.trans g2)⟩
    | true =>
      rw [h, if_pos rfl] at e
      cases e
      exact iteT (q _ _ g)⟩
theorem mt_not {m : T} (ha : PT X a (tT X.K C m)) : PT X (.UnaryOp .Not a pos) (tT X.K C (.nt m)) := pt_mono (pt_not ha) fun σ H Q ⟨F, st, b, st', r, e, q⟩ => by
  simp only [evT, Option.map_eq_some_iff] at e
  obtain ⟨qa, ea, e⟩ := e
  cases e
  exact ⟨F, st, qa.1, qa.2, r, ea, q⟩
end
end Mi
end
section
/-! Mi14: statements without loops. -/
namespace Mi
open PySem PySem.Spec
open PyProof.Rows hiding St Fr
open L2

section
variable {K : PySem.W.Frag} {F H F0 H0 F1 H1 F2 H2 F' H' : Hp} {st st0 st1 st2 st' : En} {σ σ0 σ1 σ2 σ' : L2.St} {v : V} {od : Od} {d : D} {a : Addr} {i : Nat}
theorem Fro.back' (g : Go K st σ F H st1 σ1 F1 H1) (h : Fro st1 σ1 H1 v od) : Fro st σ H v od := by
  cases od with
  | va _ => trivial
  | pk _ => trivial
  | fe _ =>
    obtain ⟨a, e, h⟩ := h
    rcases h with h | h
    · exact ⟨a, e, g.stp.own a h⟩
    · refine ⟨a, e, .inr ?_⟩
      cases q : H a with
      | none => rfl
      | some o => exact absurd h (g.stp.live a (by rw [q]; simp))
/-- a slot takes a value that nobody changes, or nothing -/
theorem Rel.fr {s : Sl} (r : Rel K F st σ H) (hs : (s = .no) ∨ ∃ d, s = .fr d ∧ Den K F v d) : Go K st σ F H (st.set i s) (σ.set i (some v)) F H := by
  have no : s.owned = false := by rcases hs with rfl | ⟨d, rfl, _⟩ <;> rfl
  have ge : ∀ {j : Nat}, j ≠ i → (σ.set i (some v))[j]? = σ[j]? := fun h => List.getElem?_set_ne (Ne.symm h)
  have back : ∀ b, Owns (st.set i s) (σ.set i (some v)) b → Owns st σ b := fun b ⟨j, u, h1, h2, h3⟩ => by
    rcases get_set h1 with ⟨e, e2, _⟩ | ⟨e, h1⟩
    · subst e2; rw [no] at h2; cases h2
    · exact ⟨j, u, h1, h2, by rw [← ge e]; exact h3⟩
  refine ⟨⟨Same.refl F, fun b o h _ => h, fun b h => h, fun b h => .inl (back b h), fun b h => .inl h⟩, ⟨r.le, by rw [List.length_set, List.length_set]; exact r.len, fun j u h => ?_, fun j j' u u' b h1 h2 h3 h4 h5 h6 => ?_⟩, fun j d h => ?_⟩
  · rcases get_set h with ⟨e, e2, hl⟩ | ⟨e, h⟩
    · subst e2
      rcases hs with rfl | ⟨d, rfl, hd⟩
      · trivial
      · exact ⟨v, by rw [e, List.getElem?_set_self (by rw [r.len]; exact hl)], hd⟩
    · have z := r.sl j u h
      cases u with
      | no => trivial
      | fr d => obtain ⟨w, g1, g2⟩ := z; exact ⟨w, by rw [ge e]; exact g1, g2⟩
      | ow d => obtain ⟨w, g1, g2⟩ := z; exact ⟨w, by rw [ge e]; exact g1, g2⟩
      | bo d => obtain ⟨w, g1, g2⟩ := z; exact ⟨w, by rw [ge e]; exact g1, g2⟩
  · rcases get_set h1 with ⟨e, e2, _⟩ | ⟨e, h1⟩
    · subst e2; rw [no] at h3; cases h3
    · rcases get_set h2 with ⟨e', e2, _⟩ | ⟨e', h2⟩
      · subst e2; rw [no] at h4; cases h4
      · rw [ge e] at h5
        rw [ge e'] at h6
        exact r.inj j j' u u' b h1 h2 h3 h4 h5 h6
  · rcases get_set h with ⟨e, e2, _⟩ | ⟨e, h⟩
    · rw [← e2] at no; cases no
    · exact ⟨ge e, d, h⟩
/-- a slot takes a list in one hand -/
theorem Rel.ow (g : Go K st0 σ0 F0 H0 st σ F H) (hf : F a = none) (ho : OwnAt K F H a d) (hn : ¬ Owns st σ a) (fro : Owns st0 σ0 a ∨ H0 a = none) : Go K st0 σ0 F0 H0 (st.set i (.ow d)) (σ.set i (some (.ref a))) F H := by
  have r := g.rel
  have ge : ∀ {j : Nat}, j ≠ i → (σ.set i (some (V.ref a)))[j]? = σ[j]? := fun h => List.getElem?_set_ne (Ne.symm h)
  refine ⟨⟨g.stp.fr, g.stp.keep, g.stp.live, fun b hb => ?_, g.stp.frz⟩, ⟨r.le, by rw [List.length_set, List.length_set]; exact r.len, fun j u h => ?_, fun j j' u u' b h1 h2 h3 h4 h5 h6 => ?_⟩, fun j d h => ?_⟩
  · obtain ⟨j, u, h1, h2, h3⟩ := hb
    rcases get_set h1 with ⟨e, e2, hl⟩ | ⟨e, h1⟩
    · subst e
      rw [List.getElem?_set_self (by rw [r.len]; exact hl)] at h3
      cases h3
      exact fro
    · rw [ge e] at h3
      exact g.stp.own b ⟨j, u, h1, h2, h3⟩
  · rcases get_set h with ⟨e, e2, hl⟩ | ⟨e, h⟩
    · subst e2
      exact ⟨a, by rw [e, List.getElem?_set_self (by rw [r.len]; exact hl)], hf, ho⟩
    · have z := r.sl j u h
      cases u with
      | no => trivial
      | fr d => obtain ⟨w, g1, g2⟩ := z; exact ⟨w, by rw [ge e]; exact g1, g2⟩
      | ow d => obtain ⟨w, g1, g2⟩ := z; exact ⟨w, by rw [ge e]; exact g1, g2⟩
      | bo d => obtain ⟨w, g1, g2⟩ := z; exact ⟨w, by rw [ge e]; exact g1, g2⟩
  · rcases get_set h1 with ⟨e, e2, hl⟩ | ⟨e, k1⟩
    · rcases get_set h2 with ⟨e', _, _⟩ | ⟨e', k2⟩
      · rw [e, e']
      · subst e
        rw [List.getElem?_set_self (by rw [r.len]; exact hl)] at h5
        cases h5
        rw [ge e'] at h6
        exact absurd ⟨j', u', k2, h4, h6⟩ hn
    · rw [ge e] at h5
      rcases get_set h2 with ⟨e', _, hl⟩ | ⟨e', k2⟩
      · subst e'
        rw [List.getElem?_set_self (by rw [r.len]; exact hl)] at h6
        cases h6
        exact absurd ⟨j, u, k1, h3, h5⟩ hn
      · rw [ge e'] at h6
        exact r.inj j j' u u' b k1 k2 h3 h4 h5 h6
  · rcases get_set h with ⟨e, e2, _⟩ | ⟨e, h⟩
    · cases e2
    · obtain ⟨e1, d0, h0⟩ := g.bos j d h
      exact ⟨by rw [ge e]; exact e1, d0, h0⟩
/-- a value is stored -/
theorem Res.store {s : Sl} (r : Res K st σ F H st1 F1 H1 v od) (e : od.slot = some s) : Go K st σ F H (st1.set i s) (σ.set i (some v)) F1 H1 := by
  cases od with
  | va d =>
    cases e
    exact r.go.trans (r.go.rel.fr (.inr ⟨d, rfl, r.rel⟩))
  | fe d =>
    cases e
    obtain ⟨a, rfl, h1, h2, h3⟩ := r.rel
    obtain ⟨a', e', h4⟩ := r.fro
    cases e'
    exact Rel.ow r.go h1 h2 h3 h4
  | pk i => cases e
end

/-! ### the reading of statements -/
def EndR (K : PySem.W.Frag) (D : Ends) (st : En) (σ : L2.St) (H : Hp) (st' : En) (σ' : L2.St) (F' H' : Hp) : Out → Prop
  | .nx => D.nx σ' H'
  | .brk => D.bk σ' H'
  | .cont => D.ct σ' H'
  | .rt d b => ∀ v, ORel K F' H' st' σ' v (if b then .fe d else .va d) → Fro st σ H v (if b then .fe d else .va d) → D.rt v H'
def tS (K : PySem.W.Frag) (C : Ct) (m : S) : TS := fun D σ H => ∃ F st o st', Rel K F st σ H ∧ exS C m st = some (o, st') ∧ ∀ σ' F' H', Go K st σ F H st' σ' F' H' → EndR K D st σ H st' σ' F' H' o
def tSs (K : PySem.W.Frag) (C : Ct) (m : Ss) : TS := fun D σ H => ∃ F st o st', Rel K F st σ H ∧ exs C m st = some (o, st') ∧ ∀ σ' F' H', Go K st σ F H st' σ' F' H' → EndR K D st σ H st' σ' F' H' o
theorem EndR.back {K : PySem.W.Frag} {D : Ends} {st st1 st' : En} {σ σ1 σ' : L2.St} {F H F1 H1 F' H' : Hp} (g : Go K st σ F H st1 σ1 F1 H1) {o : Out} (h : EndR K D st σ H st' σ' F' H' o) : EndR K D st1 σ1 H1 st' σ' F' H' o := by
  cases o with
  | rt d b => exact fun v h1 h2 => h v h1 (Fro.back' g h2)
  | nx => exact h
  | brk => exact h
  | cont => exact h
section
variable {X : Cx} {st : Stmt} {t t' : TS}
theorem ps_mono (h : PS X st t) (w : ∀ D σ H, t' D σ H → t D σ H) : PS X st t' := ⟨fun pins s σ H D I q => h.run pins s σ H D I (w D σ H q)⟩
theorem pss_mono {sts : List Stmt} (h : PSs X sts t) (w : ∀ D σ H, t' D σ H → t D σ H) : PSs X sts t' := ⟨fun pins s σ H D I q => h.run pins s σ H D I (w D σ H q)⟩
end
section
variable {X : Cx} {e a b c : Expr} {es : List Expr} {pos : Pos} {C : Ct} {ma mb mc : Ex} {ms ms2 : Exs} {k : Nat} {st : Stmt} {rest sts sts2 : List Stmt} {s : S} {ss ss2 : Ss} {m : T}
theorem ms_nil : PSs X [] (tSs X.K C .nil) := pss_mono pss_nil fun D σ H ⟨F, st, o, st', r, e, q⟩ => by
  cases e
  exact q _ _ _ (Go.refl r)
theorem ms_cons (h1 : PS X st (tS X.K C s)) (h2 : PSs X rest (tSs X.K C ss)) : PSs X (st :: rest) (tSs X.K C (.cons s ss)) := pss_mono (pss_cons h1 h2) fun D σ H ⟨F, en, o, en', r, e, q⟩ => by
  simp only [exs, Option.bind_eq_some_iff] at e
  obtain ⟨⟨o1, st1⟩, e1, e⟩ := e
  refine ⟨F, en, o1, st1, r, e1, fun σ1 F1 H1 g1 => ?_⟩
  cases o1 with
  | nx => exact ⟨F1, st1, o, en', g1.rel, e, fun σ2 F2 H2 g2 => EndR.back g1 (q _ _ _ (g1.trans g2))⟩
  | brk => cases e; exact q _ _ _ g1
  | cont => cases e; exact q _ _ _ g1
  | rt d b => cases e; exact q _ _ _ g1
theorem ms_raise : PS X st (tS X.K C .raise) := ps_mono ps_never fun D σ H ⟨F, st, o, st', r, e, q⟩ => by cases e
theorem ms_pass : PS X (.Pass pos) (tS X.K C .pass) := ps_mono ps_pass fun D σ H ⟨F, st, o, st', r, e, q⟩ => by cases e; exact q _ _ _ (Go.refl r)
theorem ms_doc {x : Str} {j : Nat} {p2 : Pos} : PS X (.Expr (.Constant (.str x) j p2) pos) (tS X.K C .pass) := ps_mono ps_doc fun D σ H ⟨F, st, o, st', r, e, q⟩ => by cases e; exact q _ _ _ (Go.refl r)
theorem ms_brk : PS X (.Break pos) (tS X.K C .brk) := ps_mono ps_break fun D σ H ⟨F, st, o, st', r, e, q⟩ => by cases e; exact q _ _ _ (Go.refl r)
theorem ms_cont : PS X (.Continue pos) (tS X.K C .cont) := ps_mono ps_continue fun D σ H ⟨F, st, o, st', r, e, q⟩ => by cases e; exact q _ _ _ (Go.refl r)
theorem ms_retN : PS X (.Return none pos) (tS X.K C .retN) := ps_mono ps_retN fun D σ H ⟨F, st, o, st', r, e, q⟩ => by
  cases e
  exact q _ _ _ (Go.refl r) .non Dn.non trivial
/-- what swaps nothing: no comprehension -/
def noComp : Expr → Bool
  | .ListComp .. => false
  | .SetComp .. => false
  | .DictComp .. => false
  | _ => true
theorem sw_no {e : Expr} {t : Option Expr} {l : Nat} {env : Env} (h : noComp e = true) : swapsWith e t l env = pure false := by
  cases e <;> first | rfl | cases h
theorem ms_ex (hn : noComp e = true) (he : PE X e (tE X.K C ma)) : PS X (.Expr e pos) (tS X.K C (.ex ma)) := ps_mono (ps_expr he (sw_no hn)) fun D σ H ⟨F, st, o, st', r, e, q⟩ => by
  simp only [exS, Option.map_eq_some_iff] at e
  obtain ⟨qa, ea, e⟩ := e
  cases e
  exact ⟨F, st, qa.1, qa.2, r, ea, fun v F1 H1 ra => q _ _ _ ra.go⟩
theorem ms_ret (he : PE X e (tE X.K C ma)) : PS X (.Return (some e) pos) (tS X.K C (.ret ma)) := ps_mono (ps_ret he) fun D σ H ⟨F, st, o, st', r, e, q⟩ => by
  simp only [exS, Option.bind_eq_some_iff, Option.map_eq_some_iff] at e
  obtain ⟨qa, ea, o', eo, e⟩ := e
  cases e
  refine ⟨F, st, qa.1, qa.2, r, ea, fun v F1 H1 ra => ?_⟩
  unfold retE at eo
  have z := q _ _ _ ra.go
  split at eo
  · rename_i d hd
    cases eo
    exact z v (by have := ra.rel; rw [hd] at this; exact this) trivial
  · rename_i d hd
    cases eo
    exact z v (by have := ra.rel; rw [hd] at this; exact this) (by have := ra.fro; rw [hd] at this; exact this)
  · cases eo
theorem ms_retv {x : Str} {i : Nat} {p : Pos} (h : NameOk X.N X.env.scope x i) : PS X (.Return (some (.Name x p)) pos) (tS X.K C (.retv i)) := ps_mono (ps_ret (pe_var h.ix h.vis h.d1 h.d2)) fun D σ H ⟨F, st, o, st', r, e, q⟩ => by
  simp only [exS] at e
  split at e
  · rename_i d hd
    cases e
    obtain ⟨v, h1, h2⟩ := r.sl i _ hd
    exact ⟨v, h1, q _ _ _ (Go.refl r) v h2 trivial⟩
  · rename_i d hd
    cases e
    obtain ⟨a, h1, h2, h3⟩ := r.sl i _ hd
    refine ⟨_, h1, ?_⟩
    have g := r.fr (v := .ref a) (i := i) (s := .no) (.inl rfl)
    have hs : σ.set i (some (V.ref a)) = σ := by
      apply List.ext_getElem?
      intro j
      by_cases e : j = i
      · subst e
        rw [List.getElem?_set_self (get_lt h1), h1]
      · rw [List.getElem?_set_ne (Ne.symm e)]
    rw [hs] at g
    refine q _ _ _ g _ ⟨a, rfl, h2, h3, fun ⟨j, u, k1, k2, k3⟩ => ?_⟩ ⟨a, rfl, .inl ⟨i, _, hd, rfl, h1⟩⟩
    rcases get_set k1 with ⟨_, e2, _⟩ | ⟨e, k1⟩
    · subst e2; cases k2
    · exact e (r.inj j i u _ a k1 hd k2 rfl k3 h1)
  · cases e
theorem ms_if (hc : PT X c (tT X.K C m)) (ha : PSs X sts (tSs X.K C ss)) (hb : PSs X sts2 (tSs X.K C ss2)) : PS X (.If c sts sts2 pos) (tS X.K C (.ifs m ss ss2)) := ps_mono (ps_if hc ha hb) fun D σ H ⟨F, st, o, st', r, e, q⟩ => by
  simp only [exS, Option.bind_eq_some_iff] at e
  obtain ⟨qa, ea, e⟩ := e
  refine ⟨F, st, qa.1, qa.2, r, ea, fun F1 H1 g => ?_⟩
  cases h : qa.1 with
  | true =>
    rw [h, if_pos rfl] at e
    exact iteT ⟨F1, qa.2, o, st', g.rel, e, fun σ2 F2 H2 g2 => EndR.back g (q _ _ _ (g.trans g2))⟩
  | false =>
    rw [h, if_neg Bool.false_ne_true] at e
    exact iteF ⟨F1, qa.2, o, st', g.rel, e, fun σ2 F2 H2 g2 => EndR.back g (q _ _ _ (g.trans g2))⟩
/-- a name that is stored -/
structure StOk (X : Cx) (x : Str) (i : Nat) : Prop where
  ix : X.N[i]? = some x
  loc : Loc X.env.scope x
  fn : X.fn x = true ∨ X.env.scope.names.lookup x = some .local
theorem ms_asg {x : Str} {i : Nat} {p : Pos} (hN : X.N.Nodup) (h : StOk X x i) (hn : noComp e = true) (he : PE X e (tE X.K C ma)) : PS X (.Assign [.Name x p] e pos) (tS X.K C (.asg i ma)) := ps_mono (ps_set hN h.ix h.loc he (sw_no hn) h.fn) fun D σ H ⟨F, st, o, st', r, e, q⟩ => by
  simp only [exS, Option.bind_eq_some_iff, Option.map_eq_some_iff] at e
  obtain ⟨qa, ea, s, es, e⟩ := e
  cases e
  exact ⟨F, st, qa.1, qa.2, r, ea, fun v F1 H1 ra => q _ _ _ (ra.store es)⟩
theorem ms_aug {x : Str} {i : Nat} {p : Pos} {o : O2} (ho : o = .add ∨ o = .sub) (hN : X.N.Nodup) (h : StOk X x i) (he : PE X e (tE X.K C ma)) : PS X (.AugAssign (.Name x p) o.op e pos) (tS X.K C (.aug i o ma)) := by
  have key : ∀ (op : Operator) (f : Int → Int → Int), PIp X op (ipI f) → (∀ st q, exS C (.aug i o ma) st = some q → ∃ x qa y, st[i]? = some (.fr (.py (.int x))) ∧ evE C ma st = some qa ∧ rd qa.2 qa.1 = some (.py (.int y)) ∧ q = (.nx, qa.2.set i (.fr (.py (.int (f x y)))))) →
      PS X (.AugAssign (.Name x p) op e pos) (tS X.K C (.aug i o ma)) := fun op f hp hk => ps_mono (ps_aug hN h.ix h.loc he hp h.fn) fun D σ H ⟨F, st, o, st', r, e, q⟩ => by
    obtain ⟨x0, qa, y, h1, ea, ey, e⟩ := hk _ _ e
    cases e
    obtain ⟨v, g1, g2⟩ := r.sl i _ h1
    cases g2
    refine ⟨_, g1, F, st, qa.1, qa.2, r, ea, fun w F1 H1 ra => ?_⟩
    obtain rfl := (ra.rel.rd ra.go.rel ey).int
    exact ⟨x0, y, rfl, rfl, q _ _ _ (ra.go.trans (ra.go.rel.fr (.inr ⟨_, rfl, Dn.int _⟩)))⟩
  rcases ho with rfl | rfl
  · refine key .Add _ ip_add fun st q e => ?_
    simp only [exS] at e
    split at e
    · rename_i x0 hx
      simp only [Option.bind_eq_some_iff] at e
      obtain ⟨qa, ea, d, ed, e⟩ := e
      split at e
      · rename_i z y; cases e; exact ⟨x0, qa, _, hx, ea, ed, rfl⟩
      · rename_i z y h0; cases h0
      · cases e
    · cases e
  · refine key .Sub _ ip_sub fun st q e => ?_
    simp only [exS] at e
    split at e
    · rename_i x0 hx
      simp only [Option.bind_eq_some_iff] at e
      obtain ⟨qa, ea, d, ed, e⟩ := e
      split at e
      · rename_i z y h0; cases h0
      · rename_i z y; cases e; exact ⟨x0, qa, _, hx, ea, ed, rfl⟩
      · cases e
    · cases e
/-! ### several names -/
def gNs : List Nat → TGs
  | [] => gNil
  | i :: is => gCons (gName i) (gNs is)
inductive StsOk (X : Cx) : List Expr → List Nat → Prop
  | nil : StsOk X [] []
  | cons {x : Str} {p : Pos} {i : Nat} {es : List Expr} {is : List Nat} : StOk X x i → StsOk X es is → StsOk X (.Name x p :: es) (i :: is)
theorem pgs_ns (hN : X.N.Nodup) : ∀ {es : List Expr} {is : List Nat}, StsOk X es is → PGs X es (gNs is)
  | _, _, .nil => pgs_nil
  | _, _, .cons h t => pgs_cons (pg_name hN h.ix h.loc h.fn) (pgs_ns hN t)
theorem sts_each {env : Env} : ∀ {es : List Expr} {is : List Nat}, StsOk X es is → (assignEach es env).length = is.length ∧ (assignEach es env).findIdx? (·.1) = none
  | _, _, .nil => ⟨rfl, rfl⟩
  | _, _, .cons (x := x) (p := p) (es := es) h t => by
    obtain ⟨h1, h2⟩ := sts_each (env := env) t
    have e : assignEach (.Name x p :: es) env = (false, assign (.Name x p) env) :: assignEach es env := rfl
    rw [e]
    refine ⟨by rw [List.length_cons, List.length_cons, h1], ?_⟩
    rw [List.findIdx?_cons]
    simp [h2]
def setAll (st : En) : List Nat → List PyData → En
  | i :: is, p :: ps => setAll (st.set i (.fr (.py p))) is ps
  | _, _ => st
theorem bind_setAll : ∀ (tg : List Nat) (xs : List PyData) (st : En), (tg.zip xs).foldl (fun s q => s.set q.1 (.fr (.py q.2))) st = setAll st tg xs
  | [], _, _ => by simp [setAll]
  | _ :: _, [], _ => by simp [setAll]
  | i :: is, p :: ps, st => by rw [List.zip_cons_cons, List.foldl_cons, bind_setAll is ps]; rfl
theorem gNs_ok {K : PySem.W.Frag} {F H : Hp} {Q : L2.St → Hp → Prop} : ∀ {is : List Nat} {vs : List V} {ps : List PyData} {st : En} {σ : L2.St}, Rel K F st σ H → DnAll K F vs ps → vs.length = is.length → (∀ σ', Go K st σ F H (setAll st is ps) σ' F H → (∀ j, j ∉ is → σ'[j]? = σ[j]?) → Q σ' H) → gNs is vs σ H Q
  | [], [], _, st, σ, r, .nil, _, q => ⟨rfl, q _ (Go.refl r) fun _ _ => rfl⟩
  | i :: is, _, _, st, σ, r, .cons (v := v) (d := p) h t, hl, q => by
    have g := r.fr (v := v) (i := i) (s := .fr (.py p)) (.inr ⟨_, rfl, h⟩)
    exact ⟨v, _, rfl, gNs_ok g.rel t (Nat.succ.inj hl) fun σ' g2 n => q σ' (g.trans g2) fun j hj => by
      rw [n j fun z => hj (List.mem_cons_of_mem _ z), List.getElem?_set_ne fun z => hj (by rw [z]; exact List.mem_cons_self ..)]⟩
/-- the target of a loop, of an assignment -/
inductive TgOk (X : Cx) : Expr → List Nat → Bool → Prop
  | one {x : Str} {p : Pos} {i : Nat} : StOk X x i → TgOk X (.Name x p) [i] true
  | tup {es : List Expr} {k : Nat} {p : Pos} {is : List Nat} : StsOk X es is → TgOk X (.Tuple es k p) is false
/-- a value that is handed to a target: frozen, or a pair just made -/
def DnW (K : PySem.W.Frag) (F H : Hp) (one : Bool) (v : V) (p : PyData) : Prop := Dn K F v p ∨ (one = false ∧ ∃ a vs ps, v = .ref a ∧ ((p = .tuple ps ∧ H a = some (.tup vs)) ∨ (p = .list ps ∧ H a = some (.lst vs))) ∧ DnAll K F vs ps)
def gT (K : PySem.W.Frag) (is : List Nat) (one : Bool) : TG := fun v σ H Q => ∃ F st p st', Rel K F st σ H ∧ DnW K F H one v p ∧ bindT is one p st = some st' ∧ ∀ σ', Go K st σ F H st' σ' F H → (∀ j, j ∉ is → σ'[j]? = σ[j]?) → Q σ' H
theorem pg_mono {tg : Expr} {g g' : TG} (h : PG X tg g) (w : ∀ v σ H Q, g' v σ H Q → g v σ H Q) : PG X tg g' := ⟨fun pins s σ H v u Q I r q => h.run pins s σ H v u Q I r (w v σ H Q q)⟩
theorem pg_T {tg : Expr} {is : List Nat} {one : Bool} (hc : X.calm = true) (hN : X.N.Nodup) (h : TgOk X tg is one) : PG X tg (gT X.K is one) := by
  cases h with
  | one h =>
    refine pg_mono (pg_name hN h.ix h.loc h.fn) fun v σ H Q ⟨F, st, p, st', r, hd, e, q⟩ => ?_
    cases e
    rcases hd with hd | ⟨z, _⟩
    · exact q _ (r.fr (.inr ⟨_, rfl, hd⟩)) fun j hj => List.getElem?_set_ne fun z => hj (by rw [z]; exact List.mem_cons_self ..)
    · cases z
  | tup h =>
    obtain ⟨h1, h2⟩ := sts_each (env := X.env) h
    refine ⟨fun pins s σ H v u Q I rv ⟨F, st, p, st', r, hd, e, q⟩ => ?_⟩
    unfold bindT at e
    rw [if_neg Bool.false_ne_true] at e
    split at e
    · rename_i xs
      split at e
      · rename_i hl
        rw [bind_setAll] at e
        cases e
        refine (pg_tup hc (pgs_ns hN h) h1 h2).run pins s σ H v u Q I rv ?_
        rcases hd with hd | ⟨_, a, vs, ps, e1, (⟨e2, e3⟩ | ⟨e2, e3⟩), t2⟩
        · cases hd with
          | tup t1 t2 => exact ⟨_, _, rfl, (t1.same r.le).sq, (dpl_len t2).trans hl, gNs_ok r t2 ((dpl_len t2).trans hl) q⟩
        · cases e2
          exact ⟨a, vs, e1, .inl (.inl e3), (dpl_len t2).trans hl, gNs_ok r t2 ((dpl_len t2).trans hl) q⟩
        · cases e2
      · cases e
    · rename_i xs
      split at e
      · rename_i hl
        rw [bind_setAll] at e
        cases e
        refine (pg_lst hc (pgs_ns hN h) h1 h2).run pins s σ H v u Q I rv ?_
        rcases hd with hd | ⟨_, a, vs, ps, e1, (⟨e2, e3⟩ | ⟨e2, e3⟩), t2⟩
        · cases hd with
          | lst t1 t2 => exact ⟨_, _, rfl, .inl (.inl (r.le _ _ t1)), (dpl_len t2).trans hl, gNs_ok r t2 ((dpl_len t2).trans hl) q⟩
        · cases e2
        · cases e2
          exact ⟨a, vs, e1, .inl (.inl e3), (dpl_len t2).trans hl, gNs_ok r t2 ((dpl_len t2).trans hl) q⟩
      · cases e
    · cases e
theorem ms_asgT {tg : Expr} {is : List Nat} (hc : X.calm = true) (hN : X.N.Nodup) (h : TgOk X tg is false) (hn : noComp e = true) (hw : swappedStores [tg] e X.env = pure none) (he : PE X e (tE X.K C ma)) : PS X (.Assign [tg] e pos) (tS X.K C (.asgT is ma)) := by
  have h1 : (assignEach [tg] X.env).map (·.2) = [assign tg X.env] := by cases h; rfl
  refine ps_mono (ps_asg he (pg_T hc hN h) (sw_no hn) hw h1) fun D σ H ⟨F, st, o, st', r, e, q⟩ => ?_
  simp only [exS, Option.bind_eq_some_iff, Option.map_eq_some_iff] at e
  obtain ⟨qa, ea, d, ed, p, ep, s, es, e⟩ := e
  cases e
  refine ⟨F, st, qa.1, qa.2, r, ea, fun v F1 H1 ra => ?_⟩
  cases d with
  | py p' =>
    cases ep
    have hd : DnW X.K F1 H1 false v p := by
      have z := ra.rel.rd ra.go.rel ed
      cases p with
      | tuple xs =>
        rcases z with z | ⟨_, _, z⟩
        · exact .inl z
        · exact z.elim
      | list xs =>
        rcases z with z | ⟨a, e, vs, k1, k2⟩
        · exact .inl z
        · exact .inr ⟨rfl, a, vs, xs, e, .inr ⟨rfl, k1⟩, k2⟩
      | _ => unfold bindT at es; cases es
    exact ⟨F1, qa.2, p, _, ra.go.rel, hd, es, fun σ' g _ => q _ _ _ (ra.go.trans g)⟩
  | _ => cases ep
end
end Mi
end
section
/-! Mi15: lists that are changed, several names at once, loops. -/
namespace Mi
open PySem PySem.Spec
open PyProof.Rows hiding St Fr
open L2

section
variable {X : Cx} {e a b c : Expr} {es : List Expr} {pos : Pos} {C : Ct} {ma mb mc : Ex} {ms ms2 : Exs} {k : Nat} {st : Stmt} {rest sts sts2 : List Stmt} {s : S} {ss ss2 : Ss} {m : T}
theorem ms_app {x : Str} {i : Nat} {p apos cpos : Pos} (h : NameOk X.N X.env.scope x i) (ha : PE X a (tE X.K C ma)) (hs : noStar a = true) (hline : (apos.endLine == cpos.line) = true) :
    PS X (.Expr (.Call (.Attribute (.Name x p) "append" apos) [a] [] cpos) pos) (tS X.K C (.app i ma)) := by
  have pe := pe_bmG (X := X) PySem.F.plainAttrs_list PySem.F.slot_list_append PySem.F.type_list_append mt_append (pe_var (pos := p) h.ix h.vis h.d1 h.d2) (pa_cons ha pa_nil (star_cons hs)) base_name (by simp [noStars, hs]) (by simp) hline
  refine ps_mono (ps_expr pe (sw_no rfl)) fun D σ H ⟨F, st, o, st', r, e, q⟩ => ?_
  simp only [exS, Option.bind_eq_some_iff] at e
  obtain ⟨m0, em0, qa, ea, d, ed, p0, ep, m, em, e⟩ := e
  obtain ⟨a0, h1, h2⟩ := lstAt_tyG (v := .non) r em0
  refine ⟨_, h1, h2, F, st, qa.1, qa.2, r, ea, fun v F1 H1 ra => ?_⟩
  split at e
  · rename_i hl
    cases e
    obtain ⟨F2, s1, g2, hd⟩ := keep_one ra.go (Same.refl _) ra.rel ra.fro ed
    obtain ⟨s, a1, vs, g1, g2', g3, g4, g5, g6⟩ := lstAt_ok g2.rel em
    rw [h1] at g4; cases g4
    cases d <;> cases ep
    have gp := g2.rel.put g1 g2' (g3 _) h1 (dpl_app g6 (.cons hd .nil))
    have hz : vs.length < sizeLine := by
      have hs : sizeLine = 16777216 := sizeLine_eq
      have := dpl_len g6
      unfold lim at hl
      omega
    exact ⟨a0, vs, v, rfl, rfl, g5, hz, q _ _ _ (g2.trans gp)⟩
  · cases e
theorem ms_ext {x : Str} {i : Nat} {p apos cpos : Pos} (h : NameOk X.N X.env.scope x i) (ha : PE X a (tE X.K C ma)) (hs : noStar a = true) (hline : (apos.endLine == cpos.line) = true) :
    PS X (.Expr (.Call (.Attribute (.Name x p) "extend" apos) [a] [] cpos) pos) (tS X.K C (.ext i ma)) := by
  have pe := pe_bmG (X := X) PySem.F.plainAttrs_list PySem.F.slot_list_extend PySem.F.type_list_extend mt_extend (pe_var (pos := p) h.ix h.vis h.d1 h.d2) (pa_cons ha pa_nil (star_cons hs)) base_name (by simp [noStars, hs]) (by simp) hline
  refine ps_mono (ps_expr pe (sw_no rfl)) fun D σ H ⟨F, st, o, st', r, e, q⟩ => ?_
  simp only [exS, Option.bind_eq_some_iff] at e
  obtain ⟨m0, em0, qa, ea, d, ed, m, em, e⟩ := e
  obtain ⟨a0, h1, h2⟩ := lstAt_tyG (v := .non) r em0
  refine ⟨_, h1, h2, F, st, qa.1, qa.2, r, ea, fun v F1 H1 ra => ?_⟩
  split at e
  · rename_i ys
    split at e
    · rename_i hl
      cases e
      obtain ⟨b0, us, rfl, hb1, hb2⟩ := (ra.rel.rd ra.go.rel ed).list ra.go.rel.le
      obtain ⟨s, a1, vs, g1, g2', g3, g4, g5, g6⟩ := lstAt_ok ra.go.rel em
      rw [h1] at g4; cases g4
      have gp := ra.go.rel.put g1 g2' (g3 _) h1 (dpl_app g6 hb2)
      have hz : vs.length + us.length ≤ sizeLine := by
        have hs : sizeLine = 16777216 := sizeLine_eq
        have := dpl_len g6
        have := dpl_len hb2
        unfold lim at hl
        omega
      exact ⟨a0, b0, vs, us, rfl, rfl, g5, hb1, hz, q _ _ _ (ra.go.trans gp)⟩
    · cases e
  · cases e
theorem swS_no {e t : Expr} {l : Nat} {env : Env} (h : noComp e = true) : swapsWithSole [t] e l env = pure false := by
  unfold swapsWithSole
  exact sw_no h
theorem asg_sub {o i : Expr} {p : Pos} {env : Env} (hs : noSlice i = true) : ∀ v, assign (.Subscript o i p) env v = (do
      let ov ← holding [v] (eval o env)
      let iv ← holding [v, ov] (eval i env)
      standAt p
      holding [v, ov, iv] (setItem ov iv v)
      release [v, ov, iv] []) := by
  intro v
  cases i <;> first | rfl | cases hs
/-- o[i] = v: a list or a dict that is owned -/
def rSetO (K : PySem.W.Frag) : TSet := fun o i v H Q => ∃ F a d dk p d', o = .ref a ∧ Same F H ∧ OwnAt K F H a d ∧ RdR K F H i dk ∧ Dn K F v p ∧ putO d dk p = some d' ∧ ∀ o', OwnAt K F (upd H a o') a d' → Q (upd H a o')
theorem set_ok (hr : Room k X.A) : PSet X (rSetO X.K) := by
  intro pins s σ H o i v ov iv u Q I ro ri rv h
  obtain ⟨F, a, d, dk, p, d', rfl, le, ho, hk, hp, e, q⟩ := h
  unfold putO at e
  split at e
  · rename_i xs kn
    rw [Option.map_eq_some_iff] at e
    obtain ⟨j, ej, rfl⟩ := e
    obtain ⟨vs, h1, h2⟩ := ho
    obtain rfl := hk.int
    exact set_list pins s σ H _ _ v ov iv u Q I ro ri rv ⟨a, vs, kn, j, rfl, rfl, h1, by rw [dpl_len h2]; exact ej, q _ ⟨_, upd_same, dpl_set hp j h2⟩⟩
  · rename_i kvs x
    rw [Option.bind_eq_some_iff] at e
    obtain ⟨kk, ek, e⟩ := e
    split at e
    · rename_i hl
      cases e
      obtain ⟨vs, h1, h2⟩ := ho
      obtain rfl := dn_key (hk.dn le) ek
      cases ro
      have hu : X.A.units + 1 < cLine := by
        have := hr.units
        omega
      have hz : vs.length < sizeLine := by
        have hs : sizeLine = 16777216 := sizeLine_eq
        have := dkv_len h2
        unfold lim at hl
        omega
      exact d_setItem hu I (DPut.k (v := v) h1 hz) ri rv fun s' I' => ⟨_, I', q _ ⟨_, upd_same, dkv_put kk hp h2⟩⟩
    · cases e
  · cases e
theorem ms_setI {x : Str} {i : Nat} {p sp : Pos} (hr : Room k X.A) (h : NameOk X.N X.env.scope x i) (hs : noSlice b = true) (hn : noComp a = true) (ha : PE X a (tE X.K C ma)) (hb : PE X b (tE X.K C mb)) :
    PS X (.Assign [.Subscript (.Name x p) b sp] a pos) (tS X.K C (.setI i mb ma)) := by
  refine ps_mono (ps_asg ha (pg_sub (pe_var h.ix h.vis h.d1 h.d2) hb (set_ok hr) (asg_sub hs)) (swS_no hn) rfl rfl) fun D σ H ⟨F, st, o, st', r, e, q⟩ => ?_
  simp only [exS, Option.bind_eq_some_iff, Option.map_eq_some_iff] at e
  obtain ⟨qa, ea, d, ed, p0, ep, m0, em0, qk, ek, kd, ekd, m, em, d', ed', e⟩ := e
  cases e
  refine ⟨F, st, qa.1, qa.2, r, ea, fun v F1 H1 ra => ?_⟩
  obtain ⟨F2, s1, g2, hd⟩ := keep_one ra.go (Same.refl _) ra.rel ra.fro ed
  obtain ⟨s0, a0, k1, k2, k3, k4, k5⟩ := objAt_ok g2.rel em0
  refine ⟨_, k4, F2, qa.2, qk.1, qk.2, g2.rel, ek, fun w F3 H3 rk => ?_⟩
  obtain ⟨s, a1, g1, g2', g3, g4, g5⟩ := objAt_ok rk.go.rel em
  rw [k4] at g4; cases g4
  cases d <;> cases ep
  exact ⟨F3, a0, _, kd, _, d', rfl, rk.go.rel.le, g5, rk.rel.rd rk.go.rel ekd, dp_same rk.go.stp.fr _ _ hd, ed', fun o' ho => q _ _ _ ((g2.trans rk.go).trans (rk.go.rel.putO g1 g2' (g3 _) k4 ho))⟩
/-- two tuples of names take a pair of tuples -/
theorem ms_asgTT {tg1 tg2 : Expr} {is js : List Nat} {tk : Nat} {tp : Pos} (hc : X.calm = true) (hN : X.N.Nodup) (h1 : TgOk X tg1 is false) (h2 : TgOk X tg2 js false) (hn : noComp a = true) (hw : swappedStores [.Tuple [tg1, tg2] tk tp] a X.env = pure none) (ha : PE X a (tE X.K C ma)) :
    PS X (.Assign [.Tuple [tg1, tg2] tk tp] a pos) (tS X.K C (.asgTT is js ma)) := by
  have w1 : ∃ es k p, tg1 = .Tuple es k p := by cases h1; exact ⟨_, _, _, rfl⟩
  have w2 : ∃ es k p, tg2 = .Tuple es k p := by cases h2; exact ⟨_, _, _, rfl⟩
  obtain ⟨es1, k1, p1, rfl⟩ := w1
  obtain ⟨es2, k2, p2, rfl⟩ := w2
  have pgs := pgs_cons (pg_T hc hN h1) (pgs_cons (pg_T hc hN h2) pgs_nil)
  refine ps_mono (ps_asg ha (pg_tup hc pgs) (swS_no hn) hw rfl) fun D σ H ⟨F, st, o, st', r, e, q⟩ => ?_
  simp only [exS, Option.bind_eq_some_iff] at e
  obtain ⟨qa, ea, d, ed, e⟩ := e
  refine ⟨F, st, qa.1, qa.2, r, ea, fun v F1 H1 ra => ?_⟩
  split at e
  · rename_i da db
    simp only [Option.bind_eq_some_iff, Option.map_eq_some_iff] at e
    obtain ⟨s1, e1, s2, e2, e⟩ := e
    cases e
    have z := ra.rel.rd ra.go.rel ed
    rcases z with z | ⟨_, _, z⟩
    · cases z with
      | tup g1 g2 =>
        cases g2 with
        | cons z1 g2 =>
          cases g2 with
          | cons z2 g2 =>
            cases g2
            exact ⟨_, _, rfl, (g1.same ra.go.rel.le).sq, rfl, _, _, rfl, F1, qa.2, da, s1, ra.go.rel, .inl z1, e1, fun σ1 ga _ => ⟨_, _, rfl, F1, s1, db, _, ga.rel, .inl z2, e2, fun σ2 gb _ => ⟨rfl, q _ _ _ ((ra.go.trans ga).trans gb)⟩⟩⟩
    · exact z.elim
  · cases e
/-- x[k], y[l] = a pair -/
theorem ms_asgSS {x y : Str} {i j : Nat} {l : Expr} {ml : Ex} {p sp yp yp2 tp : Pos} {tk : Nat} (hr : Room k X.A) (hc : X.calm = true) (h : NameOk X.N X.env.scope x i) (hy : NameOk X.N X.env.scope y j) (hs : noSlice b = true) (hs2 : noSlice l = true) (hn : noComp a = true) (hw : swappedStores [.Tuple [.Subscript (.Name x p) b sp, .Subscript (.Name y yp) l yp2] tk tp] a X.env = pure none)
    (ha : PE X a (tE X.K C ma)) (hb : PE X b (tE X.K C mb)) (hl : PE X l (tE X.K C ml)) :
    PS X (.Assign [.Tuple [.Subscript (.Name x p) b sp, .Subscript (.Name y yp) l yp2] tk tp] a pos) (tS X.K C (.asgSS i mb j ml ma)) := by
  have pgs := pgs_cons (X := X) (pg_sub (pos := sp) (pe_var (pos := p) h.ix h.vis h.d1 h.d2) hb (set_ok hr) (asg_sub hs)) (pgs_cons (pg_sub (pos := yp2) (pe_var (pos := yp) hy.ix hy.vis hy.d1 hy.d2) hl (set_ok hr) (asg_sub hs2)) pgs_nil)
  refine ps_mono (ps_asg ha (pg_tup hc pgs) (swS_no hn) hw rfl) fun D σ H ⟨F, st, o, st', r, e, q⟩ => ?_
  simp only [exS, Option.bind_eq_some_iff] at e
  obtain ⟨qa, ea, d, ed, e⟩ := e
  refine ⟨F, st, qa.1, qa.2, r, ea, fun v F1 H1 ra => ?_⟩
  split at e
  · rename_i da db
    simp only [Option.bind_eq_some_iff, Option.map_eq_some_iff] at e
    obtain ⟨m0, em0, qk, ek, kd, ekd, m, em, d1, ed1, n0, en0, ql, el, ld, eld, m2, em2, d2, ed2, e⟩ := e
    cases e
    have z := ra.rel.rd ra.go.rel ed
    rcases z with z | ⟨_, _, z⟩
    · cases z with
      | tup g1 g2 =>
        cases g2 with
        | cons z1 g2 =>
          cases g2 with
          | cons z2 g2 =>
            cases g2
            obtain ⟨s0, a0, c1, c2, c3, c4, c5⟩ := objAt_ok ra.go.rel em0
            refine ⟨_, _, rfl, (g1.same ra.go.rel.le).sq, rfl, _, _, rfl, _, c4, F1, qa.2, qk.1, qk.2, ra.go.rel, ek, fun w F3 H3 rk => ?_⟩
            obtain ⟨s, a1, t1, t2, t3, t4, t5⟩ := objAt_ok rk.go.rel em
            rw [c4] at t4; cases t4
            refine ⟨F3, a0, _, kd, da, d1, rfl, rk.go.rel.le, t5, rk.rel.rd rk.go.rel ekd, dp_same rk.go.stp.fr _ _ z1, ed1, fun o' ho => ?_⟩
            have gp := rk.go.rel.putO t1 t2 (t3 _) c4 ho
            obtain ⟨s5, a5, v1, v2, v3, v4, v5⟩ := objAt_ok gp.rel en0
            refine ⟨_, _, rfl, _, v4, F3, _, ql.1, ql.2, gp.rel, el, fun w2 F4 H4 rl => ?_⟩
            obtain ⟨s6, a6, u1, u2, u3, u4, u5⟩ := objAt_ok rl.go.rel em2
            rw [v4] at u4; cases u4
            exact ⟨F4, a5, _, ld, db, d2, rfl, rl.go.rel.le, u5, rl.rel.rd rl.go.rel eld, dp_same (rk.go.stp.fr.trans rl.go.stp.fr) _ _ z2, ed2, fun o2 ho2 => ⟨rfl, q _ _ _ ((((ra.go.trans rk.go).trans gp).trans rl.go).trans (rl.go.rel.putO u1 u2 (u3 _) v4 ho2))⟩⟩
    · exact z.elim
  · cases e
/-- x.setdefault(k, e), a statement -/
theorem ms_sdf {x : Str} {i : Nat} {p apos cpos : Pos} (h : NameOk X.N X.env.scope x i) (ha : PE X a (tE X.K C ma)) (hb : PE X b (tE X.K C mb)) (hs : noStar a = true) (hs2 : noStar b = true) (hline : (apos.endLine == cpos.line) = true) :
    PS X (.Expr (.Call (.Attribute (.Name x p) "setdefault" apos) [a, b] [] cpos) pos) (tS X.K C (.sdf i ma mb)) := by
  have m2 : M2 X (.Name x p) "setdefault" apos a b cpos := ⟨base_name, by rw [star_cons hs, star_cons hs2]; simp [starEach, keywordEach, backTo, backToKw], hline, by rw [star_cons hs, star_cons hs2]; rfl⟩
  have pe := pe_dsetd (X := X) (pe_var (pos := p) h.ix h.vis h.d1 h.d2) ha hb m2
  refine ps_mono (ps_expr pe (sw_no rfl)) fun D σ H ⟨F, st, o, st', r, e, q⟩ => ?_
  simp only [exS, Option.bind_eq_some_iff] at e
  obtain ⟨m0, em0, e⟩ := e
  split at e
  · rename_i hm
    simp only [Option.bind_eq_some_iff, Option.map_eq_some_iff] at e
    obtain ⟨qk, ek, kd, ekd, qe, ee, d, ed, p0, ep, m, em, d', ed', e⟩ := e
    cases e
    obtain ⟨s0, a0, k1, k2, k3, k4, k5⟩ := objAt_ok r em0
    have isd : IsD H a0 := by
      obtain ⟨d0, mk⟩ := m0
      cases d0 with
      | dct kvs =>
        obtain ⟨vs, h1, _⟩ := k5
        exact .inl ⟨vs, .inl h1⟩
      | _ => cases hm
    refine ⟨_, k4, a0, rfl, isd, F, st, qk.1, qk.2, r, ek, fun y F1 H1 rk => ⟨F1, qk.2, qe.1, qe.2, rk.go.rel, ee, fun v F2 H2 re => ?_⟩⟩
    obtain ⟨F3, s1, g2, hd⟩ := keep_one re.go (Same.refl _) re.rel re.fro ed
    obtain ⟨s, a1, g1, g2', g3, g4, g5⟩ := objAt_ok g2.rel em
    rw [k4] at g4; cases g4
    cases d <;> cases ep
    have hkey := (rk.rel.rd rk.go.rel ekd)
    obtain ⟨dm, mk⟩ := m
    change OwnAt X.K F3 H2 a0 dm at g5
    change sdfO dm kd _ = some d' at ed'
    unfold sdfO at ed'
    split at ed'
    · rename_i kvs x
      rw [Option.bind_eq_some_iff] at ed'
      obtain ⟨kk, ekk, ed'⟩ := ed'
      split at ed'
      · rename_i hl
        cases ed'
        obtain ⟨vs, h1, h2⟩ := g5
        obtain rfl := dn_key (hkey.dn rk.go.rel.le) ekk
        have hz : vs.length < sizeLine := by
          have hs : sizeLine = 16777216 := sizeLine_eq
          have := dkv_len h2
          unfold lim at hl
          omega
        have gg := rk.go.trans g2
        refine ⟨vs, kk, h1, rfl, hz, fun v' hv' => ?_, fun hn => ?_⟩
        · have is := dkv_some kk h2
          rw [hv'] at is
          have is' : (getK kvs kk).isSome = true := is.symm
          have same : upd H2 a0 (.dK vs) = H2 := by
            funext b
            by_cases e : b = a0
            · subst e; rw [upd_same]; exact h1.symm
            · rw [upd_ne e]
          have gp := g2.rel.putO (o' := .dK vs) (d' := .dct kvs) g1 g2' (g3 _) k4 ⟨vs, upd_same, h2⟩
          rw [same] at gp
          rw [if_pos is'] at q
          exact q _ _ _ (gg.trans gp)
        · have is := dkv_some kk h2
          rw [hn] at is
          have is' : ¬ (getK kvs kk).isSome = true := by rw [← is]; exact Bool.false_ne_true
          have gp := g2.rel.putO (o' := .dK (putK vs kk v)) (d' := .dct (putKd kvs kk _)) g1 g2' (g3 _) k4 ⟨_, upd_same, dkv_put kk hd h2⟩
          rw [if_neg is'] at q
          exact q _ _ _ (gg.trans gp)
      · cases ed'
    · cases ed'
  · cases e
/-- x[k], y = a pair -/
theorem ms_divI {x y : Str} {i j : Nat} {kn : Int} {kk tk : Nat} {p sp tp kp yp : Pos} (hc : X.calm = true) (hN : X.N.Nodup) (h : NameOk X.N X.env.scope x i) (hy : StOk X y j) (hn : noComp a = true) (hw : swappedStores [.Tuple [.Subscript (.Name x p) (.Constant (.int kn) kk kp) sp, .Name y yp] tk tp] a X.env = pure none) (ha : PE X a (tE X.K C ma)) :
    PS X (.Assign [.Tuple [.Subscript (.Name x p) (.Constant (.int kn) kk kp) sp, .Name y yp] tk tp] a pos) (tS X.K C (.divI i kn j ma)) := by
  have pgs := pgs_cons (X := X) (pg_sub (pos := sp) (pe_var (pos := p) h.ix h.vis h.d1 h.d2) (pe_int (i := kn) (j := kk) (pos := kp)) set_list (asg_sub rfl)) (pgs_cons (pg_name (pos := yp) hN hy.ix hy.loc hy.fn) pgs_nil)
  refine ps_mono (ps_asg ha (pg_tup hc pgs) (swS_no hn) hw rfl) fun D σ H ⟨F, st, o, st', r, e, q⟩ => ?_
  simp only [exS, Option.bind_eq_some_iff] at e
  obtain ⟨qa, ea, d, ed, m, em, e⟩ := e
  refine ⟨F, st, qa.1, qa.2, r, ea, fun v F1 H1 ra => ?_⟩
  split at e
  · rename_i da db
    simp only [Option.map_eq_some_iff] at e
    obtain ⟨n, en, e⟩ := e
    cases e
    have z := ra.rel.rd ra.go.rel ed
    rcases z with z | ⟨_, _, z⟩
    · cases z with
      | tup h1 h2 =>
        cases h2 with
        | cons z1 h2 =>
          cases h2 with
          | cons z2 h2 =>
            cases h2
            obtain ⟨s, a1, vs, g1, g2', g3, g4, g5, g6⟩ := lstAt_ok ra.go.rel em
            have gp := ra.go.rel.put g1 g2' (g3 _) g4 (dpl_set z1 n g6)
            have gs := gp.rel.fr (v := _) (i := j) (s := .fr (.py db)) (.inr ⟨_, rfl, z2⟩)
            exact ⟨_, _, rfl, (h1.same ra.go.rel.le).sq, rfl, _, _, rfl, ⟨_, g4, a1, vs, kn, n, rfl, rfl, g5, by rw [dpl_len g6]; exact en, _, _, rfl, rfl, q _ _ _ ((ra.go.trans gp).trans gs)⟩⟩
    · exact z.elim
  · cases e
end

/-! ### several names at once -/
def isFe : Od → Bool
  | .fe _ => true
  | _ => false
/-- what was just made is made apart -/
def FeNd : List V → List Od → Prop
  | v :: vs, o :: os => (isFe o = true → ∀ q ∈ vs.zip os, isFe q.2 = true → q.1 ≠ v) ∧ FeNd vs os
  | _, _ => True
def tN (K : PySem.W.Frag) (C : Ct) (m : Exs) : TA := fun σ H Q => ∃ F st os st', Rel K F st σ H ∧ evs C m st = some (os, st') ∧ ∀ vs F' H', Go K st σ F H st' σ F' H' → ORs K st H F' H' st' σ vs os → FeNd vs os → Q vs H'
section
variable {K : PySem.W.Frag} {F H F0 H0 F1 H1 F2 H2 F' H' : Hp} {st st0 st1 st2 st' : En} {σ σ0 σ1 σ2 σ' : L2.St} {v : V} {od : Od} {d : D} {a : Addr} {i : Nat}
theorem ors_fro : ∀ {vs : List V} {os : List Od}, ORs K st0 H0 F H st σ vs os → ∀ q ∈ vs.zip os, ORel K F H st σ q.1 q.2 ∧ Fro st0 σ H0 q.1 q.2
  | _, _, .nil, q, h => by cases h
  | _, _, .cons h f t, q, hq => by
    rw [List.zip_cons_cons] at hq
    rcases List.mem_cons.mp hq with rfl | hq
    · exact ⟨h, f⟩
    · exact ors_fro t q hq
theorem storeOne {s : Sl} (g : Go K st0 σ0 F0 H0 st σ F H) (h : ORel K F H st σ v od) (f : Fro st0 σ0 H0 v od) (e : od.slot = some s) :
    Go K st0 σ0 F0 H0 (st.set i s) (σ.set i (some v)) F H ∧ ∀ b, Owns (st.set i s) (σ.set i (some v)) b → Owns st σ b ∨ (isFe od = true ∧ v = .ref b) := by
  have r := g.rel
  have own : ∀ b, Owns (st.set i s) (σ.set i (some v)) b → Owns st σ b ∨ (s.owned = true ∧ v = .ref b) := fun b ⟨j, u, h1, h2, h3⟩ => by
    rcases get_set h1 with ⟨e1, e2, hl⟩ | ⟨ne, h1⟩
    · subst e2
      rw [e1, List.getElem?_set_self (by rw [r.len]; exact hl)] at h3
      cases h3
      exact .inr ⟨h2, rfl⟩
    · rw [List.getElem?_set_ne (Ne.symm ne)] at h3
      exact .inl ⟨j, u, h1, h2, h3⟩
  cases od with
  | va d =>
    cases e
    refine ⟨g.trans (r.fr (.inr ⟨d, rfl, h⟩)), fun b hb => (own b hb).elim .inl fun z => ?_⟩
    cases z.1
  | fe d =>
    cases e
    obtain ⟨a, rfl, h1, h2, h3⟩ := h
    obtain ⟨a', e', h4⟩ := f
    cases e'
    exact ⟨Rel.ow g h1 h2 h3 h4, fun b hb => (own b hb).elim .inl fun z => .inr ⟨rfl, z.2⟩⟩
  | pk i => cases e
def setV (σ : L2.St) : List Nat → List V → L2.St
  | i :: is, v :: vs => setV (σ.set i (some v)) is vs
  | _, _ => σ
theorem storeAll : ∀ {is : List Nat} {vs : List V} {os : List Od} {ss : List Sl} {st : En} {σ : L2.St}, Go K st0 σ0 F0 H0 st σ F H → vs.length = os.length → (∀ q ∈ vs.zip os, ORel K F H st σ q.1 q.2 ∧ Fro st0 σ0 H0 q.1 q.2) → FeNd vs os → slots os = some ss → is.length = vs.length →
    Go K st0 σ0 F0 H0 (setSl st is ss) (setV σ is vs) F H
  | [], [], [], _, st, σ, g, _, _, _, e, _ => by cases e; exact g
  | i :: is, v :: vs, o :: os, ss, st, σ, g, hl, h, nd, e, hi => by
    simp only [slots, Option.bind_eq_some_iff, Option.map_eq_some_iff] at e
    obtain ⟨s, es, ss', es', rfl⟩ := e
    obtain ⟨h1, h2⟩ := h (v, o) (by rw [List.zip_cons_cons]; exact List.mem_cons_self ..)
    obtain ⟨g1, own⟩ := storeOne (i := i) g h1 h2 es
    refine storeAll (is := is) g1 (Nat.succ.inj hl) (fun q hq => ?_) nd.2 es' (Nat.succ.inj hi)
    obtain ⟨k1, k2⟩ := h q (by rw [List.zip_cons_cons]; exact List.mem_cons_of_mem _ hq)
    refine ⟨?_, k2⟩
    obtain ⟨w, o2⟩ := q
    cases o2 with
    | va d => exact k1
    | fe d =>
      obtain ⟨a, e, n1, n2, n3⟩ := k1
      refine ⟨a, e, n1, n2, fun z => (own a z).elim n3 fun z => ?_⟩
      exact nd.1 z.1 _ hq rfl (e.trans z.2.symm)
    | pk j =>
      exfalso
      have key : ∀ {vs : List V} {os : List Od} {ss : List Sl} {w : V}, slots os = some ss → (w, Od.pk j) ∈ vs.zip os → False := fun {vs} => by
        induction vs with
        | nil => intro os ss w _ h; simp at h
        | cons v vs ih =>
          intro os ss w e h
          cases os with
          | nil => simp at h
          | cons o os =>
            simp only [slots, Option.bind_eq_some_iff, Option.map_eq_some_iff] at e
            obtain ⟨s, es, ss', es', rfl⟩ := e
            rw [List.zip_cons_cons] at h
            rcases List.mem_cons.mp h with h | h
            · cases h; cases es
            · exact ih es' h
      exact key es' hq
end
section
variable {X : Cx} {e a b c : Expr} {es : List Expr} {pos : Pos} {C : Ct} {ma mb mc : Ex} {ms ms2 : Exs} {k : Nat}
theorem mn_nil : PA X [] (tN X.K C .nil) := pa_mono pa_nil fun σ H Q ⟨F, st, os, st', r, e, q⟩ => by
  cases e
  exact q _ _ _ (Go.refl r) .nil trivial
theorem mn_cons (hs : noStar e = true) (ha : PE X e (tE X.K C ma)) (hr : PA X es (tN X.K C ms)) : PA X (e :: es) (tN X.K C (.cons ma ms)) := pa_mono (pa_cons ha hr (star_cons hs)) fun σ H Q ⟨F, st, os, st', r, e, q⟩ => by
  simp only [evs, Option.bind_eq_some_iff, Option.map_eq_some_iff] at e
  obtain ⟨qa, ea, qr, er, e⟩ := e
  cases e
  refine ⟨F, st, qa.1, qa.2, r, ea, fun v F1 H1 ra => ⟨F1, qa.2, qr.1, qr.2, ra.go.rel, er, fun vs F2 H2 g2 rr nd => q _ _ _ (ra.go.trans g2) (.cons (ra.rel.step g2) ra.fro (rr.back ra.go)) ⟨fun hf p hp hp2 ep => ?_, nd⟩⟩⟩
  obtain ⟨w, o2⟩ := p
  obtain ⟨_, k2⟩ := ors_fro rr _ hp
  have ep : w = v := ep
  subst ep
  have r1 := ra.rel
  cases hq : qa.1 with
  | fe d =>
    rw [hq] at r1
    obtain ⟨a, e1, n1, n2, n3⟩ := r1
    cases o2 with
    | fe d2 =>
      obtain ⟨a', e2, k⟩ := k2
      rw [show w = V.ref a from e1] at e2
      cases e2
      rcases k with k | k
      · exact n3 k
      · exact n2.live k
    | _ => cases hp2
  | _ => rw [hq] at hf; cases hf
theorem ma_of_mn (h : PA X es (tN X.K C ms)) : PA X es (tA X.K C ms) := pa_mono h fun σ H Q ⟨F, st, os, st', r, e, q⟩ => ⟨F, st, os, st', r, e, fun vs F' H' g rr _ => q vs F' H' g rr⟩
theorem mset {D : Ends} {σ : L2.St} {H : Hp} {is : List Nat} (h : tS X.K C (.par is ms) D σ H) : tN X.K C ms σ H fun vs H1 => vs.length = is.length ∧ D.nx (setV σ is vs) H1 := by
  obtain ⟨F, st, o, st', r, e, q⟩ := h
  simp only [exS, Option.bind_eq_some_iff] at e
  obtain ⟨qa, ea, ss, es, e⟩ := e
  refine ⟨F, st, qa.1, qa.2, r, ea, fun vs F1 H1 g rr nd => ?_⟩
  split at e
  · rename_i hl
    cases e
    have sl : ∀ {os : List Od} {ss : List Sl}, slots os = some ss → ss.length = os.length := fun {os} => by
      induction os with
      | nil => intro ss e; cases e; rfl
      | cons o os ih =>
        intro ss e
        simp only [slots, Option.bind_eq_some_iff, Option.map_eq_some_iff] at e
        obtain ⟨s, _, ss', es', rfl⟩ := e
        exact congrArg Nat.succ (ih es')
    have l1 : vs.length = is.length := by rw [rr.len, ← sl es, hl]
    exact ⟨l1, q _ _ _ (storeAll g rr.len (ors_fro rr) nd es l1.symm)⟩
  · cases e
theorem ms_par2 {i j : Nat} {x y : Str} {px py pt pt2 : Pos} {kt k2 : Nat} (hc : X.calm = true) (hN : X.N.Nodup) (hi : X.N[i]? = some x) (hj : X.N[j]? = some y) (hij : i ≠ j) (hx : X.env.scope.names.lookup x = some .local) (hy : X.env.scope.names.lookup y = some .local)
    (ha : PA X [a, b] (tN X.K C ms)) (hw : swappedStores [.Tuple [.Name x px, .Name y py] kt pt] (.Tuple [a, b] k2 pt2) X.env = pure (some [x, y])) :
    PS X (.Assign [.Tuple [.Name x px, .Name y py] kt pt] (.Tuple [a, b] k2 pt2) pos) (tS X.K C (.par [i, j] ms)) := by
  refine ps_mono (ps_par hc hN hi hj hij hx hy ha hw) fun D σ H h => ?_
  obtain ⟨F, st, os, st', r, e, q⟩ := mset h
  refine ⟨F, st, os, st', r, e, fun vs F1 H1 g rr nd => ?_⟩
  obtain ⟨l, q⟩ := q vs F1 H1 g rr nd
  match vs, l, q with
  | [v, w], _, q => exact ⟨v, w, rfl, q⟩
theorem ms_par3 {i j l : Nat} {x y z : Str} {px py pz pt pt2 : Pos} {kt k2 : Nat} (hc : X.calm = true) (hN : X.N.Nodup) (hi : X.N[i]? = some x) (hj : X.N[j]? = some y) (hl : X.N[l]? = some z) (hij : i ≠ j) (hil : i ≠ l) (hjl : j ≠ l)
    (hx : X.env.scope.names.lookup x = some .local) (hy : X.env.scope.names.lookup y = some .local) (hz : X.env.scope.names.lookup z = some .local)
    (ha : PA X [a, b, c] (tN X.K C ms)) (hw : swappedStores [.Tuple [.Name x px, .Name y py, .Name z pz] kt pt] (.Tuple [a, b, c] k2 pt2) X.env = pure (some [x, y, z])) :
    PS X (.Assign [.Tuple [.Name x px, .Name y py, .Name z pz] kt pt] (.Tuple [a, b, c] k2 pt2) pos) (tS X.K C (.par [i, j, l] ms)) := by
  refine ps_mono (ps_par3 hc hN hi hj hl hij hil hjl hx hy hz ha hw) fun D σ H h => ?_
  obtain ⟨F, st, os, st', r, e, q⟩ := mset h
  refine ⟨F, st, os, st', r, e, fun vs F1 H1 g rr nd => ?_⟩
  obtain ⟨l, q⟩ := q vs F1 H1 g rr nd
  match vs, l, q with
  | [v, w, u], _, q => exact ⟨v, w, u, rfl, q⟩
end
/-! ### several names at once, by way of a pair -/
theorem gNs_set {Q : L2.St → Hp → Prop} : ∀ {is : List Nat} {vs : List V} {σ : L2.St} {H : Hp}, vs.length = is.length → Q (setV σ is vs) H → gNs is vs σ H Q
  | [], [], _, _, _, q => ⟨rfl, q⟩
  | i :: is, v :: vs, σ, H, hl, q => ⟨v, vs, rfl, gNs_set (is := is) (vs := vs) (σ := σ.set i (some v)) (Nat.succ.inj hl) q⟩
theorem New.tmp {K : PySem.W.Frag} {F H : Hp} {T : Addr} {u : HO} (le : Same F H) (h1 : H T = none) : New F H F (upd H T u) := by
  refine ⟨Same.refl F, fun a o h => ?_, fun a o h => ?_, fun a h => .inl h⟩
  · rw [upd_ne (ne_of_none h h1)]; exact h
  · rw [upd_ne (ne_of_none (le a o h) h1)]; exact le a o h
theorem ms_parT {X : Cx} {C : Ct} {ts es : List Expr} {is : List Nat} {ms : Exs} {kt k2 : Nat} {pt pt2 pos : Pos} (hc : X.calm = true) (hN : X.N.Nodup) (ht : StsOk X ts is) (ha : PA X es (tN X.K C ms)) (few : is.length < 100) (hw : swappedStores [.Tuple ts kt pt] (.Tuple es k2 pt2) X.env = pure none) :
    PS X (.Assign [.Tuple ts kt pt] (.Tuple es k2 pt2) pos) (tS X.K C (.par is ms)) := by
  obtain ⟨h1, h2⟩ := sts_each (env := X.env) ht
  refine ps_mono (ps_asg (pe_tup ha) (pg_tup hc (pgs_ns hN ht) h1 h2) (swS_no rfl) hw rfl) fun D σ H ⟨F, st, o, st', r, e, q⟩ => ?_
  simp only [exS, Option.bind_eq_some_iff] at e
  obtain ⟨qa, ea, ss, es', e⟩ := e
  refine ⟨F, st, qa.1, qa.2, r, ea, fun vs F1 H1 g rr nd => ?_⟩
  split at e
  · rename_i hl
    cases e
    have sl : ∀ {os : List Od} {ss : List Sl}, slots os = some ss → ss.length = os.length := fun {os} => by
      induction os with
      | nil => intro ss e; cases e; rfl
      | cons o os ih =>
        intro ss e
        simp only [slots, Option.bind_eq_some_iff, Option.map_eq_some_iff] at e
        obtain ⟨s, _, ss', es2, rfl⟩ := e
        exact congrArg Nat.succ (ih es2)
    have l1 : vs.length = is.length := by rw [rr.len, ← sl es', hl]
    have z : vs.length ≤ sizeLine := by
      have hs : sizeLine = 16777216 := sizeLine_eq
      omega
    refine ⟨z, fun T hT => ⟨T, vs, rfl, .inl (.inl upd_same), l1, gNs_set l1 ?_⟩⟩
    have nw := New.tmp (K := X.K) (u := .tup vs) g.rel.le hT
    have gn := nw.go g.rel
    have rr2 := rr.step gn
    exact q _ _ _ (storeAll (g.trans gn) rr.len (ors_fro rr2) nd es' l1.symm)
  · cases e
end Mi
end
section
/-! Mi16: loops. -/
namespace Mi
open PySem PySem.Spec
open PyProof.Rows hiding St Fr
open L2

/-- what a loop walks, as data -/
def WalkD (K : PySem.W.Frag) (F : Hp) (J : It) (one : Bool) (xs : List PyData) : Prop := ∃ (G : Hp → Prop) (Y : Nat → Hp → V → Hp → Prop), Walk J xs.length G Y ∧ (∀ F' H, Same F F' → Same F' H → G H) ∧
  ∀ i F' x H H', i < xs.length → Same F F' → Same F' H → Y i H x H' → ∃ p, xs[i]? = some p ∧ New F' H F' H' ∧ DnW K F' H' one x p
def tI (K : PySem.W.Frag) (C : Ct) (one : Bool) (m : I) : TI := fun σ H R => ∃ F st xs st', Rel K F st σ H ∧ evI C m st = some (xs, st') ∧ ∀ J F' H', Go K st σ F H st' σ F' H' → WalkD K F' J one xs → R J H'
section
variable {X : Cx} {e a b c : Expr} {es : List Expr} {pos : Pos} {C : Ct} {ma mb mc : Ex} {ms ms2 : Exs} {k : Nat} {st : Stmt} {rest sts sts2 : List Stmt} {s : S} {ss ss2 : Ss} {m : T} {it : I}
theorem ms_while (hp : PassesOwn (model X.prog X.w) X.A X.env X.xe) (hc : PT X c (tT X.K C m)) (hb : PSs X sts (tSs X.K C ss)) : PS X (.While c sts [] pos) (tS X.K C (.whl m ss)) := ps_mono (ps_while hp hc hb) fun D σ H ⟨F, st, o, st', r, e, q⟩ => by
  refine ⟨fun n σ1 H1 => ∃ F1 st1, Go X.K st σ F H st1 σ1 F1 H1 ∧ whL (evT C m) (exs C ss) n st1 = some (o, st'), ⟨C.fuel, F, st, Go.refl r, e⟩, fun n σ1 H1 ⟨F1, st1, g1, e1⟩ => ?_⟩
  cases n with
  | zero => cases e1
  | succ n =>
    simp only [whL, Option.bind_eq_some_iff] at e1
    obtain ⟨qc, ec, e1⟩ := e1
    refine ⟨F1, st1, qc.1, qc.2, g1.rel, ec, fun F2 H2 g2 => ?_⟩
    cases h : qc.1 with
    | false =>
      rw [h, if_neg Bool.false_ne_true] at e1
      cases e1
      exact iteF (q _ _ _ (g1.trans g2))
    | true =>
      rw [h, if_pos rfl, Option.bind_eq_some_iff] at e1
      obtain ⟨⟨o1, st2⟩, e2, e1⟩ := e1
      refine iteT ⟨_, fun σ' H' hN => ⟨n, Nat.lt_succ_self n, hN⟩, F2, qc.2, o1, st2, g2.rel, e2, fun σ3 F3 H3 g3 => ?_⟩
      have g := (g1.trans g2).trans g3
      cases o1 with
      | nx => exact ⟨F3, st2, g, e1⟩
      | cont => exact ⟨F3, st2, g, e1⟩
      | brk => cases e1; exact q _ _ _ g
      | rt d b => cases e1; exact EndR.back (g1.trans g2) (q _ _ _ g)
theorem pi_mono {X : Cx} {tg iter : Expr} {wi wi' : TI} (h : PI X tg iter wi) (w : ∀ σ H R, wi' σ H R → wi σ H R) : PI X tg iter wi' := ⟨fun pins s σ H R I q => h.run pins s σ H R I (w σ H R q)⟩
theorem foldS {e : Expr} {env : Env} (h : noSet e = true) : ∀ x, foldedSetIterable e env x = pure x := by
  intro x
  cases e <;> first | rfl | cases h
theorem ms_for {tg iter : Expr} {is : List Nat} {one : Bool} (hp : PassesOwn (model X.prog X.w) X.A X.env X.xe) (hc : X.calm = true) (hN : X.N.Nodup) (ht : TgOk X tg is one) (hi : PI X tg iter (tI X.K C one it)) (hs : noSet iter = true) (hb : PSs X sts (tSs X.K C ss)) :
    PS X (.For tg iter sts [] pos) (tS X.K C (.fr is one it ss)) := ps_mono (ps_for hp hc hi (pg_T hc hN ht) hb (foldS hs)) fun D σ H ⟨F, st, o, st', r, e, q⟩ => by
  simp only [exS, Option.bind_eq_some_iff] at e
  obtain ⟨qi, ei, e⟩ := e
  refine ⟨F, st, qi.1, qi.2, r, ei, fun J F1 H1 g1 ⟨G, Y, w, hG, hY⟩ => ?_⟩
  refine for_it w (fun i σ' H' => ∃ Fi sti, Go X.K qi.2 σ F1 H1 sti σ' Fi H' ∧ frL (fun x s => (bindT is one x s).bind (exs C ss)) (qi.1.drop i) sti = some (o, st')) ⟨F1, qi.2, Go.refl g1.rel, e⟩ (fun i σ' H' _ ⟨Fi, sti, g, _⟩ => hG Fi H' g.stp.fr g.rel.le) (fun i x σ' H' H2 hlt ⟨Fi, sti, g, ef⟩ hy => ?_) (fun σ' H' ⟨Fi, sti, g, ef⟩ => ?_)
  · obtain ⟨p, hp, nw, hd⟩ := hY i Fi x H' H2 hlt g.stp.fr g.rel.le hy
    have ed : qi.1.drop i = p :: qi.1.drop (i + 1) := by
      rw [List.drop_eq_getElem_cons hlt]
      rw [List.getElem?_eq_getElem hlt] at hp
      cases hp
      rfl
    rw [ed] at ef
    simp only [frL, Option.bind_eq_some_iff] at ef
    obtain ⟨⟨o1, s3⟩, ⟨s2, eb, ex⟩, ef⟩ := ef
    have gn := nw.go g.rel
    refine ⟨Fi, sti, p, s2, gn.rel, hd, eb, fun σ3 g3 _ => ⟨Fi, s2, o1, s3, g3.rel, ex, fun σ4 F4 H4 g4 => ?_⟩⟩
    have gg := ((g.trans gn).trans g3).trans g4
    cases o1 with
    | nx => exact ⟨F4, s3, gg, ef⟩
    | cont => exact ⟨F4, s3, gg, ef⟩
    | brk => cases ef; exact q _ _ _ (g1.trans gg)
    | rt d b => cases ef; exact EndR.back (((g1.trans g).trans gn).trans g3) (q _ _ _ (g1.trans gg))
  · rw [List.drop_length] at ef
    cases ef
    exact q _ _ _ (g1.trans g)
/-! ### what is walked -/
theorem walkD_list {K : PySem.W.Frag} {F : Hp} {p : Addr} {vs : List V} {xs : List PyData} {one : Bool} (h : F p = some (.lst vs)) (hd : DnAll K F vs xs) : WalkD K F (Itl K p) one xs := by
  refine ⟨fun H => SqL K H p vs, _, by rw [← dpl_len hd]; exact walk_list (K := K) (a := p) (xs := vs), fun F' H s1 s2 => .inl (.inl (s2 _ _ (s1 _ _ h))), fun i F' x H H' hi s1 s2 hy => ?_⟩
  obtain ⟨rfl, hy⟩ := hy
  obtain ⟨q, h1, h2⟩ := dpl_get' hd hy
  exact ⟨q, h1, New.refl s2, .inl (dp_same s1 _ _ h2)⟩
theorem walkD_tup {K : PySem.W.Frag} {F : Hp} {p : Addr} {vs : List V} {xs : List PyData} {one : Bool} (h : Tp K F p vs) (hd : DnAll K F vs xs) : WalkD K F (Itt K p) one xs := by
  refine ⟨fun H => SqT K H p vs, _, by rw [← dpl_len hd]; exact walk_tup (K := K) (a := p) (xs := vs), fun F' H s1 s2 => ((h.same s1).same s2).sq, fun i F' x H H' hi s1 s2 hy => ?_⟩
  obtain ⟨rfl, hy⟩ := hy
  obtain ⟨q, h1, h2⟩ := dpl_get' hd hy
  exact ⟨q, h1, New.refl s2, .inl (dp_same s1 _ _ h2)⟩
theorem rngL_len (lo : Int) (n : Nat) : (rngL lo n).length = n := by unfold rngL; rw [List.length_map, List.length_range]
theorem walkD_rng {K : PySem.W.Frag} {F : Hp} {lo : Int} {n : Nat} {one : Bool} : WalkD K F (Itr lo n) one (rngL lo n) := by
  refine ⟨_, _, by rw [rngL_len]; exact walk_range (lo := lo) (n := n), fun _ _ _ _ => trivial, fun i F' x H H' hi s1 s2 hy => ?_⟩
  obtain ⟨rfl, rfl⟩ := hy
  rw [rngL_len] at hi
  refine ⟨.int (lo + i), ?_, New.refl s2, .inl (Dn.int _)⟩
  unfold rngL
  rw [List.getElem?_map, List.getElem?_range hi] <;> rfl
theorem mi_v {tg : Expr} {one : Bool} (ha : PE X a (tE X.K C ma)) : PI X tg a (tI X.K C one (.v ma)) := ⟨fun pins s σ H R I ⟨F, st, xs, st', r, e, q⟩ => by
  simp only [evI, Option.bind_eq_some_iff] at e
  obtain ⟨qa, ea, d, ed, e⟩ := e
  split at e
  · rename_i ys
    cases e
    refine (pi_list ha).run pins s σ H R I ⟨F, st, qa.1, qa.2, r, ea, fun v F1 H1 ra => ?_⟩
    obtain ⟨F2, s1, g2, hd⟩ := keep_one ra.go (Same.refl _) ra.rel ra.fro ed
    cases hd with
    | lst h1 h2 => exact ⟨_, rfl, ⟨_, .inl (.inl (g2.rel.le _ _ h1))⟩, q _ F2 _ g2 (walkD_list h1 h2)⟩
  · rename_i ys
    cases e
    refine (pi_tup ha).run pins s σ H R I ⟨F, st, qa.1, qa.2, r, ea, fun v F1 H1 ra => ?_⟩
    obtain ⟨F2, s1, g2, hd⟩ := keep_one ra.go (Same.refl _) ra.rel ra.fro ed
    cases hd with
    | tup h1 h2 => exact ⟨_, rfl, ⟨_, (h1.same g2.rel.le).sq⟩, q _ F2 _ g2 (walkD_tup h1 h2)⟩
  · cases e⟩
theorem okR_lim {i : Int} (h : okR i = true) : -(2 ^ 62) ≤ i ∧ i < 2 ^ 62 := by
  unfold okR at h
  simp only [Bool.and_eq_true, decide_eq_true_eq] at h
  omega
theorem evs_one {st : En} {q : List Od × En} (h : evs C ms st = some q) : True := trivial
theorem mi_rng1 {tg : Expr} {one : Bool} {p : Pos} (gl : Gl X "range") (hm : X.mg "range" = none) (hs : noStar a = true) (ha : PA X [a] (tA X.K C ms)) (hl : ∀ st os st', evs C ms st = some (os, st') → os.length = 1) : PI X tg (.Call (.Name "range" p) [a] [] pos) (tI X.K C one (.rng ms)) :=
  pi_mono (pi_range1 gl hm ha (star_cons hs)) fun σ H R ⟨F, st, xs, st', r, e, q⟩ => by
    simp only [evI, Option.bind_eq_some_iff, Option.map_eq_some_iff] at e
    obtain ⟨qa, ea, ds, ed, ys, ey, e⟩ := e
    cases e
    refine ⟨F, st, qa.1, qa.2, r, ea, fun vs F1 H1 g rr => ?_⟩
    have n1 := rr.len.trans (hl _ _ _ ea)
    have rd := rr.rds g.rel ed
    match vs, rd, n1 with
    | [v], .cons h1 .nil, _ =>
      unfold rngD at ey
      split at ey
      · rename_i j hz
        cases hz
        split at ey
        · rename_i ok
          cases ey
          obtain rfl := h1.int
          exact ⟨_, rfl, (okR_lim ok).1, (okR_lim ok).2, q _ F1 _ g walkD_rng⟩
        · cases ey
      · rename_i hz; cases hz
      · cases ey
theorem mi_rng2 {tg : Expr} {one : Bool} {p : Pos} (gl : Gl X "range") (hm : X.mg "range" = none) (hs : noStar a = true) (hs2 : noStar b = true) (ha : PA X [a, b] (tA X.K C ms)) (hl : ∀ st os st', evs C ms st = some (os, st') → os.length = 2) : PI X tg (.Call (.Name "range" p) [a, b] [] pos) (tI X.K C one (.rng ms)) :=
  pi_mono (pi_range2 gl hm ha (by rw [star_cons hs, star_cons hs2] <;> rfl) (star_cons hs2)) fun σ H R ⟨F, st, xs, st', r, e, q⟩ => by
    simp only [evI, Option.bind_eq_some_iff, Option.map_eq_some_iff] at e
    obtain ⟨qa, ea, ds, ed, ys, ey, e⟩ := e
    cases e
    refine ⟨F, st, qa.1, qa.2, r, ea, fun vs F1 H1 g rr => ?_⟩
    have n1 := rr.len.trans (hl _ _ _ ea)
    have rd := rr.rds g.rel ed
    match vs, rd, n1 with
    | [v, w], .cons h1 (.cons h2 .nil), _ =>
      unfold rngD at ey
      split at ey
      · rename_i hz; cases hz
      · rename_i i j hz
        cases hz
        split at ey
        · rename_i ok
          cases ey
          rw [Bool.and_eq_true] at ok
          obtain rfl := h1.int
          obtain rfl := h2.int
          exact ⟨_, _, rfl, ⟨(okR_lim ok.1).1, (okR_lim ok.1).2, (okR_lim ok.2).1, (okR_lim ok.2).2⟩, q _ F1 _ g walkD_rng⟩
        · cases ey
      · cases ey
theorem enuL_len : ∀ (k : Nat) (xs : List PyData), (enuL k xs).length = xs.length
  | _, [] => rfl
  | k, _ :: xs => congrArg Nat.succ (enuL_len (k + 1) xs)
theorem enuL_get : ∀ (xs : List PyData) (k i : Nat) (p : PyData), xs[i]? = some p → (enuL k xs)[i]? = some (.tuple [.int ((k + i : Nat) : Int), p])
  | [], _, i, p, h => by simp at h
  | x :: xs, k, 0, p, h => by simp at h; subst h; rfl
  | x :: xs, k, i + 1, p, h => by
    have := enuL_get xs (k + 1) i p (by simpa using h)
    show (enuL (k + 1) xs)[i]? = _
    rw [this, show k + 1 + i = k + (i + 1) by omega]
theorem zipL_len : ∀ (xs ys : List PyData), (zipL xs ys).length = min xs.length ys.length
  | [], ys => by simp [zipL]
  | _ :: _, [] => by simp [zipL]
  | x :: xs, y :: ys => by simp [zipL, zipL_len xs ys]
theorem zipL_get : ∀ (xs ys : List PyData) (i : Nat) (p q : PyData), xs[i]? = some p → ys[i]? = some q → (zipL xs ys)[i]? = some (.tuple [p, q])
  | [], _, i, p, q, h, _ => by simp at h
  | _ :: _, [], i, p, q, _, h => by simp at h
  | x :: xs, y :: ys, 0, p, q, h, h2 => by simp at h h2; subst h h2; rfl
  | x :: xs, y :: ys, i + 1, p, q, h, h2 => by
    have := zipL_get xs ys i p q (by simpa using h) (by simpa using h2)
    exact this
theorem pair_new {K : PySem.W.Frag} {F H H' : Hp} {T : Addr} {x y : V} {p q : PyData} (le : Same F H) (h1 : H T = none) (h2 : H' = upd H T (.tup [x, y])) (hx : Dn K F x p) (hy : Dn K F y q) : New F H F H' ∧ DnW K F H' false (.ref T) (.tuple [p, q]) := by
  subst h2
  refine ⟨⟨Same.refl F, fun a o h => ?_, fun a o h => ?_, fun a h => .inl h⟩, .inr ⟨rfl, T, [x, y], [p, q], rfl, .inl ⟨rfl, upd_same⟩, .cons hx (.cons hy .nil)⟩⟩
  · rw [upd_ne (ne_of_none h h1)]; exact h
  · rw [upd_ne (ne_of_none (le a o h) h1)]; exact le a o h
theorem mi_enu {p tp : Pos} {elts : List Expr} {kk : Nat} (gl : Gl X "enumerate") (hm : X.mg "enumerate" = none) (hs : noStar a = true) (ha : PA X [a] (tA X.K C ms)) : PI X (.Tuple elts kk tp) (.Call (.Name "enumerate" p) [a] [] pos) (tI X.K C false (.enu ms)) :=
  ⟨fun pins s σ H R I ⟨F, st, xs, st', r, e, q⟩ => by
    simp only [evI, Option.bind_eq_some_iff] at e
    obtain ⟨qa, ea, ds, ed, e⟩ := e
    have main : ∀ (J : It) (us : List V) (ys : List PyData) (F2 : Hp) (G : Hp → Prop), Walk J us.length G (YPair (fun i => some (.int (i : Nat))) (fun i => us[i]?)) → DnAll X.K F2 us ys → (∀ F' H, Same F2 F' → Same F' H → G H) → WalkD X.K F2 J false (enuL 0 ys) := by
      intro J us ys F2 G w h2 hG
      refine ⟨_, _, by rw [enuL_len, ← dpl_len h2]; exact w, hG, fun i F' x H H' hi s1 s2 hy => ?_⟩
      obtain ⟨T, x1, y1, rfl, k1, k2, k3, k4⟩ := hy
      cases k3
      obtain ⟨pv, j1, j2⟩ := dpl_get' h2 k4
      obtain ⟨n1, n2⟩ := pair_new s2 k1 k2 (Dn.int (i : Int)) (dp_same s1 _ _ j2)
      exact ⟨_, by rw [enuL_get _ _ _ _ j1, Nat.zero_add], n1, n2⟩
    split at e
    · rename_i ys
      cases e
      refine (pi_enum gl hm ha (star_cons hs)).run pins s σ H R I ⟨F, st, qa.1, qa.2, r, ea, fun vs F1 H1 g rr => ?_⟩
      obtain ⟨F2, s1, g2, hd⟩ := keep_all (fun {_ _ _} => trivial) rr ed (Same.refl _) g
      cases hd with
      | cons hd hn =>
        cases hn
        cases hd with
        | @lst a us _ h1 h2 =>
          exact ⟨a, us, rfl, .inl (.inl (g2.rel.le _ _ h1)), q _ F2 _ g2 (main _ us ys F2 _ (walk_enum (K := X.K) (a := a)) h2 fun F' H s1 s2 => .inl (.inl (s2 _ _ (s1 _ _ h1))))⟩
    · rename_i ys
      cases e
      refine (pi_enuT gl hm ha (star_cons hs)).run pins s σ H R I ⟨F, st, qa.1, qa.2, r, ea, fun vs F1 H1 g rr => ?_⟩
      obtain ⟨F2, s1, g2, hd⟩ := keep_all (fun {_ _ _} => trivial) rr ed (Same.refl _) g
      cases hd with
      | cons hd hn =>
        cases hn
        cases hd with
        | @tup a us _ h1 h2 =>
          exact ⟨a, us, rfl, (h1.same g2.rel.le).sq, q _ F2 _ g2 (main _ us ys F2 _ (walk_enuT (K := X.K) (a := a)) h2 fun F' H s1 s2 => ((h1.same s1).same s2).sq)⟩
    · cases e⟩
theorem walk_zT {K : PySem.W.Frag} {a b : Addr} {xs ys : List V} {n : Nat} (hn : n = min xs.length ys.length) : Walk (RZ.ItzT K a b) n (fun H => SqT K H a xs ∧ SqT K H b ys) (YPair (fun i => xs[i]?) (fun i => ys[i]?)) := by
  subst hn
  constructor
  · intro i H hi q
    have l1 : i < xs.length := by omega
    have l2 : i < ys.length := by omega
    exact ⟨xs, ys, xs[i], ys[i], q.1, q.2, by simp [l1], by simp [l2]⟩
  · intro H q
    exact ⟨xs, ys, q.1, q.2, by omega⟩
  · intro i H v H' hi q hy
    obtain ⟨T, x, y, c1, c2, c3, c4, c5⟩ := hy
    exact ⟨T, x, y, c1, c2, c3, c4 xs q.1, c5 ys q.2⟩
theorem walk_zM {K : PySem.W.Frag} {a b : Addr} {xs ys : List V} {n : Nat} (hn : n = min xs.length ys.length) : Walk (Mz.ItM K a b) n (fun H => SqL K H a xs ∧ SqT K H b ys) (YPair (fun i => xs[i]?) (fun i => ys[i]?)) := by
  subst hn
  constructor
  · intro i H hi q
    have l1 : i < xs.length := by omega
    have l2 : i < ys.length := by omega
    exact ⟨xs, ys, xs[i], ys[i], q.1, q.2, by simp [l1], by simp [l2]⟩
  · intro H q
    exact ⟨xs, ys, q.1, q.2, by omega, by omega, by omega⟩
  · intro i H v H' hi q hy
    obtain ⟨T, x, y, c1, c2, c3, c4, c5⟩ := hy
    exact ⟨T, x, y, c1, c2, c3, c4 xs q.1, c5 ys q.2⟩
theorem mi_zip {p tp : Pos} {elts : List Expr} {kk : Nat} (gl : Gl X "zip") (hm : X.mg "zip" = none) (hs : noStar a = true) (hs2 : noStar b = true) (ha : PA X [a, b] (tA X.K C ms)) : PI X (.Tuple elts kk tp) (.Call (.Name "zip" p) [a, b] [] pos) (tI X.K C false (.zip ms)) :=
  ⟨fun pins s σ H R I ⟨F, st, xs, st', r, e, q⟩ => by
    simp only [evI, Option.bind_eq_some_iff] at e
    obtain ⟨qa, ea, ds, ed, e⟩ := e
    have main : ∀ (J : It) (us ws : List V) (ys zs : List PyData) (F2 : Hp) (G : Hp → Prop), Walk J (min us.length ws.length) G (YPair (fun i => us[i]?) (fun i => ws[i]?)) → DnAll X.K F2 us ys → DnAll X.K F2 ws zs → (∀ F' H, Same F2 F' → Same F' H → G H) → WalkD X.K F2 J false (zipL ys zs) := by
      intro J us ws ys zs F2 G w h2 h4 hG
      refine ⟨_, _, by rw [zipL_len, ← dpl_len h2, ← dpl_len h4]; exact w, hG, fun i F' x H H' hi s1 s2 hy => ?_⟩
      obtain ⟨T, x1, y1, rfl, k1, k2, k3, k4⟩ := hy
      obtain ⟨pv, j1, j2⟩ := dpl_get' h2 k3
      obtain ⟨pw, j3, j4⟩ := dpl_get' h4 k4
      obtain ⟨n1, n2⟩ := pair_new s2 k1 k2 (dp_same s1 _ _ j2) (dp_same s1 _ _ j4)
      exact ⟨_, zipL_get _ _ _ _ _ j1 j3, n1, n2⟩
    split at e
    · rename_i ys zs
      cases e
      refine (RZ.pi_zipA gl hm ha (star_cons hs) (by rw [star_cons hs2] <;> rfl)).run pins s σ H R I ⟨F, st, qa.1, qa.2, r, ea, fun vs F1 H1 g rr => ?_⟩
      obtain ⟨F2, s1, g2, hd⟩ := keep_all (fun {_ _ _} => trivial) rr ed (Same.refl _) g
      cases hd with
      | cons hd hn =>
        cases hn with
        | cons hd2 hn =>
          cases hn
          cases hd with
          | @lst a us _ h1 h2 =>
            cases hd2 with
            | @lst b ws _ h3 h4 =>
              exact ⟨a, b, us, ws, rfl, .inl ⟨.inl (.inl (g2.rel.le _ _ h1)), .inl (.inl (g2.rel.le _ _ h3)), q _ F2 _ g2 (main _ _ _ _ _ _ _ (walk_zip (K := X.K) (a := a) (b := b) (xs := us) (ys := ws) rfl) h2 h4 fun F' H s1 s2 => ⟨.inl (.inl (s2 _ _ (s1 _ _ h1))), .inl (.inl (s2 _ _ (s1 _ _ h3)))⟩)⟩⟩
    · rename_i ys zs
      cases e
      refine (RZ.pi_zipA gl hm ha (star_cons hs) (by rw [star_cons hs2] <;> rfl)).run pins s σ H R I ⟨F, st, qa.1, qa.2, r, ea, fun vs F1 H1 g rr => ?_⟩
      obtain ⟨F2, s1, g2, hd⟩ := keep_all (fun {_ _ _} => trivial) rr ed (Same.refl _) g
      cases hd with
      | cons hd hn =>
        cases hn with
        | cons hd2 hn =>
          cases hn
          cases hd with
          | @tup a us _ h1 h2 =>
            cases hd2 with
            | @tup b ws _ h3 h4 =>
              exact ⟨a, b, us, ws, rfl, .inr ⟨(h1.same g2.rel.le).sq, (h3.same g2.rel.le).sq, q _ F2 _ g2 (main _ _ _ _ _ _ _ (walk_zT (K := X.K) (a := a) (b := b) (xs := us) (ys := ws) rfl) h2 h4 fun F' H s1 s2 => ⟨((h1.same s1).same s2).sq, ((h3.same s1).same s2).sq⟩)⟩⟩
    · rename_i ys zs
      cases e
      refine (Mz.pi_zipM gl hm ha (star_cons hs) (by rw [star_cons hs2] <;> rfl)).run pins s σ H R I ⟨F, st, qa.1, qa.2, r, ea, fun vs F1 H1 g rr => ?_⟩
      obtain ⟨F2, s1, g2, hd⟩ := keep_all (fun {_ _ _} => trivial) rr ed (Same.refl _) g
      cases hd with
      | cons hd hn =>
        cases hn with
        | cons hd2 hn =>
          cases hn
          cases hd with
          | @lst a us _ h1 h2 =>
            cases hd2 with
            | @tup b ws _ h3 h4 =>
              exact ⟨a, b, us, ws, rfl, .inl (.inl (g2.rel.le _ _ h1)), (h3.same g2.rel.le).sq, q _ F2 _ g2 (main _ _ _ _ _ _ _ (walk_zM (K := X.K) (a := a) (b := b) (xs := us) (ys := ws) rfl) h2 h4 fun F' H s1 s2 => ⟨.inl (.inl (s2 _ _ (s1 _ _ h1))), ((h3.same s1).same s2).sq⟩)⟩
    · cases e⟩
end
end Mi
end
section
/-! Mi17: comprehensions. -/
namespace Mi
open PySem PySem.Spec
open PyProof.Rows hiding St Fr
open L2

section
variable {K : PySem.W.Frag} {F H F0 H0 F1 H1 F2 H2 F' H' : Hp} {st st0 st1 st2 st' : En} {σ σ0 σ1 σ2 σ' : L2.St} {v : V} {od : Od} {d : D} {a : Addr} {i : Nat}
theorem wipeV_len (σ : L2.St) (own : List Nat) : (L2.wipe σ own).length = σ.length := wipe_length σ own
theorem wipe_len (st : En) : ∀ own : List Nat, (Mi.wipe st own).length = st.length
  | [] => rfl
  | v :: vs => by unfold Mi.wipe; rw [List.length_set, wipe_len st vs]
theorem wipe_out (st : En) : ∀ {own : List Nat} {j : Nat}, j ∉ own → (Mi.wipe st own)[j]? = st[j]?
  | [], _, _ => rfl
  | v :: vs, j, h => by
    unfold Mi.wipe
    rw [List.getElem?_set_ne (fun e => h (by rw [e]; exact List.mem_cons_self ..)), wipe_out st fun z => h (List.mem_cons_of_mem _ z)]
theorem wipe_in (st : En) : ∀ {own : List Nat} {j : Nat} {s : Sl}, j ∈ own → (Mi.wipe st own)[j]? = some s → s = .no
  | v :: vs, j, s, h, e => by
    unfold Mi.wipe at e
    rcases get_set e with ⟨_, e2, _⟩ | ⟨ne, e⟩
    · exact e2
    · exact wipe_in st ((List.mem_cons.mp h).resolve_left ne) e
theorem wipeV_out (σ : L2.St) : ∀ {own : List Nat} {j : Nat}, j ∉ own → (L2.wipe σ own)[j]? = σ[j]?
  | [], _, _ => rfl
  | v :: vs, j, h => by
    unfold L2.wipe
    rw [List.getElem?_set_ne (fun e => h (by rw [e]; exact List.mem_cons_self ..)), wipeV_out σ fun z => h (List.mem_cons_of_mem _ z)]
theorem wipeV_in (σ : L2.St) : ∀ {own : List Nat} {j : Nat}, j ∈ own → j < σ.length → (L2.wipe σ own)[j]? = some none
  | v :: vs, j, h, hl => by
    unfold L2.wipe
    by_cases e : j = v
    · subst e; rw [List.getElem?_set_self (by rw [wipe_length]; exact hl)]
    · rw [List.getElem?_set_ne (Ne.symm e)]
      exact wipeV_in σ ((List.mem_cons.mp h).resolve_left e) hl
theorem wipeV_eq {own : List Nat} (hl : σ.length = σ'.length) (h : ∀ j, j ∉ own → σ[j]? = σ'[j]?) : L2.wipe σ own = L2.wipe σ' own := by
  apply List.ext_getElem?
  intro j
  by_cases e : j ∈ own
  · by_cases l : j < σ.length
    · rw [wipeV_in σ e l, wipeV_in σ' e (by rw [← hl]; exact l)]
    · rw [List.getElem?_eq_none (by rw [wipe_length]; omega), List.getElem?_eq_none (by rw [wipe_length]; omega)]
  · rw [wipeV_out σ e, wipeV_out σ' e, h j e]
/-- the own names of a block forgotten -/
theorem Rel.wipe (own : List Nat) (r : Rel K F st σ H) : Go K st σ F H (Mi.wipe st own) (L2.wipe σ own) F H := by
  have at' : ∀ {j : Nat} {s : Sl}, (Mi.wipe st own)[j]? = some s → s = .no ∨ (j ∉ own ∧ st[j]? = some s) := fun {j s} h => by
    by_cases e : j ∈ own
    · exact .inl (wipe_in st e h)
    · rw [wipe_out st e] at h; exact .inr ⟨e, h⟩
  refine ⟨⟨Same.refl F, fun b o h _ => h, fun b h => h, fun b ⟨j, s, h1, h2, h3⟩ => ?_, fun b h => .inl h⟩, ⟨r.le, by rw [wipe_len, wipe_length]; exact r.len, fun j s h => ?_, fun j j' s t b h1 h2 h3 h4 h5 h6 => ?_⟩, fun j d h => ?_⟩
  · rcases at' h1 with e | ⟨e, h⟩
    · rw [e] at h2; cases h2
    · rw [wipeV_out σ e] at h3; exact .inl ⟨j, s, h, h2, h3⟩
  · rcases at' h with e | ⟨e, h⟩
    · rw [e]; trivial
    · have z := r.sl j s h
      cases s with
      | no => trivial
      | fr d => obtain ⟨w, g1, g2⟩ := z; exact ⟨w, by rw [wipeV_out σ e]; exact g1, g2⟩
      | ow d => obtain ⟨w, g1, g2⟩ := z; exact ⟨w, by rw [wipeV_out σ e]; exact g1, g2⟩
      | bo d => obtain ⟨w, g1, g2⟩ := z; exact ⟨w, by rw [wipeV_out σ e]; exact g1, g2⟩
  · rcases at' h1 with e | ⟨e, h1⟩
    · rw [e] at h3; cases h3
    · rcases at' h2 with e' | ⟨e', h2⟩
      · rw [e'] at h4; cases h4
      · rw [wipeV_out σ e] at h5
        rw [wipeV_out σ e'] at h6
        exact r.inj j j' s t b h1 h2 h3 h4 h5 h6
  · rcases at' h with e | ⟨e, h⟩
    · cases e
    · exact ⟨wipeV_out σ e, d, h⟩
theorem back_len (st0 st : En) : ∀ own : List Nat, (back st0 st own).length = st.length
  | [] => rfl
  | v :: vs => by unfold back; rw [List.length_set, back_len st0 st vs]
theorem back_out (st0 st : En) : ∀ {own : List Nat} {j : Nat}, j ∉ own → (back st0 st own)[j]? = st[j]?
  | [], _, _ => rfl
  | v :: vs, j, h => by
    unfold back
    rw [List.getElem?_set_ne (fun e => h (by rw [e]; exact List.mem_cons_self ..)), back_out st0 st fun z => h (List.mem_cons_of_mem _ z)]
theorem back_in (st0 st : En) : ∀ {own : List Nat} {j : Nat} {s : Sl}, j ∈ own → (back st0 st own)[j]? = some s → s = st0.getD j .no
  | v :: vs, j, s, h, e => by
    unfold back at e
    rcases get_set e with ⟨e1, e2, _⟩ | ⟨ne, e⟩
    · rw [e2, e1]
    · exact back_in st0 st ((List.mem_cons.mp h).resolve_left ne) e
theorem calm_ok {s : Sl} (h : calmSl s = true) : s.owned = false := by cases s <;> first | rfl | cases h
/-- behind the block the frame's own names are there again -/
theorem Rel.back {own : List Nat} (r : Rel K F st σ H) (hc : (own.all fun i => calmSl (st.getD i .no)) = true) (g : Go K (Mi.wipe st own) (L2.wipe σ own) F H st1 (L2.wipe σ own) F1 H1) : Go K st σ F H (Mi.back st st1 own) σ F1 H1 ∧ ∀ b, Owns (Mi.back st st1 own) σ b → Owns st1 (L2.wipe σ own) b := by
  have calm : ∀ j ∈ own, (st.getD j .no).owned = false := fun j hj => calm_ok (List.all_eq_true.mp hc j hj)
  have r1 := g.rel
  have at' : ∀ {j : Nat} {s : Sl}, (Mi.back st st1 own)[j]? = some s → (j ∈ own ∧ s = st.getD j .no ∧ s.owned = false) ∨ (j ∉ own ∧ st1[j]? = some s) := fun {j s} h => by
    by_cases e : j ∈ own
    · have := back_in st st1 e h
      exact .inl ⟨e, this, by rw [this]; exact calm j e⟩
    · rw [back_out st st1 e] at h; exact .inr ⟨e, h⟩
  have own1 : ∀ b, Owns (Mi.back st st1 own) σ b → Owns st1 (L2.wipe σ own) b := fun b ⟨j, s, h1, h2, h3⟩ => by
    rcases at' h1 with ⟨_, _, z⟩ | ⟨e, h⟩
    · rw [z] at h2; cases h2
    · exact ⟨j, s, h, h2, by rw [wipeV_out σ e]; exact h3⟩
  have own0 : ∀ b, Owns (Mi.wipe st own) (L2.wipe σ own) b → Owns st σ b := fun b hb => ((Rel.wipe own r).stp.own b hb).resolve_right fun z => by
    have := (Rel.wipe own r).rel.owns hb
    exact this.2 z
  have ll : st1.length = st.length := by rw [← r1.len, wipe_length, r.len]
  refine ⟨⟨⟨g.stp.fr, fun b o h n => g.stp.keep b o h fun z => n (own0 b z), g.stp.live, fun b h => (g.stp.own b (own1 b h)).imp (own0 b) id, fun b h => (g.stp.frz b h).imp id (Or.imp (own0 b) id)⟩, ⟨r1.le, by rw [back_len, ll]; exact r.len, fun j s h => ?_, fun j j' s t b h1 h2 h3 h4 h5 h6 => ?_⟩, fun j d h => ?_⟩, own1⟩
  · rcases at' h with ⟨e, e2, e3⟩ | ⟨e, h⟩
    · cases hs : st[j]? with
      | none =>
        rw [List.getD_eq_getElem?_getD, hs] at e2
        rw [e2]; trivial
      | some s0 =>
        rw [List.getD_eq_getElem?_getD, hs] at e2
        have e2 : s = s0 := e2
        have z := r.sl j s0 hs
        rw [e2]
        rw [e2] at e3
        cases s0 with
        | no => trivial
        | fr d => obtain ⟨w, g1, g2⟩ := z; exact ⟨w, g1, g2.same g.stp.fr⟩
        | ow d => cases e3
        | bo d => cases e3
    · have z := r1.sl j s h
      cases s with
      | no => trivial
      | fr d => obtain ⟨w, g1, g2⟩ := z; exact ⟨w, by rw [← wipeV_out σ e]; exact g1, g2⟩
      | ow d => obtain ⟨w, g1, g2⟩ := z; exact ⟨w, by rw [← wipeV_out σ e]; exact g1, g2⟩
      | bo d => obtain ⟨w, g1, g2⟩ := z; exact ⟨w, by rw [← wipeV_out σ e]; exact g1, g2⟩
  · rcases at' h1 with ⟨_, _, z⟩ | ⟨e, h1⟩
    · rw [z] at h3; cases h3
    · rcases at' h2 with ⟨_, _, z⟩ | ⟨e', h2⟩
      · rw [z] at h4; cases h4
      · exact r1.inj j j' s t b h1 h2 h3 h4 (by rw [wipeV_out σ e]; exact h5) (by rw [wipeV_out σ e']; exact h6)
  · rcases at' h with ⟨_, _, z⟩ | ⟨e, h⟩
    · cases z
    · obtain ⟨_, d0, h0⟩ := g.bos j d h
      rw [wipe_out st e] at h0
      exact ⟨rfl, d0, h0⟩
theorem setAll_len : ∀ (is : List Nat) (ps : List PyData) (st : En), (setAll st is ps).length = st.length
  | [], _, _ => by simp [setAll]
  | _ :: _, [], _ => by simp [setAll]
  | i :: is, p :: ps, st => by
    show (setAll (st.set i (.fr (.py p))) is ps).length = st.length
    rw [setAll_len is ps, List.length_set]
theorem bind_len {is : List Nat} {one : Bool} {p : PyData} {s : En} (h : bindT is one p st = some s) : s.length = st.length := by
  unfold bindT at h
  split at h
  · split at h
    · cases h; rw [List.length_set]
    · cases h
  · split at h
    · split at h
      · rw [bind_setAll] at h
        cases h
        exact setAll_len _ _ _
      · cases h
    · split at h
      · rw [bind_setAll] at h
        cases h
        exact setAll_len _ _ _
      · cases h
    · cases h
theorem goD {D : Addr} {vs : List V} (g : Go K st0 σ F0 H0 st σ F H) (hn : ¬ Owns st σ D) (h0 : H0 D = none) (hF : F D = none) : Go K st0 σ F0 H0 st σ F (upd H D (.lst vs)) := by
  refine goFree (O := (· = D)) g ⟨Same.refl F, fun b o h n => ?_, fun b h => ?_, fun b h => .inl h, fun b h => .inl h⟩ (fun b o h => ?_) fun b e => ?_
  · rw [upd_ne n]; exact h
  · by_cases e : b = D
    · subst e; rw [upd_same]; simp
    · rw [upd_ne e]; exact h
  · rw [upd_ne (fun e => by rw [e, hF] at h; cases h)]; exact g.rel.le b o h
  · rw [e]; exact ⟨hn, .inr h0⟩
end
/-- a block's clauses: the targets, the tests -/
structure LcOk (X : Cx) (C : Ct) (elt tg iter : Expr) (ifs : List Expr) (scope : Scope) (own : List (Str × Nat)) (is : List Nat) (one : Bool) (it : I) (c : T) (m : Ex) : Prop where
  hi : PI X tg iter (tI X.K C one it)
  ok : BlkOk X.N X.env.scope scope own
  hg : ∀ (s : Shared) (H : Hp) (A : Addr) (cl : List (Str × Addr)) (fp : List Addr), PG (X.blk s H scope (compEnvC scope cl A X.env) fp) tg (gT X.K is one)
  ht : ∀ (s : Shared) (H : Hp) (A : Addr) (cl : List (Str × Addr)) (fp : List Addr), PTs (X.blk s H scope (compEnvC scope cl A X.env) fp) ifs (tT X.K C c)
  he : ∀ (s : Shared) (H : Hp) (A : Addr) (cl : List (Str × Addr)) (fp : List Addr), PE (X.blk s H scope (compEnvC scope cl A X.env) fp) elt (tE X.K C m)
  hs : noSet iter = true
  sub : ∀ i ∈ is, i ∈ own.map (·.2)
section
variable {X : Cx} {elt tg iter : Expr} {ifs : List Expr} {scope : Scope} {own : List (Str × Nat)} {is : List Nat} {one : Bool} {it : I} {c : T} {m : Ex} {C : Ct} {pos : Pos}
theorem tLc_ok (is_sub : ∀ i ∈ is, i ∈ own.map (·.2)) {σ : L2.St} {H : Hp} {Q : VK} (h : tE X.K C (.lc (own.map (·.2)) is one it c m) σ H Q) : tLc (tI X.K C one it) (gT X.K is one) (tT X.K C c) (tE X.K C m) (own.map (·.2)) σ H Q := by
  obtain ⟨F, st, od, st', r, e, q⟩ := h
  generalize own.map (·.2) = vs at *
  simp only [evE, Option.bind_eq_some_iff] at e
  obtain ⟨qi, ei, e⟩ := e
  split at e
  · rename_i calm
    simp only [Option.map_eq_some_iff] at e
    obtain ⟨⟨res, sf⟩, el, e⟩ := e
    cases e
    refine ⟨F, st, qi.1, qi.2, r, ei, fun J F1 H1 g1 ⟨G, Y, w, hG, hY⟩ D hD => ?_⟩
    have rw1 := Rel.wipe vs g1.rel
    have hF1 : F1 D = none := g1.rel.le.free hD
    have now : ∀ {s : En}, Rel X.K F1 s (L2.wipe σ vs) H1 → ¬ Owns s (L2.wipe σ vs) D := fun rr z => (rr.owns z).2 hD
    generalize hf : (fun x acc s => (bindT is one x s).bind fun s1 => (evT C c s1).bind fun qc => if qc.1 then (evE C m qc.2).bind fun qe => qe.1.val.bind fun d => d.pyd.bind fun p =>
        if acc.length < lim then some (acc ++ [p], Mi.wipe qe.2 vs) else none else some (acc, Mi.wipe qc.2 vs)) = f at el
    refine lc_it w (fun i H' => ∃ Fi si acc us, Go X.K (Mi.wipe qi.2 vs) (L2.wipe σ vs) F1 H1 si (L2.wipe σ vs) Fi H' ∧ H' D = some (.lst us) ∧ DnAll X.K Fi us acc ∧ Fi D = none ∧ ¬ Owns si (L2.wipe σ vs) D ∧ lcL f (qi.1.drop i) acc si = some (res, sf))
      ⟨F1, Mi.wipe qi.2 vs, [], [], goD (Go.refl rw1.rel) (now rw1.rel) hD hF1, upd_same, .nil, hF1, now rw1.rel, el⟩ (fun i H' _ ⟨Fi, si, acc, us, g, _⟩ => hG Fi H' g.stp.fr g.rel.le) (fun i x H' H2 hlt ⟨Fi, si, acc, us, g, k1, k2, k3, k4, ef⟩ hy => ?_) (fun H' ⟨Fi, si, acc, us, g, k1, k2, k3, k4, ef⟩ => ?_)
    · obtain ⟨p, hp, nw, hd⟩ := hY i Fi x H' H2 hlt g.stp.fr g.rel.le hy
      have ed : qi.1.drop i = p :: qi.1.drop (i + 1) := by
        rw [List.drop_eq_getElem_cons hlt]
        rw [List.getElem?_eq_getElem hlt] at hp
        cases hp
        rfl
      rw [ed] at ef
      rw [lcL, Option.bind_eq_some_iff] at ef
      obtain ⟨rr, e1, ef⟩ := ef
      rw [← hf] at e1
      simp only [Option.bind_eq_some_iff] at e1
      obtain ⟨s1, eb, qc, ec, e1⟩ := e1
      have gn := nw.go g.rel
      refine ⟨Fi, si, p, s1, gn.rel, hd, eb, fun σ2 g2 out => ⟨?_, ?_⟩⟩
      · refine wipeV_eq (by rw [g2.rel.len, ← wipe_length σ vs, gn.rel.len]; exact (bind_len eb)) fun j hj => ?_
        rw [out j fun z => hj (is_sub j z), wipeV_out σ hj]
      have hw : L2.wipe σ2 vs = L2.wipe σ vs := by
        refine wipeV_eq (by rw [g2.rel.len, ← wipe_length σ vs, gn.rel.len]; exact (bind_len eb)) fun j hj => ?_
        rw [out j fun z => hj (is_sub j z), wipeV_out σ hj]
      have D2 : H2 D = some (.lst us) := nw.hp D _ k1
      have o2 : ¬ Owns s1 σ2 D := fun z => (g2.stp.own D z).elim k4 fun z => by rw [D2] at z; cases z
      refine ⟨Fi, s1, qc.1, qc.2, g2.rel, ec, fun F3 H3 g3 => ?_⟩
      have D3 : H3 D = some (.lst us) := g3.stp.keep D _ D2 o2
      have o3 : ¬ Owns qc.2 σ2 D := fun z => (g3.stp.own D z).elim o2 fun z => by rw [D2] at z; cases z
      have f3 : F3 D = none := by
        cases e : F3 D with
        | none => rfl
        | some o =>
          rcases g3.stp.frz D (by rw [e]; simp) with z | z | z
          · exact absurd k3 z
          · exact absurd z o2
          · rw [D2] at z; cases z
      have gg := ((g.trans gn).trans g2).trans g3
      cases hq : qc.1 with
      | false =>
        rw [hq, if_neg Bool.false_ne_true] at e1
        cases e1
        refine iteF ?_
        have gw := Rel.wipe vs g3.rel
        have gt := gg.trans gw
        rw [hw] at gt gw
        exact ⟨F3, Mi.wipe qc.2 vs, acc, us, gt, D3, dpAll_same g3.stp.fr _ _ k2, f3, fun z => (gw.stp.own D z).elim o3 fun z => (by rw [D3] at z; cases z), ef⟩
      | true =>
        rw [hq, if_pos rfl, Option.bind_eq_some_iff] at e1
        obtain ⟨qe, ee, e1⟩ := e1
        rw [Option.bind_eq_some_iff] at e1
        obtain ⟨d, ed2, e1⟩ := e1
        rw [Option.bind_eq_some_iff] at e1
        obtain ⟨pv, ep, e1⟩ := e1
        refine iteT ⟨F3, qc.2, qe.1, qe.2, g3.rel, ee, fun y F4 H4 ra => ?_⟩
        split at e1
        · rename_i hl
          cases e1
          have D4 : H4 D = some (.lst us) := ra.go.stp.keep D _ D3 o3
          have o4 : ¬ Owns qe.2 σ2 D := fun z => (ra.go.stp.own D z).elim o3 fun z => by rw [D3] at z; cases z
          obtain ⟨F5, s5, g5, hd5⟩ := keep_one ra.go (Same.refl _) ra.rel ra.fro ed2
          have f5 : F5 D = none := by
            cases e : F5 D with
            | none => rfl
            | some o =>
              rcases g5.stp.frz D (by rw [e]; simp) with z | z | z
              · exact absurd f3 z
              · exact absurd z o3
              · rw [D3] at z; cases z
          cases d <;> cases ep
          have gw := Rel.wipe vs g5.rel
          have gt := (gg.trans g5).trans gw
          rw [hw] at gt gw
          have o5 : ¬ Owns (Mi.wipe qe.2 vs) (L2.wipe σ vs) D := fun z => (gw.stp.own D z).elim o4 fun z => (by rw [D4] at z; cases z)
          refine ⟨us, D4, ?_, F5, Mi.wipe qe.2 vs, acc ++ [_], us ++ [y], goD gt o5 hD f5, upd_same, dpl_app (dpAll_same (g3.stp.fr.trans g5.stp.fr) _ _ k2) (.cons hd5 .nil), f5, o5, ef⟩
          have hs : sizeLine = 16777216 := sizeLine_eq
          have := dpl_len k2
          unfold lim at hl
          omega
        · cases e1
    · rw [List.drop_length] at ef
      cases ef
      obtain ⟨gb, ob⟩ := Rel.back g1.rel calm g
      refine q _ Fi _ ⟨g1.trans gb, ⟨D, rfl, k3, ⟨us, k1, k2⟩, fun z => k4 (ob D z)⟩, Fro.back g1 ⟨D, rfl, .inr hD⟩⟩
  · cases e
end
end Mi
end
section
/-! MiF: a comprehension over defs, each called in turn. -/
namespace Mi
open PySem PySem.Spec
open PyProof.Rows hiding St Fr
open L2

def fnV (mg : Str → Option Value) (x : Str) : V := match mg x with
  | some (.ref a) => .ref a
  | _ => .non
/-- names of the text's defs -/
inductive Nms (X : Cx) : List Expr → List Str → Prop
  | nil : Nms X [] []
  | cons {x : Str} {p : Pos} {es : List Expr} {xs : List Str} {a : Addr} : Gl X x → X.mg x = some (.ref a) → (x == ("__debug__" : Str)) = false → Nms X es xs → Nms X (.Name x p :: es) (x :: xs)
def tFns (mg : Str → Option Value) (xs : List Str) : TA := fun _ H Q => Q (xs.map (fnV mg)) H
theorem pa_nms {X : Cx} : ∀ {es : List Expr} {xs : List Str}, Nms X es xs → PA X es (tFns X.mg xs)
  | _, _, .nil => pa_nil
  | _, _, .cons (x := x) (p := p) (xs := xs) (a := a) hg hm hd t => by
    have h := pa_cons (pe_glob (pos := p) (v := .ref a) hg hm rfl hd) (pa_nms t) (star_cons rfl)
    refine ⟨fun pos pins s σ H Q I q => h.run pos pins s σ H Q I ?_⟩
    have e : fnV X.mg x = .ref a := by unfold fnV; rw [hm]
    show Q (V.ref a :: xs.map (fnV X.mg)) H
    have q : Q ((x :: xs).map (fnV X.mg)) H := q
    rw [List.map_cons, e] at q
    exact q
/-- the call of the def that stands in a slot -/
def teF (mg : Str → Option Value) (K : PySem.W.Frag) (C : Ct) (i : Nat) (fs : List (Str × List Nat)) (os : Exs) : TE := fun σ H Q =>
  ∃ f ∈ fs, ∃ a, mg f.1 = some (.ref a) ∧ σ[i]? = some (some (V.ref a)) ∧ tE K C (.cal f.1 f.2 os) σ H Q
section
variable {X : Cx} {e : Expr} {es : List Expr} {pos : Pos} {C : Ct} {ms ms2 : Exs} {k : Nat} {kws : List Keyword} {ks : List Str} {fs : List (Str × List Nat)} {v : Str} {i : Nat} {p : Pos}
theorem me_callF0 (hr : Room k X.A) (hg : X.A.guards = some []) (hv : NameOk X.N X.env.scope v i) (hfs : ∀ f ∈ fs, ∃ ps, CallOk X k C f.1 ps ∧ callOk ps 0 ks = true ∧ f.2 = permOf ps 0 ks)
    (hkn : kws.map (·.arg) = ks.map some) (hkw : PK X kws (tA X.K C ms2)) (l2 : ∀ st os st', evs C ms2 st = some (os, st') → os.length = ks.length) :
    PE X (.Call (.Name v p) [] kws pos) (teF X.mg X.K C i fs ms2) := by
  refine ⟨fun pins s σ H Q I ⟨f, hf, a, hm, hσ, hE⟩ => ?_⟩
  obtain ⟨ps, ⟨f', fd, qual, as, body, scope, rfl, FD, F, hm', hdb⟩, hk, hp⟩ := hfs f hf
  rw [hm'] at hm
  cases hm
  obtain ⟨c1, c2, c3, c4, c5⟩ := callOk_ok hk
  obtain ⟨k1, k2, k3⟩ := kw_names (env := X.env) (pos := pos) hkn
  have h : tA X.K C ms2 σ H fun zs H2 => zs.length = ks.length ∧ spC X.K (C.call f.1) (C.io f.1) (as.map (·.arg)).length ((permOf (as.map (·.arg)) 0 ks).map fun j => zs.getD j .non) H2 Q E0 := by
    obtain ⟨F0, st, od, st', r, e0, q⟩ := hE
    simp only [evE, Option.bind_eq_some_iff] at e0
    obtain ⟨q2, e2, e3⟩ := e0
    refine ⟨F0, st, q2.1, q2.2, r, e2, fun zs F2 H2 g2 r2 => ?_⟩
    have n2 : zs.length = ks.length := r2.len.trans (l2 _ _ _ e2)
    refine ⟨n2, ?_⟩
    rw [hp] at e3
    exact call_ok g2 r2 (perm_lt c5 c4 (by rw [n2, Nat.zero_add])) e3 (by unfold permOf; rw [List.length_map]) q
  refine wpAny_Call_Name_kw (thn ((pe_var hv.ix hv.vis hv.d1 hv.d2).run pins s σ H (fun x H1 => x = .ref a ∧ tA X.K C ms2 σ H1 fun zs H2 => zs.length = ks.length ∧ spC X.K (C.call f.1) (C.io f.1) (as.map (·.arg)).length ((permOf (as.map (·.arg)) 0 ks).map fun j => zs.getD j .non) H2 Q E0) I ⟨_, hσ, rfl, h⟩) fun u s0 ⟨x, H0, I0, r0, ex, q0⟩ => ?_)
  subst ex
  cases r0
  refine PySem.W.callWith_KW0 (h₀ := X.base) I0.ok.mod.kin FD.kp k1 ?_ (by rw [k3] <;> rfl)
  refine thn (hkw.run pos pins s0 σ H0 _ I0 q0) fun ws s2 ⟨zs, H2, I2, rz, l2', q2⟩ => ⟨I2.kIn, ?_⟩
  rw [k2]
  exact callG_run FD F hr hg c1 c2 c3 (by rw [c4, List.length_map]) c5 I2 .nil rz rfl l2' q2
theorem me_callF (hr : Room k X.A) (hg : X.A.guards = some []) (hv : NameOk X.N X.env.scope v i) (hfs : ∀ f ∈ fs, ∃ ps, CallOk X k C f.1 ps ∧ callOk ps (es.length + 1) ks = true ∧ f.2 = permOf ps (es.length + 1) ks)
    (hs : noStars (e :: es) = true) (hkn : kws.map (·.arg) = ks.map some) (ha : PA X (e :: es) (tA X.K C ms)) (hkw : PK X kws (tA X.K C ms2)) (l1 : ∀ st os st', evs C ms st = some (os, st') → os.length = es.length + 1) (l2 : ∀ st os st', evs C ms2 st = some (os, st') → os.length = ks.length) :
    PE X (.Call (.Name v p) (e :: es) kws pos) (teF X.mg X.K C i fs (ms.app ms2)) := by
  refine ⟨fun pins s σ H Q I ⟨f, hf, a, hm, hσ, hE⟩ => ?_⟩
  obtain ⟨ps, ⟨f', fd, qual, as, body, scope, rfl, FD, F, hm', hdb⟩, hk, hp⟩ := hfs f hf
  rw [hm'] at hm
  cases hm
  obtain ⟨c1, c2, c3, c4, c5⟩ := callOk_ok hk
  obtain ⟨k1, k2, k3⟩ := kw_names (env := X.env) (pos := pos) hkn
  have st := stars_any (env := X.env) (pos := pos) hs
  have h' : noStar e = true ∧ noStars es = true := by simpa [noStars] using hs
  have hplain : ((backTo pos (starEach (e :: es) X.env)).any (·.1) || (backToKw pos (keywordEach kws X.env)).any (·.1.isNone)) = false := by rw [st, k3] <;> rfl
  have h : tA X.K C ms σ H fun vs H1 => tA X.K C ms2 σ H1 fun zs H2 => vs.length = es.length + 1 ∧ zs.length = ks.length ∧ spC X.K (C.call f.1) (C.io f.1) (as.map (·.arg)).length ((permOf (as.map (·.arg)) (es.length + 1) ks).map fun j => (vs ++ zs).getD j .non) H2 Q E0 := by
    obtain ⟨F0, st, od, st', r, e0, q⟩ := hE
    simp only [evE, evs_app, Option.bind_eq_some_iff, Option.map_eq_some_iff] at e0
    obtain ⟨qs, ⟨q1, e1, q2, e2, rfl⟩, e3⟩ := e0
    refine ⟨F0, st, q1.1, q1.2, r, e1, fun vs F1 H1 g1 r1 => ⟨F1, q1.2, q2.1, q2.2, g1.rel, e2, fun zs F2 H2 g2 r2 => ?_⟩⟩
    have n1 : vs.length = es.length + 1 := r1.len.trans (l1 _ _ _ e1)
    have n2 : zs.length = ks.length := r2.len.trans (l2 _ _ _ e2)
    refine ⟨n1, n2, ?_⟩
    rw [hp] at e3
    exact call_ok (g1.trans g2) (ORs.app (r2.back g1) (r1.step g2)) (perm_lt c5 c4 (by rw [List.length_append, n1, n2])) e3 (by unfold permOf; rw [List.length_map]) q
  refine wpAny_Call_Name_kw (thn ((pe_var hv.ix hv.vis hv.d1 hv.d2).run pins s σ H (fun x H0 => x = .ref a ∧ tA X.K C ms σ H0 fun vs H1 => tA X.K C ms2 σ H1 fun zs H2 => vs.length = es.length + 1 ∧ zs.length = ks.length ∧ spC X.K (C.call f.1) (C.io f.1) (as.map (·.arg)).length ((permOf (as.map (·.arg)) (es.length + 1) ks).map fun j => (vs ++ zs).getD j .non) H2 Q E0) I ⟨_, hσ, rfl, h⟩) fun u s0 ⟨x, H0, I0, r0, ex, q0⟩ => ?_)
  subst ex
  cases r0
  refine PySem.W.callWith_KW (h₀ := X.base) I0.ok.mod.kin FD.kp k1 (thn (ha.run pos pins s0 σ H0 _ I0 q0) fun us s1 ⟨vs, H1, I1, r1, q1⟩ => ?_) hplain (star_cons h'.1)
  refine thn (hkw.run pos pins s1 σ H1 _ I1 q1) fun ws s2 ⟨zs, H2, I2, rz, l1', l2', q2⟩ => ⟨I2.kIn, ?_⟩
  rw [k2]
  exact callG_run FD F hr hg c1 c2 c3 (by rw [c4, List.length_map]) c5 I2 r1 rz l1' l2' q2
end
section
variable {K : PySem.W.Frag} {F H F0 H0 F1 H1 : Hp} {st st0 : En} {σ : L2.St} {i : Nat}
theorem goO {D : Addr} {o : HO} (g : Go K st0 σ F0 H0 st σ F H) (hn : ¬ Owns st σ D) (h0 : H0 D = none) (hF : F D = none) : Go K st0 σ F0 H0 st σ F (upd H D o) := by
  refine goFree (O := (· = D)) g ⟨Same.refl F, fun b o h n => ?_, fun b h => ?_, fun b h => .inl h, fun b h => .inl h⟩ (fun b o h => ?_) fun b e => ?_
  · rw [upd_ne n]; exact h
  · by_cases e : b = D
    · subst e; rw [upd_same]; simp
    · rw [upd_ne e]; exact h
  · rw [upd_ne (fun e => by rw [e, hF] at h; cases h)]; exact g.rel.le b o h
  · rw [e]; exact ⟨hn, .inr h0⟩
/-- a slot of which nothing is said may hold anything -/
theorem Rel.any (r : Rel K F st σ H) (hno : ∀ s, st[i]? = some s → s = .no) (o : Option V) : Go K st σ F H st (σ.set i o) F H := by
  have out : ∀ {j : Nat} {s : Sl}, st[j]? = some s → s.owned = true → (σ.set i o)[j]? = σ[j]? := fun {j s} h h2 => by
    refine List.getElem?_set_ne fun e => ?_
    subst e
    rw [hno s h] at h2
    cases h2
  refine ⟨⟨Same.refl F, fun b o h _ => h, fun b h => h, fun b ⟨j, s, h1, h2, h3⟩ => ?_, fun b h => .inl h⟩, ⟨r.le, by rw [List.length_set]; exact r.len, fun j s h => ?_, fun j j' s t b h1 h2 h3 h4 h5 h6 => ?_⟩, fun j d h => ?_⟩
  · rw [out h1 h2] at h3
    exact .inl ⟨j, s, h1, h2, h3⟩
  · by_cases e : j = i
    · subst e
      rw [hno s h]
      trivial
    · have z := r.sl j s h
      have e2 : (σ.set i o)[j]? = σ[j]? := List.getElem?_set_ne (Ne.symm e)
      cases s with
      | no => trivial
      | fr d => obtain ⟨w, g1, g2⟩ := z; exact ⟨w, by rw [e2]; exact g1, g2⟩
      | ow d => obtain ⟨w, g1, g2⟩ := z; exact ⟨w, by rw [e2]; exact g1, g2⟩
      | bo d => obtain ⟨w, g1, g2⟩ := z; exact ⟨w, by rw [e2]; exact g1, g2⟩
  · rw [out h1 h3] at h5
    rw [out h2 h4] at h6
    exact r.inj j j' s t b h1 h2 h3 h4 h5 h6
  · exact ⟨out h rfl, d, h⟩
end
section
variable {X : Cx} {C : Ct} {i : Nat} {fs : List (Str × List Nat)} {os : Exs} {own : List (Str × Nat)}
theorem tLcf_ok (hmg : ∀ f ∈ fs, ∃ a, X.mg f.1 = some (.ref a)) (hl : fs.length ≤ sizeLine) {σ : L2.St} {H : Hp} {Q : VK} (h : tE X.K C (.lcf (own.map (·.2)) i fs os) σ H Q) :
    tLc (iTup X.K (tTup (tFns X.mg (fs.map (·.1))))) (gName i) tYes (teF X.mg X.K C i fs os) (own.map (·.2)) σ H Q := by
  obtain ⟨F, st, od, st', r, e, q⟩ := h
  generalize own.map (·.2) = vs at *
  simp only [evE] at e
  split at e
  · rename_i cc
    rw [Bool.and_eq_true, Bool.and_eq_true, decide_eq_true_eq, decide_eq_true_eq] at cc
    obtain ⟨⟨calm, hiv⟩, hlt⟩ := cc
    rw [← r.len] at hlt
    simp only [Option.map_eq_some_iff] at e
    obtain ⟨⟨res, sf⟩, el, e⟩ := e
    cases e
    show _ ∧ _
    refine ⟨by rw [List.length_map, List.length_map]; exact hl, fun p hp => ⟨p, rfl, ⟨_, .inl (.inl upd_same)⟩, fun D hD => ?_⟩⟩
    have hFp : F p = none := r.le.free hp
    have nowp : ¬ Owns st σ p := fun z => (r.owns z).2 hp
    have g1 : Go X.K st σ F H st σ F (upd H p (.tup ((fs.map (·.1)).map (fnV X.mg)))) := goO (Go.refl r) nowp hp hFp
    have pD : p ≠ D := fun e => by subst e; rw [upd_same] at hD; cases hD
    have hp1 : (upd H p (.tup ((fs.map (·.1)).map (fnV X.mg)))) p = some (.tup ((fs.map (·.1)).map (fnV X.mg))) := upd_same
    generalize upd H p (.tup ((fs.map (·.1)).map (fnV X.mg))) = H1 at g1 hD hp1 ⊢
    have rw1 := Rel.wipe vs g1.rel
    have hF1 : F D = none := g1.rel.le.free hD
    have now : ∀ {s : En}, Rel X.K F s (L2.wipe σ vs) H1 → ¬ Owns s (L2.wipe σ vs) D := fun rr z => (rr.owns z).2 hD
    have nowp2 : ¬ Owns (Mi.wipe st vs) (L2.wipe σ vs) p := fun z => (rw1.stp.own p z).elim nowp fun z => by rw [hp1] at z; cases z
    refine lc_tup (xs := (fs.map (·.1)).map (fnV X.mg)) (fun j H' => ∃ Fi si acc us, Go X.K (Mi.wipe st vs) (L2.wipe σ vs) F H1 si (L2.wipe σ vs) Fi H' ∧ H' D = some (.lst us) ∧ DnAll X.K Fi us acc ∧ Fi D = none ∧ ¬ Owns si (L2.wipe σ vs) D ∧ (∀ s, si[i]? = some s → s = .no) ∧ H' p = some (.tup ((fs.map (·.1)).map (fnV X.mg))) ∧ ¬ Owns si (L2.wipe σ vs) p ∧ fcL (fun s => evs C os s) (callE C) vs (fs.drop j) acc si = some (res, sf))
      ⟨F, Mi.wipe st vs, [], [], goO (Go.refl rw1.rel) (now rw1.rel) hD hF1, upd_same, .nil, hF1, now rw1.rel, fun s hs => wipe_in st hiv hs, by rw [upd_ne pD]; exact hp1, nowp2, el⟩ (fun j H' _ ⟨Fi, si, acc, us, _, _, _, _, _, _, k6, _⟩ => .inl (.inl k6)) (fun j x H' hx ⟨Fi, si, acc, us, g, k1, k2, k3, k4, k5, k6, k7, ef⟩ => ?_) (fun H' ⟨Fi, si, acc, us, g, k1, k2, k3, k4, k5, k6, k7, ef⟩ => ?_)
    · have hj : j < fs.length := by
        have := (List.getElem?_eq_some_iff.mp hx).1
        simpa using this
      have ex : x = fnV X.mg fs[j].1 := by
        rw [List.getElem?_map, List.getElem?_map, List.getElem?_eq_getElem hj] at hx
        exact (Option.some.inj hx).symm
      obtain ⟨a, ha⟩ := hmg fs[j] (List.getElem_mem hj)
      have ex2 : x = V.ref a := by rw [ex]; unfold fnV; rw [ha]
      subst ex2
      rw [List.drop_eq_getElem_cons hj, fcL, Option.bind_eq_some_iff] at ef
      obtain ⟨q1, e1, ef⟩ := ef
      rw [Option.bind_eq_some_iff] at ef
      obtain ⟨qe, e2, ef⟩ := ef
      rw [Option.bind_eq_some_iff] at ef
      obtain ⟨d, ed, ef⟩ := ef
      rw [Option.bind_eq_some_iff] at ef
      obtain ⟨pv, ep, ef⟩ := ef
      have gn := Rel.any g.rel k5 (some (V.ref a))
      have hw : L2.wipe ((L2.wipe σ vs).set i (some (V.ref a))) vs = L2.wipe σ vs := by
        refine wipeV_eq (by rw [List.length_set, wipe_length]) fun l hl => ?_
        rw [List.getElem?_set_ne (fun e => hl (by rw [← e]; exact hiv)), wipeV_out σ hl]
      refine ⟨hw, ?_⟩
      unfold tYes
      have D2 : H' D = some (.lst us) := k1
      have o2 : ¬ Owns si ((L2.wipe σ vs).set i (some (V.ref a))) D := fun z => (gn.stp.own D z).elim k4 fun z => by rw [D2] at z; cases z
      have o2p : ¬ Owns si ((L2.wipe σ vs).set i (some (V.ref a))) p := fun z => (gn.stp.own p z).elim k7 fun z => by rw [k6] at z; cases z
      refine iteT ⟨fs[j], List.getElem_mem hj, a, ha, ?_, Fi, si, qe.1, qe.2, gn.rel, by simp only [evE, e1, Option.bind_some]; exact e2, fun y F4 H4 ra => ?_⟩
      · rw [List.getElem?_set_self (by rw [wipe_length]; exact hlt)]
      split at ef
      · rename_i hlm
        have D4 : H4 D = some (.lst us) := ra.go.stp.keep D _ D2 o2
        have o4 : ¬ Owns qe.2 ((L2.wipe σ vs).set i (some (V.ref a))) D := fun z => (ra.go.stp.own D z).elim o2 fun z => by rw [D2] at z; cases z
        have P4 : H4 p = some (.tup ((fs.map (·.1)).map (fnV X.mg))) := ra.go.stp.keep p _ k6 o2p
        have o4p : ¬ Owns qe.2 ((L2.wipe σ vs).set i (some (V.ref a))) p := fun z => (ra.go.stp.own p z).elim o2p fun z => by rw [k6] at z; cases z
        obtain ⟨F5, s5, g5, hd5⟩ := keep_one ra.go (Same.refl _) ra.rel ra.fro ed
        have f5 : F5 D = none := by
          cases e : F5 D with
          | none => rfl
          | some o =>
            rcases g5.stp.frz D (by rw [e]; simp) with z | z | z
            · exact absurd k3 z
            · exact absurd z o2
            · rw [D2] at z; cases z
        cases d <;> cases ep
        have gw := Rel.wipe vs g5.rel
        have gt := ((g.trans gn).trans g5).trans gw
        rw [hw] at gt gw
        have o5 : ¬ Owns (Mi.wipe qe.2 vs) (L2.wipe σ vs) D := fun z => (gw.stp.own D z).elim o4 fun z => (by rw [D4] at z; cases z)
        have o5p : ¬ Owns (Mi.wipe qe.2 vs) (L2.wipe σ vs) p := fun z => (gw.stp.own p z).elim o4p fun z => (by rw [P4] at z; cases z)
        refine ⟨us, D4, ?_, F5, Mi.wipe qe.2 vs, acc ++ [_], us ++ [y], goO gt o5 hD f5, upd_same, dpl_app (dpAll_same g5.stp.fr _ _ k2) (.cons hd5 .nil), f5, o5, fun s hs => wipe_in qe.2 hiv hs, by rw [upd_ne pD]; exact P4, o5p, ef⟩
        have hs : sizeLine = 16777216 := sizeLine_eq
        have := dpl_len k2
        unfold lim at hlm
        omega
      · cases ef
    · have : fs.drop ((fs.map (·.1)).map (fnV X.mg)).length = [] := by simp
      rw [this] at ef
      cases ef
      obtain ⟨gb, ob⟩ := Rel.back g1.rel calm g
      refine q _ Fi _ ⟨g1.trans gb, ⟨D, rfl, k3, ⟨us, k1, k2⟩, fun z => k4 (ob D z)⟩, Fro.back g1 ⟨D, rfl, .inr ?_⟩⟩
      exact hD
  · cases e
end
end Mi
end
section
/-! Mi18: from the text's expressions to the evaluator's. -/
namespace Mi
open PySem PySem.Spec
open PyProof.Rows hiding St Fr
open L2

/-- what is known of a block before it runs -/
structure Zx where
  N : List Str
  sc : Scope
  fn : Str → Bool
  sg : List (Str × List Str × Bool)
  bl : List Str
def nmOk (x : Str) : Bool := !(x == ("__debug__" : Str)) && !(x == ("__classdict__" : Str))
def visB (k : Option NameKind) : Bool := match k with
  | some .local => true
  | some .cell => true
  | some .free => true
  | _ => false
def locB (k : Option NameKind) (b : Bool) : Bool := match k with
  | some .local => true
  | some .cell => b
  | _ => false
def Zx.ix (z : Zx) (x : Str) : Option Nat := if visB (z.sc.names.lookup x) && nmOk x && decide (z.N[z.N.idxOf x]? = some x) then some (z.N.idxOf x) else none
def Zx.st (z : Zx) (x : Str) : Option Nat := if locB (z.sc.names.lookup x) (z.fn x) && decide (z.N[z.N.idxOf x]? = some x) then some (z.N.idxOf x) else none
def Zx.gl (z : Zx) (x : Str) : Bool := decide (z.sc.names.lookup x = some .globalImplicit) && nmOk x
def Zx.bi (z : Zx) (x : Str) : Bool := z.gl x && z.bl.contains x
structure XOk (X : Cx) (k : Nat) (C : Ct) (z : Zx) : Prop where
  hn : X.N = z.N
  nd : X.N.Nodup
  sc : X.env.scope = z.sc
  kd : z.sc.kind = .function
  fn : ∀ x, z.fn x = true → X.fn x = true
  calm : X.calm = true
  room : Room k X.A
  g : X.A.guards = some []
  bl : ∀ x ∈ z.bl, X.mg x = none
  glo : ∀ x, GloOk X C x
  cal : ∀ x q, z.sg.lookup x = some q → CallOk X k C x q.1
section
variable {X : Cx} {k : Nat} {C : Ct} {z : Zx} {x : Str} {i : Nat}
theorem XOk.ix (h : XOk X k C z) (e : z.ix x = some i) : NameOk X.N X.env.scope x i := by
  unfold Zx.ix at e
  split at e
  · rename_i hc
    cases e
    simp only [Bool.and_eq_true, decide_eq_true_eq, nmOk, Bool.not_eq_true'] at hc
    obtain ⟨⟨h1, h2, h3⟩, h4⟩ := hc
    refine ⟨by rw [h.hn]; exact h4, ?_, h2, h3⟩
    rw [h.sc]
    unfold visB at h1
    split at h1
    · rename_i e; exact .inl e
    · rename_i e; exact .inr (.inl e)
    · rename_i e; exact .inr (.inr e)
    · cases h1
  · cases e
theorem XOk.st (h : XOk X k C z) (e : z.st x = some i) : StOk X x i := by
  unfold Zx.st at e
  split at e
  · rename_i hc
    cases e
    rw [Bool.and_eq_true, decide_eq_true_eq] at hc
    obtain ⟨h1, h4⟩ := hc
    unfold locB at h1
    split at h1
    · rename_i e
      exact ⟨by rw [h.hn]; exact h4, .inl (by rw [h.sc]; exact e), .inr (by rw [h.sc]; exact e)⟩
    · rename_i e
      exact ⟨by rw [h.hn]; exact h4, .inr (by rw [h.sc]; exact e), .inl (h.fn x h1)⟩
    · cases h1
  · cases e
theorem XOk.gl (h : XOk X k C z) (e : z.gl x = true) : Gl X x ∧ (x == ("__debug__" : Str)) = false := by
  unfold Zx.gl nmOk at e
  simp only [Bool.and_eq_true, decide_eq_true_eq, Bool.not_eq_true'] at e
  refine ⟨?_, e.2.1⟩
  show X.env.scope.names.lookup x = _
  rw [h.sc]
  exact e.1
theorem XOk.bi (h : XOk X k C z) (e : z.bi x = true) : Gl X x ∧ X.mg x = none := by
  unfold Zx.bi at e
  rw [Bool.and_eq_true] at e
  exact ⟨(h.gl e.1).1, h.bl x (by simpa using e.2)⟩
end

/-! ### the pieces -/
def rdE (z : Zx) (e : Expr) (r : Ex) : Ex := match e with
  | .Name x _ => (match z.ix x with
    | some i => .pk i
    | none => r)
  | _ => r
def trL (f : Expr → Ex) : List Expr → Exs
  | [] => .nil
  | e :: es => .cons (f e) (trL f es)
def trK (f : Keyword → Ex) : List Keyword → Exs
  | [] => .nil
  | k :: ks => .cons (f k) (trK f ks)
def kwNs : List Keyword → Option (List Str)
  | [] => some []
  | ⟨some x, _, _⟩ :: r => (kwNs r).map (x :: ·)
  | _ => none
def kwE : Keyword → Expr
  | ⟨_, e, _⟩ => e
def kwN : Keyword → Option Str
  | ⟨x, _, _⟩ => x
def o2Of : Operator → Option O2
  | .Add => some .add
  | .Sub => some .sub
  | .Mult => some .mul
  | .FloorDiv => some .fdiv
  | .Mod => some .mod
  | .Pow => some .pow
  | _ => none
def cmOf : CmpOp → Cm
  | .Eq => .eq
  | .NotEq => .ne
  | .Lt => .lt
  | .LtE => .le
  | .Gt => .gt
  | .GtE => .ge
  | .Is => .is
  | .IsNot => .isnot
  | .In => .isin
  | .NotIn => .notin
def bis : List Bi := [.len, .tuple, .list, .sorted, .min, .max, .sum, .any, .all, .abs, .int, .bool, .str, .repr, .divmod, .dict, .set]
def biOf (x : Str) : Option Bi := bis.find? fun b => b.nm == x
def tys : List Ty := [.int, .bool, .str, .list, .tuple]
def tyOf (z : Zx) (e : Expr) : Option Ty := match e with
  | .Name x _ => if z.bi x then tys.find? (fun t => t.s == x) else none
  | _ => none
def tysOf (z : Zx) : List Expr → Option (List Ty)
  | [] => some []
  | e :: es => (tyOf z e).bind fun t => (tysOf z es).map (t :: ·)
def tgIs (z : Zx) : List Expr → Option (List Nat)
  | [] => some []
  | .Name x _ :: es => (z.st x).bind fun i => (tgIs z es).map (i :: ·)
  | _ => none
def tgIx (z : Zx) (tg : Expr) : Option (List Nat × Bool) := match tg with
  | .Name x _ => (z.st x).map fun i => ([i], true)
  | .Tuple es _ _ => (tgIs z es).map fun is => (is, false)
  | _ => none
def rangeArgs (z : Zx) (e : Expr) : Option (List Expr) := match e with
  | .Call (.Name x _) es [] _ => if x = "range" && z.bi "range" && noStars es && (es.length == 1 || es.length == 2) then some es else none
  | _ => none
def ownOf (N : List Str) (scope : Scope) : List (Str × Nat) := scope.names.filterMap fun y => if (y.2 == .local || y.2 == .cell) && decide (y.1 ∈ N) then some (y.1, N.idxOf y.1) else none
def Zx.blk (z : Zx) (scope : Scope) : Zx := { z with sc := relS scope z.sc, fn := fun x => scope.names.lookup x == some .cell }

/-! ### one step of the translation -/
structure Rec where
  e : Zx → Expr → Ex
  t : Zx → Expr → T
def stBlt (f : Rec) (z : Zx) (x : Str) (es : List Expr) : Ex :=
  if z.bi x && noStars es && !es.isEmpty then
    (if x = "isinstance" then (match es with
      | [a, .Tuple ts _ _] => (match tysOf z ts with
        | some l => if l.length ≤ 100 then .isa (rdE z a (f.e z a)) l else .bad
        | none => .bad)
      | [a, t] => (match tyOf z t with
        | some l => .isa (rdE z a (f.e z a)) [l]
        | none => .bad)
      | _ => .bad)
    else (match es with
      | [e] => (match rangeArgs z e with
        | some as => if x = "list" then .bi .lrange (trL (fun e => rdE z e (f.e z e)) as) else if x = "tuple" then .bi .trange (trL (fun e => rdE z e (f.e z e)) as) else .bad
        | none => (match biOf x with
          | some b => .bi b (trL (fun e => rdE z e (f.e z e)) es)
          | none => .bad))
      | _ => (match biOf x with
        | some b => .bi b (trL (fun e => rdE z e (f.e z e)) es)
        | none => .bad)))
  else .bad
def stCal (f : Rec) (z : Zx) (x : Str) (ps : List Str) (io : Bool) (es : List Expr) (kws : List Keyword) : Ex :=
  match kwNs kws with
  | some ks => if callOk ps es.length ks && noStars es then
      (match es with
      | [] => .cal x (permOf ps 0 ks) (trK (fun k => if io && kwN k == ps.head? then rdE z (kwE k) (f.e z (kwE k)) else (f.e z (kwE k))) kws)
      | e :: r => .cal x (permOf ps (r.length + 1) ks) ((Exs.cons (if io then rdE z e (f.e z e) else (f.e z e)) (trL (fun e => (f.e z e)) r)).app (trK (fun k => (f.e z (kwE k))) kws)))
    else .bad
  | none => .bad
def stMe (f : Rec) (z : Zx) (o : Expr) (name : Str) (apos cpos : Pos) (es : List Expr) : Ex :=
  if (apos.endLine == cpos.line) && noStars es && decide (es.length < 29) then
    (match o with
    | .Name x _ => (match z.ix x, es with
      | some i, [a] => if name = "pop" then .pop i (rdE z a (f.e z a)) else if name = "count" then .me .count (.pk i) (trL (fun e => rdE z e (f.e z e)) es) else if name = "index" then .me .index (.pk i) (trL (fun e => rdE z e (f.e z e)) es) else .bad
      | some i, a :: r => if name = "index" then .me .index (.pk i) (trL (fun e => rdE z e (f.e z e)) es) else .bad
      | _, _ => .bad)
    | _ => .bad)
  else .bad
def stI (f : Rec) (z : Zx) (tg iter : Expr) : I × Bool :=
  match rangeArgs z iter with
  | some as => (.rng (trL (fun e => rdE z e (f.e z e)) as), true)
  | none => (match tg, iter with
    | .Tuple .., .Call (.Name x _) [a] [] _ => if x = "enumerate" && z.bi "enumerate" && noStar a then (.enu (trL (fun e => (f.e z e)) [a]), true) else (.v (f.e z iter), true)
    | .Tuple .., .Call (.Name x _) [a, b] [] _ => if x = "zip" && z.bi "zip" && noStar a && noStar b then (.zip (trL (fun e => (f.e z e)) [a, b]), true) else (.v (f.e z iter), true)
    | _, _ => (.v (f.e z iter), true))
/-- names of the text's defs, with their parameters -/
def fnNames (z : Zx) : List Expr → Option (List (Str × List Str))
  | [] => some []
  | .Name x _ :: es => if z.gl x then (z.sg.lookup x).bind fun q => (fnNames z es).map fun r => (x, q.1) :: r else none
  | _ :: _ => none
def stLf (f : Rec) (z : Zx) (elt : Expr) (gs : List Comprehension) (scope : Scope) : Option Ex := match gs, elt with
  | [⟨.Name v _, .Tuple ns _ _, [], asy⟩], .Call (.Name y _) es kws _ => if asy = 0 && blkC z.N z.sc scope (ownOf z.N scope) && decide (scope.kind = .function) && decide (y = v) && noStars es then
      (match fnNames z ns, (z.blk scope).st v, (z.blk scope).ix v, kwNs kws with
      | some fs, some i, some i', some ks => if i = i' && fs.all (fun q => callOk q.2 es.length ks) && decide (fs.length ≤ 100) then
          some (.lcf ((ownOf z.N scope).map (·.2)) i (fs.map fun q => (q.1, permOf q.2 es.length ks)) (match es with
            | [] => trK (fun k => f.e (z.blk scope) (kwE k)) kws
            | e :: r => (trL (fun e => f.e (z.blk scope) e) (e :: r)).app (trK (fun k => f.e (z.blk scope) (kwE k)) kws)))
        else none
      | _, _, _, _ => none)
    else none
  | _, _ => none
def stLcO (f : Rec) (z : Zx) (elt : Expr) (gs : List Comprehension) (scope : Scope) : Ex :=
  match gs with
  | [⟨tg, iter, ifs, asy⟩] => if asy = 0 && blkC z.N z.sc scope (ownOf z.N scope) && noSet iter && decide (scope.kind = .function) then
      (match tgIx (z.blk scope) tg, ifs with
      | some (is, one), [] => if is.all (fun i => decide (i ∈ (ownOf z.N scope).map (·.2))) then .lc ((ownOf z.N scope).map (·.2)) is one (stI f z tg iter).1 .yes (f.e (z.blk scope) elt) else .bad
      | some (is, one), [c] => if is.all (fun i => decide (i ∈ (ownOf z.N scope).map (·.2))) then .lc ((ownOf z.N scope).map (·.2)) is one (stI f z tg iter).1 (f.t (z.blk scope) c) (f.e (z.blk scope) elt) else .bad
      | _, _ => .bad)
    else .bad
  | _ => .bad
def stLc (f : Rec) (z : Zx) (elt : Expr) (gs : List Comprehension) (scope : Scope) : Ex := match stLf f z elt gs scope with
  | some m => m
  | none => stLcO f z elt gs scope
def stSub (f : Rec) (z : Zx) (a b : Expr) : Ex := match b with
  | .Slice lo hi none _ => .sl (rdE z a (f.e z a)) (match lo with
    | none => .no
    | some e => .so (rdE z e (f.e z e))) (match hi with
    | none => .no
    | some e => .so (rdE z e (f.e z e)))
  | .Slice none none (some (.UnaryOp .USub (.Constant (.int 1) _ _) _)) _ => .rev (rdE z a (f.e z a))
  | .Slice .. => .bad
  | b => .ix (rdE z a (f.e z a)) (rdE z b (f.e z b))
def stE (f : Rec) (z : Zx) (e : Expr) : Ex := match e with
  | .Constant v _ _ => (match litC v with
    | some p => .lit p
    | none => .bad)
  | .Name x _ => (match z.ix x with
    | some i => .var i
    | none => if z.gl x then .glo x else .bad)
  | .BinOp a o b _ => (match o2Of o with
    | some o => .op o (rdE z a (f.e z a)) (rdE z b (f.e z b))
    | none => .bad)
  | .UnaryOp .USub a _ => .neg (rdE z a (f.e z a))
  | .UnaryOp .Not a _ => .nt (rdE z a (f.e z a))
  | .BoolOp _ [a] _ => (f.e z a)
  | .BoolOp .And (a :: b :: r) p => .and (rdE z a (f.e z a)) (f.e z (.BoolOp .And (b :: r) p))
  | .BoolOp .Or (a :: b :: r) p => .or (rdE z a (f.e z a)) (f.e z (.BoolOp .Or (b :: r) p))
  | .Compare a [o] [b] _ => if noSet b then .cm (cmOf o) (rdE z a (f.e z a)) (rdE z b (f.e z b)) else .bad
  | .Compare a [o, o'] [b, c] _ => if noSet c then .cm2 (cmOf o) (cmOf o') (rdE z a (f.e z a)) (rdE z b (f.e z b)) (rdE z c (f.e z c)) else .bad
  | .IfExp c a b _ => .ite (f.t z c) (f.e z a) (f.e z b)
  | .Tuple es _ _ => if noStars es then .tup (trL (fun e => (f.e z e)) es) else .bad
  | .List es _ => if noStars es then .lst (trL (fun e => (f.e z e)) es) else .bad
  | .Dict [] [] _ => .dct0
  | .Subscript a b _ => stSub f z a b
  | .Call (.Name x _) es kws _ => if z.gl x then (match z.sg.lookup x with
      | some q => stCal f z x q.1 q.2 es kws
      | none => if kws.isEmpty then stBlt f z x es else .bad) else .bad
  | .Call (.Attribute o name apos) es kws cpos => if kws.isEmpty then stMe f z o name apos cpos es else .bad
  | .ListComp elt gs scope _ => stLc f z elt gs scope
  | _ => .bad
def stT (f : Rec) (z : Zx) (e : Expr) : T := match e with
  | .BoolOp _ [a] _ => (f.t z a)
  | .BoolOp .And (a :: b :: r) p => .and (f.t z a) (f.t z (.BoolOp .And (b :: r) p))
  | .BoolOp .Or (a :: b :: r) p => .or (f.t z a) (f.t z (.BoolOp .Or (b :: r) p))
  | .UnaryOp .Not a _ => .nt (f.t z a)
  | .Compare a [o] [b] _ => if noSet b then .v (.cm (cmOf o) (rdE z a (f.e z a)) (rdE z b (f.e z b))) else .v .bad
  | .Compare a [o, o'] [b, c] _ => if noSet c then .v (.cm2 (cmOf o) (cmOf o') (rdE z a (f.e z a)) (rdE z b (f.e z b)) (rdE z c (f.e z c))) else .v .bad
  | e => if plainT e then .v (rdE z e (f.e z e)) else .v .bad
def tr : Nat → Rec
  | 0 => ⟨fun _ _ => .bad, fun _ _ => .v .bad⟩
  | n + 1 => ⟨stE (tr n), stT (tr n)⟩
end Mi
end
section
/-! Mi19: the translation of expressions is sound. -/
namespace Mi
open PySem PySem.Spec
open PyProof.Rows hiding St Fr
open L2

def Snd (f : Rec) : Prop := ∀ (X : Cx) (k : Nat) (C : Ct) (z : Zx) (e : Expr), XOk X k C z → PE X e (tE X.K C (f.e z e)) ∧ PT X e (tT X.K C (f.t z e)) ∧ ∀ op vs p, e = .BoolOp op vs p → PW X e (tT X.K C (f.t z e))
section
variable {X : Cx} {k : Nat} {C : Ct} {z : Zx} {e a b c : Expr} {es : List Expr} {pos : Pos} {f : Rec}
theorem hd_star (h : noStars (e :: es) = true) : noStar e = true := by
  have : noStar e = true ∧ noStars es = true := by simpa [noStars] using h
  exact this.1
theorem bad_pe : PE X e (tE X.K C .bad) := ⟨fun pins s σ H Q I ⟨F, st, od, st', r, e, q⟩ => by cases e⟩
theorem bad_pw : PW X e (tT X.K C (.v .bad)) := ⟨fun wh pins s σ H Q I ⟨F, st, od, st', r, e, q⟩ => by cases e⟩
theorem bad_pt : PT X e (tT X.K C (.v .bad)) := bad_pw.pt
theorem rd_pe {r : Ex} (h : XOk X k C z) (he : PE X e (tE X.K C r)) : PE X e (tE X.K C (rdE z e r)) := by
  unfold rdE
  split
  · split
    · rename_i i hi; exact me_pk (h.ix hi)
    · exact he
  · exact he
theorem L_pa {g : Expr → Ex} : ∀ {es : List Expr}, (∀ e ∈ es, PE X e (tE X.K C (g e))) → noStars es = true → PA X es (tN X.K C (trL g es))
  | [], _, _ => mn_nil
  | e :: es, h, hs => by
    have h' : noStar e = true ∧ noStars es = true := by simpa [noStars] using hs
    exact mn_cons h'.1 (h e (List.mem_cons_self ..)) (L_pa (fun x hx => h x (List.mem_cons_of_mem _ hx)) h'.2)
theorem L_len {g : Expr → Ex} : ∀ {es : List Expr} {st : En} {q : List Od × En}, evs C (trL g es) st = some q → q.1.length = es.length
  | [], _, _, e => by cases e; rfl
  | e :: es, st, q, h => by
    simp only [trL, evs, Option.bind_eq_some_iff, Option.map_eq_some_iff] at h
    obtain ⟨qa, _, qr, er, e⟩ := h
    subst e
    exact congrArg Nat.succ (L_len er)
theorem K_pk {g : Keyword → Ex} : ∀ {kws : List Keyword}, (∀ k ∈ kws, PE X (kwE k) (tE X.K C (g k))) → PK X kws (tA X.K C (trK g kws))
  | [], _ => mk_nil
  | ⟨nm, e, p⟩ :: ks, h => mk_cons (h _ (List.mem_cons_self ..)) (K_pk fun x hx => h x (List.mem_cons_of_mem _ hx))
theorem K_len {g : Keyword → Ex} : ∀ {kws : List Keyword} {ks : List Str} {st : En} {q : List Od × En}, kwNs kws = some ks → evs C (trK g kws) st = some q → q.1.length = ks.length
  | [], _, _, _, h, e => by cases h; cases e; rfl
  | ⟨some x, v, p⟩ :: kws, ks, st, q, h, e => by
    simp only [kwNs, Option.map_eq_some_iff] at h
    obtain ⟨r, h, rfl⟩ := h
    simp only [trK, evs, Option.bind_eq_some_iff, Option.map_eq_some_iff] at e
    obtain ⟨qa, _, qr, er, e⟩ := e
    subst e
    exact congrArg Nat.succ (K_len h er)
  | ⟨none, v, p⟩ :: kws, ks, st, q, h, e => by cases h
theorem kw_map : ∀ {kws : List Keyword} {ks : List Str}, kwNs kws = some ks → kws.map (·.arg) = ks.map some
  | [], _, h => by cases h; rfl
  | ⟨some x, v, p⟩ :: kws, ks, h => by
    simp only [kwNs, Option.map_eq_some_iff] at h
    obtain ⟨r, h, rfl⟩ := h
    rw [List.map_cons, List.map_cons, kw_map h]
  | ⟨none, v, p⟩ :: kws, ks, h => by cases h
theorem cmOf_op (o : CmpOp) : (cmOf o).op = o := by cases o <;> rfl
theorem o2Of_op {o : Operator} {p : O2} (h : o2Of o = some p) : p.op = o := by cases o <;> cases h <;> rfl
theorem biOf_ok {x : Str} {b : Bi} (h : biOf x = some b) : b.nm = x ∧ b ≠ .lrange ∧ b ≠ .trange := by
  unfold biOf at h
  have h1 := List.find?_some h
  have h2 := List.mem_of_find?_eq_some h
  refine ⟨by simpa using h1, ?_, ?_⟩
  · intro e; subst e; revert h2; unfold bis; simp
  · intro e; subst e; revert h2; unfold bis; simp
theorem tyOf_ok {t : Ty} (h : XOk X k C z) (e1 : tyOf z e = some t) : (∃ p, e = .Name t.s p) ∧ Gl X t.s ∧ X.mg t.s = none := by
  unfold tyOf at e1
  split at e1
  · rename_i x p
    split at e1
    · rename_i hb
      have := List.find?_some e1
      have hx : t.s = x := by simpa using this
      subst hx
      exact ⟨⟨p, rfl⟩, h.bi hb⟩
    · cases e1
  · cases e1
theorem tysOf_ok (h : XOk X k C z) : ∀ {es : List Expr} {l : List Ty}, tysOf z es = some l → (∀ t ∈ l, Gl X t.s ∧ X.mg t.s = none) ∧ Paired (fun (t : Ty) (e : Expr) => ∃ p, e = Expr.Name t.s p) l es
  | [], _, e => by cases e; exact ⟨(fun _ h => by cases h), .nil⟩
  | e :: es, l, h1 => by
    simp only [tysOf, Option.bind_eq_some_iff, Option.map_eq_some_iff] at h1
    obtain ⟨t, ht, r, hr, rfl⟩ := h1
    obtain ⟨g1, g2⟩ := tysOf_ok h hr
    obtain ⟨k1, k2⟩ := tyOf_ok h ht
    exact ⟨fun t' ht' => (List.mem_cons.mp ht').elim (fun e => e ▸ k2) (g1 t'), .cons k1 g2⟩
theorem tgIs_ok (h : XOk X k C z) : ∀ {es : List Expr} {is : List Nat}, tgIs z es = some is → StsOk X es is
  | [], _, e => by cases e; exact .nil
  | e :: es, is, h1 => by
    unfold tgIs at h1
    split at h1
    · rename_i e; cases e
    · rename_i e0 x p es0 e
      cases e
      simp only [Option.bind_eq_some_iff, Option.map_eq_some_iff] at h1
      obtain ⟨i, hi, r, hr, rfl⟩ := h1
      exact .cons (h.st hi) (tgIs_ok h hr)
    · cases h1
theorem tgIx_ok {tg : Expr} {q : List Nat × Bool} (h : XOk X k C z) (e : tgIx z tg = some q) : TgOk X tg q.1 q.2 := by
  unfold tgIx at e
  split at e
  · simp only [Option.map_eq_some_iff] at e
    obtain ⟨i, hi, rfl⟩ := e
    exact .one (h.st hi)
  · simp only [Option.map_eq_some_iff] at e
    obtain ⟨i, hi, rfl⟩ := e
    exact .tup (tgIs_ok h hi)
  · cases e
theorem rangeArgs_ok {as : List Expr} (h : XOk X k C z) (h1 : rangeArgs z e = some as) : Gl X "range" ∧ X.mg "range" = none ∧ ∃ p p2, (∃ a, as = [a] ∧ noStar a = true ∧ e = .Call (.Name "range" p) [a] [] p2) ∨ ∃ a b, as = [a, b] ∧ noStar a = true ∧ noStar b = true ∧ e = .Call (.Name "range" p) [a, b] [] p2 := by
  unfold rangeArgs at h1
  split at h1
  · rename_i x p es p2
    split at h1
    · rename_i hc
      cases h1
      simp only [Bool.and_eq_true, Bool.or_eq_true, decide_eq_true_eq] at hc
      obtain ⟨⟨⟨rfl, hb⟩, hs⟩, hl⟩ := hc
      refine ⟨(h.bi hb).1, (h.bi hb).2, p, p2, ?_⟩
      match as, hs, hl with
      | [], _, hl => simp at hl
      | [a], hs, _ => exact .inl ⟨a, rfl, by simpa [noStars] using hs, rfl⟩
      | [a, b], hs, _ =>
        have : noStar a = true ∧ noStar b = true := by simpa [noStars] using hs
        exact .inr ⟨a, b, rfl, this.1, this.2, rfl⟩
      | _ :: _ :: _ :: _, _, hl => simp at hl
    · cases h1
  · cases h1
theorem XOk.blk {scope : Scope} {s : Shared} {H : Hp} {A : Addr} {cl : List (Str × Addr)} {fp : List Addr} (h : XOk X k C z) (hk : scope.kind = .function) : XOk (X.blk s H scope (compEnvC scope cl A X.env) fp) k C (z.blk scope) where
  hn := h.hn
  nd := h.nd
  sc := by
    show relS scope X.env.scope = relS scope z.sc
    rw [h.sc]
  kd := hk
  fn := fun x e => e
  calm := h.calm
  room := h.room
  g := h.g
  bl := h.bl
  glo := h.glo
  cal := fun x q e => by
    obtain ⟨f, fd, qual, as, body, sc, c⟩ := h.cal x q e
    exact ⟨f, fd, qual, as, body, sc, c.ar, c.hf, c.fg, c.mg, c.db⟩
/-! ### the pieces are sound -/
theorem fE (hf : Snd f) (h : XOk X k C z) (e : Expr) : PE X e (tE X.K C (f.e z e)) := (hf X k C z e h).1
theorem fR (hf : Snd f) (h : XOk X k C z) (e : Expr) : PE X e (tE X.K C (rdE z e (f.e z e))) := rd_pe h (fE hf h e)
theorem fT (hf : Snd f) (h : XOk X k C z) (e : Expr) : PT X e (tT X.K C (f.t z e)) := (hf X k C z e h).2.1
theorem rg_pe (hf : Snd f) (h : XOk X k C z) {as : List Expr} (h1 : rangeArgs z e = some as) : PRg X e (tRg X.K C (trL (fun e => rdE z e (f.e z e)) as)) := by
  obtain ⟨gl, hm, p, p2, ⟨a, rfl, hs, rfl⟩ | ⟨a, b, rfl, hs, hs2, rfl⟩⟩ := rangeArgs_ok h h1
  · exact mrg_1 gl hm hs (fR hf h a)
  · exact mrg_2 gl hm hs hs2 (fR hf h a) (fR hf h b)
theorem rg_star {as : List Expr} (h1 : rangeArgs z e = some as) : noStar e = true := by
  unfold rangeArgs at h1
  split at h1
  · rfl
  · cases h1
theorem stBlt_ok (hf : Snd f) (h : XOk X k C z) {x : Str} {p : Pos} : PE X (.Call (.Name x p) es [] pos) (tE X.K C (stBlt f z x es)) := by
  have many : ∀ (b : Bi) (e : Expr) (r : List Expr), biOf x = some b → z.bi x = true → noStars (e :: r) = true → PE X (.Call (.Name x p) (e :: r) [] pos) (tE X.K C (.bi b (trL (fun e => rdE z e (f.e z e)) (e :: r)))) := fun b e r hb hx hs => by
    obtain ⟨e1, n1, n2⟩ := biOf_ok hb
    obtain ⟨gl, hm⟩ := h.bi hx
    subst e1
    exact me_bi h.room h.calm h.g b n1 n2 gl hm hs (ma_of_mn (L_pa (fun e _ => fR hf h e) hs))
  unfold stBlt
  split
  · rename_i hc
    simp only [Bool.and_eq_true] at hc
    obtain ⟨⟨hx, hs⟩, hne⟩ := hc
    split
    · rename_i hi
      subst hi
      obtain ⟨gl, hm⟩ := h.bi hx
      split
      · rename_i a ts x1 p2
        split
        · rename_i l hl
          split
          · rename_i hle
            obtain ⟨g1, g2⟩ := tysOf_ok h hl
            exact me_isaT hle (hd_star hs) gl hm g1 g2 (fR hf h a)
          · exact bad_pe
        · exact bad_pe
      · rename_i a t hne
        split
        · rename_i l hl
          obtain ⟨⟨p2, rfl⟩, g1, g2⟩ := tyOf_ok h hl
          exact me_isa (hd_star hs) gl hm g1 g2 (fR hf h a)
        · exact bad_pe
      · exact bad_pe
    · split
      · rename_i e
        split
        · rename_i as has
          split
          · rename_i hx2
            subst hx2
            obtain ⟨gl, hm⟩ := h.bi hx
            exact me_lrange h.calm gl hm (rg_star has) (rg_pe hf h has)
          · split
            · rename_i hx2
              subst hx2
              obtain ⟨gl, hm⟩ := h.bi hx
              exact me_trange h.calm gl hm (rg_star has) (rg_pe hf h has)
            · exact bad_pe
        · split
          · rename_i b hb; exact many b e [] hb hx hs
          · exact bad_pe
      · split
        · rename_i b hb
          cases es with
          | nil => simp at hne
          | cons e r => exact many b e r hb hx hs
        · exact bad_pe
  · exact bad_pe
theorem stCal_ok (hf : Snd f) (h : XOk X k C z) {x : Str} {p : Pos} {kws : List Keyword} {ps : List Str} {io : Bool} (gl : Gl X x) (hx : CallOk X k C x ps) : PE X (.Call (.Name x p) es kws pos) (tE X.K C (stCal f z x ps io es kws)) := by
  unfold stCal
  split
  · rename_i ks hk
    split
    · rename_i hc
      rw [Bool.and_eq_true] at hc
      split
      · refine me_call0 hx h.room h.g gl hc.1 (kw_map hk) (K_pk fun q _ => ?_) fun st os st' e => K_len (q := (os, st')) hk e
        split
        · exact fR hf h _
        · exact fE hf h _
      · rename_i e r
        have h' : noStar e = true ∧ noStars r = true := by simpa [noStars] using hc.2
        refine me_call hx h.room h.g gl hc.1 hc.2 (kw_map hk) (ma_of_mn (mn_cons h'.1 ?_ (L_pa (fun e _ => fE hf h e) h'.2))) (K_pk fun q _ => fE hf h _) (fun st os st' e => ?_) fun st os st' e => K_len (q := (os, st')) hk e
        · split
          · exact fR hf h _
          · exact fE hf h _
        · simp only [evs, Option.bind_eq_some_iff, Option.map_eq_some_iff] at e
          obtain ⟨qa, _, qr, er, e⟩ := e
          cases e
          exact congrArg Nat.succ (L_len er)
    · exact bad_pe
  · exact bad_pe
theorem stMe_ok (hf : Snd f) (h : XOk X k C z) {o : Expr} {name : Str} {apos cpos : Pos} : PE X (.Call (.Attribute o name apos) es [] cpos) (tE X.K C (stMe f z o name apos cpos es)) := by
  unfold stMe
  split
  · rename_i hc
    simp only [Bool.and_eq_true, decide_eq_true_eq] at hc
    obtain ⟨⟨hl, hs⟩, hn⟩ := hc
    have L : ∀ {es : List Expr}, noStars es = true → PA X es (tA X.K C (trL (fun e => rdE z e (f.e z e)) es)) := fun hs => ma_of_mn (L_pa (fun e _ => fR hf h e) hs)
    split
    · rename_i x p
      split
      · rename_i i a hi
        have nm := h.ix hi
        split
        · rename_i e; subst e
          exact me_pop nm (fR hf h a) (by simpa [noStars] using hs) hl
        · split
          · rename_i e; subst e
            exact me_me (m := .count) h.room (by simp) (me_pk nm) base_name (L hs) hs hn hl
          · split
            · rename_i e; subst e
              exact me_me (m := .index) h.room (by simp) (me_pk nm) base_name (L hs) hs hn hl
            · exact bad_pe
      · rename_i i a r _ hi
        split
        · rename_i e; subst e
          exact me_me (m := .index) h.room (by simp) (me_pk (h.ix hi)) base_name (L hs) hs hn hl
        · exact bad_pe
      · exact bad_pe
    · exact bad_pe
  · exact bad_pe
theorem tgIx_tup {tg : Expr} {q : List Nat × Bool} (e : tgIx z tg = some q) : ∀ es kk p, tg = .Tuple es kk p → q.2 = false := fun es kk p h => by
  subst h
  simp only [tgIx, Option.map_eq_some_iff] at e
  obtain ⟨i, _, rfl⟩ := e
  rfl
theorem stI_ok (hf : Snd f) (h : XOk X k C z) {tg iter : Expr} {one : Bool} (ht : ∀ es kk p, tg = .Tuple es kk p → one = false) : PI X tg iter (tI X.K C one (stI f z tg iter).1) := by
  have L : ∀ {es : List Expr}, noStars es = true → PA X es (tA X.K C (trL (fun e => rdE z e (f.e z e)) es)) := fun hs => ma_of_mn (L_pa (fun e _ => fR hf h e) hs)
  have L' : ∀ {es : List Expr}, noStars es = true → PA X es (tA X.K C (trL (fun e => (f.e z e)) es)) := fun hs => ma_of_mn (L_pa (fun e _ => fE hf h e) hs)
  unfold stI
  split
  · rename_i as has
    obtain ⟨gl, hm, p, p2, ⟨a, rfl, hs, rfl⟩ | ⟨a, b, rfl, hs, hs2, rfl⟩⟩ := rangeArgs_ok h has
    · exact mi_rng1 gl hm hs (L (by simp [noStars, hs])) fun st os st' e => L_len (q := (os, st')) e
    · exact mi_rng2 gl hm hs hs2 (L (by simp [noStars, hs, hs2])) fun st os st' e => L_len (q := (os, st')) e
  · split
    · split
      · rename_i hc
        simp only [Bool.and_eq_true, decide_eq_true_eq] at hc
        obtain ⟨⟨rfl, hb⟩, hs⟩ := hc
        cases ht _ _ _ rfl
        exact mi_enu (h.bi hb).1 (h.bi hb).2 hs (L' (by simp [noStars, hs]))
      · exact mi_v (fE hf h _)
    · split
      · rename_i hc
        simp only [Bool.and_eq_true, decide_eq_true_eq] at hc
        obtain ⟨⟨⟨rfl, hb⟩, hs⟩, hs2⟩ := hc
        cases ht _ _ _ rfl
        exact mi_zip (h.bi hb).1 (h.bi hb).2 hs hs2 (L' (by simp [noStars, hs, hs2]))
      · exact mi_v (fE hf h _)
    · exact mi_v (fE hf h _)
end
end Mi
end
section
/-! Mi20: the translation of expressions is sound, the whole step. -/
namespace Mi
open PySem PySem.Spec
open PyProof.Rows hiding St Fr
open L2

section
variable {X : Cx} {k : Nat} {C : Ct} {z : Zx} {e a b c : Expr} {es : List Expr} {pos : Pos} {f : Rec} {m : T}
theorem lc_make (hf : Snd f) (h : XOk X k C z) {elt tg iter : Expr} {ifs : List Expr} {scope : Scope} {q : List Nat × Bool} {c : T} (hb : blkC z.N z.sc scope (ownOf z.N scope) = true) (hs : noSet iter = true) (hk : scope.kind = .function)
    (ht : tgIx (z.blk scope) tg = some q) (hi : q.1.all (fun i => decide (i ∈ (ownOf z.N scope).map (·.2))) = true) (hc : ∀ (X' : Cx), XOk X' k C (z.blk scope) → PTs X' ifs (tT X'.K C c)) :
    LcOk X C elt tg iter ifs scope (ownOf z.N scope) q.1 q.2 (stI f z tg iter).1 c (f.e (z.blk scope) elt) where
  hi := stI_ok hf h (tgIx_tup ht)
  ok := by
    have := blkOk_by hb
    rw [← h.hn, ← h.sc] at this
    rw [← h.hn]
    exact this
  hg := fun s H A cl fp => pg_T h.calm h.nd (tgIx_ok (h.blk hk) ht)
  ht := fun s H A cl fp => hc _ (h.blk hk)
  he := fun s H A cl fp => fE hf (h.blk hk) elt
  hs := hs
  sub := fun i hi' => by simpa using List.all_eq_true.mp hi i hi'
/-- a comprehension that is walked, or nothing -/
structure LcW (X : Cx) (C : Ct) (elt tg iter : Expr) (ifs : List Expr) (scope : Scope) (own : List (Str × Nat)) (wi : TI) (g : TG) (tt : TT) (te : TE) (m : Ex) : Prop where
  hi : PI X tg iter wi
  ok : BlkOk X.N X.env.scope scope own
  hg : ∀ (s : Shared) (H : Hp) (A : Addr) (cl : List (Str × Addr)) (fp : List Addr), PG (X.blk s H scope (compEnvC scope cl A X.env) fp) tg g
  ht : ∀ (s : Shared) (H : Hp) (A : Addr) (cl : List (Str × Addr)) (fp : List Addr), PTs (X.blk s H scope (compEnvC scope cl A X.env) fp) ifs tt
  he : ∀ (s : Shared) (H : Hp) (A : Addr) (cl : List (Str × Addr)) (fp : List Addr), PE (X.blk s H scope (compEnvC scope cl A X.env) fp) elt te
  hs : noSet iter = true
  w : ∀ (σ : L2.St) (H : Hp) (Q : VK), tE X.K C m σ H Q → tLc wi g tt te (own.map (·.2)) σ H Q
theorem LcOk.w {X : Cx} {C : Ct} {elt tg iter : Expr} {ifs : List Expr} {scope : Scope} {own : List (Str × Nat)} {is : List Nat} {one : Bool} {it : I} {c : T} {m : Ex} (L : LcOk X C elt tg iter ifs scope own is one it c m) :
    LcW X C elt tg iter ifs scope own (tI X.K C one it) (gT X.K is one) (tT X.K C c) (tE X.K C m) (.lc (own.map (·.2)) is one it c m) := ⟨L.hi, L.ok, L.hg, L.ht, L.he, L.hs, fun σ H Q q => tLc_ok L.sub q⟩
def LcOr (X : Cx) (C : Ct) (elt : Expr) (gs : List Comprehension) (scope : Scope) (m : Ex) : Prop := m = .bad ∨ ∃ tg iter ifs own wi g tt te, gs = [⟨tg, iter, ifs, 0⟩] ∧ LcW X C elt tg iter ifs scope own wi g tt te m
theorem mt_yes {X : Cx} : PTs X [] (tT X.K C .yes) := ⟨fun pins s σ H Q I ⟨F, st, b, st', r, e, q⟩ => by
  cases e
  exact pts_nil.run pins s σ H Q I (q _ _ (Go.refl r))⟩
theorem stLcO_ok (hf : Snd f) (h : XOk X k C z) {elt : Expr} {gs : List Comprehension} {scope : Scope} : LcOr X C elt gs scope (stLcO f z elt gs scope) := by
  unfold stLcO
  split
  · rename_i tg iter ifs asy
    split
    · rename_i hc
      simp only [Bool.and_eq_true, decide_eq_true_eq] at hc
      obtain ⟨⟨⟨rfl, hb⟩, hs⟩, hk⟩ := hc
      split
      · rename_i is one ht
        split
        · rename_i hi
          exact .inr ⟨tg, iter, [], _, _, _, _, _, rfl, (lc_make (q := (is, one)) hf h hb hs hk ht hi fun X' _ => mt_yes).w⟩
        · exact .inl rfl
      · rename_i is one c ht
        split
        · rename_i hi
          exact .inr ⟨tg, iter, [c], _, _, _, _, _, rfl, (lc_make (q := (is, one)) hf h hb hs hk ht hi fun X' h' => pts_one (fT hf h' c)).w⟩
        · exact .inl rfl
      · exact .inl rfl
    · exact .inl rfl
  · exact .inl rfl
theorem fn_names : ∀ {ns : List Expr} {fs : List (Str × List Str)}, XOk X k C z → fnNames z ns = some fs → Nms X ns (fs.map (·.1)) ∧ ∀ q ∈ fs, ∃ b, z.sg.lookup q.1 = some (q.2, b)
  | [], fs, h, e => by
    cases e
    exact ⟨.nil, fun q hq => by cases hq⟩
  | n :: ns, fs, h, e => by
    unfold fnNames at e
    split at e
    · rename_i he
      exact absurd he (List.cons_ne_nil _ _)
    · rename_i x p es he
      cases he
      split at e
      · rename_i hg
        simp only [Option.bind_eq_some_iff, Option.map_eq_some_iff] at e
        obtain ⟨q, hq, r, hr, rfl⟩ := e
        obtain ⟨i1, i2⟩ := fn_names h hr
        obtain ⟨f, fd, qual, as, body, scope, hx⟩ := h.cal x q hq
        refine ⟨.cons (h.gl hg).1 hx.mg hx.db i1, fun y hy => ?_⟩
        rcases List.mem_cons.mp hy with rfl | hy
        · exact ⟨q.2, hq⟩
        · exact i2 y hy
      · cases e
    · cases e
theorem stLf_ok (hf : Snd f) (h : XOk X k C z) {elt : Expr} {gs : List Comprehension} {scope : Scope} {m : Ex} (hm : stLf f z elt gs scope = some m) : LcOr X C elt gs scope m := by
  unfold stLf at hm
  split at hm
  · rename_i v vp ns x1 tp asy y yp es kws cp
    split at hm
    · rename_i hc
      simp only [Bool.and_eq_true, decide_eq_true_eq] at hc
      obtain ⟨⟨⟨⟨rfl, hb⟩, hk⟩, rfl⟩, hs⟩ := hc
      split at hm
      · rename_i fs i i' ks e1 e2 e3 e4
        split at hm
        · rename_i hc2
          simp only [Bool.and_eq_true, decide_eq_true_eq] at hc2
          obtain ⟨⟨rfl, hal⟩, hl⟩ := hc2
          cases hm
          obtain ⟨n1, n2⟩ := fn_names h e1
          have hal' : ∀ q ∈ fs, callOk q.2 es.length ks = true := List.all_eq_true.mp hal
          have em : ((fs.map fun q => (q.1, permOf q.2 es.length ks)).map (·.1)) = fs.map (·.1) := by rw [List.map_map]; rfl
          have hfs : ∀ (X' : Cx), XOk X' k C (z.blk scope) → ∀ q ∈ (fs.map fun q => (q.1, permOf q.2 es.length ks)), ∃ ps, CallOk X' k C q.1 ps ∧ callOk ps es.length ks = true ∧ q.2 = permOf ps es.length ks := fun X' h' q hq => by
            obtain ⟨q0, hq0, rfl⟩ := List.mem_map.mp hq
            obtain ⟨b, hb⟩ := n2 q0 hq0
            exact ⟨q0.2, h'.cal q0.1 (q0.2, b) hb, hal' q0 hq0, rfl⟩
          have hmg : ∀ q ∈ (fs.map fun q => (q.1, permOf q.2 es.length ks)), ∃ a, X.mg q.1 = some (.ref a) := fun q hq => by
            obtain ⟨q0, hq0, rfl⟩ := List.mem_map.mp hq
            obtain ⟨b, hb⟩ := n2 q0 hq0
            obtain ⟨f', fd, qual, as, body, sc, hx⟩ := h.cal q0.1 (q0.2, b) hb
            exact ⟨f', hx.mg⟩
          have ok : BlkOk X.N X.env.scope scope (ownOf z.N scope) := by
            have := blkOk_by hb
            rw [← h.hn, ← h.sc] at this
            rw [← h.hn]
            exact this
          refine .inr ⟨.Name y vp, .Tuple ns x1 tp, [], ownOf z.N scope, iTup X.K (tTup (tFns X.mg (fs.map (·.1)))), gName i, tYes, teF X.mg X.K C i (fs.map fun q => (q.1, permOf q.2 es.length ks)) (match es with
              | [] => trK (fun k => f.e (z.blk scope) (kwE k)) kws
              | e :: r => (trL (fun e => f.e (z.blk scope) e) (e :: r)).app (trK (fun k => f.e (z.blk scope) (kwE k)) kws)), rfl, pi_tup (pe_tup (pa_nms n1)), ok, fun s H A cl fp => ?_, fun s H A cl fp => pts_nil, fun s H A cl fp => ?_, rfl, fun σ H Q q => ?_⟩
          · have st := (h.blk (s := s) (H := H) (A := A) (cl := cl) (fp := fp) hk).st e2
            exact pg_name (h.blk hk).nd st.ix st.loc st.fn
          · have h' := h.blk (s := s) (H := H) (A := A) (cl := cl) (fp := fp) hk
            cases es with
            | nil => exact me_callF0 h'.room h'.g (h'.ix e3) (hfs _ h') (kw_map e4) (K_pk fun q _ => fE hf h' _) fun st os st' e => K_len (q := (os, st')) e4 e
            | cons e r => exact me_callF h'.room h'.g (h'.ix e3) (hfs _ h') hs (kw_map e4) (ma_of_mn (L_pa (fun e _ => fE hf h' e) hs)) (K_pk fun q _ => fE hf h' _) (fun st os st' e => L_len (q := (os, st')) e) fun st os st' e => K_len (q := (os, st')) e4 e
          · have := tLcf_ok (own := ownOf z.N scope) hmg (by rw [List.length_map, sizeLine_eq]; omega) q
            rw [em] at this
            exact this
        · cases hm
      · cases hm
    · cases hm
  · cases hm
theorem stLc_ok (hf : Snd f) (h : XOk X k C z) {elt : Expr} {gs : List Comprehension} {scope : Scope} : LcOr X C elt gs scope (stLc f z elt gs scope) := by
  unfold stLc
  split
  · rename_i m hm
    exact stLf_ok hf h hm
  · exact stLcO_ok hf h
theorem lcOr_pe {elt : Expr} {gs : List Comprehension} {scope : Scope} {m : Ex} (h : XOk X k C z) (L : LcOr X C elt gs scope m) : PE X (.ListComp elt gs scope pos) (tE X.K C m) := by
  rcases L with rfl | ⟨tg, iter, ifs, own, wi, g, tt, te, rfl, L⟩
  · exact bad_pe
  · exact pe_mono (pe_lc h.calm h.nd L.hi L.ok L.hg L.ht L.he (foldS L.hs)) L.w
theorem stSub_ok (hf : Snd f) (h : XOk X k C z) : PE X (.Subscript a b pos) (tE X.K C (stSub f z a b)) := by
  have O : ∀ (o : Option Expr), PO X o (tO X.K C (match o with
    | none => .no
    | some e => .so (rdE z e (f.e z e)))) := fun o => by
    cases o with
    | none => exact mo_none
    | some e => exact mo_some (fR hf h e)
  unfold stSub
  split
  · exact me_sl (fR hf h a) (O _) (O _)
  · exact me_rev (fR hf h a)
  · exact bad_pe
  · rename_i h1 h2 h3
    refine me_ix h.room ?_ (fR hf h a) (fR hf h b)
    cases b <;> first | rfl | exact absurd rfl (h3 _ _ _ _)
theorem me_one {op : BoolOp} {m : Ex} (h : PE X a (tE X.K C m)) : PE X (.BoolOp op [a] pos) (tE X.K C m) := pe_one h
theorem mt_one {op : BoolOp} {m : T} (h : PT X a (tT X.K C m)) : PW X (.BoolOp op [a] pos) (tT X.K C m) := by
  cases op with
  | And => exact pw_and1 h
  | Or => exact pw_or1 h
theorem stE_ok (hf : Snd f) (h : XOk X k C z) : PE X e (tE X.K C (stE f z e)) := by
  unfold stE
  split
  · split
    · rename_i p hp; exact me_lit hp
    · exact bad_pe
  · split
    · rename_i i hi; exact me_var (h.ix hi)
    · split
      · rename_i hg; exact me_glo (h.gl hg).1 (h.glo _) (h.gl hg).2
      · exact bad_pe
  · split
    · rename_i a o b p _ q hq
      have := me_op (pos := p) (o := q) (fR hf h a) (fR hf h b)
      rw [o2Of_op hq] at this
      exact this
    · exact bad_pe
  · exact me_neg (fR hf h _)
  · exact me_not (fR hf h _)
  · exact me_one (fE hf h _)
  · exact me_and (fR hf h _) (fE hf h _)
  · exact me_or (fR hf h _) (fE hf h _)
  · rename_i a o b p
    split
    · rename_i hs
      have := me_cm (pos := p) (o := cmOf o) h.room (fR hf h a) (fR hf h b) (nomarks hs)
      rw [cmOf_op] at this
      exact this
    · exact bad_pe
  · rename_i a o o' b c p
    split
    · rename_i hs
      have := me_cm2 (pos := p) (o := cmOf o) (o' := cmOf o') h.room (fR hf h a) (fR hf h b) (fR hf h c) (nomarks hs)
      rw [cmOf_op, cmOf_op] at this
      exact this
    · exact bad_pe
  · exact me_ite (fT hf h _) (fE hf h _) (fE hf h _)
  · split
    · rename_i hs; exact me_tup (ma_of_mn (L_pa (fun e _ => fE hf h e) hs))
    · exact bad_pe
  · split
    · rename_i hs; exact me_lst (ma_of_mn (L_pa (fun e _ => fE hf h e) hs))
    · exact bad_pe
  · exact me_dct0
  · exact stSub_ok hf h
  · rename_i x p es kws p2
    split
    · rename_i hg
      split
      · rename_i q hq; exact stCal_ok hf h (h.gl hg).1 (h.cal x q hq)
      · split
        · rename_i hk
          cases kws with
          | nil => exact stBlt_ok hf h
          | cons _ _ => cases hk
        · exact bad_pe
    · exact bad_pe
  · rename_i o name apos es kws cpos
    split
    · rename_i hk
      cases kws with
      | nil => exact stMe_ok hf h
      | cons _ _ => cases hk
    · exact bad_pe
  · exact lcOr_pe h (stLc_ok hf h)
  · exact bad_pe
theorem mt_cm2 {o o' : Cm} {ma mb mc : Ex} (hr : Room k X.A) (ha : PE X a (tE X.K C ma)) (hb : PE X b (tE X.K C mb)) (hc : PE X c (tE X.K C mc)) (hm : lastMarks [o.op, o'.op] [b, c] = false) :
    PT X (.Compare a [o.op, o'.op] [b, c] pos) (tT X.K C (.v (.cm2 o o' ma mb mc))) :=
  tE_test (σ := []) (H := fun _ => none) (Q := fun _ _ => True) (pt_chain (cm_ok hr o) (cm_ok hr o') ha hb hc hm) (fun σ H Q h => by
    obtain ⟨F, st, od, st', r, e, q⟩ := h
    simp only [evE, Option.bind_eq_some_iff] at e
    obtain ⟨qa, ea, qb, eb, x, ex, y, ey, z, ez, e⟩ := e
    refine tE_two r ea eb fun u v F' H' g ra rb => ⟨F', x, y, z, g.rel.le, ra.rd g.rel ex, rb.rd g.rel ey, ez, z, rfl, ?_⟩
    cases z with
    | false =>
      cases e
      exact iteF (q _ _ _ (Res.den g (Dn.bl _)))
    | true =>
      rw [if_pos rfl] at e
      simp only [Option.bind_eq_some_iff, Option.map_eq_some_iff] at e
      obtain ⟨qc, ec, y', ey', u', eu', z', ez', e⟩ := e
      cases e
      refine iteT ⟨F', qb.2, qc.1, qc.2, g.rel, ec, fun w F2 H2 rc => ?_⟩
      exact ⟨F2, y', u', z', rc.go.rel.le, (rb.step rc.go).rd rc.go.rel ey', rc.rel.rd rc.go.rel eu', ez', q _ _ _ (Res.den (g.trans rc.go) (Dn.bl _))⟩) fun _ _ _ _ _ h _ _ => cm2_ofB h
theorem stT_ok (hf : Snd f) (h : XOk X k C z) : PT X e (tT X.K C (stT f z e)) ∧ ∀ op vs p, e = .BoolOp op vs p → PW X e (tT X.K C (stT f z e)) := by
  unfold stT
  split
  · have := mt_one (op := ‹BoolOp›) (pos := ‹Pos›) (fT hf h ‹Expr›)
    exact ⟨this.pt, fun _ _ _ _ => this⟩
  · rename_i a b r p
    have := mt_and (pos := p) (fT hf h a) ((hf X k C z (.BoolOp .And (b :: r) p) h).2.2 _ _ _ rfl)
    exact ⟨this.pt, fun _ _ _ _ => this⟩
  · rename_i a b r p
    have := mt_or (pos := p) (fT hf h a) ((hf X k C z (.BoolOp .Or (b :: r) p) h).2.2 _ _ _ rfl)
    exact ⟨this.pt, fun _ _ _ _ => this⟩
  · exact ⟨mt_not (fT hf h _), fun _ _ _ e => by cases e⟩
  · rename_i a o b p
    refine ⟨?_, fun _ _ _ e => by cases e⟩
    split
    · rename_i hs
      have := mt_cm (pos := p) (o := cmOf o) h.room (fR hf h a) (fR hf h b) (nomarks hs)
      rw [cmOf_op] at this
      exact this
    · exact bad_pt
  · rename_i a o o' b c p
    refine ⟨?_, fun _ _ _ e => by cases e⟩
    split
    · rename_i hs
      have := mt_cm2 (pos := p) (o := cmOf o) (o' := cmOf o') h.room (fR hf h a) (fR hf h b) (fR hf h c) (nomarks hs)
      rw [cmOf_op, cmOf_op] at this
      exact this
    · exact bad_pt
  · split
    · rename_i hp
      exact ⟨mt_v hp (fR hf h _), fun _ _ _ e => by subst e; cases hp⟩
    · exact ⟨bad_pt, fun _ _ _ _ => bad_pw⟩
theorem snd_tr : ∀ n, Snd (tr n)
  | 0 => fun X k C z e h => ⟨bad_pe, bad_pt, fun _ _ _ _ => bad_pw⟩
  | n + 1 => fun X k C z e h => ⟨stE_ok (snd_tr n) h, (stT_ok (snd_tr n) h).1, (stT_ok (snd_tr n) h).2⟩
end
end Mi
end
section
/-! Mi21: the translation of statements, and that it is sound. -/
namespace Mi
open PySem PySem.Spec
open PyProof.Rows hiding St Fr
open L2

def noTup : Expr → Bool
  | .Tuple .. => false
  | _ => true
def strd : Expr → Bool
  | .Starred .. => true
  | _ => false
def isLc (z : Zx) (x : Str) : Bool := decide (z.sc.names.lookup x = some .local)
/-- a, b = c, d stored from the right -/
def swB (vs : List Expr) : Bool := !(vs.any strd) && !(vs.all (foldedForSure 8)) && !(vs.all (constantsAlone 8))
def isLC : Expr → Bool
  | .ListComp .. => true
  | _ => false
def asgS (f : Rec) (z : Zx) (tg e : Expr) : S := match tg, e with
  | .Name x _, e => if noComp e || isLC e then (match z.st x with
    | some i => .asg i (f.e z e)
    | none => .raise) else .raise
  | .Subscript (.Name x _) b _, e => if noSlice b && noComp e then (match z.ix x with
    | some i => .setI i (rdE z b (f.e z b)) (f.e z e)
    | none => .raise) else .raise
  | .Tuple [.Name x px, .Name y py] kt pt, .Tuple [a, b] k2 pt2 => if isLc z x && isLc z y && decide (x ≠ y) && (py.line == px.line) && noStars [a, b] && swB [a, b] then (match z.st x, z.st y with
      | some i, some j => if i ≠ j then .par [i, j] (trL (fun e => (f.e z e)) [a, b]) else .raise
      | _, _ => .raise)
    else if [a, b].all (foldedForSure 8) then (match tgIs z [.Name x px, .Name y py] with
      | some is => .asgT is (f.e z (.Tuple [a, b] k2 pt2))
      | none => .raise)
    else if !(isLc z x && isLc z y && (py.line == px.line)) && noStars [a, b] then (match tgIs z [.Name x px, .Name y py] with
      | some is => if is.length < 100 then .par is (trL (fun e => (f.e z e)) [a, b]) else .raise
      | none => .raise) else .raise
  | .Tuple [.Name x px, .Name y py, .Name w pw] kt pt, .Tuple [a, b, c] k2 pt2 => if isLc z x && isLc z y && isLc z w && decide (x ≠ y) && decide (x ≠ w) && decide (y ≠ w) && (py.line == px.line) && (pw.line == px.line) && noStars [a, b, c] && swB [a, b, c] then (match z.st x, z.st y, z.st w with
      | some i, some j, some l => if i ≠ j ∧ i ≠ l ∧ j ≠ l then .par [i, j, l] (trL (fun e => (f.e z e)) [a, b, c]) else .raise
      | _, _, _ => .raise)
    else if [a, b, c].all (foldedForSure 8) then (match tgIs z [.Name x px, .Name y py, .Name w pw] with
      | some is => .asgT is (f.e z (.Tuple [a, b, c] k2 pt2))
      | none => .raise)
    else if !(isLc z x && isLc z y && isLc z w && (py.line == px.line) && (pw.line == px.line)) && noStars [a, b, c] then (match tgIs z [.Name x px, .Name y py, .Name w pw] with
      | some is => if is.length < 100 then .par is (trL (fun e => (f.e z e)) [a, b, c]) else .raise
      | none => .raise) else .raise
  | .Tuple [.Tuple es1 k1 p1, .Tuple es2 k2 p2] kt pt, e => if noComp e then (match tgIs z es1, tgIs z es2 with
      | some is, some js => .asgTT is js (rdE z e (f.e z e))
      | _, _ => .raise) else .raise
  | .Tuple [.Subscript (.Name x p) b sp, .Subscript (.Name y yp) l yp2] kt pt, e => if noComp e && noSlice b && noSlice l then (match z.ix x, z.ix y with
      | some i, some j => .asgSS i (rdE z b (f.e z b)) j (rdE z l (f.e z l)) (rdE z e (f.e z e))
      | _, _ => .raise) else .raise
  | .Tuple [.Subscript (.Name x p) (.Constant (.int kn) kk kp) sp, .Name y yp] tk tp, e => if noTup e && noComp e then (match z.ix x, z.st y with
    | some i, some j => .divI i kn j (rdE z e (f.e z e))
    | _, _ => .raise) else .raise
  | .Tuple es k p, e => if noTup e && noComp e then (match tgIs z es with
    | some is => .asgT is (rdE z e (f.e z e))
    | none => .raise) else .raise
  | _, _ => .raise
def exprS (f : Rec) (z : Zx) (e : Expr) : S := match e with
  | .Constant (.str _) _ _ => .pass
  | .Call (.Attribute (.Name x p) name apos) [a] [] cpos => if name = "append" ∧ (apos.endLine == cpos.line) = true ∧ noStar a = true then (match z.ix x with
      | some i => .app i (f.e z a)
      | none => .raise)
    else if name = "extend" ∧ (apos.endLine == cpos.line) = true ∧ noStar a = true then (match z.ix x with
      | some i => .ext i (rdE z a (f.e z a))
      | none => .raise)
    else .ex (f.e z e)
  | .Call (.Attribute (.Name x p) name apos) [a, b] [] cpos => if name = "setdefault" ∧ (apos.endLine == cpos.line) = true ∧ noStar a = true ∧ noStar b = true then (match z.ix x with
      | some i => .sdf i (rdE z a (f.e z a)) (f.e z b)
      | none => .raise)
    else .ex (f.e z e)
  | e => if noComp e then .ex (f.e z e) else .raise
def retS (f : Rec) (z : Zx) (e : Expr) : S := match e with
  | .Name x _ => (match z.ix x with
    | some i => .retv i
    | none => .ret (f.e z e))
  | e => .ret (f.e z e)
def ssL (g : Stmt → S) : List Stmt → Ss
  | [] => .nil
  | s :: r => .cons (g s) (ssL g r)
def augOf : Operator → Option O2
  | .Add => some .add
  | .Sub => some .sub
  | _ => none
def stS (f : Rec) (z : Zx) (g : Stmt → S) (s : Stmt) : S := match s with
  | .Assign [tg] e _ => asgS f z tg e
  | .Expr e _ => exprS f z e
  | .Return none _ => .retN
  | .Return (some e) _ => retS f z e
  | .Pass _ => .pass
  | .Break _ => .brk
  | .Continue _ => .cont
  | .If c a b _ => .ifs (f.t z c) (ssL g a) (ssL g b)
  | .While c b [] _ => .whl (f.t z c) (ssL g b)
  | .For tg iter b [] _ => if noSet iter then (match tgIx z tg with
    | some q => .fr q.1 q.2 (stI f z tg iter).1 (ssL g b)
    | none => .raise) else .raise
  | .AugAssign (.Name x _) op e _ => (match z.st x, augOf op with
    | some i, some o => .aug i o (rdE z e (f.e z e))
    | _, _ => .raise)
  | _ => .raise
def trS (f : Rec) (z : Zx) : Nat → Stmt → S
  | 0, _ => .raise
  | n + 1, s => stS f z (trS f z n) s

section
variable {X : Cx} {k : Nat} {C : Ct} {z : Zx} {e a b c : Expr} {es : List Expr} {pos : Pos} {f : Rec} {st : Stmt}
theorem blkK (h : XOk X k C z) : X.env.blockKind = .function := by
  have hk : X.env.scope.kind = .function := by rw [h.sc]; exact h.kd
  unfold Env.blockKind
  rw [hk]
  rfl
theorem sw_notup {tg : Expr} {env : Env} (h : noTup e = true) : swappedStores [tg] e env = pure none := by
  cases e <;> cases tg <;> first | rfl | cases h
theorem sw_fold2 {x y w u : Expr} {kt k2 : Nat} {pt pt2 : Pos} {env : Env} (h : [a, b].all (foldedForSure 8) = true) : swappedStores [.Tuple [x, y] kt pt] (.Tuple [a, b] k2 pt2) env = pure none := by
  unfold swappedStores
  simp only [h, if_true]
  split <;> first | rfl | (split <;> first | rfl | (split <;> rfl))
theorem sw_fold3 {x y w : Expr} {kt k2 : Nat} {pt pt2 : Pos} {env : Env} (h : [a, b, c].all (foldedForSure 8) = true) : swappedStores [.Tuple [x, y, w] kt pt] (.Tuple [a, b, c] k2 pt2) env = pure none := by
  unfold swappedStores
  simp only [h, if_true]
  split <;> first | rfl | (split <;> first | rfl | (split <;> rfl))
def noNm : Expr → Bool
  | .Name .. => false
  | _ => true
theorem sw_two {t1 t2 e : Expr} {kt : Nat} {pt : Pos} {env : Env} (h1 : noNm t1 = true) (h2 : noNm t2 = true) : swappedStores [.Tuple [t1, t2] kt pt] e env = pure none := by
  unfold swappedStores
  cases e with
  | Tuple vs k p =>
    simp only
    split
    · rfl
    · split
      · rfl
      · rw [List.filterMap_cons_none (a := t1) (by cases t1 <;> first | rfl | cases h1), List.filterMap_cons_none (a := t2) (by cases t2 <;> first | rfl | cases h2)]
        rfl
  | _ => rfl
theorem lc_ok {x : Str} (h : XOk X k C z) (e : isLc z x = true) : X.env.kindOf x = some .local := by
  show X.env.scope.names.lookup x = _
  rw [h.sc]
  unfold isLc at e
  exact of_decide_eq_true e
theorem st_ok2 (h : XOk X k C z) {es : List Expr} {is : List Nat} (e : tgIs z es = some is) : ∀ kk p, TgOk X (.Tuple es kk p) is false := fun kk p => .tup (tgIs_ok h e)
theorem any_strd {vs : List Expr} {g : Expr → Bool} (hg : ∀ e, g e = strd e) (h : vs.any strd = false) : ¬ (vs.any g = true) := by
  rw [funext hg, h]
  exact Bool.false_ne_true
theorem sw_par2 {x y : Str} {px py pt pt2 : Pos} {kt k2 : Nat} (h : XOk X k C z) (hx : isLc z x = true) (hy : isLc z y = true) (hne : x ≠ y) (hl : (py.line == px.line) = true) (hs : swB [a, b] = true) :
    swappedStores [.Tuple [.Name x px, .Name y py] kt pt] (.Tuple [a, b] k2 pt2) X.env = pure (some [x, y]) := by
  unfold swB at hs
  simp only [Bool.and_eq_true, Bool.not_eq_true'] at hs
  obtain ⟨⟨h1, h2⟩, h3⟩ := hs
  have e1 := lc_ok h hx
  have e2 := lc_ok h hy
  have hl' : py.line = px.line := by simpa using hl
  have hne' : (y == x) = false := by simpa using fun e => hne e.symm
  have hne2 : (x == y) = false := by simpa using hne
  unfold swappedStores
  simp only [blkK h]
  rw [if_neg (by simp), if_neg (any_strd ?_ h1), h2, h3]
  · simp [e1, e2, hl', Expr.pos, List.eraseDups, List.eraseDupsBy, List.eraseDupsBy.loop, hne', hne2]
  · intro e; cases e <;> rfl
theorem sw_par3 {x y w : Str} {px py pw pt pt2 : Pos} {kt k2 : Nat} (h : XOk X k C z) (hx : isLc z x = true) (hy : isLc z y = true) (hw : isLc z w = true) (hxy : x ≠ y) (hxw : x ≠ w) (hyw : y ≠ w) (hl : (py.line == px.line) = true) (hl2 : (pw.line == px.line) = true) (hs : swB [a, b, c] = true) :
    swappedStores [.Tuple [.Name x px, .Name y py, .Name w pw] kt pt] (.Tuple [a, b, c] k2 pt2) X.env = pure (some [x, y, w]) := by
  unfold swB at hs
  simp only [Bool.and_eq_true, Bool.not_eq_true'] at hs
  obtain ⟨⟨h1, h2⟩, h3⟩ := hs
  have e1 := lc_ok h hx
  have e2 := lc_ok h hy
  have e3 := lc_ok h hw
  have hl' : py.line = px.line := by simpa using hl
  have hl2' : pw.line = px.line := by simpa using hl2
  have n1 : (y == x) = false := by simpa using fun e => hxy e.symm
  have n2 : (w == x) = false := by simpa using fun e => hxw e.symm
  have n3 : (w == y) = false := by simpa using fun e => hyw e.symm
  unfold swappedStores
  simp only [blkK h]
  rw [if_neg (by simp), if_neg (any_strd ?_ h1), h2, h3]
  · simp [e1, e2, e3, hl', hl2', Expr.pos, List.eraseDups, List.eraseDupsBy, List.eraseDupsBy.loop, n1, n2, n3]
  · intro e; cases e <;> rfl
end
theorem loc_eq {X : Cx} {k : Nat} {C : Ct} {z : Zx} (h : XOk X k C z) (x : Str) : (X.env.kindOf x == some .local) = isLc z x := by
  show (X.env.scope.names.lookup x == some .local) = _
  rw [h.sc]
  unfold isLc
  cases z.sc.names.lookup x with
  | none => rfl
  | some k => cases k <;> rfl
theorem sw_cell2 {X : Cx} {k : Nat} {C : Ct} {z : Zx} {a b : Expr} {x y : Str} {px py pt pt2 : Pos} {kt k2 : Nat} (h : XOk X k C z) (hc : (isLc z x && isLc z y && (py.line == px.line)) = false) :
    swappedStores [.Tuple [.Name x px, .Name y py] kt pt] (.Tuple [a, b] k2 pt2) X.env = pure none := by
  have kx := loc_eq h x
  have ky := loc_eq h y
  unfold swappedStores
  simp only [blkK h]
  rw [if_neg (by simp)]
  split
  · rfl
  · rw [if_pos]
    cases hx : isLc z x <;> cases hy : isLc z y <;> cases hl : (py.line == px.line) <;> simp_all [Expr.pos]
theorem sw_cell3 {X : Cx} {k : Nat} {C : Ct} {z : Zx} {a b c : Expr} {x y w : Str} {px py pw pt pt2 : Pos} {kt k2 : Nat} (h : XOk X k C z) (hc : (isLc z x && isLc z y && isLc z w && (py.line == px.line) && (pw.line == px.line)) = false) :
    swappedStores [.Tuple [.Name x px, .Name y py, .Name w pw] kt pt] (.Tuple [a, b, c] k2 pt2) X.env = pure none := by
  have kx := loc_eq h x
  have ky := loc_eq h y
  have kw := loc_eq h w
  unfold swappedStores
  simp only [blkK h]
  rw [if_neg (by simp)]
  split
  · rfl
  · rw [if_pos]
    cases hx : isLc z x <;> cases hy : isLc z y <;> cases hw : isLc z w <;> cases hl : (py.line == px.line) <;> cases hl2 : (pw.line == px.line) <;> simp_all [Expr.pos]
end Mi
end
section
/-! Mi22: statements, sound. -/
namespace Mi
open PySem PySem.Spec
open PyProof.Rows hiding St Fr
open L2

/-- a translation of expressions that is sound, of comprehensions too -/
structure Snd2 (f : Rec) : Prop where
  e : Snd f
  lc : ∀ (X : Cx) (k : Nat) (C : Ct) (z : Zx) (elt : Expr) (gs : List Comprehension) (scope : Scope) (p : Pos), XOk X k C z → LcOr X C elt gs scope (f.e z (.ListComp elt gs scope p))
theorem snd2_tr : ∀ n, Snd2 (tr n)
  | 0 => ⟨snd_tr 0, fun _ _ _ _ _ _ _ _ _ => .inl rfl⟩
  | n + 1 => ⟨snd_tr (n + 1), fun _ _ _ _ _ _ _ _ h => stLc_ok (snd_tr n) h⟩
section
variable {X : Cx} {k : Nat} {C : Ct} {z : Zx} {e a b c : Expr} {es : List Expr} {pos : Pos} {f : Rec} {st : Stmt}
theorem asg_read {te : TE} {ma : Ex} {i : Nat} (w : ∀ σ H Q, tE X.K C ma σ H Q → te σ H Q) : ∀ D σ H, tS X.K C (.asg i ma) D σ H → tAsg te (gName i) D σ H := fun D σ H ⟨F, st, o, st', r, e, q⟩ => by
  simp only [exS, Option.bind_eq_some_iff, Option.map_eq_some_iff] at e
  obtain ⟨qa, ea, s, es, e⟩ := e
  cases e
  exact w σ H _ ⟨F, st, qa.1, qa.2, r, ea, fun v F1 H1 ra => q _ _ _ (ra.store es)⟩
theorem sw_lc {elt : Expr} {gs : List Comprehension} {scope : Scope} {pos py : Pos} {y : Str} {l : Nat} {env : Env} : swapsWith (.ListComp elt gs scope pos) (some (.Name y py)) l env =
    pure (env.blockKind == .function && env.kindOf y == some .local && py.line == pos.line && !(scope.names.any fun (n, k) => n == y && (k == .local || k == .cell))) := rfl
theorem asg_lc (h : XOk X k C z) {elt : Expr} {gs : List Comprehension} {scope : Scope} {p lp : Pos} {x : Str} {i : Nat} {m : Ex} (hs : StOk X x i) (L : LcOr X C elt gs scope m) : PS X (.Assign [.Name x p] (.ListComp elt gs scope lp) pos) (tS X.K C (.asg i m)) := by
  rcases L with rfl | ⟨tg, iter, ifs, own, wi, g, tt, te, rfl, L⟩
  · exact ⟨fun pins s σ H D I ⟨F, st, o, st', r, e, q⟩ => by simp only [exS] at e; cases e⟩
  · cases hb : (X.env.blockKind == .function && X.env.kindOf x == some .local && p.line == lp.line && !(scope.names.any fun (n, k) => n == x && (k == .local || k == .cell))) with
    | true =>
      have hl : X.env.scope.names.lookup x = some .local := by
        simp only [Bool.and_eq_true, beq_iff_eq] at hb
        exact hb.1.1.2
      exact ps_mono (ps_setLc h.calm h.nd hs.ix hl (by rw [sw_lc, hb]) L.hi L.ok L.hg L.ht L.he (foldS L.hs)) (asg_read L.w)
    | false =>
      exact ps_mono (ps_set h.nd hs.ix hs.loc (pe_lc h.calm h.nd L.hi L.ok L.hg L.ht L.he (foldS L.hs)) (by rw [sw_lc, hb]) hs.fn) (asg_read L.w)
theorem asg_any (hf : Snd2 f) (h : XOk X k C z) {x : Str} {p : Pos} {i : Nat} (hc : (noComp e || isLC e) = true) (hs : StOk X x i) : PS X (.Assign [.Name x p] e pos) (tS X.K C (.asg i (f.e z e))) := by
  rw [Bool.or_eq_true] at hc
  rcases hc with hc | hc
  · exact ms_asg h.nd hs hc (fE hf.e h e)
  · cases e with
    | ListComp elt gs scope lp => exact asg_lc h hs (hf.lc X k C z elt gs scope lp h)
    | _ => cases hc
theorem asgS_ok (hf : Snd2 f) (h : XOk X k C z) {tg : Expr} : PS X (.Assign [tg] e pos) (tS X.K C (asgS f z tg e)) := by
  have E := fun e => fE hf.e h e
  have R := fun e => fR hf.e h e
  have L : ∀ {es : List Expr}, noStars es = true → PA X es (tN X.K C (trL (fun e => (f.e z e)) es)) := fun hs => L_pa (fun e _ => E e) hs
  unfold asgS
  split
  · split
    · rename_i hc
      split
      · rename_i i hi
        exact asg_any hf h hc (h.st hi)
      · exact ms_raise
    · exact ms_raise
  · split
    · rename_i hc
      rw [Bool.and_eq_true] at hc
      split
      · rename_i i hi; exact ms_setI h.room (h.ix hi) hc.1 hc.2 (E _) (R _)
      · exact ms_raise
    · exact ms_raise
  · rename_i x px y py kt pt a b k2 pt2
    split
    · rename_i hc
      simp only [Bool.and_eq_true, decide_eq_true_eq] at hc
      obtain ⟨⟨⟨⟨⟨h1, h2⟩, h3⟩, h4⟩, h5⟩, h6⟩ := hc
      split
      · rename_i i j hi hj
        split
        · rename_i hij
          exact ms_par2 h.calm h.nd (h.st hi).ix (h.st hj).ix hij (lc_ok h h1) (lc_ok h h2) (L h5) (sw_par2 h h1 h2 h3 h4 h6)
        · exact ms_raise
      · exact ms_raise
    · split
      · rename_i hc
        split
        · rename_i is his
          exact ms_asgT h.calm h.nd (st_ok2 h his kt pt) rfl (sw_fold2 (w := a) (u := a) hc) (E _)
        · exact ms_raise
      · split
        · rename_i hc
          rw [Bool.and_eq_true, Bool.not_eq_true'] at hc
          split
          · rename_i is his
            split
            · rename_i few
              exact ms_parT h.calm h.nd (tgIs_ok h his) (L hc.2) few (sw_cell2 h hc.1)
            · exact ms_raise
          · exact ms_raise
        · exact ms_raise
  · rename_i x px y py w pw kt pt a b c k2 pt2
    split
    · rename_i hc
      simp only [Bool.and_eq_true, decide_eq_true_eq] at hc
      obtain ⟨⟨⟨⟨⟨⟨⟨⟨⟨h1, h2⟩, h3⟩, h4⟩, h5⟩, h6⟩, h7⟩, h8⟩, h9⟩, h10⟩ := hc
      split
      · rename_i i j l hi hj hl
        split
        · rename_i hd
          exact ms_par3 h.calm h.nd (h.st hi).ix (h.st hj).ix (h.st hl).ix hd.1 hd.2.1 hd.2.2 (lc_ok h h1) (lc_ok h h2) (lc_ok h h3) (L h9) (sw_par3 h h1 h2 h3 h4 h5 h6 h7 h8 h10)
        · exact ms_raise
      · exact ms_raise
    · split
      · rename_i hc
        split
        · rename_i is his
          exact ms_asgT h.calm h.nd (st_ok2 h his kt pt) rfl (sw_fold3 hc) (E _)
        · exact ms_raise
      · split
        · rename_i hc
          rw [Bool.and_eq_true, Bool.not_eq_true'] at hc
          split
          · rename_i is his
            split
            · rename_i few
              exact ms_parT h.calm h.nd (tgIs_ok h his) (L hc.2) few (sw_cell3 h hc.1)
            · exact ms_raise
          · exact ms_raise
        · exact ms_raise
  · split
    · rename_i hc
      split
      · rename_i is js his hjs
        exact ms_asgTT h.calm h.nd (st_ok2 h his _ _) (st_ok2 h hjs _ _) hc (sw_two rfl rfl) (R _)
      · exact ms_raise
    · exact ms_raise
  · split
    · rename_i hc
      rw [Bool.and_eq_true, Bool.and_eq_true] at hc
      split
      · rename_i i j hi hj
        exact ms_asgSS h.room h.calm (h.ix hi) (h.ix hj) hc.1.2 hc.2 hc.1.1 (sw_two rfl rfl) (R _) (R _) (R _)
      · exact ms_raise
    · exact ms_raise
  · split
    · rename_i hc
      rw [Bool.and_eq_true] at hc
      split
      · rename_i i j hi hj
        exact ms_divI h.calm h.nd (h.ix hi) (h.st hj) hc.2 (sw_notup hc.1) (R _)
      · exact ms_raise
    · exact ms_raise
  · split
    · rename_i hc
      rw [Bool.and_eq_true] at hc
      split
      · rename_i is his
        exact ms_asgT h.calm h.nd (st_ok2 h his _ _) hc.2 (sw_notup hc.1) (R _)
      · exact ms_raise
    · exact ms_raise
  · exact ms_raise
theorem exprS_ok (hf : Snd2 f) (h : XOk X k C z) : PS X (.Expr e pos) (tS X.K C (exprS f z e)) := by
  have E := fun e => fE hf.e h e
  have R := fun e => fR hf.e h e
  unfold exprS
  split
  · exact ms_doc
  · rename_i x p name apos a cpos
    split
    · rename_i hc
      obtain ⟨rfl, h1, h2⟩ := hc
      split
      · rename_i i hi; exact ms_app (h.ix hi) (E a) h2 h1
      · exact ms_raise
    · split
      · rename_i hc
        obtain ⟨rfl, h1, h2⟩ := hc
        split
        · rename_i i hi; exact ms_ext (h.ix hi) (R a) h2 h1
        · exact ms_raise
      · exact ms_ex rfl (E _)
  · split
    · rename_i hc
      obtain ⟨rfl, h1, h2, h3⟩ := hc
      split
      · rename_i i hi; exact ms_sdf (h.ix hi) (R _) (E _) h2 h3 h1
      · exact ms_raise
    · exact ms_ex rfl (E _)
  · split
    · rename_i hn; exact ms_ex hn (E _)
    · exact ms_raise
theorem retS_ok (hf : Snd2 f) (h : XOk X k C z) : PS X (.Return (some e) pos) (tS X.K C (retS f z e)) := by
  unfold retS
  split
  · split
    · rename_i i hi; exact ms_retv (h.ix hi)
    · exact ms_ret (fE hf.e h _)
  · exact ms_ret (fE hf.e h _)
theorem ssL_ok {g : Stmt → S} (hg : ∀ s, PS X s (tS X.K C (g s))) : ∀ ss : List Stmt, PSs X ss (tSs X.K C (ssL g ss))
  | [] => ms_nil
  | s :: ss => ms_cons (hg s) (ssL_ok hg ss)
theorem augOf_ok {o : Operator} {p : O2} (h : augOf o = some p) : p.op = o ∧ (p = .add ∨ p = .sub) := by
  cases o <;> cases h
  · exact ⟨rfl, .inl rfl⟩
  · exact ⟨rfl, .inr rfl⟩
theorem stS_ok (hf : Snd2 f) (h : XOk X k C z) (hp : PassesOwn (model X.prog X.w) X.A X.env X.xe) {g : Stmt → S} (hg : ∀ s, PS X s (tS X.K C (g s))) : PS X st (tS X.K C (stS f z g st)) := by
  unfold stS
  split
  · exact asgS_ok hf h
  · exact exprS_ok hf h
  · exact ms_retN
  · exact retS_ok hf h
  · exact ms_pass
  · exact ms_brk
  · exact ms_cont
  · exact ms_if (fT hf.e h _) (ssL_ok hg _) (ssL_ok hg _)
  · exact ms_while hp (fT hf.e h _) (ssL_ok hg _)
  · split
    · rename_i hs
      split
      · rename_i q hq
        exact ms_for hp h.calm h.nd (tgIx_ok h hq) (stI_ok hf.e h (tgIx_tup hq)) hs (ssL_ok hg _)
      · exact ms_raise
    · exact ms_raise
  · split
    · rename_i i o hi ho
      obtain ⟨e1, e2⟩ := augOf_ok ho
      subst e1
      exact ms_aug e2 h.nd (h.st hi) (fR hf.e h _)
    · exact ms_raise
  · exact ms_raise
theorem trS_ok (hf : Snd2 f) (h : XOk X k C z) (hp : PassesOwn (model X.prog X.w) X.A X.env X.xe) : ∀ (n : Nat) (st : Stmt), PS X st (tS X.K C (trS f z n st))
  | 0, _ => ms_raise
  | n + 1, _ => stS_ok hf h hp (trS_ok hf h hp n)
end
end Mi
end
section
/-! Mi23: the text's defs. -/
namespace Mi
open PySem PySem.Spec
open PyProof.Rows hiding St Fr
open L2

structure Df where
  x : Str
  as : List Arg
  body : List Stmt
  scope : Scope
  N : List Str
  io : Bool
abbrev Df.ps (d : Df) : List Str := d.as.map (·.arg)
def sgOf (ds : List Df) : List (Str × List Str × Bool) := ds.map fun d => (d.x, d.ps, d.io)
def Df.zx (d : Df) (sg : List (Str × List Str × Bool)) (bl : List Str) : Zx := ⟨d.N, d.scope, fun _ => true, sg, bl⟩
def Df.fd (d : Df) (sg : List (Str × List Str × Bool)) (bl : List Str) (m : Nat) : Fd := ⟨d.ps, d.N.length, d.io, ssL (trS (tr m) (d.zx sg bl) m) d.body⟩
def tabOf (ds : List Df) (gl : List (Str × PyData)) (bl : List Str) (m : Nat) : Tab := ⟨ds.map fun d => (d.x, d.fd (sgOf ds) bl m), gl⟩
def Df.okB (d : Df) : Bool := decide (d.scope.kind = .function) && !d.scope.isCoroutine && !d.scope.isGenerator && decide d.N.Nodup && decide (d.N.take d.ps.length = d.ps) &&
  (d.ps.all fun x => decide (d.scope.names.lookup x = some .local) || decide (d.scope.names.lookup x = some .cell)) && (d.scope.names.all fun y => !(y.2 == .free)) && !(d.x == ("__debug__" : Str)) && decide (d.io = true → d.ps ≠ [])
theorem Df.scp {d : Df} (h : d.okB = true) : FnScope d.N d.ps d.scope ∧ (d.x == ("__debug__" : Str)) = false ∧ (d.io = true → d.ps ≠ []) := by
  unfold Df.okB at h
  simp only [Bool.and_eq_true, decide_eq_true_eq, Bool.not_eq_true', List.all_eq_true, Bool.or_eq_true] at h
  obtain ⟨⟨⟨⟨⟨⟨⟨⟨h1, h2⟩, h3⟩, h4⟩, h5⟩, h6⟩, h7⟩, h8⟩, h9⟩ := h
  exact ⟨⟨h1, h2, h3, h4, h5, h6, fun y hy e => by have := h7 y hy; rw [e] at this; cases this⟩, h8, h9⟩
theorem lookup_find {α : Type} (g : Df → α) (x : Str) : ∀ ds : List Df, (ds.map fun d => (d.x, g d)).lookup x = (ds.find? fun d => x == d.x).map g
  | [] => rfl
  | d :: ds => by
    rw [List.map_cons, List.lookup_cons, List.find?_cons]
    cases h : (x == d.x) with
    | true => rfl
    | false => exact lookup_find g x ds
section
variable {K : PySem.W.Frag} {F H F' H' : Hp} {vs : List V} {ds : List D} {d : D}
theorem dens_len : ∀ {vs : List V} {ds : List D}, Dens K F vs ds → vs.length = ds.length
  | _, _, .nil => rfl
  | _, _, .cons _ t => congrArg Nat.succ (dens_len t)
theorem dens_at : ∀ {vs : List V} {ds : List D} {i : Nat} {d : D}, Dens K F vs ds → ds[i]? = some d → ∃ v, vs[i]? = some v ∧ Den K F v d
  | _, _, _, _, .nil, e => by simp at e
  | _, _, 0, _, .cons r _, e => by simp at e; subst e; exact ⟨_, rfl, r⟩
  | _, _, i + 1, d, .cons _ t, e => by
    obtain ⟨v, h1, h2⟩ := dens_at (i := i) (d := d) t (by simpa using e)
    exact ⟨v, by simpa using h1, h2⟩
theorem start_at {N : List Str} {i : Nat} {v : V} (h : vs[i]? = some v) : (L2.start N vs)[i]? = some (some v) := by
  unfold L2.start
  rw [List.getElem?_append_left (by rw [List.length_map]; exact get_lt h), List.getElem?_map, h] <;> rfl
theorem enter_fr {n i : Nat} {s : Sl} (h : (ds.map Sl.fr ++ List.replicate n Sl.no)[i]? = some s) : s = .no ∨ ∃ d, ds[i]? = some d ∧ s = .fr d := by
  by_cases l : i < ds.length
  · rw [List.getElem?_append_left (by rw [List.length_map]; exact l), List.getElem?_map, List.getElem?_eq_getElem l] at h
    cases h
    exact .inr ⟨_, List.getElem?_eq_getElem l, rfl⟩
  · rw [List.getElem?_append_right (by rw [List.length_map]; omega)] at h
    have := List.mem_of_getElem? h
    exact .inl (List.eq_of_mem_replicate this)
/-- how a def's frame stands at its entry -/
structure EntR (K : PySem.W.Frag) (F H : Hp) (st : En) (σ : L2.St) (io : Bool) (vs : List V) : Prop where
  rel : Rel K F st σ H
  own : ∀ a, Owns st σ a ↔ LentAt io vs a
  bo : ∀ d0, st[0]? = some (Sl.bo d0) → io = true
  v0 : σ[0]? = vs.head?.map some
theorem ent_ok {Fd0 : Fd} {N : List Str} (le : Same F H) (hn : Fd0.n = N.length) (hv : vs.length ≤ N.length) (hne : Fd0.io = true → vs ≠ []) (h : ArgR K F H Fd0.io vs ds) (hpos : vs ≠ [] ∨ N = [] ∨ True) : ds.length = vs.length ∧ (Rel K F (enter Fd0 ds) (L2.start N vs) H ∧ (∀ a, Owns (enter Fd0 ds) (L2.start N vs) a ↔ LentAt Fd0.io vs a)) := by
  unfold enter
  cases hio : Fd0.io with
  | false =>
    rw [hio] at h
    have h : Dens K F vs ds := h
    have ll := dens_len h
    have at' : ∀ {i : Nat} {s : Sl}, (ds.map Sl.fr ++ List.replicate (Fd0.n - ds.length) Sl.no)[i]? = some s → s.owned = false ∧ SlR K F H (L2.start N vs) i s := fun {i s} e => by
      rcases enter_fr e with rfl | ⟨d, h1, rfl⟩
      · exact ⟨rfl, trivial⟩
      · obtain ⟨v, h2, h3⟩ := dens_at h h1
        exact ⟨rfl, v, start_at h2, h3⟩
    refine ⟨ll.symm, ⟨le, ?_, fun i s e => (at' e).2, fun i j s t a h1 h2 h3 => ?_⟩, fun a => ⟨fun ⟨i, s, h1, h2, _⟩ => ?_, fun z => ?_⟩⟩
    · unfold L2.start
      simp only [List.length_append, List.length_map, List.length_replicate]
      omega
    · rw [(at' h1).1] at h3; cases h3
    · rw [(at' h1).1] at h2; cases h2
    · cases z.1
  | true =>
    rw [hio] at h
    match vs, ds, h with
    | v :: vr, d :: dr, h =>
      obtain ⟨⟨a, rfl, hF, hO⟩, hd⟩ := h
      have ll := dens_len hd
      have at' : ∀ {i : Nat} {s : Sl}, (Sl.bo d :: dr.map Sl.fr ++ List.replicate (Fd0.n - (d :: dr).length) Sl.no)[i]? = some s → (i = 0 ∧ s = .bo d) ∨ (s.owned = false ∧ SlR K F H (L2.start N (V.ref a :: vr)) i s) := fun {i s} e => by
        cases i with
        | zero => cases e; exact .inl ⟨rfl, rfl⟩
        | succ i =>
          rcases enter_fr (i := i) (s := s) (by simpa using e) with rfl | ⟨d', h1, rfl⟩
          · exact .inr ⟨rfl, trivial⟩
          · obtain ⟨v, h2, h3⟩ := dens_at hd h1
            exact .inr ⟨rfl, v, start_at (by simpa using h2), h3⟩
      have s0 : (L2.start N (V.ref a :: vr))[0]? = some (some (V.ref a)) := start_at rfl
      refine ⟨by simp [ll], ⟨le, ?_, fun i s e => ?_, fun i j s t b h1 h2 h3 h4 _ _ => ?_⟩, fun b => ⟨fun ⟨i, s, h1, h2, h3⟩ => ?_, fun z => ?_⟩⟩
      · unfold L2.start
        simp only [List.length_append, List.length_map, List.length_replicate, List.length_cons] at hv ⊢
        omega
      · rcases at' e with ⟨rfl, rfl⟩ | ⟨_, z⟩
        · exact ⟨a, s0, hF, hO⟩
        · exact z
      · rcases at' h1 with ⟨e, _⟩ | ⟨z, _⟩
        · rcases at' h2 with ⟨e', _⟩ | ⟨z, _⟩
          · rw [e, e']
          · rw [z] at h4; cases h4
        · rw [z] at h3; cases h3
      · rcases at' h1 with ⟨e, _⟩ | ⟨z, _⟩
        · subst e
          rw [s0] at h3
          cases h3
          exact ⟨rfl, rfl⟩
        · rw [z] at h2; cases h2
      · have e : V.ref a = V.ref b := by simpa using z.2
        cases e
        exact ⟨0, .bo d, rfl, rfl, s0⟩
    | [], _, h => exact absurd rfl (hne hio)
/-- the def's end -/
theorem ret_ok {Fd0 : Fd} {st' : En} {σ σ' : L2.St} {st : En} {v : V} {b : Bool} {fin : D} (r : Rel K F st σ H) (own : ∀ a, Owns st σ a ↔ LentAt Fd0.io vs a) (h0 : ∀ a, LentAt Fd0.io vs a → σ[0]? = some (some (V.ref a))) (g : Go K st σ F H st' σ' F' H') (hl : lentE Fd0.io st' = some fin)
    (ho : ORel K F' H' st' σ' v (if b then .fe d else .va d)) (hf : Fro st σ H v (if b then .fe d else .va d)) : RetR K F H Fd0.io vs d b fin v F' H' := by
  have lent : ∀ a, LentAt Fd0.io vs a → Owns st' σ' a ∧ F' a = none ∧ OwnAt K F' H' a fin := fun a ha => by
    have io := ha.1
    rw [io] at hl
    unfold lentE at hl
    split at hl
    · rename_i z; cases z
    · rename_i dd tl _
      cases hl
      have e0 : (Sl.bo fin :: tl)[0]? = some (Sl.bo fin) := rfl
      obtain ⟨e1, _⟩ := g.bos 0 fin e0
      obtain ⟨c, k1, k2, k3⟩ := g.rel.sl 0 _ e0
      rw [e1, h0 a ha] at k1
      cases k1
      exact ⟨⟨0, _, e0, rfl, by rw [e1]; exact h0 a ha⟩, k2, k3⟩
    · cases hl
  refine ⟨⟨g.stp.fr, fun a o h n => g.stp.keep a o h fun z => n ((own a).mp z), g.stp.live, fun a h => .inl h, fun a h => (g.stp.frz a h).imp id (Or.imp (own a).mp id)⟩, g.rel.le, fun a ha => (lent a ha).2, fun e => ?_, fun e => ?_⟩
  · subst e; exact ho
  · subst e
    obtain ⟨a, e1, h1, h2, h3⟩ := ho
    obtain ⟨a', e2, h4⟩ := hf
    rw [e1] at e2; cases e2
    refine ⟨a, e1, h4.resolve_left fun z => h3 (lent a ((own a).mp z)).1, h1, h2⟩
end
/-- the text, as it lies in the heap -/
structure Txt (K : PySem.W.Frag) (mg : Str → Option Value) (ds : List Df) (gl : List (Str × PyData)) (bl : List Str) : Prop where
  ok : ∀ d ∈ ds, d.okB = true
  fn : ∀ d ∈ ds, ∃ f fd, FunD K d.x d.x (simpleArgs d.as) d.body d.scope [] [] f fd ∧ mg d.x = some (.ref f)
  bl : ∀ x ∈ bl, mg x = none
  gl : ∀ x p, gl.lookup x = some p → ∃ v u, mg x = some u ∧ RelV v u ∧ ∀ F, Dn K F v p
theorem all_fn {P : Program} {w : World} {K : PySem.W.Frag} {mg : Str → Option Value} {base : Heap} {ds : List Df} {gl : List (Str × PyData)} {bl : List Str} {fuel m : Nat} (T : Txt K mg ds gl bl) :
    ∀ (n : Nat) (x : Str) (d : Df), (ds.find? fun d => x == d.x) = some d → ∀ f fd, FunD K d.x d.x (simpleArgs d.as) d.body d.scope [] [] f fd → FnG P w K mg base n f fd d.ps (spC K (run (tabOf ds gl bl m) fuel n x) d.io d.ps.length)
  | 0, x, d, hd, f, fd, FD => ⟨fun vs H Q E h => h.1, fun A outer s H args us vs Q hr hg e0 hb r ⟨_, F, ds, d, b, fin, _, e, _⟩ => by cases e⟩
  | n + 1, x, d, hd, f, fd, FD => by
    have hm := List.mem_of_find?_eq_some hd
    obtain ⟨S, hdb, hio⟩ := Df.scp (T.ok d hm)
    refine fnG_of FD S (fun vs H Q E h => by rw [h.1]) fun cdv A outer s H vs Q hr hg hsp => ?_
    have hz : XOk (cxOf CX0 P w K mg base d.N d.x d.scope f cdv A outer s H E0).nox n ((tabOf ds gl bl m).ct fuel (run (tabOf ds gl bl m) fuel n)) (d.zx (sgOf ds) bl) := {
      hn := rfl
      nd := S.nd
      sc := rfl
      kd := S.kind
      fn := fun _ _ => rfl
      calm := rfl
      room := hr
      g := hg
      bl := T.bl
      glo := fun x p e => T.gl x p e
      cal := fun y q e => by
        have e : (sgOf ds).lookup y = some q := e
        unfold sgOf at e
        rw [lookup_find (fun d => (d.ps, d.io)) y ds, Option.map_eq_some_iff] at e
        obtain ⟨d2, h2, rfl⟩ := e
        have hy : y = d2.x := by have := List.find?_some h2; simpa using this
        have hm2 := List.mem_of_find?_eq_some h2
        obtain ⟨f2, fd2, FD2, mg2⟩ := T.fn d2 hm2
        have io2 : ((tabOf ds gl bl m).ct fuel (run (tabOf ds gl bl m) fuel n)).io y = d2.io := by
          show ((ds.map fun d => (d.x, d.fd (sgOf ds) bl m)).lookup y).elim false Fd.io = d2.io
          rw [lookup_find (fun d => d.fd (sgOf ds) bl m) y ds, h2] <;> rfl
        have fn2 := all_fn (P := P) (w := w) (base := base) (fuel := fuel) (m := m) T n y d2 h2 f2 fd2 FD2
        subst hy
        refine ⟨f2, fd2, d2.x, d2.as, d2.body, d2.scope, ⟨rfl, FD2, ?_, mg2, (Df.scp (T.ok d2 hm2)).2.1⟩⟩
        rw [io2]
        exact fn2 }
    refine ⟨_, ssL_ok (trS_ok (snd2_tr m) hz PassesOwn.never m) d.body, ?_⟩
    obtain ⟨hlen, F, as, rd, b, fin, le, e, ha, q⟩ := hsp
    have hF : (tabOf ds gl bl m).fds.lookup x = some (d.fd (sgOf ds) bl m) := by
      show (ds.map fun d => (d.x, d.fd (sgOf ds) bl m)).lookup x = _
      rw [lookup_find (fun d => d.fd (sgOf ds) bl m) x ds, hd] <;> rfl
    simp only [run, hF, Option.bind_some] at e
    have hpl : d.ps.length ≤ d.N.length := by have := congrArg List.length S.pre; rw [List.length_take] at this; omega
    obtain ⟨l1, r, own⟩ := ent_ok (Fd0 := d.fd (sgOf ds) bl m) (N := d.N) le rfl (by rw [hlen]; exact hpl) (fun h z => hio h (List.length_eq_zero_iff.mp (by rw [← hlen, z] <;> rfl))) ha (.inr (.inr trivial))
    split at e
    · simp only [Option.bind_eq_some_iff] at e
      obtain ⟨⟨o, st'⟩, ex, fin', hl, e⟩ := e
      refine ⟨F, _, o, st', r, ex, fun σ' F' H' g => ?_⟩
      have h0 : ∀ a, LentAt d.io vs a → (L2.start d.N vs)[0]? = some (some (V.ref a)) := fun a ha => start_at (by
        cases vs with
        | nil => cases ha.2
        | cons v vr => exact ha.2)
      cases o with
      | rt d' b' =>
        cases e
        exact fun v h1 h2 => q v F' H' (ret_ok (Fd0 := d.fd (sgOf ds) bl m) r own h0 g hl h1 h2)
      | nx =>
        cases e
        exact q _ F' H' (ret_ok (Fd0 := d.fd (sgOf ds) bl m) (b := false) r own h0 g hl Dn.non trivial)
      | brk => cases e
      | cont => cases e
    · cases e
end Mi
end
section
/-! Mi24: a law's end. -/
namespace Mi
open PySem PySem.Spec
open PyProof.Rows hiding St Fr
open L2

section
variable {P : Program} {w : World} {K : PySem.W.Frag} {mg mb : Str → Option Value} {k : Nat} {fa a : Addr} {fd : FuncData} {x : Str} {sp : Sp} {t : Shared} {us : List Value} {ns : List Int} {H : Hp}
/-- the heap's part that is not told stays; so it is the module's -/
theorem top_env (inK : K.In t.heap) (g1 : t.heap.Ns mainGlobals mg) (g2 : t.heap.Ns builtinsNs mb) (g3 : ∀ y : Str, y ≠ "__name__" → mb y = bootBuiltins y) (g4 : t.heap.NoLimit) (g5 : t.gens = #[])
    (hl : t.heap.get? a = some { cls := .type "list", data := .seq us.toArray }) (tell : HOk P w H t.heap) (one : ∀ b, H b ≠ none → b = a) (apart : H a ≠ none → K.lookup a = none) :
    K.In (hidT t.heap H) ∧ (hidT t.heap H).Ns mainGlobals mg ∧ Env0 P w K mg (hidT t.heap H) callerA [] t H := by
  have quiet : ∀ {b : Addr} {o : Obj}, (H b ≠ none → b ≠ a) → t.heap.get? b = some o → (hidT t.heap H).get? b = some o := fun {b o} hb ho => by
    refine hidT_get ho ?_
    cases hH : H b with
    | none => rfl
    | some u => exact absurd (one b (by rw [hH]; simp)) (hb (by rw [hH]; simp))
  have spaces : ∀ {b : Addr} {m : Str → Option Value}, t.heap.Ns b m → (hidT t.heap H).Ns b m := by
    intro b m hb
    obtain ⟨o, es, ep, ho, hd, rest⟩ := hb
    refine ⟨o, es, ep, quiet (fun _ e => ?_) ho, hd, rest⟩
    subst e
    rw [hl] at ho
    cases ho
    exact Data.noConfusion (show Data.seq us.toArray _ = Data.dict es ep from hd)
  have inB : K.In (hidT t.heap H) := fun b o e => quiet (fun n e2 => by
    subst e2
    rw [apart n] at e
    cases e) (inK b o e)
  obtain ⟨mc, l1, l2⟩ := g4
  refine ⟨inB, spaces g1, rfl, ⟨inB, spaces g1, ⟨mb, spaces g2, g3⟩, mc, spaces l1, l2⟩, fun b o e => of_hidT e, Nat.le_of_eq (hidT_size _ _), trivial, fun b hb => ?_, tell, .of_eq g5⟩
  cases (show b ∈ ([] : List Addr) from hb)
theorem top_run (inK : K.In t.heap) (g1 : t.heap.Ns mainGlobals mg) (g2 : t.heap.Ns builtinsNs mb) (g3 : ∀ y : Str, y ≠ "__name__" → mb y = bootBuiltins y) (g4 : t.heap.NoLimit) (g5 : t.gens = #[])
    (hl : t.heap.get? a = some { cls := .type "list", data := .seq us.toArray }) (tell : HOk P w H t.heap) (one : ∀ b, H b ≠ none → b = a) (apart : H a ≠ none → K.lookup a = none) (only : Only H) (room : Room k callerA)
    (fn : ∀ base : Heap, K.In base → base.Ns mainGlobals mg → FnG P w K mg base k fa fd [x] sp) (bd : ∀ (s : Shared) (u : Value), BindsTo s fd ⟨[u], []⟩ [(x, u)]) (wish : sp [.ref a] H (fun v _ => v = .bl true) E0) :
    codeAny (model P w) callerA (.call (.ref fa) ⟨[.ref a], []⟩) (fun r s' => r = .ok (.ret (.bool true)) ∧ OldK t.heap s'.heap ∧ s'.os = t.os ∧ AllBare s'.gens) t := by
  obtain ⟨inB, spB, env⟩ := top_env (P := P) (w := w) inK g1 g2 g3 g4 g5 hl tell one apart
  have go := (fn _ inB spB).run callerA [] t H ⟨[.ref a], []⟩ [.ref a] [.ref a] _ room rfl env (bd t (.ref a)) (.cons rfl .nil) wish
  refine codeAny_mono go fun r s' h => ?_
  match r, h with
  | .ok (.ret u), h =>
    obtain ⟨v, H', os, bare, un, told, rel, ev⟩ := h
    have ev : v = .bl true := ev
    subst ev
    cases rel
    refine ⟨rfl, OldK.of_keep fun b o ho => ?_, os, bare⟩
    rcases only b with n | ⟨ob, xs, f⟩
    · refine un.keep b o ho n (fun z => ?_) (by simp)
      cases (show b ∈ ([] : List Addr) from z)
    · have now := (told b _ (un.frzs b ob _ f)).1
      have was := (tell b _ f).1
      rw [ho] at was
      cases was
      exact now
  | .ok .next, h => exact h.elim
  | .ok .brk, h => exact h.elim
  | .ok .cont, h => exact h.elim
  | .error e, h => exact h.elim
/-- a law's call: the script is a list of ints -/
theorem top_call (inK : K.In t.heap) (g1 : t.heap.Ns mainGlobals mg) (g2 : t.heap.Ns builtinsNs mb) (g3 : ∀ y : Str, y ≠ "__name__" → mb y = bootBuiltins y) (g4 : t.heap.NoLimit) (g5 : t.gens = #[])
    (hl : t.heap.get? a = some { cls := .type "list", data := .seq us.toArray }) (nums : IntsAre us ns) (few : ns.length ≤ sizeLine) (room : Room k callerA)
    (fn : ∀ base : Heap, K.In base → base.Ns mainGlobals mg → FnG P w K mg base k fa fd [x] sp) (bd : ∀ (s : Shared) (u : Value), BindsTo s fd ⟨[u], []⟩ [(x, u)])
    (wish : ∀ H : Hp, SqL K H a (ns.map V.int) → sp [.ref a] H (fun v _ => v = .bl true) E0) :
    codeAny (model P w) callerA (.call (.ref fa) ⟨[.ref a], []⟩) (fun r s' => r = .ok (.ret (.bool true)) ∧ OldK t.heap s'.heap ∧ s'.os = t.os ∧ AllBare s'.gens) t := by
  have rel := vals_ints nums
  have len : us.length = ns.length := nums.length
  cases hK : K.lookup a with
  | some o =>
    have ho := inK a o hK
    rw [hl] at ho
    cases ho
    refine top_run (H := fun _ => none) inK g1 g2 g3 g4 g5 hl (fun b u z => ?_) (fun b z => absurd rfl z) (fun z => absurd rfl z) (fun _ => .inl rfl) room fn bd (wish _ (.inr ⟨_, us.toArray, _, hK, rfl, rfl, rfl, ?_, by simpa using rel⟩))
    · cases (show (none : Option HO) = some u from z)
    · rw [List.size_toArray, len]; exact few
  | none =>
    let tell : HO := .frz { cls := .type "list", data := .seq us.toArray } (.lst (ns.map V.int))
    have at' : ∀ b, upd (fun _ => none) a tell b ≠ none → b = a := fun b z => by
      by_cases e : b = a
      · exact e
      · rw [upd_ne e] at z; exact absurd rfl z
    refine top_run (H := upd (fun _ => none) a tell) inK g1 g2 g3 g4 g5 hl (fun b u z => ?_) at' (fun _ => hK) (fun b => ?_) room fn bd (wish _ (.inl (.inr ⟨_, upd_same⟩)))
    · obtain rfl := at' b (by rw [z]; simp)
      rw [upd_same] at z
      cases z
      exact ⟨hl, by rw [List.length_map]; exact few, us, _, rel, hl⟩
    · by_cases e : b = a
      · subst e; exact .inr ⟨_, _, upd_same⟩
      · exact .inl (upd_ne e)
end
/-- THE END of a law: the evaluator answers True at every script -/
theorem top_law {l : PySem.W.OpenLaw} {n k : Nat} {q : Program} {loose : List Str} {XP : (Str → Option Value) → Heap → Prop} {YP : World → Heap → Prop} {d : DefRec} {x : Str} {ds : List Df} {gl : List (Str × PyData)} {bl : List Str} {fuel m : Nat} {dl : Df}
    (hn : l.most = some n) (hn2 : n ≤ sizeLine) (hdf : d.params.defaults = []) (room : Room k callerA) (hd : (ds.find? fun y => d.name == y.x) = some dl) (hps : dl.ps = [x]) (hio : dl.io = false)
    (F : ∀ (w : World) (mg : Str → Option Value) (fa : Addr) (h : Heap), YP w h → h.Ns mainGlobals mg → mg d.name = some (.ref fa) →
      ∃ (K : PySem.W.Frag) (fd : FuncData), K.In h ∧ (∀ (s : Shared) (u : Value), BindsTo s fd ⟨[u], []⟩ [(x, u)]) ∧ FunD K dl.x dl.x (simpleArgs dl.as) dl.body dl.scope [] [] fa fd ∧ Txt K mg ds gl bl)
    (law : ∀ ns : List Int, ns.length ≤ n → ∃ b fin, run (tabOf ds gl bl m) fuel k d.name [.scr ns] = some (.py (.bool true), b, fin)) :
    PySem.W.WalkO q loose XP YP l.row.toRowW d [] (fun f vs => PySem.call f vs) := by
  refine Att.attach_call hn hdf fun w s0 t mg mb fa o pm cd doc a us ns G Y ho ho2 hcd hmg hl nums few hg => ?_
  obtain ⟨K, fd, inK, bd, FD, T⟩ := F w mg fa _ Y G.T.g hmg
  have fn : ∀ base : Heap, K.In base → base.Ns mainGlobals mg → FnG l.prog w K mg base k fa fd [x] (spC K (run (tabOf ds gl bl m) fuel k d.name) false 1) := fun base _ _ => by
    have z := all_fn (P := l.prog) (w := w) (base := base) (fuel := fuel) (m := m) T k d.name dl hd fa fd FD
    rw [hps, hio] at z
    exact z
  refine top_call inK G.T.g G.T.b G.T.builtins G.T.nolimit hg hl nums (Nat.le_trans few hn2) room fn bd fun H hS => ?_
  obtain ⟨b, fin, e⟩ := law ns few
  refine ⟨rfl, H, [.scr ns], _, b, fin, Same.refl H, e, .cons ⟨a, rfl, hS⟩ .nil, fun v F' H' hr => ?_⟩
  cases b with
  | false =>
    have := hr.va rfl
    cases this
    rfl
  | true =>
    obtain ⟨c, _, _, _, h⟩ := hr.fe rfl
    exact h.elim
end Mi
end
section
/-! Mi25: the text of a row: its defs, its constants, and what the head tells of them. -/
namespace Mi
open PySem PySem.Spec
open PyProof.Rows hiding St Fr
open L2

/-! ### the defs of a text -/
def ownNames (sc : Scope) : List Str := sc.names.filterMap fun y => if y.2 == .local || y.2 == .cell then some y.1 else none
def gensIt : Comprehension → Expr
  | ⟨_, e, _, _⟩ => e
def gensIfs : Comprehension → List Expr
  | ⟨_, _, l, _⟩ => l
/-- the names that an expression's blocks store -/
def cvE : Nat → Expr → List Str
  | 0, _ => []
  | n + 1, e => match e with
    | .BoolOp _ es _ => es.flatMap (cvE n)
    | .BinOp a _ b _ => cvE n a ++ cvE n b
    | .UnaryOp _ a _ => cvE n a
    | .IfExp a b c _ => cvE n a ++ cvE n b ++ cvE n c
    | .ListComp elt gs sc _ => ownNames sc ++ cvE n elt ++ gs.flatMap fun g => cvE n (gensIt g) ++ (gensIfs g).flatMap (cvE n)
    | .DictComp k v gs sc _ => ownNames sc ++ cvE n k ++ cvE n v ++ gs.flatMap fun g => cvE n (gensIt g) ++ (gensIfs g).flatMap (cvE n)
    | .SetComp elt gs sc _ => ownNames sc ++ cvE n elt ++ gs.flatMap fun g => cvE n (gensIt g) ++ (gensIfs g).flatMap (cvE n)
    | .Compare a _ bs _ => cvE n a ++ bs.flatMap (cvE n)
    | .Call f as ks _ => cvE n f ++ as.flatMap (cvE n) ++ ks.flatMap fun k => cvE n (kwE k)
    | .Attribute a _ _ => cvE n a
    | .Subscript a b _ => cvE n a ++ cvE n b
    | .Tuple es _ _ => es.flatMap (cvE n)
    | .List es _ => es.flatMap (cvE n)
    | .Slice a b c _ => (a.elim [] (cvE n)) ++ (b.elim [] (cvE n)) ++ (c.elim [] (cvE n))
    | _ => []
def cvS : Nat → Stmt → List Str
  | 0, _ => []
  | n + 1, s => match s with
    | .Assign ts e _ => ts.flatMap (cvE 60) ++ cvE 60 e
    | .Expr e _ => cvE 60 e
    | .Return (some e) _ => cvE 60 e
    | .If c a b _ => cvE 60 c ++ a.flatMap (cvS n) ++ b.flatMap (cvS n)
    | .While c b _ _ => cvE 60 c ++ b.flatMap (cvS n)
    | .For _ i b _ _ => cvE 60 i ++ b.flatMap (cvS n)
    | .AugAssign t _ e _ => cvE 60 t ++ cvE 60 e
    | _ => []
/-- the first of each -/
def onces : List Str → List Str → List Str
  | acc, [] => acc.reverse
  | acc, x :: xs => if decide (x ∈ acc) then onces acc xs else onces (x :: acc) xs
def potIo (as : List Arg) : Bool := match as with
  | ⟨x, _, _⟩ :: _ => x == ("pot" : Str)
  | [] => false
def mkDf (st : Stmt) : Option Df := match st with
  | .FunctionDef n ⟨[], as, none, [], [], none, []⟩ b [] _ _ sc _ _ _ => some ⟨n, as, b, sc, onces [] (as.map (·.arg) ++ ownNames sc ++ b.flatMap (cvS 60)), potIo as⟩
  | _ => none
def dfsOf (p : List Stmt) : List Df := p.filterMap mkDf
def defNames (p : List Stmt) : List Str := p.filterMap fun st => match st with
  | .FunctionDef n .. => some n
  | .ClassDef n .. => some n
  | .Assign [.Name n _] _ _ => if n == "__name__" then none else some n
  | _ => none
/-! ### its constants -/
mutual
def constP (gl : List (Str × PyData)) : Nat → Expr → Option PyData
  | 0, _ => none
  | n + 1, e => match e with
    | .Constant v _ _ => litC v
    | .UnaryOp .USub (.Constant (.int i) _ _) _ => some (.int (-i))
    | .Name x _ => gl.lookup x
    | .Tuple es _ _ => (constPs gl n es).map .tuple
    | _ => none
def constPs (gl : List (Str × PyData)) : Nat → List Expr → Option (List PyData)
  | _, [] => some []
  | 0, _ => none
  | n + 1, e :: es => (constP gl n e).bind fun p => (constPs gl n es).map (p :: ·)
end
def glosOf : List (Str × PyData) → List Stmt → List (Str × PyData)
  | gl, [] => gl
  | gl, .Assign [.Name x _] e _ :: r => if x == "__name__" then glosOf gl r else (match constP gl 60 e with
    | some p => glosOf (gl ++ [(x, p)]) r
    | none => glosOf gl r)
  | gl, _ :: r => glosOf gl r
def allBl : List Str := ["len", "tuple", "list", "sorted", "min", "max", "sum", "any", "all", "abs", "int", "bool", "str", "repr", "divmod", "dict", "set", "isinstance", "range", "enumerate", "zip"]
def blOf (p : List Stmt) : List Str := allBl.filter fun x => decide (x ∉ defNames p)
/-! ### what the head tells -/
mutual
def datB (K : PySem.W.Frag) : Value → PyData → Bool
  | v, .none => (match v with
    | .none => true
    | _ => false)
  | v, .bool b => (match v with
    | .bool c => b == c
    | _ => false)
  | v, .int i => (match v with
    | .int j _ => decide (i = j)
    | _ => false)
  | v, .str x => (match v with
    | .str y _ => decide (x = y)
    | _ => false)
  | v, .tuple ps => (match v with
    | .ref a => (match K.lookup a with
      | some ⟨.type c, none, .seq its _, _⟩ => decide (c = "tuple") && decide (its.size ≤ sizeLine) && datAll K its.toList ps
      | _ => false)
    | _ => false)
  | _, _ => false
def datAll (K : PySem.W.Frag) : List Value → List PyData → Bool
  | [], [] => true
  | v :: vs, p :: ps => datB K v p && datAll K vs ps
  | _, _ => false
end
mutual
theorem datB_ok {K : PySem.W.Frag} : ∀ (p : PyData) (u : Value), datB K u p = true → ∃ v, RelV v u ∧ ∀ F, Dn K F v p
  | .none, u, h => by
    cases u <;> first | exact ⟨.non, rfl, fun _ => .non⟩ | (simp [datB] at h)
  | .bool b, u, h => by
    cases u <;> first | (rename_i c; have e : b = c := by simpa [datB] using h
                         subst e; exact ⟨.bl b, rfl, fun _ => .bl b⟩) | (simp [datB] at h)
  | .int i, u, h => by
    cases u <;> first | (rename_i c t; have e : i = c := by simpa [datB] using h
                         subst e; exact ⟨.int i, ⟨t, rfl⟩, fun _ => .int i⟩) | (simp [datB] at h)
  | .str i, u, h => by
    cases u <;> first | (rename_i c t; have e : i = c := by simpa [datB] using h
                         subst e; exact ⟨.str i, ⟨t, rfl⟩, fun _ => .str i⟩) | (simp [datB] at h)
  | .tuple ps, u, h => by
    unfold datB at h
    split at h
    · rename_i a
      split at h
      · rename_i c its n sl hk
        simp only [Bool.and_eq_true, decide_eq_true_eq] at h
        obtain ⟨⟨rfl, h2⟩, h3⟩ := h
        obtain ⟨vs, h4, h5⟩ := datAll_ok ps its.toList h3
        exact ⟨.ref a, rfl, fun F => .tup (.inr ⟨_, its, n, hk, rfl, rfl, rfl, h2, h4⟩) (h5 F)⟩
      · cases h
    · cases h
  | .list _, u, h => by unfold datB at h; cases h
  | .dict _, u, h => by unfold datB at h; cases h
theorem datAll_ok {K : PySem.W.Frag} : ∀ (ps : List PyData) (us : List Value), datAll K us ps = true → ∃ vs, Vals vs us ∧ ∀ F, DnAll K F vs ps
  | [], us, h => by
    cases us with
    | nil => exact ⟨[], .nil, fun _ => .nil⟩
    | cons _ _ => unfold datAll at h; cases h
  | p :: ps, us, h => by
    cases us with
    | nil => unfold datAll at h; cases h
    | cons u us =>
      unfold datAll at h
      rw [Bool.and_eq_true] at h
      obtain ⟨v, h1, h2⟩ := datB_ok p u h.1
      obtain ⟨vs, h3, h4⟩ := datAll_ok ps us h.2
      exact ⟨v :: vs, .cons h1 h3, fun F => .cons (h2 F) (h4 F)⟩
end
def glB (K : PySem.W.Frag) (gl : List (Str × PyData)) : Bool := gl.all fun q => match PySem.W.nsIn K mainGlobals q.1 with
  | some (some v) => datB K v q.2
  | _ => false
theorem glB_ok {K : PySem.W.Frag} {h : Heap} {mg : Str → Option Value} {gl : List (Str × PyData)} (inK : K.In h) (G : h.Ns mainGlobals mg) (c : glB K gl = true) : ∀ x p, gl.lookup x = some p → ∃ v u, mg x = some u ∧ RelV v u ∧ ∀ F, Dn K F v p := by
  intro x p hx
  have := List.all_eq_true.mp c (x, p) (PySem.mem_of_lookup hx)
  split at this
  · rename_i v hv
    obtain ⟨w, h1, h2⟩ := datB_ok p v this
    exact ⟨w, v, PySem.W.mg_of inK G hv, h1, h2⟩
  · cases this
def Df.he (d : Df) : He.DefD := ⟨(d.x, none), d.x, d.x, simpleArgs d.as, d.body, d.scope, [], []⟩
def fasOf (ds : List Df) (bl : List Str) : List He.Fa := ds.map (fun d => .glo d.x) ++ bl.map .free
def obsM (fa : List He.Fa) (fn : List He.DefD) (gl : List (Str × PyData)) (K : PySem.W.Frag) : Bool × He.AlD := (glB K gl, He.obsD fa fn K)
def obsMG (n : Nat) (fa : List He.Fa) (fn : List He.DefD) (gl : List (Str × PyData)) (g : Addr → Option Obj) : Bool × He.AlD := obsM fa fn gl (He.frG g (He.asD g n))
def hookM (n : Nat) (fa : List He.Fa) (fn : List He.DefD) (gl : List (Str × PyData)) : PySem.W.Hook where
  α := Bool × He.AlD
  obs := fun s => obsMG n fa fn gl s.heap.get?
  val := fun _ => (true, He.valD fn)
  says := fun _ h => ∃ K : PySem.W.Frag, K.In h ∧ obsM fa fn gl K = (true, He.valD fn)
  of := fun _ _ e => ⟨_, He.frG_in, e⟩
  keeps := fun _ _ _ ⟨K, hK, c⟩ k => ⟨K, PySem.W.Frag.In.keeps hK k, c⟩
theorem obsMG_eq {n : Nat} {fa : List He.Fa} {fn : List He.DefD} {gl : List (Str × PyData)} {g : Addr → Option Obj} {s : Shared} (h : ∀ a, g a = s.heap.get? a) : obsMG n fa fn gl g = (hookM n fa fn gl).obs s := by
  have e : g = s.heap.get? := funext h
  rw [e] <;> rfl
theorem txt_of {K : PySem.W.Frag} {h : Heap} {mg : Str → Option Value} {ds : List Df} {gl : List (Str × PyData)} {bl : List Str} (inK : K.In h) (G : h.Ns mainGlobals mg) (ok : ds.all Df.okB = true)
    (c : obsM (fasOf ds bl) (ds.map Df.he) gl K = (true, He.valD (ds.map Df.he))) : Txt K mg ds gl bl := by
  have c1 : glB K gl = true := congrArg Prod.fst c
  have c2 : He.SaysD (fasOf ds bl) (ds.map Df.he) K := congrArg Prod.snd c
  refine ⟨fun d hd => List.all_eq_true.mp ok d hd, fun d hd => ?_, fun x hx => ?_, glB_ok inK G c1⟩
  · obtain ⟨i, hi⟩ := List.mem_iff_getElem?.mp hd
    obtain ⟨fd, FD⟩ := c2.def_ i (d := d.he) (by rw [List.getElem?_map, hi] <;> rfl)
    have f := c2.fact i (f := .glo d.x) (by
      unfold fasOf
      rw [List.getElem?_append_left (by rw [List.length_map]; exact get_lt hi), List.getElem?_map, hi] <;> rfl)
    exact ⟨_, fd, FD, He.glo_ok inK G f⟩
  · obtain ⟨i, hi⟩ := List.mem_iff_getElem?.mp hx
    have f := c2.fact ((ds.map fun d => He.Fa.glo d.x).length + i) (f := .free x) (by
      unfold fasOf
      rw [List.getElem?_append_right (Nat.le_add_right _ _), Nat.add_sub_cancel_left, List.getElem?_map, hi] <;> rfl)
    exact He.free_ok inK G f
end Mi
end
section
/-! Mi26: a law by its text. -/
namespace Mi
open PySem PySem.Spec
open PyProof.Rows hiding St Fr
open L2

theorem law_fd {K : PySem.W.Frag} {mg : Str → Option Value} {ds : List Df} {gl : List (Str × PyData)} {bl : List Str} {x : Str} {dl : Df} {fa : Addr} (T : Txt K mg ds gl bl) (hd : dl ∈ ds) (hps : dl.ps = [x]) (hmg : mg dl.x = some (.ref fa)) :
    ∃ fd : FuncData, (∀ (s : Shared) (u : Value), BindsTo s fd ⟨[u], []⟩ [(x, u)]) ∧ FunD K dl.x dl.x (simpleArgs dl.as) dl.body dl.scope [] [] fa fd := by
  obtain ⟨f, fd, FD, hf⟩ := T.fn dl hd
  rw [hmg] at hf
  cases hf
  refine ⟨fd, fun s u => ?_, FD⟩
  have z := FunD.bindsA (ps := dl.ps) FD (fun kV doc pm an cdv ct us hl => ?_) s [u] (by rw [hps] <;> rfl)
  · rw [hps] at z
    exact z
  · have nd : dl.ps.Nodup := by rw [hps]; simp
    have hl' : us.length = dl.as.length := by rw [hl, List.length_map]
    have b := bind_ok (x := dl.x) (qual := dl.x) (as := dl.as) (body := dl.body) (scope := dl.scope) (kV := kV) (doc := doc) (pm := pm) (an := an) (cdv := cdv) (ct := ct) (us := us) (ws := []) (ks := []) nd (by simp) (by simp) (by simpa using hl') (fun p hp => by rw [List.append_nil, hl, List.take_of_length_le (Nat.le_refl _)]; exact hp) rfl
    simp only [List.zip_nil_left, List.append_nil] at b
    rw [b]
    refine congrArg pure (congrArg (List.zip dl.ps) ?_)
    have e : permOf dl.ps us.length [] = (List.range us.length) := by
      unfold permOf
      rw [hl, List.take_of_length_le (Nat.le_refl _), List.append_nil]
      exact permSelf nd
    rw [e]
    apply List.ext_getElem
    · simp
    · intro i h1 h2
      simp only [List.getElem_map, List.getElem_range, List.getD_eq_getElem?_getD, List.getElem?_eq_getElem h2, Option.getD_some]
where
  permSelf : ∀ {l : List Str}, l.Nodup → l.map (fun p => l.idxOf p) = List.range l.length := fun {l} h => by
    apply List.ext_getElem
    · simp
    · intro i h1 h2
      simp only [List.getElem_map, List.getElem_range]
      exact h.idxOf_getElem i (by simpa using h1)
/-- a law whose text is of this kind: the evaluator answers True at every script -/
theorem law_of {l : PySem.W.OpenLaw} {n k lev : Nat} {q : Program} {loose : List Str} {XP : (Str → Option Value) → Heap → Prop} {d : DefRec} {x : Str} {ds : List Df} {gl : List (Str × PyData)} {bl : List Str} {fuel m : Nat} {dl : Df}
    (hn : l.most = some n) (hn2 : n ≤ sizeLine) (hdf : d.params.defaults = []) (room : Room k callerA) (hd : (ds.find? fun y => d.name == y.x) = some dl) (hps : dl.ps = [x]) (hio : dl.io = false) (ok : ds.all Df.okB = true)
    (law : ∀ ns : List Int, ns.length ≤ n → ∃ b fin, run (tabOf ds gl bl m) fuel k d.name [.scr ns] = some (.py (.bool true), b, fin)) :
    PySem.W.WalkO q loose XP (hookM lev (fasOf ds bl) (ds.map Df.he) gl).says l.row.toRowW d [] (fun f vs => PySem.call f vs) := by
  refine top_law hn hn2 hdf room hd hps hio (fun w mg fa h Y G hmg => ?_) law
  obtain ⟨K, inK, c⟩ := Y
  have T := txt_of inK G ok c
  have e : d.name = dl.x := by have := List.find?_some hd; simpa using this
  rw [e] at hmg
  obtain ⟨fd, b, FD⟩ := law_fd T (List.mem_of_find?_eq_some hd) hps hmg
  exact ⟨K, fd, inK, b, FD, T⟩
end Mi
end
section
/-! Ev: the evaluator's equations, for plain proofs. -/
namespace Mi
open PySem
section
variable {C : Ct} {st : En} {e a b c : Ex} {es : Exs}
@[simp] theorem ev_lit {p : PyData} : evE C (.lit p) st = some (.va (.py p), st) := id rfl
@[simp] theorem ev_var {i : Nat} : evE C (.var i) st = (match st[i]? with
    | some (.fr d) => some (.va d, st)
    | some (.ow d) => some (.va d, st.set i (.fr d))
    | _ => none) := id rfl
@[simp] theorem ev_pk {i : Nat} : evE C (.pk i) st = (match st[i]? with
    | some .no => none
    | some _ => some (.pk i, st)
    | none => none) := id rfl
@[simp] theorem ev_glo {x : Str} : evE C (.glo x) st = (C.glo x).map fun p => (.va (.py p), st) := id rfl
@[simp] theorem ev_op {o : O2} : evE C (.op o a b) st = (evE C a st).bind fun qa => (evE C b qa.2).bind fun qb => (rd qb.2 qa.1).bind fun x => (rd qb.2 qb.1).bind fun y => (op2 o x y).map fun z => (z, qb.2) := id rfl
@[simp] theorem ev_neg : evE C (.neg a) st = (evE C a st).bind fun qa => (match rd qa.2 qa.1 with
    | some (.py (.int i)) => some (ofI (-i), qa.2)
    | _ => none) := id rfl
@[simp] theorem ev_cm {o : Cm} : evE C (.cm o a b) st = (evE C a st).bind fun qa => (evE C b qa.2).bind fun qb => (rd qb.2 qa.1).bind fun x => (rd qb.2 qb.1).bind fun y => (cmp o x y).map fun z => (ofB z, qb.2) := id rfl
@[simp] theorem ev_cm2 {o o' : Cm} : evE C (.cm2 o o' a b c) st = (evE C a st).bind fun qa => (evE C b qa.2).bind fun qb => (rd qb.2 qa.1).bind fun x => (rd qb.2 qb.1).bind fun y => (cmp o x y).bind fun z =>
      if z then (evE C c qb.2).bind fun qc => (rd qc.2 qb.1).bind fun y => (rd qc.2 qc.1).bind fun u => (cmp o' y u).map fun z => (ofB z, qc.2) else some (ofB false, qb.2) := id rfl
@[simp] theorem ev_and : evE C (.and a b) st = (evE C a st).bind fun qa => (match rd qa.2 qa.1 with
    | some (.py (.bool c)) => if c then evE C b qa.2 else some (ofB false, qa.2)
    | _ => none) := id rfl
@[simp] theorem ev_or : evE C (.or a b) st = (evE C a st).bind fun qa => (match rd qa.2 qa.1 with
    | some (.py (.bool c)) => if c then some (ofB true, qa.2) else evE C b qa.2
    | _ => none) := id rfl
@[simp] theorem ev_nt : evE C (.nt a) st = (evE C a st).bind fun qa => (match rd qa.2 qa.1 with
    | some (.py (.bool c)) => some (ofB (!c), qa.2)
    | _ => none) := id rfl
@[simp] theorem ev_ite {m : T} : evE C (.ite m a b) st = (evT C m st).bind fun q => if q.1 then evE C a q.2 else evE C b q.2 := id rfl
@[simp] theorem ev_tup : evE C (.tup es) st = (evs C es st).bind fun q => (vals q.1).bind fun ds => (pyds ds).bind fun ps => if ps.length ≤ lim then some (.va (.py (.tuple ps)), q.2) else none := id rfl
@[simp] theorem ev_lst : evE C (.lst es) st = (evs C es st).bind fun q => (vals q.1).bind fun ds => (pyds ds).bind fun ps => if ps.length ≤ lim then some (.fe (.py (.list ps)), q.2) else none := id rfl
@[simp] theorem ev_ix : evE C (.ix a b) st = (evE C a st).bind fun qa => (evE C b qa.2).bind fun qi => (rd qi.2 qa.1).bind fun x => (rd qi.2 qi.1).bind fun y => (item x y).map fun z => (.va z, qi.2) := id rfl
@[simp] theorem ev_sl {lo hi : Pt} : evE C (.sl a lo hi) st = (evE C a st).bind fun qa => (evP C lo qa.2).bind fun ql => (evP C hi ql.2).bind fun qh => (rd qh.2 qa.1).bind fun x => (sliceD x ql.1 qh.1).map fun o => (o, qh.2) := id rfl
@[simp] theorem ev_rev : evE C (.rev a) st = (evE C a st).bind fun qa => (rd qa.2 qa.1).bind fun x => (revD x).map fun o => (o, qa.2) := id rfl
@[simp] theorem ev_bi {f : Bi} : evE C (.bi f es) st = (evs C es st).bind fun q => (rds q.2 q.1).bind fun ds => (biD f ds).map fun o => (o, q.2) := id rfl
@[simp] theorem ev_isa {ts : List Ty} : evE C (.isa a ts) st = (evE C a st).bind fun qa => (rd qa.2 qa.1).bind fun d => d.pyd.map fun p => (ofB (ts.any (isTy p)), qa.2) := id rfl
@[simp] theorem ev_cal {f : Str} {perm : List Nat} : evE C (.cal f perm es) st = (evs C es st).bind fun q => callE C f perm q.1 q.2 := id rfl
@[simp] theorem ev_me {m : Me} : evE C (.me m a es) st = (evE C a st).bind fun qa => (rd qa.2 qa.1).bind fun x0 => (evs C es qa.2).bind fun q => (rd q.2 qa.1).bind fun x => if x0.tupD == x.tupD && x0.lstD == x.lstD then (rds q.2 q.1).bind fun ds => (meD m x ds).map fun o => (o, q.2) else none := id rfl
@[simp] theorem ev_pop {i : Nat} : evE C (.pop i e) st = (lstAt st i).bind fun _ => (evE C e st).bind fun q => (rd q.2 q.1).bind fun k => (lstAt q.2 i).bind fun m => (match k with
    | .py (.int k) => if okR k then (L2.ixN m.1.length k).bind fun j => (m.1[j]?).map fun p => (.va (.py p), q.2.set i (m.2 (.py (.list (m.1.eraseIdx j))))) else none
    | _ => none) := id rfl
@[simp] theorem ev_dct0 : evE C .dct0 st = some (.fe (.dct []), st) := id rfl
theorem ev_lc {own tg : List Nat} {one : Bool} {it : I} {c : T} : evE C (.lc own tg one it c e) st = (evI C it st).bind fun q => if own.all (fun i => calmSl (q.2.getD i .no)) then
      (lcL (fun x acc s => (bindT tg one x s).bind fun s1 => (evT C c s1).bind fun qc => if qc.1 then (evE C e qc.2).bind fun qe => qe.1.val.bind fun d => d.pyd.bind fun p =>
        if acc.length < lim then some (acc ++ [p], wipe qe.2 own) else none else some (acc, wipe qc.2 own)) q.1 [] (wipe q.2 own)).map fun r => (.fe (.py (.list r.1)), back q.2 r.2 own)
      else none := id rfl
@[simp] theorem evP_no : evP C .no st = some (none, st) := id rfl
@[simp] theorem evP_so : evP C (.so e) st = (evE C e st).bind fun q => (match rd q.2 q.1 with
    | some (.py (.int i)) => some (some i, q.2)
    | _ => none) := id rfl
@[simp] theorem evT_v : evT C (.v e) st = (evE C e st).bind fun q => ((rd q.2 q.1).bind D.tru).map fun b => (b, q.2) := id rfl
@[simp] theorem evT_and {x y : T} : evT C (.and x y) st = (evT C x st).bind fun q => if q.1 then evT C y q.2 else some (false, q.2) := id rfl
@[simp] theorem evT_or {x y : T} : evT C (.or x y) st = (evT C x st).bind fun q => if q.1 then some (true, q.2) else evT C y q.2 := id rfl
@[simp] theorem evT_nt {x : T} : evT C (.nt x) st = (evT C x st).map fun q => (!q.1, q.2) := id rfl
@[simp] theorem evT_yes : evT C .yes st = some (true, st) := id rfl
@[simp] theorem evs_nil : evs C .nil st = some ([], st) := id rfl
@[simp] theorem evs_cons : evs C (.cons e es) st = (evE C e st).bind fun q => (evs C es q.2).map fun r => (q.1 :: r.1, r.2) := id rfl
@[simp] theorem evI_rng : evI C (.rng es) st = (evs C es st).bind fun q => (rds q.2 q.1).bind fun ds => (rngD ds).map fun xs => (xs, q.2) := id rfl
@[simp] theorem evI_enu : evI C (.enu es) st = (evs C es st).bind fun q => (vals q.1).bind fun ds => (match ds with
    | [.py (.list xs)] => some (enuL 0 xs, q.2)
    | [.py (.tuple xs)] => some (enuL 0 xs, q.2)
    | _ => none) := id rfl
@[simp] theorem evI_zip : evI C (.zip es) st = (evs C es st).bind fun q => (vals q.1).bind fun ds => (match ds with
    | [.py (.list xs), .py (.list ys)] => some (zipL xs ys, q.2)
    | [.py (.tuple xs), .py (.tuple ys)] => some (zipL xs ys, q.2)
    | [.py (.list xs), .py (.tuple ys)] => some (zipL xs ys, q.2)
    | _ => none) := id rfl
@[simp] theorem evI_v : evI C (.v e) st = (evE C e st).bind fun q => q.1.val.bind fun d => (match d with
    | .py (.list xs) => some (xs, q.2)
    | .py (.tuple xs) => some (xs, q.2)
    | _ => none) := id rfl
end
section
variable {C : Ct} {st : En} {e a b c : Ex} {es : Exs} {s : S} {ss ss2 : Ss} {m : T} {i : Nat}
@[simp] theorem ex_asg : exS C (.asg i e) st = (evE C e st).bind fun q => q.1.slot.map fun s => (.nx, q.2.set i s) := id rfl
@[simp] theorem ex_asgT {is : List Nat} : exS C (.asgT is e) st = (evE C e st).bind fun q => (rd q.2 q.1).bind fun d => d.pyd.bind fun p => (bindT is false p q.2).map fun s => (.nx, s) := id rfl
@[simp] theorem ex_par {is : List Nat} : exS C (.par is es) st = (evs C es st).bind fun q => (slots q.1).bind fun ss => if ss.length = is.length then some (.nx, setSl q.2 is ss) else none := id rfl
@[simp] theorem ex_divI {k : Int} {j : Nat} : exS C (.divI i k j e) st = (evE C e st).bind fun q => (rd q.2 q.1).bind fun d => (lstAt q.2 i).bind fun m => (match d with
    | .py (.tuple [a, b]) => (L2.ixN m.1.length k).map fun n => (.nx, (q.2.set i (m.2 (.py (.list (m.1.set n a))))).set j (.fr (.py b)))
    | _ => none) := id rfl
@[simp] theorem ex_asgTT {is js : List Nat} : exS C (.asgTT is js e) st = (evE C e st).bind fun q => (rd q.2 q.1).bind fun d => (match d with
    | .py (.tuple [a, b]) => (bindT is false a q.2).bind fun s1 => (bindT js false b s1).map fun s => (.nx, s)
    | _ => none) := id rfl
@[simp] theorem ex_asgSS {j : Nat} {k l : Ex} : exS C (.asgSS i k j l e) st = (evE C e st).bind fun q => (rd q.2 q.1).bind fun d => (match d with
    | .py (.tuple [a, b]) => (objAt q.2 i).bind fun _ => (evE C k q.2).bind fun qk => (rd qk.2 qk.1).bind fun kd => (objAt qk.2 i).bind fun m => (putO m.1 kd a).bind fun d1 =>
      (objAt (qk.2.set i (m.2 d1)) j).bind fun _ => (evE C l (qk.2.set i (m.2 d1))).bind fun ql => (rd ql.2 ql.1).bind fun ld => (objAt ql.2 j).bind fun m2 => (putO m2.1 ld b).map fun d2 => (.nx, ql.2.set j (m2.2 d2))
    | _ => none) := id rfl
@[simp] theorem ex_setI {k : Ex} : exS C (.setI i k e) st = (evE C e st).bind fun q => q.1.val.bind fun d => d.pyd.bind fun p => (objAt q.2 i).bind fun _ => (evE C k q.2).bind fun qk => (rd qk.2 qk.1).bind fun kd => (objAt qk.2 i).bind fun m =>
      (putO m.1 kd p).map fun d' => (.nx, qk.2.set i (m.2 d')) := id rfl
@[simp] theorem ex_sdf {k : Ex} : exS C (.sdf i k e) st = (objAt st i).bind fun m0 => if m0.1.isDct then (evE C k st).bind fun qk => (rd qk.2 qk.1).bind fun kd => (evE C e qk.2).bind fun q => q.1.val.bind fun d => d.pyd.bind fun p => (objAt q.2 i).bind fun m =>
      (sdfO m.1 kd p).map fun d' => (.nx, q.2.set i (m.2 d')) else none := id rfl
@[simp] theorem ex_aug {o : O2} : exS C (.aug i o e) st = (match st[i]? with
    | some (.fr (.py (.int x))) => (evE C e st).bind fun q => (rd q.2 q.1).bind fun d => (match o, d with
      | .add, .py (.int y) => some (.nx, q.2.set i (.fr (.py (.int (x + y)))))
      | .sub, .py (.int y) => some (.nx, q.2.set i (.fr (.py (.int (x - y)))))
      | _, _ => none)
    | _ => none) := id rfl
@[simp] theorem ex_app : exS C (.app i e) st = (lstAt st i).bind fun _ => (evE C e st).bind fun q => q.1.val.bind fun d => d.pyd.bind fun p => (lstAt q.2 i).bind fun m =>
      if m.1.length < lim then some (.nx, q.2.set i (m.2 (.py (.list (m.1 ++ [p]))))) else none := id rfl
@[simp] theorem ex_ext : exS C (.ext i e) st = (lstAt st i).bind fun _ => (evE C e st).bind fun q => (rd q.2 q.1).bind fun d => (lstAt q.2 i).bind fun m => (match d with
    | .py (.list ys) => if m.1.length + ys.length < lim then some (.nx, q.2.set i (m.2 (.py (.list (m.1 ++ ys))))) else none
    | _ => none) := id rfl
@[simp] theorem ex_ex : exS C (.ex e) st = (evE C e st).map fun q => (.nx, q.2) := id rfl
@[simp] theorem ex_ret : exS C (.ret e) st = (evE C e st).bind fun q => (retE q.1).map fun o => (o, q.2) := id rfl
@[simp] theorem ex_retv : exS C (.retv i) st = (match st[i]? with
    | some (.fr d) => some (.rt d false, st)
    | some (.ow d) => some (.rt d true, st.set i .no)
    | _ => none) := id rfl
@[simp] theorem ex_retN : exS C .retN st = some (.rt (.py .none) false, st) := id rfl
@[simp] theorem ex_pass : exS C .pass st = some (.nx, st) := id rfl
@[simp] theorem ex_brk : exS C .brk st = some (.brk, st) := id rfl
@[simp] theorem ex_cont : exS C .cont st = some (.cont, st) := id rfl
@[simp] theorem ex_ifs : exS C (.ifs m ss ss2) st = (evT C m st).bind fun q => if q.1 then exs C ss q.2 else exs C ss2 q.2 := id rfl
theorem ex_whl : exS C (.whl m ss) st = whL (evT C m) (exs C ss) C.fuel st := id rfl
theorem ex_fr {tg : List Nat} {one : Bool} {it : I} : exS C (.fr tg one it ss) st = (evI C it st).bind fun q => frL (fun x s => (bindT tg one x s).bind (exs C ss)) q.1 q.2 := id rfl
@[simp] theorem exs_nil : exs C .nil st = some (.nx, st) := id rfl
@[simp] theorem exs_cons : exs C (.cons s ss) st = (exS C s st).bind fun r => match r.1 with
    | .nx => exs C ss r.2
    | .brk => some (.brk, r.2)
    | .cont => some (.cont, r.2)
    | .rt d b => some (.rt d b, r.2) := id rfl
end
@[simp] theorem rd_va {st : En} {d : D} : rd st (.va d) = some d := id rfl
@[simp] theorem rd_fe {st : En} {d : D} : rd st (.fe d) = some d := id rfl
@[simp] theorem rd_pk {st : En} {i : Nat} : rd st (.pk i) = (st[i]?).bind Sl.con := id rfl
@[simp] theorem rd_ofI {st : En} {i : Int} : rd st (ofI i) = some (.py (.int i)) := id rfl
@[simp] theorem rd_ofB {st : En} {i : Bool} : rd st (ofB i) = some (.py (.bool i)) := id rfl
@[simp] theorem con_fr {d : D} : (Sl.fr d).con = some d := id rfl
@[simp] theorem con_ow {d : D} : (Sl.ow d).con = some d := id rfl
@[simp] theorem con_bo {d : D} : (Sl.bo d).con = some d := id rfl
@[simp] theorem val_va {d : D} : (Od.va d).val = some d := id rfl
@[simp] theorem val_fe {d : D} : (Od.fe d).val = some d := id rfl
@[simp] theorem val_ofI {i : Int} : (ofI i).val = some (.py (.int i)) := id rfl
@[simp] theorem val_ofB {i : Bool} : (ofB i).val = some (.py (.bool i)) := id rfl
@[simp] theorem slot_va {d : D} : (Od.va d).slot = some (.fr d) := id rfl
@[simp] theorem slot_fe {d : D} : (Od.fe d).slot = some (.ow d) := id rfl
@[simp] theorem slot_ofI {i : Int} : (ofI i).slot = some (.fr (.py (.int i))) := id rfl
@[simp] theorem slot_ofB {i : Bool} : (ofB i).slot = some (.fr (.py (.bool i))) := id rfl
@[simp] theorem ret_va {d : D} : retE (.va d) = some (.rt d false) := id rfl
@[simp] theorem ret_fe {d : D} : retE (.fe d) = some (.rt d true) := id rfl
@[simp] theorem ret_ofI {i : Int} : retE (ofI i) = some (.rt (.py (.int i)) false) := id rfl
@[simp] theorem ret_ofB {i : Bool} : retE (ofB i) = some (.rt (.py (.bool i)) false) := id rfl
@[simp] theorem pyd_py {p : PyData} : (D.py p).pyd = some p := id rfl
@[simp] theorem vals_nil : vals [] = some [] := id rfl
@[simp] theorem vals_cons {o : Od} {os : List Od} : vals (o :: os) = o.val.bind fun d => (vals os).map (d :: ·) := id rfl
@[simp] theorem vas_nil : vas [] = some [] := id rfl
@[simp] theorem vas_va {d : D} {os : List Od} : vas (.va d :: os) = (vas os).map (d :: ·) := id rfl
@[simp] theorem vas_ofI {i : Int} {os : List Od} : vas (ofI i :: os) = (vas os).map (.py (.int i) :: ·) := id rfl
@[simp] theorem pyds_nil : pyds [] = some [] := id rfl
@[simp] theorem pyds_cons {d : D} {ds : List D} : pyds (d :: ds) = d.pyd.bind fun p => (pyds ds).map (p :: ·) := id rfl
@[simp] theorem rds_nil {st : En} : rds st [] = some [] := id rfl
@[simp] theorem rds_cons {st : En} {o : Od} {os : List Od} : rds st (o :: os) = (rd st o).bind fun d => (rds st os).map (d :: ·) := id rfl
@[simp] theorem slots_nil : slots [] = some [] := id rfl
@[simp] theorem slots_cons {o : Od} {os : List Od} : slots (o :: os) = o.slot.bind fun s => (slots os).map (s :: ·) := id rfl
@[simp] theorem setSl_nil {st : En} : setSl st [] [] = st := id rfl
@[simp] theorem setSl_cons {st : En} {i : Nat} {is : List Nat} {s : Sl} {ss : List Sl} : setSl st (i :: is) (s :: ss) = setSl (st.set i s) is ss := id rfl
@[simp] theorem tru_bool {b : Bool} : (D.py (.bool b)).tru = some b := id rfl
@[simp] theorem tru_int {b : Int} : (D.py (.int b)).tru = some (b != 0) := id rfl
@[simp] theorem bind_one {i : Nat} {p : PyData} {st : En} : bindT [i] true p st = some (st.set i (.fr (.py p))) := id rfl
/-- the call of a def, by what it computes -/
theorem run_of {T : Tab} {fu n : Nat} {f : Str} {F : Fd} {ds : List D} (h : T.fds.lookup f = some F) (hl : ds.length = F.ps.length) : run T fu (n + 1) f ds = (exs (T.ct fu (run T fu n)) F.body (enter F ds)).bind fun r =>
      (lentE F.io r.2).bind fun fin => match r.1 with
      | .rt d b => some (d, b, fin)
      | .nx => some (.py .none, false, fin)
      | _ => none := by
  rw [run, h]
  simp only [Option.bind_some]
  rw [if_pos hl] <;> rfl
@[simp] theorem ct_call {T : Tab} {fu : Nat} {g : Str → List D → Option (D × Bool × D)} : (T.ct fu g).call = g := id rfl
@[simp] theorem ct_fuel {T : Tab} {fu : Nat} {g : Str → List D → Option (D × Bool × D)} : (T.ct fu g).fuel = fu := id rfl
theorem ct_io {T : Tab} {fu : Nat} {g : Str → List D → Option (D × Bool × D)} {f : Str} {F : Fd} (h : T.fds.lookup f = some F) : (T.ct fu g).io f = F.io := by
  show (T.fds.lookup f).elim false Fd.io = _
  rw [h] <;> rfl
/-- a call that lends nothing -/
theorem call_pl {C : Ct} {f : Str} {perm : List Nat} {os : List Od} {st : En} (h : C.io f = false) : callE C f perm os st = (vals (perm.map fun j => os.getD j (.pk 0))).bind fun ds => (C.call f ds).map fun q => (if q.2.1 then .fe q.1 else .va q.1, st) := by
  unfold callE
  rw [h]
  rfl
end Mi
end
section
/-! Ev2: data operations, comprehensions, loops, for plain proofs. -/
namespace Mi
open PySem
@[simp] theorem lent_f {st : En} : lentE false st = some (.py .none) := id rfl
@[simp] theorem lent_t {d : D} {st : En} : lentE true (.bo d :: st) = some d := id rfl
@[simp] theorem cmp_lt {i j : Int} : cmp .lt (.py (.int i)) (.py (.int j)) = some (decide (i < j)) := id rfl
@[simp] theorem cmp_le {i j : Int} : cmp .le (.py (.int i)) (.py (.int j)) = some (decide (i ≤ j)) := id rfl
@[simp] theorem cmp_gt {i j : Int} : cmp .gt (.py (.int i)) (.py (.int j)) = some (decide (j < i)) := id rfl
@[simp] theorem cmp_ge {i j : Int} : cmp .ge (.py (.int i)) (.py (.int j)) = some (decide (j ≤ i)) := id rfl
theorem eqv_int {i j : Int} : PyData.eqv (.int i) (.int j) = decide (i = j) := by
  simp [PyData.eqv]
  try rfl
@[simp] theorem cmp_eqi {i j : Int} : cmp .eq (.py (.int i)) (.py (.int j)) = some (decide (i = j)) := by
  show (if okDp (.int i) && okDp (.int j) then some (PyData.eqv (.int i) (.int j)) else none) = _
  rw [eqv_int]
  rfl
@[simp] theorem cmp_nei {i j : Int} : cmp .ne (.py (.int i)) (.py (.int j)) = some (!decide (i = j)) := by
  show (if okDp (.int i) && okDp (.int j) then some (!PyData.eqv (.int i) (.int j)) else none) = _
  rw [eqv_int]
  rfl
@[simp] theorem op_add {i j : Int} : op2 .add (.py (.int i)) (.py (.int j)) = some (ofI (i + j)) := id rfl
@[simp] theorem op_sub {i j : Int} : op2 .sub (.py (.int i)) (.py (.int j)) = some (ofI (i - j)) := id rfl
theorem op_mul {i j : Int} (h : okMul i j = true) : op2 .mul (.py (.int i)) (.py (.int j)) = some (ofI (i * j)) := by
  show (if okMul i j then some (ofI (i * j)) else none) = _
  rw [if_pos h]
theorem op_fdiv {i j : Int} (h : 0 < j) (h2 : j < 1073741824) : op2 .fdiv (.py (.int i)) (.py (.int j)) = some (ofI (i / j)) := if_pos ⟨h, h2⟩
theorem op_mod {i j : Int} (h : 0 < j) : op2 .mod (.py (.int i)) (.py (.int j)) = some (ofI (i % j)) := if_pos h
@[simp] theorem len_tup {xs : List PyData} : biD .len [.py (.tuple xs)] = some (ofI xs.length) := id rfl
@[simp] theorem len_lst {xs : List PyData} : biD .len [.py (.list xs)] = some (ofI xs.length) := id rfl
@[simp] theorem len_scr {xs : List Int} : biD .len [.scr xs] = some (ofI xs.length) := id rfl
@[simp] theorem tup_lst {xs : List PyData} : biD .tuple [.py (.list xs)] = some (.va (.py (.tuple xs))) := id rfl
@[simp] theorem tup_tup {xs : List PyData} : biD .tuple [.py (.tuple xs)] = some (.va (.py (.tuple xs))) := id rfl
@[simp] theorem lst_lst {xs : List PyData} : biD .list [.py (.list xs)] = some (.fe (.py (.list xs))) := id rfl
@[simp] theorem lst_tup {xs : List PyData} : biD .list [.py (.tuple xs)] = some (.fe (.py (.list xs))) := id rfl
@[simp] theorem int_int {i : Int} : biD .int [.py (.int i)] = some (ofI i) := id rfl
@[simp] theorem isTy_tup {xs : List PyData} : isTy (.tuple xs) .tuple = true := id rfl
@[simp] theorem isTy_ii {i : Int} : isTy (.int i) .int = true := id rfl
@[simp] theorem isTy_ib {i : Int} : isTy (.int i) .bool = false := id rfl
@[simp] theorem isTy_bb {i : Bool} : isTy (.bool i) .bool = true := id rfl
@[simp] theorem bools_nil : bools [] = some [] := id rfl
@[simp] theorem bools_cons {b : Bool} {r : List PyData} : bools (.bool b :: r) = (bools r).map (b :: ·) := id rfl
theorem bools_map {α : Type} (g : α → Bool) : ∀ l : List α, bools (l.map fun x => .bool (g x)) = some (l.map g)
  | [] => rfl
  | x :: l => by rw [List.map_cons, bools_cons, bools_map g l] <;> rfl
theorem all_bools {α : Type} {g : α → Bool} {l : List α} : biD .all [.py (.list (l.map fun x => .bool (g x)))] = some (ofB (l.all g)) := by
  show (bools _).map (fun bs => ofB (bs.all id)) = _
  rw [bools_map, Option.map_some]
  congr 2
  rw [List.all_map]
  rfl
theorem any_bools {α : Type} {g : α → Bool} {l : List α} : biD .any [.py (.list (l.map fun x => .bool (g x)))] = some (ofB (l.any g)) := by
  show (bools _).map (fun bs => ofB (bs.any id)) = _
  rw [bools_map, Option.map_some]
  congr 2
  rw [List.any_map]
  rfl
@[simp] theorem me_ixT {xs : List PyData} {ds : List D} : meD .index (.py (.tuple xs)) ds = indexD xs ds := id rfl
@[simp] theorem me_cnT {xs : List PyData} {ds : List D} : meD .count (.py (.tuple xs)) ds = countD xs ds := id rfl
@[simp] theorem me_cnL {xs : List PyData} {ds : List D} : meD .count (.py (.list xs)) ds = countD xs ds := id rfl
@[simp] theorem me_ixL {xs : List PyData} {ds : List D} : meD .index (.py (.list xs)) ds = index1 xs ds := id rfl
theorem index_1 {xs : List PyData} {x : PyData} {k : Nat} (h : okDp x = true) (e : (xs.findIdx? fun y => PyData.eqv y x) = some k) : indexD xs [.py x] = some (ofI (k : Int)) := by
  unfold indexD
  simp [h, e]
theorem index_2 {xs : List PyData} {x : PyData} {a k : Nat} (h : okDp x = true) (ha : a ≤ 1000) (e : ((xs.drop a).findIdx? fun y => PyData.eqv y x) = some k) : indexD xs [.py x, .py (.int (a : Int))] = some (ofI ((a : Int) + (k : Int))) := by
  have h1 : decide ((0 : Int) ≤ (a : Int)) = true := decide_eq_true (by omega)
  have h2 : decide ((a : Int) ≤ 1000000) = true := decide_eq_true (by omega)
  unfold indexD
  simp only [h, h1, h2, Bool.and_self, if_true, Int.toNat_natCast, e, Option.map_some]
theorem index_z {xs : List PyData} {x : PyData} {z b : Int} {k : Nat} (h : okDp x = true) (h0 : 0 ≤ z) (h1 : z ≤ 1000) (e : ((xs.drop z.toNat).findIdx? fun y => PyData.eqv y x) = some k) (hb : z + (k : Int) = b) : indexD xs [.py x, .py (.int z)] = some (ofI b) := by
  have q1 : decide ((0 : Int) ≤ z) = true := decide_eq_true h0
  have q2 : decide (z ≤ 1000000) = true := decide_eq_true (by omega)
  unfold indexD
  simp only [h, q1, q2, Bool.and_self, if_true, e, Option.map_some, hb]
/-- xs[i] -/
theorem item_nat {xs : List PyData} {k : Nat} {p : PyData} (h : xs[k]? = some p) : item (.py (.tuple xs)) (.py (.int (k : Int))) = some (.py p) ∧ item (.py (.list xs)) (.py (.int (k : Int))) = some (.py p) := by
  have lt : k < xs.length := (List.getElem?_eq_some_iff.mp h).1
  have e : L2.ixN xs.length (k : Int) = some k := by
    unfold L2.ixN
    simp
    omega
  have key : ((L2.ixN xs.length (k : Int)).bind fun k => (xs[k]?).map D.py) = some (D.py p) := by rw [e, Option.bind_some, h]; rfl
  exact ⟨key, key⟩
@[simp] theorem lim_le0 : 0 ≤ lim := by unfold lim; omega
@[simp] theorem lim_le1 : 1 ≤ lim := by unfold lim; omega
@[simp] theorem lim_le2 : 2 ≤ lim := by unfold lim; omega
@[simp] theorem lim_le3 : 3 ≤ lim := by unfold lim; omega
@[simp] theorem lim_le4 : 4 ≤ lim := by unfold lim; omega
@[simp] theorem lim_le5 : 5 ≤ lim := by unfold lim; omega
@[simp] theorem lim_le6 : 6 ≤ lim := by unfold lim; omega
@[simp] theorem lim_le7 : 7 ≤ lim := by unfold lim; omega
@[simp] theorem lim_le8 : 8 ≤ lim := by unfold lim; omega
/-! ### blocks -/
theorem back_wipe (st : En) (own : List Nat) : back st (wipe st own) own = st := by
  apply List.ext_getElem?
  intro j
  by_cases e : j ∈ own
  · by_cases l : j < st.length
    · have l2 : j < (back st (wipe st own) own).length := by rw [back_len, wipe_len]; exact l
      have := back_in st (wipe st own) e (List.getElem?_eq_getElem l2)
      rw [List.getElem?_eq_getElem l2, this, List.getD_eq_getElem?_getD, List.getElem?_eq_getElem l] <;> rfl
    · rw [List.getElem?_eq_none (by rw [back_len, wipe_len]; omega), List.getElem?_eq_none (by omega)]
  · rw [back_out _ _ e, wipe_out _ e]
theorem lcL_if {f : PyData → List PyData → En → Option (List PyData × En)} {s : En} (p : PyData → Bool) (g : PyData → PyData) : ∀ (xs acc : List PyData), acc.length + xs.length ≤ lim →
    (∀ x ∈ xs, ∀ acc, acc.length < lim → f x acc s = some (if p x then acc ++ [g x] else acc, s)) → lcL f xs acc s = some (acc ++ (xs.filter p).map g, s)
  | [], acc, _, _ => by simp [lcL]
  | x :: xs, acc, hl, h => by
    rw [List.length_cons] at hl
    rw [lcL, h x (List.mem_cons_self ..) acc (by omega), Option.bind_some]
    cases hp : p x with
    | true =>
      rw [if_pos rfl, lcL_if p g xs (acc ++ [g x]) (by rw [List.length_append]; simp; omega) fun y hy => h y (List.mem_cons_of_mem _ hy), List.filter_cons_of_pos hp]
      simp
    | false =>
      rw [if_neg Bool.false_ne_true, lcL_if p g xs acc (by omega) fun y hy => h y (List.mem_cons_of_mem _ hy), List.filter_cons_of_neg (by rw [hp]; simp)]
section
variable {C : Ct} {own tg : List Nat} {one : Bool} {it : I} {c : T} {e : Ex} {st st' : En} {xs : List PyData}
/-- a comprehension with a test -/
theorem lc_if (p : PyData → Bool) (g : PyData → PyData) (hI : evI C it st = some (xs, st')) (hc : (own.all fun i => calmSl (st'.getD i .no)) = true) (hl : xs.length ≤ lim)
    (h : ∀ x ∈ xs, ∃ s1 s2, bindT tg one x (wipe st' own) = some s1 ∧ evT C c s1 = some (p x, s2) ∧ (p x = false → wipe s2 own = wipe st' own) ∧ (p x = true → ∃ o s3, evE C e s2 = some (o, s3) ∧ o.val = some (.py (g x)) ∧ wipe s3 own = wipe st' own)) :
    evE C (.lc own tg one it c e) st = some (.fe (.py (.list ((xs.filter p).map g))), st') := by
  rw [ev_lc, hI, Option.bind_some]
  simp only
  rw [if_pos hc, lcL_if p g xs [] (by simpa using hl) fun x hx acc ha => ?_]
  · simp only [Option.map_some, List.nil_append, back_wipe]
  · obtain ⟨s1, s2, e1, e2, e3, e4⟩ := h x hx
    rw [e1, Option.bind_some, e2, Option.bind_some]
    simp only
    cases hp : p x with
    | false => simp [e3 hp]
    | true =>
      obtain ⟨o, s3, k1, k2, k3⟩ := e4 hp
      simp [k1, k2, k3, ha]
/-- a comprehension without a test -/
theorem lc_map (g : PyData → PyData) (hI : evI C it st = some (xs, st')) (hc : (own.all fun i => calmSl (st'.getD i .no)) = true) (hl : xs.length ≤ lim)
    (h : ∀ x ∈ xs, ∃ s1 o s3, bindT tg one x (wipe st' own) = some s1 ∧ evE C e s1 = some (o, s3) ∧ o.val = some (.py (g x)) ∧ wipe s3 own = wipe st' own) :
    evE C (.lc own tg one it .yes e) st = some (.fe (.py (.list (xs.map g))), st') := by
  have := lc_if (c := .yes) (fun _ => true) g hI hc hl fun x hx => by
    obtain ⟨s1, o, s3, k1, k2, k3, k4⟩ := h x hx
    exact ⟨s1, s1, k1, rfl, (fun z => by cases z), fun _ => ⟨o, s3, k2, k3, k4⟩⟩
  rw [this, List.filter_eq_self.mpr (by simp)]
/-- a loop whose turns end by themselves: J what holds of the frame ahead of turn i -/
theorem frL_J {f : PyData → En → Option (Out × En)} (J : Nat → En → Prop) : ∀ (xs : List PyData) (k : Nat) (s : En), J k s → (∀ i x s, xs[i]? = some x → J (k + i) s → ∃ s' o, f x s = some (o, s') ∧ (o = .nx ∨ o = .cont) ∧ J (k + i + 1) s') →
    ∃ s', frL f xs s = some (.nx, s') ∧ J (k + xs.length) s'
  | [], k, s, h, _ => ⟨s, rfl, h⟩
  | x :: xs, k, s, h, step => by
    obtain ⟨s1, o, e1, e2, h1⟩ := step 0 x s rfl h
    obtain ⟨s2, e3, h2⟩ := frL_J J xs (k + 1) s1 h1 fun i y s hy hj => by
      have := step (i + 1) y s hy (by rw [show k + (i + 1) = k + 1 + i by omega]; exact hj)
      rw [show k + (i + 1) + 1 = k + 1 + i + 1 by omega] at this
      exact this
    refine ⟨s2, ?_, by rw [List.length_cons, show k + (xs.length + 1) = k + 1 + xs.length by omega]; exact h2⟩
    rw [frL, e1, Option.bind_some]
    rcases e2 with rfl | rfl
    · exact e3
    · exact e3
/-- a loop whose turns change the frame in a known way -/
theorem frL_fold {f : PyData → En → Option (Out × En)} (g : En → PyData → En) : ∀ (xs : List PyData) (s : En), (∀ i x, xs[i]? = some x → f x ((xs.take i).foldl g s) = some (.nx, (xs.take (i + 1)).foldl g s)) → frL f xs s = some (.nx, xs.foldl g s)
  | [], s, _ => rfl
  | x :: xs, s, h => by
    have h0 := h 0 x rfl
    simp only [List.take_zero, List.foldl_nil, List.take_succ_cons, List.foldl_cons] at h0
    rw [frL, h0, Option.bind_some]
    exact frL_fold g xs (g s x) fun i y hy => by
      have := h (i + 1) y hy
      simpa using this
theorem lcL_J {f : PyData → List PyData → En → Option (List PyData × En)} (J : Nat → List PyData → En → Prop) : ∀ (xs : List PyData) (k : Nat) (acc : List PyData) (s : En), J k acc s →
    (∀ i x acc s, xs[i]? = some x → J (k + i) acc s → ∃ acc' s', f x acc s = some (acc', s') ∧ J (k + i + 1) acc' s') → ∃ acc' s', lcL f xs acc s = some (acc', s') ∧ J (k + xs.length) acc' s'
  | [], k, acc, s, h, _ => ⟨acc, s, rfl, h⟩
  | x :: xs, k, acc, s, h, step => by
    obtain ⟨a1, s1, e1, h1⟩ := step 0 x acc s rfl h
    obtain ⟨a2, s2, e2, h2⟩ := lcL_J J xs (k + 1) a1 s1 h1 fun i y acc s hy hj => by
      have := step (i + 1) y acc s hy (by rw [show k + (i + 1) = k + 1 + i by omega]; exact hj)
      rw [show k + (i + 1) + 1 = k + 1 + i + 1 by omega] at this
      exact this
    exact ⟨a2, s2, by rw [lcL, e1, Option.bind_some]; exact e2, by rw [List.length_cons, show k + (xs.length + 1) = k + 1 + xs.length by omega]; exact h2⟩
/-- while: J m ahead of the turn that has m turns behind it -/
theorem whL_J {c : En → Option (Bool × En)} {f : En → Option (Out × En)} (J : Nat → En → Prop) (D : En → Prop) (h0 : ∀ s, J 0 s → ∃ s', c s = some (false, s') ∧ D s') (h1 : ∀ m s, J (m + 1) s → ∃ s1 s2 o, c s = some (true, s1) ∧ f s1 = some (o, s2) ∧ (o = .nx ∨ o = .cont) ∧ J m s2) :
    ∀ (m fu : Nat) (s : En), m < fu → J m s → ∃ s', whL c f fu s = some (.nx, s') ∧ D s'
  | 0, fu + 1, s, _, h => by
    obtain ⟨s', e, d⟩ := h0 s h
    exact ⟨s', by rw [whL, e, Option.bind_some]; rfl, d⟩
  | m + 1, fu + 1, s, l, h => by
    obtain ⟨s1, s2, o, e1, e2, e3, h2⟩ := h1 m s h
    obtain ⟨s', e4, d⟩ := whL_J J D h0 h1 m fu s2 (by omega) h2
    refine ⟨s', ?_, d⟩
    rw [whL, e1, Option.bind_some]
    simp only [if_true]
    rw [e2, Option.bind_some]
    rcases e3 with rfl | rfl
    · exact e4
    · exact e4
end
end Mi
end
section
/-! Ev3: how long data are shown, how deep they are. -/
namespace Mi
open PySem
structure Sz (p : PyData) (k d : Nat) : Prop where
  lv : p.leavesShort 12 = true
  bk : p.bulk ≤ k
  dp : p.depth ≤ d
  sh : p.showable = true
structure SzA (xs : List PyData) (k d : Nat) : Prop where
  lv : PyData.leavesShortAll 12 xs = true
  bk : PyData.bulkAll xs ≤ k
  dp : PyData.depthAll xs ≤ d
  sh : PyData.showableAll xs = true
theorem sz_nat : ∀ i : Fin 100, (PyData.int ((i : Nat) : Int)).leavesShort 12 = true ∧ (PyData.int ((i : Nat) : Int)).showable = true := by decide +kernel
theorem Sz.nat {i : Nat} (h : i < 100) : Sz (.int (i : Int)) 0 0 := ⟨(sz_nat ⟨i, h⟩).1, Nat.le_refl 0, Nat.le_refl 0, (sz_nat ⟨i, h⟩).2⟩
theorem Sz.bool (b : Bool) : Sz (.bool b) 0 0 := ⟨rfl, Nat.le_refl 0, Nat.le_refl 0, rfl⟩
theorem Sz.non : Sz .none 0 0 := ⟨rfl, Nat.le_refl 0, Nat.le_refl 0, rfl⟩
theorem Sz.mono {p : PyData} {k k' d d' : Nat} (s : Sz p k d) (h : k ≤ k') (h2 : d ≤ d') : Sz p k' d' := ⟨s.lv, Nat.le_trans s.bk h, Nat.le_trans s.dp h2, s.sh⟩
theorem SzA.mono {p : List PyData} {k k' d d' : Nat} (s : SzA p k d) (h : k ≤ k') (h2 : d ≤ d') : SzA p k' d' := ⟨s.lv, Nat.le_trans s.bk h, Nat.le_trans s.dp h2, s.sh⟩
theorem SzA.nil {d : Nat} : SzA [] 0 d := ⟨rfl, Nat.le_refl 0, Nat.zero_le d, rfl⟩
theorem SzA.cons {x : PyData} {xs : List PyData} {k k2 d : Nat} (s : Sz x k d) (t : SzA xs k2 d) : SzA (x :: xs) (k + 1 + k2) d := by
  refine ⟨?_, ?_, ?_, ?_⟩
  · show (x.leavesShort 12 && PyData.leavesShortAll 12 xs) = true
    rw [s.lv, t.lv] <;> rfl
  · show x.bulk + 1 + PyData.bulkAll xs ≤ _
    have := s.bk
    have := t.bk
    omega
  · show max x.depth (PyData.depthAll xs) ≤ d
    exact Nat.max_le.mpr ⟨s.dp, t.dp⟩
  · show (x.showable && PyData.showableAll xs) = true
    rw [s.sh, t.sh] <;> rfl
theorem SzA.map {α : Type} {f : α → PyData} {k d : Nat} : ∀ {l : List α}, (∀ a ∈ l, Sz (f a) k d) → SzA (l.map f) (l.length * (k + 1)) d
  | [], _ => .mono .nil (Nat.zero_le _) (Nat.le_refl d)
  | a :: l, h => by
    refine (SzA.cons (h a (List.mem_cons_self ..)) (SzA.map fun b hb => h b (List.mem_cons_of_mem _ hb))).mono ?_ (Nat.le_refl d)
    rw [List.length_cons, Nat.add_mul]
    omega
theorem SzA.app {xs ys : List PyData} {k k2 d : Nat} (s : SzA xs k d) (t : SzA ys k2 d) : SzA (xs ++ ys) (k + k2) d := by
  induction xs generalizing k with
  | nil => exact t.mono (Nat.le_add_left _ _) (Nat.le_refl d)
  | cons x xs ih =>
    obtain ⟨h1, h2, h3, h4⟩ := s
    have h1 : (x.leavesShort 12 && PyData.leavesShortAll 12 xs) = true := h1
    have h2 : x.bulk + 1 + PyData.bulkAll xs ≤ k := h2
    have h3 : max x.depth (PyData.depthAll xs) ≤ d := h3
    have h4 : (x.showable && PyData.showableAll xs) = true := h4
    rw [Bool.and_eq_true] at h1 h4
    have z := ih (k := PyData.bulkAll xs) ⟨h1.2, Nat.le_refl _, Nat.le_trans (Nat.le_max_right _ _) h3, h4.2⟩
    have c := SzA.cons (k := x.bulk) ⟨h1.1, Nat.le_refl _, Nat.le_trans (Nat.le_max_left _ _) h3, h4.1⟩ z
    exact c.mono (by omega) (Nat.le_refl d)
theorem Sz.tup {xs : List PyData} {k d : Nat} (s : SzA xs k d) : Sz (.tuple xs) k (d + 1) := ⟨s.lv, s.bk, Nat.succ_le_succ s.dp, s.sh⟩
theorem Sz.lst {xs : List PyData} {k d : Nat} (s : SzA xs k d) : Sz (.list xs) k (d + 1) := ⟨s.lv, s.bk, Nat.succ_le_succ s.dp, s.sh⟩
theorem Sz.ok {p : PyData} {k d : Nat} (s : Sz p k d) (h : d ≤ 30) : okDp p = true := decide_eq_true (Nat.le_trans s.dp h)
theorem Sz.len {p : PyData} {k d : Nat} (s : Sz p k d) (h : k ≤ 60000) : p.shown.length ≤ lim := by
  have := PyData.shown_le_bulk 12 (by decide) p s.lv
  have := s.bk
  unfold lim
  omega
theorem repr_lst {xs : List PyData} {k d : Nat} (s : Sz (.list xs) k d) (h : k ≤ 60000) (h2 : d ≤ 30) : biD .repr [.py (.list xs)] = some (.va (.py (.str (PyData.list xs).shown))) := by
  show (if okDp (.list xs) && (PyData.list xs).showable && decide ((PyData.list xs).shown.length ≤ lim) then _ else none) = _
  rw [if_pos]
  rw [s.ok h2, s.sh, decide_eq_true (s.len h)] <;> rfl
theorem eqv_str {a : Str} : PyData.eqv (.str a) (.str a) = true := by simp [PyData.eqv]
/-- what is shown alike is not unlike -/
theorem ne_str {a : Str} : cmp .ne (.py (.str a)) (.py (.str a)) = some false := by
  show (if okDp (.str a) && okDp (.str a) then some (!PyData.eqv (.str a) (.str a)) else none) = _
  rw [eqv_str]
  rfl
theorem eq_str {a : Str} : cmp .eq (.py (.str a)) (.py (.str a)) = some true := by
  show (if okDp (.str a) && okDp (.str a) then some (PyData.eqv (.str a) (.str a)) else none) = _
  rw [eqv_str]
  rfl
end Mi
end
section
/-! Nm: letters named as they come; the least of some rows. -/
namespace Nm
open PySem Mi
abbrev jN (n : Nat) : PyData := .int (n : Int)
/-! ### names -/
def stp (a : List Nat × List Nat) (x : Nat) : List Nat × List Nat :=
  let s := if x ∈ a.1 then a.1 else a.1 ++ [x]
  (s, a.2 ++ [s.idxOf x])
def nmF (W : List Nat) : List Nat × List Nat := W.foldl stp ([], [])
/-- the letters as they come -/
def seen (W : List Nat) : List Nat := (nmF W).1
def nm (W : List Nat) : List Nat := (nmF W).2
theorem nmF_snoc (W : List Nat) (x : Nat) : nmF (W ++ [x]) = stp (nmF W) x := by
  unfold nmF
  rw [List.foldl_append]
  rfl
theorem seen_snoc (W : List Nat) (x : Nat) : seen (W ++ [x]) = if x ∈ seen W then seen W else seen W ++ [x] := by
  unfold seen
  rw [nmF_snoc]
  rfl
theorem nm_snoc (W : List Nat) (x : Nat) : nm (W ++ [x]) = nm W ++ [(seen (W ++ [x])).idxOf x] := by
  unfold nm seen
  rw [nmF_snoc]
  rfl
theorem snocR {α : Type} {P : List α → Prop} (h0 : P []) (h1 : ∀ l x, P l → P (l ++ [x])) (l : List α) : P l := by
  rw [← List.reverse_reverse (as := l)]
  generalize l.reverse = m
  induction m with
  | nil => exact h0
  | cons x m ih => rw [List.reverse_cons]; exact h1 _ _ ih
theorem mem_seen (W : List Nat) (x : Nat) : x ∈ seen W ↔ x ∈ W := by
  refine snocR (P := fun W => x ∈ seen W ↔ x ∈ W) (by simp [seen, nmF]) (fun W y ih => ?_) W
  rw [seen_snoc]
  split
  · rename_i h
    rw [ih, List.mem_append, List.mem_singleton]
    constructor
    · exact .inl
    · rintro (h' | rfl)
      · exact h'
      · exact ih.mp h
  · rw [List.mem_append, List.mem_append, ih]
theorem nodup_seen (W : List Nat) : (seen W).Nodup := by
  refine snocR (P := fun W => (seen W).Nodup) (by simp [seen, nmF]) (fun W y ih => ?_) W
  rw [seen_snoc]
  split
  · exact ih
  · rename_i h
    rw [List.nodup_append]
    refine ⟨ih, by simp, fun a ha b hb => ?_⟩
    rw [List.mem_singleton] at hb
    subst hb
    exact fun e => h (e ▸ ha)
/-- what has come stays in its place -/
theorem seen_pre (W V : List Nat) : ∃ t, seen (W ++ V) = seen W ++ t := by
  refine snocR (P := fun V => ∃ t, seen (W ++ V) = seen W ++ t) ⟨[], by simp⟩ (fun V y ih => ?_) V
  obtain ⟨t, ht⟩ := ih
  rw [← List.append_assoc, seen_snoc]
  split
  · exact ⟨t, ht⟩
  · exact ⟨t ++ [y], by rw [ht, List.append_assoc]⟩
theorem idx_pre {s t : List Nat} {x : Nat} (h : x ∈ s) : (s ++ t).idxOf x = s.idxOf x := by
  rw [List.idxOf_append, if_pos h]
theorem nm_eq (W : List Nat) : nm W = W.map fun x => (seen W).idxOf x := by
  refine snocR (P := fun W => nm W = W.map fun x => (seen W).idxOf x) rfl (fun W y ih => ?_) W
  rw [nm_snoc, ih, List.map_append]
  congr 1
  refine List.map_congr_left fun x hx => ?_
  obtain ⟨t, ht⟩ := seen_pre W [y]
  rw [ht, idx_pre ((mem_seen W x).mpr hx)]
theorem nm_len (W : List Nat) : (nm W).length = W.length := by rw [nm_eq, List.length_map]
/-- other letters for letters -/
theorem seen_map {g : Nat → Nat} (W : List Nat) (hg : ∀ x ∈ W, ∀ y ∈ W, g x = g y → x = y) : seen (W.map g) = (seen W).map g := by
  revert hg
  refine snocR (P := fun W => (∀ x ∈ W, ∀ y ∈ W, g x = g y → x = y) → seen (W.map g) = (seen W).map g) (fun _ => rfl) (fun W y ih hg => ?_) W
  have ih' := ih fun a ha b hb => hg a (List.mem_append_left _ ha) b (List.mem_append_left _ hb)
  rw [List.map_append, List.map_singleton, seen_snoc, seen_snoc, ih']
  have e : g y ∈ (seen W).map g ↔ y ∈ seen W := by
    rw [List.mem_map]
    constructor
    · rintro ⟨a, ha, e⟩
      have := hg a (List.mem_append_left _ ((mem_seen W a).mp ha)) y (by simp) e
      subst this
      exact ha
    · exact fun h => ⟨y, h, rfl⟩
  by_cases h : y ∈ seen W
  · rw [if_pos h, if_pos (e.mpr h)]
  · rw [if_neg h, if_neg fun q => h (e.mp q), List.map_append, List.map_singleton]
theorem idx_map {g : Nat → Nat} : ∀ (s : List Nat) (x : Nat), (∀ y ∈ s, g y = g x → y = x) → (s.map g).idxOf (g x) = s.idxOf x
  | [], _, _ => rfl
  | y :: s, x, h => by
    rw [List.map_cons, List.idxOf_cons, List.idxOf_cons, idx_map s x fun z hz => h z (List.mem_cons_of_mem _ hz)]
    by_cases e : y = x
    · subst e; simp
    · have e2 : ¬ g y = g x := fun q => e (h y (List.mem_cons_self ..) q)
      have b1 : (y == x) = false := by simpa using e
      have b2 : (g y == g x) = false := by simpa using e2
      rw [b1, b2]
theorem nm_map {g : Nat → Nat} (W : List Nat) (hg : ∀ x ∈ W, ∀ y ∈ W, g x = g y → x = y) : nm (W.map g) = nm W := by
  rw [nm_eq, nm_eq, seen_map W hg, List.map_map]
  refine List.map_congr_left fun x hx => ?_
  exact idx_map _ x fun y hy => hg y ((mem_seen W y).mp hy) x hx
theorem idx_inj {s : List Nat} {x y : Nat} (hx : x ∈ s) (hy : y ∈ s) (e : s.idxOf x = s.idxOf y) : x = y := by
  have h1 := List.idxOf_lt_length_of_mem hx
  have h2 := List.idxOf_lt_length_of_mem hy
  have e1 : s[s.idxOf x] = x := List.getElem_idxOf h1
  have e2 : s[s.idxOf y] = y := List.getElem_idxOf h2
  have q : s[s.idxOf x]? = s[s.idxOf y]? := by rw [e]
  rw [List.getElem?_eq_getElem h1, List.getElem?_eq_getElem h2, e1, e2] at q
  exact Option.some.inj q
/-- a turned row -/
def trn (W : List Nat) (k : Nat) : List Nat := W.drop k ++ W.take k
theorem trn_mem {W : List Nat} {k x : Nat} : x ∈ trn W k ↔ x ∈ W := by
  unfold trn
  rw [List.mem_append, Or.comm, ← List.mem_append, List.take_append_drop]
theorem trn_map {g : Nat → Nat} {W : List Nat} {k : Nat} : trn (W.map g) k = (trn W k).map g := by
  unfold trn
  rw [List.map_append, List.map_drop, List.map_take]
theorem trn_len {W : List Nat} {k : Nat} : (trn W k).length = W.length := by
  unfold trn
  rw [List.length_append, List.length_drop, List.length_take]
  omega
/-! ### the least one -/
def tI (l : List Int) : PyData := .tuple (l.map .int)
def minL (x : List Int) (xs : List (List Int)) : List Int := xs.foldl (fun a y => if y < a then y else a) x
theorem lt_tI (a b : List Int) : PySem.W.dataLt (tI a) (tI b) = decide (a < b) := PySem.W.dataLt_ints a b
theorem minD_tI : ∀ (xs : List (List Int)) (x : List Int), PySem.W.minD (tI x) (xs.map tI) = tI (minL x xs)
  | [], x => rfl
  | y :: xs, x => by
    show PySem.W.minD (if PySem.W.dataLt (tI y) (tI x) = true then tI y else tI x) (xs.map tI) = tI (minL (if y < x then y else x) xs)
    rw [lt_tI]
    by_cases h : y < x
    · rw [if_pos h, if_pos (decide_eq_true h), minD_tI xs y]
    · rw [if_neg h, if_neg (by rw [decide_eq_false h]; exact Bool.false_ne_true), minD_tI xs x]
theorem minL_mem : ∀ (xs : List (List Int)) (x : List Int), minL x xs ∈ x :: xs
  | [], x => by simp [minL]
  | y :: xs, x => by
    show minL (if y < x then y else x) xs ∈ _
    have := minL_mem xs (if y < x then y else x)
    rw [List.mem_cons] at this
    rcases this with h | h
    · rw [h]
      split <;> simp
    · simp [h]
theorem minL_le : ∀ (xs : List (List Int)) (x : List Int), ∀ y ∈ x :: xs, ¬ y < minL x xs
  | [], x, y, hy => by
    rw [List.mem_singleton] at hy
    subst hy
    exact List.lt_irrefl y
  | z :: xs, x, y, hy => by
    show ¬ y < minL (if z < x then z else x) xs
    have ih := minL_le xs (if z < x then z else x)
    have hm := ih (if z < x then z else x) (List.mem_cons_self ..)
    rcases List.mem_cons.mp hy with rfl | hy
    · by_cases h : z < y
      · rw [if_pos h] at hm ih ⊢
        intro q
        exact hm (List.lt_trans h q)
      · rw [if_neg h] at hm ih ⊢
        exact hm
    · rcases List.mem_cons.mp hy with rfl | hy
      · by_cases h : y < x
        · rw [if_pos h] at hm ih ⊢
          exact hm
        · rw [if_neg h] at hm ih ⊢
          intro q
          exact hm (List.lt_of_le_of_lt (List.not_lt.mp h) q)
      · exact ih y (List.mem_cons_of_mem _ hy)
/-- the least one hangs on the members alone -/
theorem minL_same {x y : List Int} {xs ys : List (List Int)} (h : ∀ a, a ∈ x :: xs ↔ a ∈ y :: ys) : minL x xs = minL y ys := by
  have h1 := minL_le ys y _ ((h _).mp (minL_mem xs x))
  have h2 := minL_le xs x _ ((h _).mpr (minL_mem ys y))
  exact List.le_antisymm (List.not_lt.mp h2) (List.not_lt.mp h1)
theorem alike_tI : ∀ (a b : List Int), PySem.W.alikeAll (a.map .int) (b.map .int) = true
  | [], _ => by simp [PySem.W.alikeAll]
  | x :: a, [] => by simp [PySem.W.alikeAll]
  | x :: a, y :: b => by
    rw [List.map_cons, List.map_cons, PySem.W.alikeAll, alike_tI a b]
    simp [PySem.W.alike]
theorem min_rows {L : List (List Nat)} {x : List Nat} {xs : List (List Nat)} (e : L = x :: xs) (hs : ∀ l ∈ L, ∀ v ∈ l, v < 100) :
    biD .min [.py (.list (L.map fun l => .tuple (l.map jN)))] = some (.va (.py (tI (minL (x.map fun (n : Nat) => (n : Int)) (xs.map fun l => l.map fun (n : Nat) => (n : Int)))))) := by
  subst e
  have c : ∀ l : List Nat, PyData.tuple (l.map jN) = tI (l.map fun (n : Nat) => (n : Int)) := fun l => by
    unfold tI
    rw [List.map_map]
    rfl
  have c0 : ((x :: xs).map fun l => PyData.tuple (l.map jN)) = tI (x.map fun (n : Nat) => (n : Int)) :: (xs.map fun l => l.map fun (n : Nat) => (n : Int)).map tI := by
    rw [List.map_cons, List.map_map, c]
    congr 1
    exact List.map_congr_left fun l _ => c l
  have ok : okDp (.list ((x :: xs).map fun l => PyData.tuple (l.map jN))) = true :=
    (Sz.lst (SzA.map (k := (((x :: xs).map List.length).sum)) (d := 1) fun l hl => (Sz.tup (SzA.map (k := 0) (d := 0) fun v hv => Sz.nat (hs l hl v hv))).mono (by
      have : ∀ (ll : List (List Nat)) (l : List Nat), l ∈ ll → l.length ≤ (ll.map List.length).sum := by
        intro ll
        induction ll with
        | nil => intro l h; cases h
        | cons a ll ih =>
          intro l h
          rw [List.map_cons, List.sum_cons]
          rcases List.mem_cons.mp h with rfl | h
          · omega
          · have := ih l h; omega
      have := this _ _ hl
      omega) (Nat.le_refl _))).ok (by omega)
  rw [c0] at ok ⊢
  have a1 : alikeB (tI (x.map fun (n : Nat) => (n : Int)) :: (xs.map fun l => l.map fun (n : Nat) => (n : Int)).map tI) = true := by
    rw [← List.map_cons (f := tI) (a := x.map fun (n : Nat) => (n : Int))]
    unfold alikeB
    rw [List.all_eq_true]
    intro p hp
    rw [List.all_eq_true]
    intro q hq
    obtain ⟨a, _, rfl⟩ := List.mem_map.mp hp
    obtain ⟨b, _, rfl⟩ := List.mem_map.mp hq
    unfold tI
    rw [PySem.W.alike]
    exact alike_tI a b
  have a2 : ((tI (x.map fun (n : Nat) => (n : Int)) :: (xs.map fun l => l.map fun (n : Nat) => (n : Int)).map tI).all fun z => !isNn z) = true := by
    rw [← List.map_cons (f := tI) (a := x.map fun (n : Nat) => (n : Int)), List.all_eq_true]
    intro p hp
    obtain ⟨a, _, rfl⟩ := List.mem_map.mp hp
    rfl
  show (if _ && _ && _ then some (Od.va (.py (PySem.W.minD _ _))) else none) = _
  rw [a1, a2, ok, minD_tI]
  rfl
end Nm
end
section
/-! Nm2: readings of a word, the least of them. -/
namespace Nm
open PySem Mi
def Rot (A B : List Nat) : Prop := ∃ k, k ≤ A.length ∧ B = trn A k
theorem trn_trn {R : List Nat} {a k : Nat} (ha : a ≤ R.length) (hk : k ≤ R.length) : trn (trn R a) k = if a + k ≤ R.length then trn R (a + k) else trn R (a + k - R.length) := by
  unfold trn
  have l1 : (R.drop a).length = R.length - a := List.length_drop
  by_cases h : a + k ≤ R.length
  · rw [if_pos h, List.drop_append, List.take_append, l1, List.drop_drop, show k - (R.length - a) = 0 by omega, List.drop_zero, List.take_zero, List.append_nil]
    have e : R.take (a + k) = R.take a ++ (R.drop a).take k := by
      rw [← List.take_append_drop a (R.take (a + k)), List.take_take, List.drop_take, Nat.min_eq_left (by omega), show a + k - a = k by omega]
    rw [e, List.append_assoc]
  · have d1 : (R.drop a).drop k = [] := List.drop_of_length_le (by rw [l1]; omega)
    have t1 : (R.drop a).take k = R.drop a := List.take_of_length_le (by rw [l1]; omega)
    rw [if_neg h, List.drop_append, List.take_append, l1, d1, t1, List.nil_append]
    have e1 : k - (R.length - a) = a + k - R.length := by omega
    rw [e1, List.take_take, Nat.min_eq_left (by omega)]
    have e2 : R.drop (a + k - R.length) = (R.take a).drop (a + k - R.length) ++ R.drop a := by
      have e3 := List.take_append_drop a R
      rw [show R.drop (a + k - R.length) = (R.take a ++ R.drop a).drop (a + k - R.length) by rw [e3], List.drop_append, show a + k - R.length - (R.take a).length = 0 by rw [List.length_take]; omega, List.drop_zero]
    rw [e2, List.append_assoc]
theorem trn_zero {R : List Nat} : trn R 0 = R := by simp [trn]
theorem trn_full {R : List Nat} : trn R R.length = R := by simp [trn]
theorem trn_rev {R : List Nat} {a : Nat} (ha : a ≤ R.length) : (trn R a).reverse = trn R.reverse (R.length - a) := by
  unfold trn
  rw [List.reverse_append, List.drop_reverse, List.take_reverse, show R.length - (R.length - a) = a by omega]
theorem Rot.refl (A : List Nat) : Rot A A := ⟨0, Nat.zero_le _, trn_zero.symm⟩
theorem Rot.trans {A B D : List Nat} (h : Rot A B) (g : Rot B D) : Rot A D := by
  obtain ⟨a, ha, rfl⟩ := h
  obtain ⟨k, hk, rfl⟩ := g
  rw [trn_len] at hk
  rw [trn_trn ha hk]
  split
  · rename_i q; exact ⟨_, q, rfl⟩
  · exact ⟨_, by omega, rfl⟩
theorem Rot.symm {A B : List Nat} (h : Rot A B) : Rot B A := by
  obtain ⟨a, ha, rfl⟩ := h
  refine ⟨A.length - a, by rw [trn_len]; omega, ?_⟩
  rw [trn_trn ha (by omega), if_pos (by omega), show a + (A.length - a) = A.length by omega, trn_full]
theorem Rot.rev {A B : List Nat} (h : Rot A B) : Rot A.reverse B.reverse := by
  obtain ⟨a, ha, rfl⟩ := h
  exact ⟨A.length - a, by rw [List.length_reverse]; omega, trn_rev ha⟩
theorem Rot.len {A B : List Nat} (h : Rot A B) : B.length = A.length := by
  obtain ⟨a, ha, rfl⟩ := h
  exact trn_len
/-- the readings, m from each side -/
def rds (W : List Nat) (m : Nat) : List (List Nat) := ((List.range m).map fun k => nm (trn W k)) ++ ((List.range m).map fun k => nm (trn W.reverse k))
theorem mem_rds {W : List Nat} {m : Nat} (hm : (m = max W.length 1) ∨ m = W.length + 1) (a : List Nat) : a ∈ rds W m ↔ ∃ V, (Rot W V ∨ Rot W.reverse V) ∧ a = nm V := by
  have one : ∀ R : List Nat, R.length = W.length → (a ∈ ((List.range m).map fun k => nm (trn R k)) ↔ ∃ V, Rot R V ∧ a = nm V) := fun R hR => by
    rw [List.mem_map]
    constructor
    · rintro ⟨k, hk, rfl⟩
      rw [List.mem_range] at hk
      refine ⟨trn R k, ?_, rfl⟩
      by_cases h : k ≤ R.length
      · exact ⟨k, h, rfl⟩
      · exact absurd (show k ≤ R.length by rcases hm with h | h <;> omega) h
    · rintro ⟨V, ⟨k, hk, rfl⟩, rfl⟩
      rw [hR] at hk
      by_cases h : k < m
      · exact ⟨k, List.mem_range.mpr h, rfl⟩
      · refine ⟨0, List.mem_range.mpr (by rcases hm with h | h <;> omega), ?_⟩
        have : k = R.length := by rcases hm with h | h <;> omega
        rw [this, trn_full, trn_zero]
  unfold rds
  rw [List.mem_append, one W rfl, one W.reverse (List.length_reverse ..)]
  constructor
  · rintro (⟨V, h, e⟩ | ⟨V, h, e⟩)
    · exact ⟨V, .inl h, e⟩
    · exact ⟨V, .inr h, e⟩
  · rintro ⟨V, h | h, e⟩
    · exact .inl ⟨V, h, e⟩
    · exact .inr ⟨V, h, e⟩
def castL (l : List Nat) : List Int := l.map fun (n : Nat) => (n : Int)
def leastI : List (List Nat) → List Int
  | [] => []
  | x :: xs => minL (castL x) (xs.map castL)
theorem least_same {L L' : List (List Nat)} (h : ∀ a, a ∈ L ↔ a ∈ L') (n : L ≠ []) (n' : L' ≠ []) : leastI L = leastI L' := by
  cases L with
  | nil => exact absurd rfl n
  | cons x xs =>
    cases L' with
    | nil => exact absurd rfl n'
    | cons y ys =>
      refine minL_same fun a => ?_
      rw [← List.map_cons, ← List.map_cons, List.mem_map, List.mem_map]
      exact ⟨fun ⟨b, hb, e⟩ => ⟨b, (h b).mp hb, e⟩, fun ⟨b, hb, e⟩ => ⟨b, (h b).mpr hb, e⟩⟩
theorem min_least {L : List (List Nat)} (n : L ≠ []) (hs : ∀ l ∈ L, ∀ v ∈ l, v < 100) : biD .min [.py (.list (L.map fun l => .tuple (l.map jN)))] = some (.va (.py (tI (leastI L)))) := by
  cases L with
  | nil => exact absurd rfl n
  | cons x xs => exact min_rows rfl hs
theorem rds_ne {W : List Nat} {m : Nat} (hm : 0 < m) : rds W m ≠ [] := by
  unfold rds
  cases m with
  | zero => omega
  | succ m => rw [List.range_succ]; simp
/-- the normal word -/
def norm (W : List Nat) : List Int := leastI (rds W (W.length + 1))
theorem norm_max (W : List Nat) : leastI (rds W (max W.length 1)) = norm W := by
  refine least_same (fun a => ?_) (rds_ne (by omega)) (rds_ne (by omega))
  rw [mem_rds (.inl rfl), mem_rds (.inr rfl)]
theorem norm_map {g : Nat → Nat} {W : List Nat} (hg : ∀ x ∈ W, ∀ y ∈ W, g x = g y → x = y) : norm (W.map g) = norm W := by
  have e : rds (W.map g) (W.length + 1) = rds W (W.length + 1) := by
    unfold rds
    congr 1
    · refine List.map_congr_left fun k _ => ?_
      rw [trn_map, nm_map _ fun x hx y hy => hg x (trn_mem.mp hx) y (trn_mem.mp hy)]
    · refine List.map_congr_left fun k _ => ?_
      rw [← List.map_reverse, trn_map, nm_map _ fun x hx y hy => hg x (List.mem_reverse.mp (trn_mem.mp hx)) y (List.mem_reverse.mp (trn_mem.mp hy))]
  unfold norm
  rw [List.length_map, e]
theorem norm_nm (W : List Nat) : norm (nm W) = norm W := by
  rw [nm_eq]
  exact norm_map fun x hx y hy e => idx_inj ((mem_seen W x).mpr hx) ((mem_seen W y).mpr hy) e
theorem norm_rot {W V : List Nat} (h : Rot W V ∨ Rot W.reverse V) : norm V = norm W := by
  have len : V.length = W.length := by
    rcases h with h | h
    · exact h.len
    · rw [h.len, List.length_reverse]
  unfold norm
  refine least_same (fun a => ?_) (rds_ne (by omega)) (rds_ne (by omega))
  rw [mem_rds (.inr rfl), mem_rds (.inr rfl)]
  have key : ∀ U, (Rot V U ∨ Rot V.reverse U) ↔ (Rot W U ∨ Rot W.reverse U) := fun U => by
    rcases h with h | h
    · exact ⟨fun z => z.elim (fun z => .inl (h.trans z)) fun z => .inr (h.rev.trans z), fun z => z.elim (fun z => .inl (h.symm.trans z)) fun z => .inr (h.rev.symm.trans z)⟩
    · have h2 : Rot W V.reverse := by have := h.rev; rwa [List.reverse_reverse] at this
      exact ⟨fun z => z.elim (fun z => .inr (h.trans z)) fun z => .inl (h2.trans z), fun z => z.elim (fun z => .inr (h2.symm.trans z)) fun z => .inl (h.symm.trans z)⟩
  exact ⟨fun ⟨U, z, e⟩ => ⟨U, (key U).mp z, e⟩, fun ⟨U, z, e⟩ => ⟨U, (key U).mpr z, e⟩⟩
/-- names are low -/
theorem nm_low {W : List Nat} {v : Nat} (h : v ∈ nm W) : v < (seen W).length := by
  rw [nm_eq] at h
  obtain ⟨x, hx, rfl⟩ := List.mem_map.mp h
  exact List.idxOf_lt_length_of_mem ((mem_seen W x).mpr hx)
theorem seen_le (L : List Nat) : (seen L).length ≤ L.length := by
  refine snocR (P := fun L => (seen L).length ≤ L.length) (by simp [seen, nmF]) (fun L y ih => ?_) L
  rw [seen_snoc]
  split
  · rw [List.length_append]; omega
  · rw [List.length_append, List.length_append]; simpa using ih
theorem rds_low {W : List Nat} {m : Nat} : ∀ l ∈ rds W m, ∀ v ∈ l, v < W.length := by
  intro l hl v hv
  unfold rds at hl
  rw [List.mem_append, List.mem_map, List.mem_map] at hl
  rcases hl with ⟨k, _, rfl⟩ | ⟨k, _, rfl⟩
  · have h1 := nm_low hv
    have h2 := seen_le (trn W k)
    rw [trn_len] at h2
    omega
  · have h1 := nm_low hv
    have h2 := seen_le (trn W.reverse k)
    rw [trn_len, List.length_reverse] at h2
    omega
/-- how often a named letter stands -/
theorem nm_count {W : List Nat} {i : Nat} (hi : i < (seen W).length) : (nm W).count i = W.count (seen W)[i] := by
  have hm : (seen W)[i] ∈ seen W := List.getElem_mem hi
  have hx : ∀ x ∈ W, ((seen W).idxOf x = i ↔ x = (seen W)[i]) := fun x hx => by
    constructor
    · intro e
      subst e
      exact (List.getElem_idxOf hi).symm
    · intro e
      have h1 := nodup_seen W
      rw [e]
      exact List.Nodup.idxOf_getElem h1 i hi
  rw [nm_eq, List.count_eq_countP, List.count_eq_countP, List.countP_map]
  refine List.countP_congr fun x hxW => ?_
  simp only [Function.comp, beq_iff_eq]
  exact hx x hxW
end Nm
end
section
/-! Vw: views of words: turned, turned round. -/
namespace Nm
open PySem Mi
/-- where the letter at p stands in a view -/
def pl (L t : Nat) (b : Bool) (p : Nat) : Nat := if b then (if p ≤ t then t - p else t + L - p) else (if t ≤ p then p - t else p + L - t)
/-- a word in a view -/
def led (W : List Nat) (t : Nat) (b : Bool) : List Nat := if b then trn W.reverse (W.length - 1 - t) else trn W t
theorem led_len {W : List Nat} {t : Nat} {b : Bool} : (led W t b).length = W.length := by
  unfold led
  split
  · rw [trn_len, List.length_reverse]
  · rw [trn_len]
theorem pl_lt {L t p : Nat} {b : Bool} (ht : t < L) (hp : p < L) : pl L t b p < L := by
  unfold pl
  split <;> split <;> omega
theorem trn_get {W : List Nat} {k q : Nat} (hk : k ≤ W.length) : (trn W k)[q]? = if q < W.length - k then W[k + q]? else (W.take k)[q - (W.length - k)]? := by
  unfold trn
  have l : (W.drop k).length = W.length - k := List.length_drop
  by_cases h : q < W.length - k
  · rw [if_pos h, List.getElem?_append_left (by rw [l]; exact h), List.getElem?_drop]
  · rw [if_neg h, List.getElem?_append_right (by rw [l]; omega), l]
theorem led_at {W : List Nat} {t p : Nat} {b : Bool} (ht : t < W.length) (hp : p < W.length) : (led W t b)[pl W.length t b p]? = W[p]? := by
  cases b
  · unfold led pl
    simp only [Bool.false_eq_true, if_false]
    rw [trn_get (by omega)]
    by_cases h : t ≤ p
    · rw [if_pos h, if_pos (by omega), show t + (p - t) = p by omega]
    · rw [if_neg h, if_neg (by omega), List.getElem?_take, if_pos (by omega), show p + W.length - t - (W.length - t) = p by omega]
  · unfold led pl
    simp only [if_true]
    have hr : W.reverse.length = W.length := List.length_reverse ..
    rw [trn_get (by rw [hr]; omega), hr]
    by_cases h : p ≤ t
    · rw [if_pos h, if_pos (by omega), List.getElem?_reverse (by omega), show W.length - 1 - (W.length - 1 - t + (t - p)) = p by omega]
    · rw [if_neg h, if_neg (by omega), List.getElem?_take, if_pos (by omega), List.getElem?_reverse (by omega)]
      congr 1
      omega
theorem pl_onto {L t q : Nat} {b : Bool} (ht : t < L) (hq : q < L) : ∃ p, p < L ∧ pl L t b p = q := by
  cases b
  · by_cases h : q + t < L
    · exact ⟨q + t, h, by unfold pl; simp⟩
    · refine ⟨q + t - L, by omega, ?_⟩
      unfold pl
      simp only [Bool.false_eq_true, if_false]
      rw [if_neg (by omega)]
      omega
  · by_cases h : q ≤ t
    · refine ⟨t - q, by omega, ?_⟩
      unfold pl
      simp only [if_true]
      rw [if_pos (by omega)]
      omega
    · refine ⟨t + L - q, by omega, ?_⟩
      unfold pl
      simp only [if_true]
      rw [if_neg (by omega)]
      omega
/-- just one row has the letters there -/
theorem led_only {W A : List Nat} {t : Nat} {b : Bool} (ht : t < W.length) (hl : A.length = W.length) (h : ∀ p, p < W.length → A[pl W.length t b p]? = W[p]?) : A = led W t b := by
  apply List.ext_getElem?
  intro q
  by_cases hq : q < W.length
  · obtain ⟨p, hp, e⟩ := pl_onto (b := b) ht hq
    rw [← e, h p hp, led_at ht hp]
  · rw [List.getElem?_eq_none (by omega), List.getElem?_eq_none (by rw [led_len]; omega)]
theorem led_map {g : Nat → Nat} {W : List Nat} {t : Nat} {b : Bool} : led (W.map g) t b = (led W t b).map g := by
  unfold led
  split
  · rw [← List.map_reverse, trn_map, List.length_map]
  · rw [trn_map]
theorem led_mem {W : List Nat} {t x : Nat} {b : Bool} : x ∈ led W t b ↔ x ∈ W := by
  unfold led
  split
  · rw [trn_mem, List.mem_reverse]
  · rw [trn_mem]
theorem trn_big {W : List Nat} {k : Nat} (h : W.length ≤ k) : trn W k = W := by
  unfold trn
  rw [List.drop_of_length_le h, List.take_of_length_le h]
  rfl
theorem rot_trn (W : List Nat) (k : Nat) : Rot W (trn W k) := by
  by_cases h : k ≤ W.length
  · exact ⟨k, h, rfl⟩
  · rw [trn_big (by omega)]
    exact Rot.refl W
theorem led_rot (W : List Nat) (t : Nat) (b : Bool) : Rot W (led W t b) ∨ Rot W.reverse (led W t b) := by
  unfold led
  split
  · exact .inr (rot_trn _ _)
  · exact .inl (rot_trn _ _)
theorem rot_led {W V : List Nat} (h : Rot W V ∨ Rot W.reverse V) : ∃ t b, t < max 1 W.length ∧ V = led W t b := by
  by_cases h0 : W.length = 0
  · have e : W = [] := List.length_eq_zero_iff.mp h0
    subst e
    have hv : V = [] := by
      rcases h with h | h
      · exact List.length_eq_zero_iff.mp h.len
      · exact List.length_eq_zero_iff.mp h.len
    subst hv
    exact ⟨0, false, by simp, rfl⟩
  · rcases h with ⟨k, hk, rfl⟩ | ⟨k, hk, rfl⟩
    · by_cases hl : k = W.length
      · subst hl
        exact ⟨0, false, by omega, by rw [trn_full]; unfold led; simp [trn_zero]⟩
      · exact ⟨k, false, by omega, by unfold led; simp⟩
    · rw [List.length_reverse] at hk
      by_cases hl : k = W.length
      · refine ⟨W.length - 1, true, by omega, ?_⟩
        unfold led
        simp only [if_true]
        rw [trn_big (by rw [List.length_reverse]; omega), show W.length - 1 - (W.length - 1) = 0 by omega, trn_zero]
      · refine ⟨W.length - 1 - k, true, by omega, ?_⟩
        unfold led
        simp only [if_true]
        rw [show W.length - 1 - (W.length - 1 - k) = k by omega]
/-- all views -/
def vws (m : Nat) : List (Nat × Bool) := (List.range m).flatMap fun t => [(t, false), (t, true)]
theorem mem_vws {m : Nat} {v : Nat × Bool} : v ∈ vws m ↔ v.1 < m := by
  unfold vws
  rw [List.mem_flatMap]
  obtain ⟨t, b⟩ := v
  constructor
  · rintro ⟨a, ha, h⟩
    rw [List.mem_range] at ha
    simp at h
    rcases h with ⟨rfl, _⟩ | ⟨rfl, _⟩ <;> exact ha
  · intro h
    refine ⟨t, List.mem_range.mpr h, ?_⟩
    cases b <;> simp
abbrev trs (W : List Nat) : Nat := max 1 W.length
/-- the views of W that show O -/
def lds (W O : List Nat) : List (Nat × Bool) := (vws (trs W)).filter fun v => decide (nm (led W v.1 v.2) = nm O)
theorem mem_lds {W O : List Nat} {v : Nat × Bool} : v ∈ lds W O ↔ v.1 < trs W ∧ nm (led W v.1 v.2) = nm O := by
  unfold lds
  rw [List.mem_filter, mem_vws, decide_eq_true_eq]
/-- named first, or behind -/
theorem nm_led (A : List Nat) (t : Nat) (b : Bool) : nm (led (nm A) t b) = nm (led A t b) := by
  rw [nm_eq A, led_map, nm_map _ fun x hx y hy e => idx_inj ((mem_seen A x).mpr (led_mem.mp hx)) ((mem_seen A y).mpr (led_mem.mp hy)) e]
theorem castL_inj {a b : List Nat} (h : castL a = castL b) : a = b := by
  have : ∀ {a b : List Nat}, castL a = castL b → a = b := by
    intro a
    induction a with
    | nil =>
      intro b h
      cases b with
      | nil => rfl
      | cons _ _ => cases h
    | cons x a ih =>
      intro b h
      cases b with
      | nil => cases h
      | cons y b =>
        have h1 : (x : Int) = (y : Int) := (List.cons.inj h).1
        have h2 := ih (List.cons.inj h).2
        rw [h2, show x = y by omega]
  exact this h
theorem leastI_mem {L : List (List Nat)} (h : L ≠ []) : ∃ l ∈ L, leastI L = castL l := by
  cases L with
  | nil => exact absurd rfl h
  | cons x xs =>
    have := minL_mem (xs.map castL) (castL x)
    rw [← List.map_cons (f := castL), List.mem_map] at this
    obtain ⟨l, hl, e⟩ := this
    exact ⟨l, hl, e.symm⟩
theorem norm_mem (W : List Nat) : ∃ V, (Rot W V ∨ Rot W.reverse V) ∧ norm W = castL (nm V) := by
  obtain ⟨l, hl, e⟩ := leastI_mem (rds_ne (W := W) (m := W.length + 1) (by omega))
  obtain ⟨V, hV, rfl⟩ := (mem_rds (.inr rfl) l).mp hl
  exact ⟨V, hV, e⟩
theorem RR_symm {A B : List Nat} (h : Rot A B ∨ Rot A.reverse B) : Rot B A ∨ Rot B.reverse A := by
  rcases h with h | h
  · exact .inl h.symm
  · have := h.rev
    rw [List.reverse_reverse] at this
    exact .inr this.symm
theorem RR_trans {A B D : List Nat} (h : Rot A B ∨ Rot A.reverse B) (g : Rot B D ∨ Rot B.reverse D) : Rot A D ∨ Rot A.reverse D := by
  rcases h with h | h
  · rcases g with g | g
    · exact .inl (h.trans g)
    · exact .inr (h.rev.trans g)
  · rcases g with g | g
    · exact .inr (h.trans g)
    · have := h.rev
      rw [List.reverse_reverse] at this
      exact .inl (this.trans g)
theorem norm_led {W : List Nat} {t : Nat} {b : Bool} : norm (led W t b) = norm W := norm_rot (led_rot W t b)
/-- alike words have the same normal one, and back -/
theorem alike_iff {W O : List Nat} : lds W O ≠ [] ↔ norm W = norm O := by
  constructor
  · intro h
    cases e : lds W O with
    | nil => exact absurd e h
    | cons v r =>
      have hv : v ∈ lds W O := by rw [e]; exact List.mem_cons_self ..
      have h2 := (mem_lds.mp hv).2
      rw [← norm_nm O, ← h2, norm_nm, norm_led]
  · intro h
    obtain ⟨V, hV, e1⟩ := norm_mem W
    obtain ⟨V', hV', e2⟩ := norm_mem O
    have e : nm V = nm V' := castL_inj (by rw [← e1, ← e2, h])
    obtain ⟨t, b, ht, eO⟩ := rot_led (RR_symm hV')
    have hU := RR_trans hV (led_rot V t b)
    have eU : nm (led V t b) = nm O := by
      rw [← nm_led V, e, nm_led V', ← eO]
    obtain ⟨t2, b2, ht2, e3⟩ := rot_led hU
    intro hn
    have : (t2, b2) ∈ lds W O := mem_lds.mpr ⟨ht2, by rw [← e3]; exact eU⟩
    rw [hn] at this
    cases this
theorem alike_len {W O : List Nat} (h : W.length ≠ O.length) : lds W O = [] := by
  cases e : lds W O with
  | nil => rfl
  | cons v r =>
    have hv : v ∈ lds W O := by rw [e]; exact List.mem_cons_self ..
    have h2 := congrArg List.length (mem_lds.mp hv).2
    rw [nm_len, nm_len, led_len] at h2
    exact absurd h2 h
/-- a view undone; one view behind another one -/
def und (m : Nat) (v : Nat × Bool) : Nat × Bool := if v.2 then v else (if v.1 = 0 then 0 else m - v.1, false)
def bhd (m : Nat) (v o : Nat × Bool) : Nat × Bool := (if v.2 then (if o.1 ≤ v.1 then v.1 - o.1 else v.1 + m - o.1) else (if v.1 + o.1 < m then v.1 + o.1 else v.1 + o.1 - m), v.2 != o.2)
theorem pl_bhd {L t s p : Nat} {b c : Bool} (ht : t < L) (hs : s < L) (hp : p < L) : pl L (bhd L (t, b) (s, c)).1 (bhd L (t, b) (s, c)).2 p = pl L s c (pl L t b p) := by
  unfold bhd pl
  cases b <;> cases c <;> simp only [Bool.false_eq_true, if_false, if_true, bne_self_eq_false, Bool.bne_true, Bool.bne_false, Bool.not_false, Bool.not_true] <;> (repeat' split) <;> omega
theorem bhd_lt {m : Nat} {v o : Nat × Bool} (hv : v.1 < m) (ho : o.1 < m) : (bhd m v o).1 < m := by
  unfold bhd
  simp only
  (repeat' split) <;> omega
theorem und_lt {m : Nat} {v : Nat × Bool} (hv : v.1 < m) : (und m v).1 < m := by
  unfold und
  split
  · exact hv
  · simp only
    split <;> omega
theorem led_bhd {W : List Nat} {v o : Nat × Bool} (hv : v.1 < W.length) (ho : o.1 < W.length) : led W (bhd W.length v o).1 (bhd W.length v o).2 = led (led W v.1 v.2) o.1 o.2 := by
  refine (led_only (bhd_lt hv ho) (by rw [led_len, led_len]) fun p hp => ?_).symm
  rw [pl_bhd hv ho hp]
  have h1 := led_at (W := led W v.1 v.2) (t := o.1) (b := o.2) (p := pl W.length v.1 v.2 p) (by rw [led_len]; exact ho) (by rw [led_len]; exact pl_lt hv hp)
  rw [led_len] at h1
  rw [h1, led_at hv hp]
theorem own_bhd {W : List Nat} {v o : Nat × Bool} (hv : v ∈ lds W W) (ho : o ∈ lds W W) : bhd (trs W) v o ∈ lds W W := by
  obtain ⟨v1, v2⟩ := mem_lds.mp hv
  obtain ⟨o1, o2⟩ := mem_lds.mp ho
  refine mem_lds.mpr ⟨bhd_lt v1 o1, ?_⟩
  by_cases h0 : W.length = 0
  · have e := congrArg List.length (rfl : W = W)
    have e2 : ∀ A : List Nat, A.length = 0 → nm A = [] := fun A hA => List.length_eq_zero_iff.mp (by rw [nm_len]; exact hA)
    rw [e2 _ (by rw [led_len]; exact h0), e2 _ h0]
  · have hm : trs W = W.length := by unfold trs; omega
    rw [hm] at v1 o1 ⊢
    rw [led_bhd v1 o1, ← nm_led, v2, nm_led, o2]
theorem own_und {W : List Nat} {v : Nat × Bool} (hv : v ∈ lds W W) : und (trs W) v ∈ lds W W := by
  obtain ⟨v1, v2⟩ := mem_lds.mp hv
  refine mem_lds.mpr ⟨und_lt v1, ?_⟩
  by_cases h0 : W.length = 0
  · have e2 : ∀ A : List Nat, A.length = 0 → nm A = [] := fun A hA => List.length_eq_zero_iff.mp (by rw [nm_len]; exact hA)
    rw [e2 _ (by rw [led_len]; exact h0), e2 _ h0]
  · have hm : trs W = W.length := by unfold trs; omega
    rw [hm] at v1 ⊢
    obtain ⟨t, b⟩ := v
    cases b
    · unfold und
      simp only [Bool.false_eq_true, if_false]
      by_cases ht : t = 0
      · subst ht
        exact v2
      · rw [if_neg ht]
        have e : trn (trn W t) (W.length - t) = W := by
          rw [trn_trn (by have : t < W.length := v1
                          omega) (by omega), if_pos (by have : t < W.length := v1
                                                        omega), show t + (W.length - t) = W.length by have : t < W.length := v1
                                                                                                      omega, trn_full]
        have v2' : nm (led W t false) = nm W := v2
        have k1 : nm (led (led W t false) (W.length - t) false) = nm W := by
          unfold led
          simp only [Bool.false_eq_true, if_false]
          rw [e]
        rw [← nm_led, v2', nm_led] at k1
        exact k1
    · exact v2
theorem own_id (W : List Nat) : (0, false) ∈ lds W W := mem_lds.mpr ⟨by unfold trs; omega, by unfold led; simp [trn_zero]⟩
/-- the least of all views -/
theorem norm_vws (W : List Nat) : leastI ((vws (trs W)).map fun v => nm (led W v.1 v.2)) = norm W := by
  refine least_same (fun a => ?_) ?_ (rds_ne (by omega))
  · rw [mem_rds (.inr rfl), List.mem_map]
    constructor
    · rintro ⟨v, _, rfl⟩
      exact ⟨_, led_rot W v.1 v.2, rfl⟩
    · rintro ⟨V, hV, rfl⟩
      obtain ⟨t, b, ht, rfl⟩ := rot_led hV
      exact ⟨(t, b), mem_vws.mpr ht, rfl⟩
  · intro h
    have : (0, false) ∈ vws (trs W) := mem_vws.mpr (by show 0 < trs W; unfold trs; omega)
    rw [List.map_eq_nil_iff.mp h] at this
    cases this
end Nm
end
section
namespace K55
open PySem Mi
def F_is_integer : Fd := ⟨["value"], 1, false, (.cons (.ret (.and (.isa (.pk 0) [.int]) (.nt (.isa (.pk 0) [.bool])))) .nil)⟩
def F_is_count : Fd := ⟨["value"], 1, false, (.cons (.ret (.and (.cal "is_integer" [0] (.cons (.var 0) .nil)) (.cm .ge (.pk 0) (.lit (.int (0)))))) .nil)⟩
def F_is_below : Fd := ⟨["value", "many"], 2, false, (.cons (.ret (.and (.cal "is_count" [0] (.cons (.var 0) .nil)) (.cm .lt (.pk 0) (.pk 1)))) .nil)⟩
def F_is_row : Fd := ⟨["value", "many"], 2, false, (.cons (.ret (.and (.isa (.pk 0) [.tuple]) (.cm .eq (.bi .len (.cons (.pk 0) .nil)) (.pk 1)))) .nil)⟩
def F_is_word_of : Fd := ⟨["value"], 5, false, (.cons (.ifs (.or (.nt (.v (.isa (.pk 0) [.tuple]))) (.or (.v (.cm .eq (.op .mod (.bi .len (.cons (.pk 0) .nil)) (.lit (.int (2)))) (.lit (.int (1))))) (.v (.cm .gt (.bi .len (.cons (.pk 0) .nil)) (.op .mul (.lit (.int (2))) (.glo "MOST_LETTERS")))))) (.cons (.ret (.lit (.bool false))) .nil) .nil) (.cons (.asg 1 (.op .fdiv (.bi .len (.cons (.pk 0) .nil)) (.lit (.int (2))))) (.cons (.ret (.and (.bi .all (.cons (.lc [2, 3] [3] true (.v (.var 0)) .yes (.cal "is_below" [0, 1] (.cons (.var 3) (.cons (.var 1) .nil)))) .nil)) (.bi .all (.cons (.lc [2, 4] [4] true (.rng (.cons (.pk 1) .nil)) .yes (.cm .eq (.me .count (.pk 0) (.cons (.pk 4) .nil)) (.lit (.int (2))))) .nil)))) .nil)))⟩
def F_is_letter_of : Fd := ⟨["word", "value"], 2, false, (.cons (.ret (.cal "is_below" [0, 1] (.cons (.var 1) (.cons (.cal "many_of" [0] (.cons (.var 0) .nil)) .nil)))) .nil)⟩
def F_many_of : Fd := ⟨["word"], 1, false, (.cons (.ret (.op .fdiv (.bi .len (.cons (.pk 0) .nil)) (.lit (.int (2))))) .nil)⟩
def F_places_of : Fd := ⟨["word", "letter"], 3, false, (.cons (.asg 2 (.me .index (.pk 0) (.cons (.pk 1) .nil))) (.cons (.ret (.tup (.cons (.var 2) (.cons (.me .index (.pk 0) (.cons (.pk 1) (.cons (.op .add (.pk 2) (.lit (.int (1)))) .nil))) .nil)))) .nil))⟩
def F_between_of : Fd := ⟨["word", "letter"], 4, false, (.cons (.asgT [2, 3] (.cal "places_of" [0, 1] (.cons (.var 0) (.cons (.var 1) .nil)))) (.cons (.ret (.sl (.pk 0) (.so (.op .add (.pk 2) (.lit (.int (1))))) (.so (.pk 3)))) .nil))⟩
def F_relabelled : Fd := ⟨["letters"], 4, false, (.cons (.par [1, 2] (.cons .dct0 (.cons (.lst .nil) .nil))) (.cons (.fr [3] true (.v (.var 0)) (.cons (.sdf 1 (.pk 3) (.bi .len (.cons (.pk 1) .nil))) (.cons (.app 2 (.ix (.pk 1) (.pk 3))) .nil))) (.cons (.ret (.bi .tuple (.cons (.pk 2) .nil))) .nil)))⟩
def F_want_word : Fd := ⟨["value"], 1, false, (.cons (.ifs (.nt (.v (.cal "is_word_of" [0] (.cons (.var 0) .nil)))) (.cons .raise .nil) .nil) (.cons (.retv 0) .nil))⟩
def F_want_letter : Fd := ⟨["word", "value"], 2, false, (.cons (.ifs (.nt (.v (.cal "is_letter_of" [0, 1] (.cons (.var 0) (.cons (.var 1) .nil))))) (.cons .raise .nil) .nil) (.cons (.retv 1) .nil))⟩
def F_is_loop_of : Fd := ⟨["word", "value"], 2, false, (.cons (.ret (.and (.cal "is_row" [0, 1] (.cons (.var 1) (.cons (.lit (.int (2))) .nil))) (.and (.cal "is_letter_of" [0, 1] (.cons (.var 0) (.cons (.ix (.pk 1) (.lit (.int (0)))) .nil))) (.isa (.ix (.pk 1) (.lit (.int (1)))) [.bool])))) .nil)⟩
def F_loops_of : Fd := ⟨["word"], 3, false, (.cons (.asg 1 (.lst .nil)) (.cons (.fr [2] true (.rng (.cons (.cal "many_of" [0] (.cons (.var 0) .nil)) .nil)) (.cons (.ext 1 (.lst (.cons (.tup (.cons (.var 2) (.cons (.lit (.bool false)) .nil))) (.cons (.tup (.cons (.var 2) (.cons (.lit (.bool true)) .nil))) .nil)))) .nil)) (.cons (.retv 1) .nil)))⟩
def F_over_of : Fd := ⟨["word", "loop"], 4, false, (.cons (.asgT [2, 3] (.cal "places_of" [0, 1] (.cons (.var 0) (.cons (.ix (.pk 1) (.lit (.int (0)))) .nil)))) (.cons (.ifs (.v (.ix (.pk 1) (.lit (.int (1))))) (.cons (.ret (.bi .trange (.cons (.pk 2) (.cons (.op .add (.pk 3) (.lit (.int (1)))) .nil)))) .nil) .nil) (.cons (.ret (.op .add (.bi .trange (.cons (.pk 3) (.cons (.bi .len (.cons (.pk 0) .nil)) .nil))) (.bi .trange (.cons (.op .add (.pk 2) (.lit (.int (1)))) .nil)))) .nil)))⟩
def F_within_of : Fd := ⟨["word", "loop"], 2, false, (.cons (.ret (.sl (.cal "over_of" [0, 1] (.cons (.var 0) (.cons (.var 1) .nil))) (.so (.lit (.int (1)))) (.so (.neg (.lit (.int (1))))))) .nil)⟩
def F_letters_within : Fd := ⟨["word", "loop"], 4, false, (.cons (.ret (.lc [2, 3] [3] true (.v (.cal "within_of" [0, 1] (.cons (.var 0) (.cons (.var 1) .nil)))) .yes (.ix (.pk 0) (.pk 3)))) .nil)⟩
def F_times_within : Fd := ⟨["word", "loop", "many"], 6, false, (.cons (.asg 3 (.cal "letters_within" [0, 1] (.cons (.var 0) (.cons (.var 1) .nil)))) (.cons (.ret (.bi .tuple (.cons (.lc [4, 5] [5] true (.rng (.cons (.cal "many_of" [0] (.cons (.var 0) .nil)) .nil)) (.v (.cm .eq (.me .count (.pk 3) (.cons (.pk 5) .nil)) (.pk 2))) (.var 5)) .nil))) .nil))⟩
def F_once_of : Fd := ⟨["word", "loop"], 2, false, (.cons (.ret (.cal "times_within" [0, 1, 2] (.cons (.var 0) (.cons (.var 1) (.cons (.lit (.int (1))) .nil))))) .nil)⟩
def F_twice_of : Fd := ⟨["word", "loop"], 2, false, (.cons (.ret (.cal "times_within" [0, 1, 2] (.cons (.var 0) (.cons (.var 1) (.cons (.lit (.int (2))) .nil))))) .nil)⟩
def F_word_of_loop : Fd := ⟨["word", "loop"], 6, false, (.cons (.par [2, 3] (.cons (.cal "letters_within" [0, 1] (.cons (.var 0) (.cons (.var 1) .nil))) (.cons (.cal "twice_of" [0, 1] (.cons (.var 0) (.cons (.var 1) .nil))) .nil))) (.cons (.ret (.cal "relabelled" [0] (.cons (.lc [4, 5] [5] true (.v (.var 2)) (.v (.cm .isin (.pk 5) (.pk 3))) (.var 5)) .nil))) .nil))⟩
def F_is_simple_of : Fd := ⟨["word", "loop"], 2, false, (.cons (.ret (.cm .eq (.cal "twice_of" [0, 1] (.cons (.var 0) (.cons (.var 1) .nil))) (.tup .nil))) .nil)⟩
def F_simple_of : Fd := ⟨["word"], 3, false, (.cons (.ret (.lc [1, 2] [2] true (.v (.cal "loops_of" [0] (.cons (.var 0) .nil))) (.v (.cal "is_simple_of" [0, 1] (.cons (.var 0) (.cons (.var 2) .nil)))) (.var 2))) .nil)⟩
def F_want_loop : Fd := ⟨["word", "value"], 2, false, (.cons (.ifs (.nt (.v (.cal "is_loop_of" [0, 1] (.cons (.var 0) (.cons (.var 1) .nil))))) (.cons .raise .nil) .nil) (.cons (.retv 1) .nil))⟩
def F_is_loop : Fd := ⟨["word", "value"], 2, false, (.cons (.ret (.cal "is_loop_of" [0, 1] (.cons (.cal "want_word" [0] (.cons (.var 0) .nil)) (.cons (.var 1) .nil)))) .nil)⟩
def F_all_loops : Fd := ⟨["word"], 1, false, (.cons (.ret (.cal "loops_of" [0] (.cons (.cal "want_word" [0] (.cons (.var 0) .nil)) .nil))) .nil)⟩
def F_gone_over : Fd := ⟨["word", "loop"], 2, false, (.cons (.ex (.cal "want_word" [0] (.cons (.var 0) .nil))) (.cons (.ret (.cal "over_of" [0, 1] (.cons (.var 0) (.cons (.cal "want_loop" [0, 1] (.cons (.var 0) (.cons (.var 1) .nil))) .nil)))) .nil))⟩
def F_within : Fd := ⟨["word", "loop"], 2, false, (.cons (.ex (.cal "want_word" [0] (.cons (.var 0) .nil))) (.cons (.ret (.cal "within_of" [0, 1] (.cons (.var 0) (.cons (.cal "want_loop" [0, 1] (.cons (.var 0) (.cons (.var 1) .nil))) .nil)))) .nil))⟩
def F_once_within : Fd := ⟨["word", "loop"], 2, false, (.cons (.ex (.cal "want_word" [0] (.cons (.var 0) .nil))) (.cons (.ret (.cal "once_of" [0, 1] (.cons (.var 0) (.cons (.cal "want_loop" [0, 1] (.cons (.var 0) (.cons (.var 1) .nil))) .nil)))) .nil))⟩
def F_twice_within : Fd := ⟨["word", "loop"], 2, false, (.cons (.ex (.cal "want_word" [0] (.cons (.var 0) .nil))) (.cons (.ret (.cal "twice_of" [0, 1] (.cons (.var 0) (.cons (.cal "want_loop" [0, 1] (.cons (.var 0) (.cons (.var 1) .nil))) .nil)))) .nil))⟩
def F_loop_word : Fd := ⟨["word", "loop"], 2, false, (.cons (.ex (.cal "want_word" [0] (.cons (.var 0) .nil))) (.cons (.ret (.cal "word_of_loop" [0, 1] (.cons (.var 0) (.cons (.cal "want_loop" [0, 1] (.cons (.var 0) (.cons (.var 1) .nil))) .nil)))) .nil))⟩
def F_is_simple : Fd := ⟨["word", "loop"], 2, false, (.cons (.ex (.cal "want_word" [0] (.cons (.var 0) .nil))) (.cons (.ret (.cal "is_simple_of" [0, 1] (.cons (.var 0) (.cons (.cal "want_loop" [0, 1] (.cons (.var 0) (.cons (.var 1) .nil))) .nil)))) .nil))⟩
def F_simple_loops : Fd := ⟨["word"], 1, false, (.cons (.ret (.cal "simple_of" [0] (.cons (.cal "want_word" [0] (.cons (.var 0) .nil)) .nil))) .nil)⟩
def F_near_of : Fd := ⟨["word"], 6, false, (.cons (.asg 1 (.lst .nil)) (.cons (.fr [2] true (.rng (.cons (.cal "many_of" [0] (.cons (.var 0) .nil)) .nil)) (.cons (.asg 3 (.cal "between_of" [0, 1] (.cons (.var 0) (.cons (.var 2) .nil)))) (.cons (.app 1 (.bi .tuple (.cons (.lc [4, 5] [5] true (.rng (.cons (.cal "many_of" [0] (.cons (.var 0) .nil)) .nil)) (.v (.cm .eq (.me .count (.pk 3) (.cons (.pk 5) .nil)) (.lit (.int (1))))) (.var 5)) .nil))) .nil))) (.cons (.retv 1) .nil)))⟩
def F_near : Fd := ⟨["word", "letter"], 2, false, (.cons (.ex (.cal "want_word" [0] (.cons (.var 0) .nil))) (.cons (.ret (.ix (.cal "near_of" [0] (.cons (.var 0) .nil)) (.cal "want_letter" [0, 1] (.cons (.var 0) (.cons (.var 1) .nil))))) .nil))⟩
def F__law_pot : Fd := ⟨["script", "k"], 3, false, (.cons (.asg 2 (.op .add (.op .mul (.lit (.int (1019))) (.pk 1)) (.lit (.int (631))))) (.cons (.ifs (.v (.cm .lt (.pk 1) (.bi .len (.cons (.pk 0) .nil)))) (.cons (.asg 2 (.bi .abs (.cons (.ix (.pk 0) (.pk 1)) .nil))) .nil) .nil) (.cons (.ret (.lst (.cons (.bi .max (.cons (.lit (.int (0))) (.cons (.op .sub (.pk 2) (.op .pow (.lit (.int (10))) (.lit (.int (18))))) .nil))) (.cons (.op .add (.op .mod (.bi .int (.cons (.op .add (.op .add (.op .mul (.op .mod (.bi .int (.cons (.pk 2) .nil)) (.lit (.int (2147483549)))) (.lit (.int (41201)))) (.op .mul (.lit (.int (631))) (.pk 1))) (.lit (.int (59)))) .nil)) (.lit (.int (2147483563)))) (.lit (.int (1)))) .nil)))) .nil)))⟩
def F__law_draw : Fd := ⟨["pot", "many"], 3, true, (.cons (.ifs (.v (.cm .gt (.ix (.pk 0) (.lit (.int (0)))) (.lit (.int (0))))) (.cons (.divI 0 (0) 2 (.bi .divmod (.cons (.ix (.pk 0) (.lit (.int (0)))) (.cons (.pk 1) .nil)))) (.cons (.retv 2) .nil)) .nil) (.cons (.setI 0 (.lit (.int (1))) (.op .mod (.bi .int (.cons (.op .add (.op .mul (.ix (.pk 0) (.lit (.int (1)))) (.lit (.int (48271)))) (.lit (.int (1063)))) .nil)) (.lit (.int (2147483587))))) (.cons (.ret (.op .mod (.bi .int (.cons (.op .fdiv (.op .mod (.bi .int (.cons (.op .mul (.ix (.pk 0) (.lit (.int (1)))) (.ix (.pk 0) (.lit (.int (1))))) .nil)) (.lit (.int (2147483563)))) (.lit (.int (19)))) .nil)) (.pk 1))) .nil)))⟩
def F__law_pick : Fd := ⟨["pot", "some"], 2, true, (.cons (.ret (.ix (.pk 1) (.cal "_law_draw" [0, 1] (.cons (.pk 0) (.cons (.bi .len (.cons (.pk 1) .nil)) .nil))))) .nil)⟩
def F__law_named : Fd := ⟨["letters"], 4, false, (.cons (.par [1, 2] (.cons .dct0 (.cons (.lst .nil) .nil))) (.cons (.fr [3] true (.v (.var 0)) (.cons (.ifs (.v (.cm .notin (.pk 3) (.pk 1))) (.cons (.setI 1 (.pk 3) (.bi .len (.cons (.pk 1) .nil))) .nil) .nil) (.cons (.app 2 (.ix (.pk 1) (.pk 3))) .nil))) (.cons (.ret (.bi .tuple (.cons (.pk 2) .nil))) .nil)))⟩
def F__law_shuffled : Fd := ⟨["pot", "some"], 4, true, (.cons (.par [2, 3] (.cons (.bi .list (.cons (.pk 1) .nil)) (.cons (.lst .nil) .nil))) (.cons (.whl (.v (.cm .ne (.pk 2) (.lst .nil))) (.cons (.app 3 (.pop 2 (.cal "_law_draw" [0, 1] (.cons (.pk 0) (.cons (.bi .len (.cons (.pk 2) .nil)) .nil))))) .nil)) (.cons (.retv 3) .nil)))⟩
def F__law_any : Fd := ⟨["pot", "most"], 3, true, (.cons (.asg 2 (.cal "_law_draw" [0, 1] (.cons (.pk 0) (.cons (.op .add (.pk 1) (.lit (.int (1)))) .nil)))) (.cons (.ret (.bi .tuple (.cons (.cal "_law_shuffled" [0, 1] (.cons (.pk 0) (.cons (.op .mul (.bi .lrange (.cons (.pk 2) .nil)) (.lit (.int (2)))) .nil))) .nil))) .nil))⟩
def F__law_joined : Fd := ⟨["one", "other", "at"], 6, false, (.cons (.asg 3 (.op .fdiv (.bi .len (.cons (.pk 0) .nil)) (.lit (.int (2))))) (.cons (.ret (.op .add (.op .add (.sl (.pk 0) .no (.so (.pk 2))) (.bi .tuple (.cons (.lc [4, 5] [5] true (.v (.var 1)) .yes (.op .add (.pk 3) (.pk 5))) .nil))) (.sl (.pk 0) (.so (.pk 2)) .no))) .nil))⟩
def F__law_clovers : Fd := ⟨["pot", "most"], 8, true, (.cons (.asg 2 (.tup .nil)) (.cons (.fr [3] true (.rng (.cons (.op .add (.lit (.int (1))) (.cal "_law_draw" [0, 1] (.cons (.pk 0) (.cons (.lit (.int (3))) .nil)))) .nil)) (.cons (.asg 4 (.cal "_law_pick" [0, 1] (.cons (.pk 0) (.cons (.lst (.cons (.lit (.int (1))) (.cons (.lit (.int (1))) (.cons (.lit (.int (3))) (.cons (.lit (.int (3))) (.cons (.lit (.int (5))) .nil)))))) .nil)))) (.cons (.ifs (.v (.cm .le (.op .add (.op .fdiv (.bi .len (.cons (.pk 2) .nil)) (.lit (.int (2)))) (.pk 4)) (.pk 1))) (.cons (.asg 2 (.cal "_law_joined" [0, 1, 2] (.cons (.var 2) (.cons (.bi .tuple (.cons (.op .mul (.bi .lrange (.cons (.pk 4) .nil)) (.lit (.int (2)))) .nil)) (.cons (.cal "_law_draw" [0, 1] (.cons (.pk 0) (.cons (.op .add (.bi .len (.cons (.pk 2) .nil)) (.lit (.int (1)))) .nil))) .nil))))) .nil) .nil) .nil))) (.cons (.asg 5 (.cal "_law_shuffled" [0, 1] (.cons (.pk 0) (.cons (.bi .lrange (.cons (.op .fdiv (.bi .len (.cons (.pk 2) .nil)) (.lit (.int (2)))) .nil)) .nil)))) (.cons (.ret (.bi .tuple (.cons (.lc [6, 7] [7] true (.v (.var 2)) .yes (.ix (.pk 5) (.pk 7))) .nil))) .nil))))⟩
def F__law_word : Fd := ⟨["pot", "most"], 2, true, (.cons (.ret (.ite (.v (.cm .eq (.cal "_law_draw" [0, 1] (.cons (.pk 0) (.cons (.lit (.int (2))) .nil))) (.lit (.int (0))))) (.cal "_law_clovers" [0, 1] (.cons (.pk 0) (.cons (.var 1) .nil))) (.cal "_law_any" [0, 1] (.cons (.pk 0) (.cons (.var 1) .nil))))) .nil)⟩
def F__law_places : Fd := ⟨["word", "letter"], 4, false, (.cons (.ret (.lc [2, 3] [3] true (.rng (.cons (.bi .len (.cons (.pk 0) .nil)) .nil)) (.v (.cm .eq (.ix (.pk 0) (.pk 3)) (.pk 1))) (.var 3))) .nil)⟩
def F__law_loops : Fd := ⟨["word"], 3, false, (.cons (.asg 1 (.lst .nil)) (.cons (.fr [2] true (.rng (.cons (.op .fdiv (.bi .len (.cons (.pk 0) .nil)) (.lit (.int (2)))) .nil)) (.cons (.ext 1 (.lst (.cons (.tup (.cons (.var 2) (.cons (.lit (.bool false)) .nil))) (.cons (.tup (.cons (.var 2) (.cons (.lit (.bool true)) .nil))) .nil)))) .nil)) (.cons (.retv 1) .nil)))⟩
def F__law_over : Fd := ⟨["word", "loop"], 6, false, (.cons (.asgT [2, 3] (.cal "_law_places" [0, 1] (.cons (.var 0) (.cons (.ix (.pk 1) (.lit (.int (0)))) .nil)))) (.cons (.ifs (.v (.ix (.pk 1) (.lit (.int (1))))) (.cons (.ret (.bi .trange (.cons (.pk 2) (.cons (.op .add (.pk 3) (.lit (.int (1)))) .nil)))) .nil) .nil) (.cons (.par [4, 5] (.cons (.lst (.cons (.var 3) .nil)) (.cons (.var 3) .nil))) (.cons (.whl (.v (.cm .ne (.pk 5) (.pk 2))) (.cons (.asg 5 (.ite (.v (.cm .lt (.op .add (.pk 5) (.lit (.int (1)))) (.bi .len (.cons (.pk 0) .nil)))) (.op .add (.pk 5) (.lit (.int (1)))) (.lit (.int (0))))) (.cons (.app 4 (.var 5)) .nil))) (.cons (.ret (.bi .tuple (.cons (.pk 4) .nil))) .nil)))))⟩
def F__law_times : Fd := ⟨["word", "loop", "many"], 7, false, (.cons (.asg 3 (.lc [4, 5] [5] true (.v (.sl (.cal "_law_over" [0, 1] (.cons (.var 0) (.cons (.var 1) .nil))) (.so (.lit (.int (1)))) (.so (.neg (.lit (.int (1))))))) .yes (.ix (.pk 0) (.pk 5)))) (.cons (.ret (.bi .tuple (.cons (.lc [4, 6] [6] true (.rng (.cons (.op .fdiv (.bi .len (.cons (.pk 0) .nil)) (.lit (.int (2)))) .nil)) (.v (.cm .eq (.me .count (.pk 3) (.cons (.pk 6) .nil)) (.pk 2))) (.var 6)) .nil))) .nil))⟩
def F__law_loop_right : Fd := ⟨["word", "loop"], 12, false, (.cons (.asg 2 (.cal "_law_over" [0, 1] (.cons (.var 0) (.cons (.var 1) .nil)))) (.cons (.par [3, 4] (.cons (.cal "_law_times" [0, 1, 2] (.cons (.var 0) (.cons (.var 1) (.cons (.lit (.int (1))) .nil)))) (.cons (.cal "_law_times" [0, 1, 2] (.cons (.var 0) (.cons (.var 1) (.cons (.lit (.int (2))) .nil)))) .nil))) (.cons (.asg 5 (.cal "_law_named" [0] (.cons (.lc [9, 10] [10] true (.v (.sl (.pk 2) (.so (.lit (.int (1)))) (.so (.neg (.lit (.int (1))))))) (.v (.cm .isin (.ix (.pk 0) (.pk 10)) (.pk 4))) (.ix (.pk 0) (.pk 10))) .nil))) (.cons (.asg 6 (.lst (.cons (.var 2) (.cons (.sl (.pk 2) (.so (.lit (.int (1)))) (.so (.neg (.lit (.int (1)))))) (.cons (.var 3) (.cons (.var 4) (.cons (.var 5) (.cons (.cm .eq (.pk 4) (.tup .nil)) .nil)))))))) (.cons (.asg 7 (.lcf [9, 11] 11 [("gone_over", [0, 1]), ("within", [0, 1]), ("once_within", [0, 1]), ("twice_within", [0, 1]), ("loop_word", [0, 1]), ("is_simple", [0, 1])] (.cons (.var 0) (.cons (.var 1) .nil)))) (.cons (.asg 8 (.lcf [9, 11] 11 [("gone_over", [1, 0]), ("within", [1, 0]), ("once_within", [1, 0]), ("twice_within", [1, 0]), ("loop_word", [1, 0]), ("is_simple", [1, 0])] (.cons (.var 1) (.cons (.var 0) .nil)))) (.cons (.ifs (.or (.v (.cm .ne (.bi .repr (.cons (.lst (.cons (.var 7) (.cons (.var 8) .nil))) .nil)) (.bi .repr (.cons (.lst (.cons (.var 6) (.cons (.var 6) .nil))) .nil)))) (.v (.cm .isnot (.cal "is_loop" [0, 1] (.cons (.var 0) (.cons (.var 1) .nil))) (.lit (.bool true))))) (.cons (.ret (.lit (.bool false))) .nil) .nil) (.cons (.ret (.and (.cm .eq (.bi .repr (.cons (.cal "near" [0, 1] (.cons (.var 0) (.cons (.ix (.pk 1) (.lit (.int (0)))) .nil))) .nil)) (.bi .repr (.cons (.pk 3) .nil))) (.cm .eq (.pk 3) (.cal "_law_times" [0, 1, 2] (.cons (.var 0) (.cons (.tup (.cons (.ix (.pk 1) (.lit (.int (0)))) (.cons (.nt (.ix (.pk 1) (.lit (.int (1))))) .nil))) (.cons (.lit (.int (1))) .nil))))))) .nil))))))))⟩
def F__law_right : Fd := ⟨["pot"], 7, true, (.cons (.asg 1 (.cal "_law_word" [0, 1] (.cons (.pk 0) (.cons (.lit (.int (8))) .nil)))) (.cons (.asg 2 (.cal "_law_loops" [0] (.cons (.var 1) .nil))) (.cons (.asg 3 (.lc [5, 6] [6] true (.v (.var 2)) (.v (.cm .eq (.cal "_law_times" [0, 1, 2] (.cons (.var 1) (.cons (.var 6) (.cons (.lit (.int (2))) .nil)))) (.tup .nil))) (.var 6))) (.cons (.ifs (.v (.cm .ne (.bi .repr (.cons (.lst (.cons (.cal "all_loops" [0] (.cons (.var 1) .nil)) (.cons (.cal "simple_loops" [0] (.cons (.var 1) .nil)) (.cons (.cal "all_loops" [0] (.cons (.var 1) .nil)) (.cons (.cal "simple_loops" [0] (.cons (.var 1) .nil)) .nil))))) .nil)) (.bi .repr (.cons (.op .mul (.lst (.cons (.var 2) (.cons (.var 3) .nil))) (.lit (.int (2)))) .nil)))) (.cons (.ret (.lit (.bool false))) .nil) .nil) (.cons (.ifs (.v (.cm .ne (.lc [5, 6] [6] true (.v (.var 2)) (.nt (.v (.cal "_law_loop_right" [0, 1] (.cons (.var 1) (.cons (.var 6) .nil))))) (.var 6)) (.lst .nil))) (.cons (.ret (.lit (.bool false))) .nil) .nil) (.cons (.asg 4 (.bi .min (.cons (.op .add (.lc [5, 6] [6] true (.v (.var 2)) .yes (.bi .len (.cons (.cal "_law_over" [0, 1] (.cons (.var 1) (.cons (.var 6) .nil))) .nil))) (.lst (.cons (.lit (.int (99))) .nil))) .nil))) (.cons (.ret (.cm .eq (.lc [5, 6] [6] true (.v (.var 2)) (.and (.v (.cm .eq (.bi .len (.cons (.cal "_law_over" [0, 1] (.cons (.var 1) (.cons (.var 6) .nil))) .nil)) (.pk 4))) (.v (.cm .notin (.pk 6) (.pk 3)))) (.var 6)) (.lst .nil))) .nil)))))))⟩
def F_law : Fd := ⟨["script"], 4, false, (.cons (.fr [1] true (.v (.tup (.cons (.lit (.int (0))) (.cons (.lit (.int (1))) .nil)))) (.cons (.asg 2 (.cal "_law_pot" [0, 1] (.cons (.var 0) (.cons (.var 1) .nil)))) (.cons (.fr [3] true (.rng (.cons (.lit (.int (2))) .nil)) (.cons (.ifs (.nt (.v (.cal "_law_right" [0] (.cons (.pk 2) .nil)))) (.cons (.ret (.lit (.bool false))) .nil) .nil) .nil)) .nil))) (.cons (.ret (.lit (.bool true))) .nil))⟩
def tab : Tab := ⟨[(Str.ofString "is_integer", F_is_integer), (Str.ofString "is_count", F_is_count), (Str.ofString "is_below", F_is_below), (Str.ofString "is_row", F_is_row), (Str.ofString "is_word_of", F_is_word_of), (Str.ofString "is_letter_of", F_is_letter_of), (Str.ofString "many_of", F_many_of), (Str.ofString "places_of", F_places_of), (Str.ofString "between_of", F_between_of), (Str.ofString "relabelled", F_relabelled), (Str.ofString "want_word", F_want_word), (Str.ofString "want_letter", F_want_letter), (Str.ofString "is_loop_of", F_is_loop_of), (Str.ofString "loops_of", F_loops_of), (Str.ofString "over_of", F_over_of), (Str.ofString "within_of", F_within_of), (Str.ofString "letters_within", F_letters_within), (Str.ofString "times_within", F_times_within), (Str.ofString "once_of", F_once_of), (Str.ofString "twice_of", F_twice_of), (Str.ofString "word_of_loop", F_word_of_loop), (Str.ofString "is_simple_of", F_is_simple_of), (Str.ofString "simple_of", F_simple_of), (Str.ofString "want_loop", F_want_loop), (Str.ofString "is_loop", F_is_loop), (Str.ofString "all_loops", F_all_loops), (Str.ofString "gone_over", F_gone_over), (Str.ofString "within", F_within), (Str.ofString "once_within", F_once_within), (Str.ofString "twice_within", F_twice_within), (Str.ofString "loop_word", F_loop_word), (Str.ofString "is_simple", F_is_simple), (Str.ofString "simple_loops", F_simple_loops), (Str.ofString "near_of", F_near_of), (Str.ofString "near", F_near), (Str.ofString "_law_pot", F__law_pot), (Str.ofString "_law_draw", F__law_draw), (Str.ofString "_law_pick", F__law_pick), (Str.ofString "_law_named", F__law_named), (Str.ofString "_law_shuffled", F__law_shuffled), (Str.ofString "_law_any", F__law_any), (Str.ofString "_law_joined", F__law_joined), (Str.ofString "_law_clovers", F__law_clovers), (Str.ofString "_law_word", F__law_word), (Str.ofString "_law_places", F__law_places), (Str.ofString "_law_loops", F__law_loops), (Str.ofString "_law_over", F__law_over), (Str.ofString "_law_times", F__law_times), (Str.ofString "_law_loop_right", F__law_loop_right), (Str.ofString "_law_right", F__law_right), (Str.ofString "law", F_law)], [(Str.ofString "MOST_LETTERS", (.int (10)))]⟩
theorem lk_is_integer : tab.fds.lookup (Str.ofString "is_integer") = some F_is_integer := by rfl
theorem lk_is_count : tab.fds.lookup (Str.ofString "is_count") = some F_is_count := by rfl
theorem lk_is_below : tab.fds.lookup (Str.ofString "is_below") = some F_is_below := by rfl
theorem lk_is_row : tab.fds.lookup (Str.ofString "is_row") = some F_is_row := by rfl
theorem lk_is_word_of : tab.fds.lookup (Str.ofString "is_word_of") = some F_is_word_of := by rfl
theorem lk_is_letter_of : tab.fds.lookup (Str.ofString "is_letter_of") = some F_is_letter_of := by rfl
theorem lk_many_of : tab.fds.lookup (Str.ofString "many_of") = some F_many_of := by rfl
theorem lk_places_of : tab.fds.lookup (Str.ofString "places_of") = some F_places_of := by rfl
theorem lk_between_of : tab.fds.lookup (Str.ofString "between_of") = some F_between_of := by rfl
theorem lk_relabelled : tab.fds.lookup (Str.ofString "relabelled") = some F_relabelled := by rfl
theorem lk_want_word : tab.fds.lookup (Str.ofString "want_word") = some F_want_word := by rfl
theorem lk_want_letter : tab.fds.lookup (Str.ofString "want_letter") = some F_want_letter := by rfl
theorem lk_is_loop_of : tab.fds.lookup (Str.ofString "is_loop_of") = some F_is_loop_of := by rfl
theorem lk_loops_of : tab.fds.lookup (Str.ofString "loops_of") = some F_loops_of := by rfl
theorem lk_over_of : tab.fds.lookup (Str.ofString "over_of") = some F_over_of := by rfl
theorem lk_within_of : tab.fds.lookup (Str.ofString "within_of") = some F_within_of := by rfl
theorem lk_letters_within : tab.fds.lookup (Str.ofString "letters_within") = some F_letters_within := by rfl
theorem lk_times_within : tab.fds.lookup (Str.ofString "times_within") = some F_times_within := by rfl
theorem lk_once_of : tab.fds.lookup (Str.ofString "once_of") = some F_once_of := by rfl
theorem lk_twice_of : tab.fds.lookup (Str.ofString "twice_of") = some F_twice_of := by rfl
theorem lk_word_of_loop : tab.fds.lookup (Str.ofString "word_of_loop") = some F_word_of_loop := by rfl
theorem lk_is_simple_of : tab.fds.lookup (Str.ofString "is_simple_of") = some F_is_simple_of := by rfl
theorem lk_simple_of : tab.fds.lookup (Str.ofString "simple_of") = some F_simple_of := by rfl
theorem lk_want_loop : tab.fds.lookup (Str.ofString "want_loop") = some F_want_loop := by rfl
theorem lk_is_loop : tab.fds.lookup (Str.ofString "is_loop") = some F_is_loop := by rfl
theorem lk_all_loops : tab.fds.lookup (Str.ofString "all_loops") = some F_all_loops := by rfl
theorem lk_gone_over : tab.fds.lookup (Str.ofString "gone_over") = some F_gone_over := by rfl
theorem lk_within : tab.fds.lookup (Str.ofString "within") = some F_within := by rfl
theorem lk_once_within : tab.fds.lookup (Str.ofString "once_within") = some F_once_within := by rfl
theorem lk_twice_within : tab.fds.lookup (Str.ofString "twice_within") = some F_twice_within := by rfl
theorem lk_loop_word : tab.fds.lookup (Str.ofString "loop_word") = some F_loop_word := by rfl
theorem lk_is_simple : tab.fds.lookup (Str.ofString "is_simple") = some F_is_simple := by rfl
theorem lk_simple_loops : tab.fds.lookup (Str.ofString "simple_loops") = some F_simple_loops := by rfl
theorem lk_near_of : tab.fds.lookup (Str.ofString "near_of") = some F_near_of := by rfl
theorem lk_near : tab.fds.lookup (Str.ofString "near") = some F_near := by rfl
theorem lk__law_pot : tab.fds.lookup (Str.ofString "_law_pot") = some F__law_pot := by rfl
theorem lk__law_draw : tab.fds.lookup (Str.ofString "_law_draw") = some F__law_draw := by rfl
theorem lk__law_pick : tab.fds.lookup (Str.ofString "_law_pick") = some F__law_pick := by rfl
theorem lk__law_named : tab.fds.lookup (Str.ofString "_law_named") = some F__law_named := by rfl
theorem lk__law_shuffled : tab.fds.lookup (Str.ofString "_law_shuffled") = some F__law_shuffled := by rfl
theorem lk__law_any : tab.fds.lookup (Str.ofString "_law_any") = some F__law_any := by rfl
theorem lk__law_joined : tab.fds.lookup (Str.ofString "_law_joined") = some F__law_joined := by rfl
theorem lk__law_clovers : tab.fds.lookup (Str.ofString "_law_clovers") = some F__law_clovers := by rfl
theorem lk__law_word : tab.fds.lookup (Str.ofString "_law_word") = some F__law_word := by rfl
theorem lk__law_places : tab.fds.lookup (Str.ofString "_law_places") = some F__law_places := by rfl
theorem lk__law_loops : tab.fds.lookup (Str.ofString "_law_loops") = some F__law_loops := by rfl
theorem lk__law_over : tab.fds.lookup (Str.ofString "_law_over") = some F__law_over := by rfl
theorem lk__law_times : tab.fds.lookup (Str.ofString "_law_times") = some F__law_times := by rfl
theorem lk__law_loop_right : tab.fds.lookup (Str.ofString "_law_loop_right") = some F__law_loop_right := by rfl
theorem lk__law_right : tab.fds.lookup (Str.ofString "_law_right") = some F__law_right := by rfl
theorem lk_law : tab.fds.lookup (Str.ofString "law") = some F_law := by rfl
abbrev lw := PySem.Challenge.rw_passedtwice_k55_whole_loops_of_words
theorem tab_eq : Mi.tabOf (Mi.dfsOf lw.prog.main.body) (Mi.glosOf [] lw.prog.main.body) (Mi.blOf lw.prog.main.body) 60 = tab := by kernel_rfl
end K55
end
section
namespace K55
open PySem Mi
abbrev iN (n : Nat) : PyData := .int (n : Int)
/-- a word as a value -/
abbrev tW (W : List Nat) : PyData := .tuple (W.map iN)
abbrev tA (p : Nat) (b : Bool) : PyData := .tuple [iN p, .bool b]
section
variable {fu n : Nat}
theorem r_is_integer {i : Int} : run tab fu (n + 1) (Str.ofString "is_integer") [.py (.int i)] = some (.py (.bool true), false, .py .none) := by
  rw [run_of lk_is_integer rfl]
  simp [F_is_integer, enter]
theorem r_is_count {i : Int} : run tab fu (n + 2) (Str.ofString "is_count") [.py (.int i)] = some (.py (.bool (decide (0 ≤ i))), false, .py .none) := by
  rw [run_of lk_is_count rfl]
  simp [F_is_count, enter, call_pl (ct_io lk_is_integer), r_is_integer]
theorem r_is_below {i j : Int} : run tab fu (n + 3) (Str.ofString "is_below") [.py (.int i), .py (.int j)] = some (.py (.bool (decide (0 ≤ i) && decide (i < j))), false, .py .none) := by
  rw [run_of lk_is_below rfl]
  simp [F_is_below, enter, call_pl (ct_io lk_is_count), r_is_count]
  by_cases h : 0 ≤ i <;> simp [h]
theorem r_is_row {W : List PyData} {j : Int} : run tab fu (n + 1) (Str.ofString "is_row") [.py (.tuple W), .py (.int j)] = some (.py (.bool (decide ((W.length : Int) = j))), false, .py .none) := by
  rw [run_of lk_is_row rfl]
  simp [F_is_row, enter]
end
/-- a word of closed lines: each letter twice -/
structure Wd (W : List Nat) : Prop where
  ev : W.length % 2 = 0
  few : W.length ≤ 20
  low : ∀ x ∈ W, x < W.length / 2
  two : ∀ i, i < W.length / 2 → W.count i = 2
theorem all_true {α : Type} {l : List α} : biD .all [.py (.list (l.map fun x => .bool true))] = some (ofB true) := by
  have := all_bools (g := fun _ => true) (l := l)
  rw [this, List.all_eq_true.mpr fun _ _ => rfl]
@[simp] theorem ct_glo {T : Tab} {fu : Nat} {g : Str → List D → Option (D × Bool × D)} {x : Str} : (T.ct fu g).glo x = T.glos.lookup x := rfl
theorem gl_ml : tab.glos.lookup (Str.ofString "MOST_LETTERS") = some (.int 10) := rfl
theorem lim_ok {n : Nat} (h : n ≤ 1000) : n ≤ lim := by unfold lim; omega
theorem cnt_map {i : Nat} : ∀ W : List Nat, (W.map iN).countP (fun y => PyData.eqv y (.int (i : Int))) = W.count i
  | [] => rfl
  | x :: W => by
    rw [List.map_cons, List.countP_cons, cnt_map W, List.count_cons, eqv_int]
    congr 1
    by_cases h : x = i
    · subst h; simp
    · have h2 : ¬ ((x : Int) = (i : Int)) := by omega
      simp [h, h2]
section
variable {fu n : Nat} {W : List Nat}
@[simp] theorem tW_len : (W.map iN).length = W.length := List.length_map ..
theorem rng_nat {k : Nat} (h : k ≤ 1000) : rngD [.py (.int (k : Int))] = some ((List.range k).map fun (j : Nat) => PyData.int (j : Int)) := by
  have this : okR (k : Int) = true := by unfold okR; simp; omega
  show (if okR (k : Int) then some (rngL 0 (k : Int).toNat) else none) = _
  rw [if_pos this]
  simp [rngL]
theorem cnt_map' {i : Nat} {W : List Nat} : W.countP ((fun y => PyData.eqv y (.int (i : Int))) ∘ iN) = W.count i := by
  rw [← cnt_map W, List.countP_map]
theorem Wd.half (h : Wd W) : ∃ m, W.length = 2 * m ∧ m ≤ 10 ∧ W.length / 2 = m := ⟨W.length / 2, by have := h.ev; omega, by have := h.few; omega, rfl⟩
theorem r_is_word_of (h : Wd W) : run tab fu (n + 4) (Str.ofString "is_word_of") [.py (tW W)] = some (.py (.bool true), false, .py .none) := by
  obtain ⟨m, h1, h2, h3⟩ := h.half
  have low := h.low
  have two := h.two
  rw [h3] at low two
  have e1 : (W.length : Int) % 2 = 0 := by omega
  have e2 : ¬ ((20 : Int) < (W.length : Int)) := by omega
  have e3 : ((W.length : Int) / 2) = (m : Int) := by omega
  rw [run_of lk_is_word_of rfl]
  have A : evE (tab.ct fu (run tab fu (n + 3))) (.lc [2, 3] [3] true (.v (.var 0)) .yes (.cal (Str.ofString "is_below") [0, 1] (.cons (.var 3) (.cons (.var 1) .nil)))) [.fr (.py (tW W)), .fr (.py (.int (m : Int))), .no, .no, .no] =
      some (.fe (.py (.list (W.map fun x => .bool true))), [.fr (.py (tW W)), .fr (.py (.int (m : Int))), .no, .no, .no]) := by
    rw [lc_map (fun _ => .bool true) (st' := [.fr (.py (tW W)), .fr (.py (.int (m : Int))), .no, .no, .no]) (xs := W.map iN) (by simp) rfl (lim_ok (by simp; omega)) fun x hx => ?_]
    · rw [List.map_map]
      rfl
    · obtain ⟨y, hy, rfl⟩ := List.mem_map.mp hx
      have lt2 : (y : Int) < (m : Int) := by have := low y hy; omega
      refine ⟨_, _, _, rfl, by simp [wipe, call_pl (ct_io lk_is_below), r_is_below]; exact ⟨rfl, rfl⟩, ?_, by simp [wipe]⟩
      simp [low y hy]
  have B : evE (tab.ct fu (run tab fu (n + 3))) (.lc [2, 4] [4] true (.rng (.cons (.pk 1) .nil)) .yes (.cm .eq (.me .count (.pk 0) (.cons (.pk 4) .nil)) (.lit (.int (2))))) [.fr (.py (tW W)), .fr (.py (.int (m : Int))), .no, .no, .no] =
      some (.fe (.py (.list ((List.range m).map fun x => .bool true))), [.fr (.py (tW W)), .fr (.py (.int (m : Int))), .no, .no, .no]) := by
    have rg := rng_nat (k := m) (by omega)
    rw [lc_map (fun _ => .bool true) (st' := [.fr (.py (tW W)), .fr (.py (.int (m : Int))), .no, .no, .no]) (xs := (List.range m).map fun (j : Nat) => PyData.int (j : Int)) (by simp [rg]) rfl (lim_ok (by simp; omega)) fun x hx => ?_]
    · rw [List.map_map]
      rfl
    · obtain ⟨y, hy, rfl⟩ := List.mem_map.mp hx
      have lt : y < m := by simpa using hy
      have c := two y lt
      have okd : okDp (.int (y : Int)) = true := rfl
      refine ⟨_, _, _, rfl, by simp [wipe, meD, countD, okd, D.tupD, D.lstD, cnt_map', c]; exact ⟨rfl, rfl⟩, rfl, by simp [wipe]⟩
  have S1 : evT (tab.ct fu (run tab fu (n + 3))) (.or (.nt (.v (.isa (.pk 0) [.tuple]))) (.or (.v (.cm .eq (.op .mod (.bi .len (.cons (.pk 0) .nil)) (.lit (.int (2)))) (.lit (.int (1))))) (.v (.cm .gt (.bi .len (.cons (.pk 0) .nil)) (.op .mul (.lit (.int (2))) (.glo (Str.ofString "MOST_LETTERS"))))))) [.fr (.py (tW W)), .no, .no, .no, .no] = some (false, [.fr (.py (tW W)), .no, .no, .no, .no]) := by
    simp [op_mod, op_mul, okMul, gl_ml, e1, e2]
  simp [F_is_word_of, enter, S1, op_fdiv, e3, A, B, all_true]
theorem r_want_word (h : Wd W) : run tab fu (n + 5) (Str.ofString "want_word") [.py (tW W)] = some (.py (tW W), false, .py .none) := by
  rw [run_of lk_want_word rfl]
  simp [F_want_word, enter, call_pl (ct_io lk_is_word_of), r_is_word_of h]
end
theorem lim_lt {n : Nat} (h : n ≤ 1000) : n < lim := by unfold lim; omega
theorem cut_to {xs : List PyData} {k : Nat} {z : Int} (hz : z = (k : Int)) (h : k ≤ xs.length) : cutP xs none (some z) = xs.take k := by
  subst hz
  have e : HT.sIx xs.length xs.length (some (k : Int)) = k := by
    rw [HT.sIx_nat]
    omega
  have e0 : HT.sIx xs.length 0 none = 0 := rfl
  unfold cutP
  rw [e, e0]
  simp
theorem cut_from {xs : List PyData} {k : Nat} {z : Int} (hz : z = (k : Int)) (h : k ≤ xs.length) : cutP xs (some z) none = xs.drop k := by
  subst hz
  have e : HT.sIx xs.length 0 (some (k : Int)) = k := by
    rw [HT.sIx_nat]
    omega
  have e0 : HT.sIx xs.length xs.length none = xs.length := rfl
  unfold cutP
  rw [e, e0]
  exact List.take_of_length_le (by simp)
theorem sl_tup {xs : List PyData} {lo hi : Option Int} : sliceD (.py (.tuple xs)) lo hi = some (.va (.py (.tuple (cutP xs lo hi)))) := id rfl
theorem add_tup {xs ys : List PyData} (h : xs.length + ys.length ≤ 1000) : op2 .add (.py (.tuple xs)) (.py (.tuple ys)) = some (.va (.py (.tuple (xs ++ ys)))) := if_pos (lim_ok h)
theorem rev_tup {xs : List PyData} : revD (.py (.tuple xs)) = some (.va (.py (.tuple xs.reverse))) := id rfl

def kv : Nat → List Nat → List (L2.Key × PyData)
  | _, [] => []
  | k, x :: s => (.inl (x : Int), .int (k : Int)) :: kv (k + 1) s
theorem kv_len : ∀ (s : List Nat) (k : Nat), (kv k s).length = s.length
  | [], _ => rfl
  | _ :: s, k => congrArg Nat.succ (kv_len s (k + 1))
theorem key_ne {x y : Nat} (h : y ≠ x) : ¬ ((.inl (y : Int) : L2.Key) = .inl (x : Int)) := fun e => h (by
  have := Sum.inl.inj e
  omega)
theorem get_kv : ∀ (s : List Nat) (k x : Nat), x ∈ s → getK (kv k s) (.inl (x : Int)) = some (.int ((k + s.idxOf x : Nat) : Int))
  | y :: s, k, x, h => by
    by_cases e : y = x
    · subst e
      simp [getK, kv]
    · have hx : x ∈ s := by
        rcases List.mem_cons.mp h with q | q
        · exact absurd q.symm e
        · exact q
      have ih := get_kv s (k + 1) x hx
      have b : (y == x) = false := by simpa using e
      have st : getK (kv k (y :: s)) (.inl (x : Int)) = getK (kv (k + 1) s) (.inl (x : Int)) := by
        unfold getK
        rw [kv, List.find?_cons_of_neg (by simpa using key_ne e)]
      rw [st, ih, List.idxOf_cons, b]
      simp only [cond_false]
      rw [show k + 1 + s.idxOf x = k + (s.idxOf x + 1) by omega]
theorem no_kv : ∀ (s : List Nat) (k x : Nat), x ∉ s → getK (kv k s) (.inl (x : Int)) = none ∧ (kv k s).any (fun q => decide (q.1 = .inl (x : Int))) = false
  | [], _, _, _ => ⟨rfl, rfl⟩
  | y :: s, k, x, h => by
    have e : y ≠ x := fun q => h (q ▸ List.mem_cons_self ..)
    obtain ⟨h1, h2⟩ := no_kv s (k + 1) x fun q => h (List.mem_cons_of_mem _ q)
    refine ⟨?_, ?_⟩
    · unfold getK at h1 ⊢
      rw [kv, List.find?_cons_of_neg (by simpa using key_ne e)]
      exact h1
    · rw [kv, List.any_cons, h2, decide_eq_false (key_ne e)]
      rfl
theorem kv_snoc : ∀ (s : List Nat) (k x : Nat), kv k s ++ [(.inl (x : Int), .int ((k + s.length : Nat) : Int))] = kv k (s ++ [x])
  | [], _, _ => rfl
  | y :: s, k, x => by
    rw [kv, List.cons_append, List.cons_append, kv, List.length_cons, show k + (s.length + 1) = k + 1 + s.length by omega, kv_snoc s (k + 1) x]
theorem put_kv {s : List Nat} {x : Nat} (h : x ∉ s) : putKd (kv 0 s) (.inl (x : Int)) (.int (s.length : Int)) = kv 0 (s ++ [x]) := by
  unfold putKd
  rw [(no_kv s 0 x h).2, if_neg Bool.false_ne_true, ← kv_snoc s 0 x, Nat.zero_add]
theorem len_dct {kvs : List (L2.Key × PyData)} : biD .len [.dct kvs] = some (ofI kvs.length) := id rfl
abbrev nBody : Ss := (.cons (.sdf 1 (.pk 3) (.bi .len (.cons (.pk 1) .nil))) (.cons (.app 2 (.ix (.pk 1) (.pk 3))) .nil))
theorem ev_name {C : Ct} {d : D} {kvs kvs' : List (L2.Key × PyData)} {x : Int} {r : PyData} {O : List PyData} (h : sdfO (.dct kvs) (.py (.int x)) (.int kvs.length) = some (.dct kvs')) (g : getK kvs' (.inl x) = some r) (hl : O.length < lim) :
    exs C nBody [.fr d, .ow (.dct kvs), .ow (.py (.list O)), .fr (.py (.int x))] = some (.nx, [.fr d, .ow (.dct kvs'), .ow (.py (.list (O ++ [r]))), .fr (.py (.int x))]) := by
  simp [objAt, D.isDct, h, item, keyP, g, lstAt, hl, len_dct]
theorem ev_names {C : Ct} {d : D} (W : List Nat) (hl : W.length ≤ 1000) : ∃ u, frL (fun x s => (bindT [3] true x s).bind (exs C nBody)) (W.map iN) [.fr d, .ow (.dct []), .ow (.py (.list [])), .no] = some (.nx, [.fr d, .ow (.dct (kv 0 (Nm.seen W))), .ow (.py (.list ((Nm.nm W).map iN))), u]) := by
  obtain ⟨s', e, u, hu⟩ := frL_J (f := fun x s => (bindT [3] true x s).bind (exs C nBody)) (fun k s => ∃ u, s = [.fr d, .ow (.dct (kv 0 (Nm.seen (W.take k)))), .ow (.py (.list ((Nm.nm (W.take k)).map iN))), u]) (W.map iN) 0 [.fr d, .ow (.dct []), .ow (.py (.list [])), .no] ⟨.no, rfl⟩ (by
    rintro j v s hv ⟨u, rfl⟩
    rw [Nat.zero_add]
    have hj : j < W.length := by have := (List.getElem?_eq_some_iff.mp hv).1; simpa using this
    have ev : v = iN W[j] := by
      rw [List.getElem?_map, List.getElem?_eq_getElem hj] at hv
      exact (Option.some.inj hv).symm
    subst ev
    have tk : W.take (j + 1) = W.take j ++ [W[j]] := by rw [List.take_succ, List.getElem?_eq_getElem hj]; rfl
    have sl : (Nm.seen (W.take j)).length ≤ 1000 := by
      have h1 : ∀ L : List Nat, (Nm.seen L).length ≤ L.length := fun L => by
        refine Nm.snocR (P := fun L => (Nm.seen L).length ≤ L.length) (by simp [Nm.seen, Nm.nmF]) (fun L y ih => ?_) L
        rw [Nm.seen_snoc]
        split
        · rw [List.length_append]; omega
        · rw [List.length_append, List.length_append]; simpa using ih
      have := h1 (W.take j)
      rw [List.length_take] at this
      omega
    refine ⟨_, .nx, ?_, .inl rfl, .fr (.py (iN W[j])), rfl⟩
    rw [bind_one, Option.bind_some, tk, Nm.nm_snoc, Nm.seen_snoc, List.map_append]
    generalize Nm.seen (W.take j) = sn at sl ⊢
    have hO : ((Nm.nm (W.take j)).map iN).length < lim := lim_lt (by rw [List.length_map, Nm.nm_len, List.length_take]; omega)
    generalize (Nm.nm (W.take j)).map iN = O at hO ⊢
    generalize W[j] = x
    have kl : (kv 0 sn).length < lim := lim_lt (by rw [kv_len]; exact sl)
    by_cases hx : x ∈ sn
    · rw [if_pos hx]
      refine ev_name ?_ ?_ hO
      · show (if (kv 0 sn).length < lim then some (if (getK (kv 0 sn) (.inl (x : Int))).isSome then D.dct (kv 0 sn) else _) else none) = _
        rw [if_pos kl, get_kv sn 0 x hx]
        rfl
      · rw [get_kv sn 0 x hx, Nat.zero_add]
    · rw [if_neg hx]
      refine ev_name (kvs' := kv 0 (sn ++ [x])) ?_ ?_ hO
      · show (if (kv 0 sn).length < lim then some (if (getK (kv 0 sn) (.inl (x : Int))).isSome then D.dct (kv 0 sn) else D.dct (putKd (kv 0 sn) (.inl (x : Int)) (.int ((kv 0 sn).length : Int)))) else none) = _
        rw [if_pos kl, (no_kv sn 0 x hx).1, kv_len, put_kv hx]
        rfl
      · rw [get_kv (sn ++ [x]) 0 x (by simp), Nat.zero_add])
  rw [Nat.zero_add, List.length_map, List.take_length] at hu
  exact ⟨u, by rw [e, hu]⟩
theorem ev_relabel {C : Ct} (W : List Nat) (hl : W.length ≤ 1000) {d : D} (hd : d = .py (tW W) ∨ d = .py (.list (W.map iN))) : ∃ st, exs C F_relabelled.body [.fr d, .no, .no, .no] = some (.rt (.py (tW (Nm.nm W))) false, st) := by
  obtain ⟨u, e⟩ := ev_names (C := C) (d := d) W hl
  have I : evI C (.v (.var 0)) [.fr d, .ow (.dct []), .ow (.py (.list [])), .no] = some (W.map iN, [.fr d, .ow (.dct []), .ow (.py (.list [])), .no]) := by
    rcases hd with rfl | rfl <;> simp
  have S1 : exS C (.par [1, 2] (.cons .dct0 (.cons (.lst .nil) .nil))) [.fr d, .no, .no, .no] = some (.nx, [.fr d, .ow (.dct []), .ow (.py (.list [])), .no]) := by simp
  have S2 : exS C (.fr [3] true (.v (.var 0)) nBody) [.fr d, .ow (.dct []), .ow (.py (.list [])), .no] = some (.nx, [.fr d, .ow (.dct (kv 0 (Nm.seen W))), .ow (.py (.list ((Nm.nm W).map iN))), u]) := by
    rw [ex_fr, I, Option.bind_some]
    exact e
  refine ⟨[.fr d, .ow (.dct (kv 0 (Nm.seen W))), .ow (.py (.list ((Nm.nm W).map iN))), u], ?_⟩
  rw [show F_relabelled.body = .cons (.par [1, 2] (.cons .dct0 (.cons (.lst .nil) .nil))) (.cons (.fr [3] true (.v (.var 0)) nBody) (.cons (.ret (.bi .tuple (.cons (.pk 2) .nil))) .nil)) from rfl, exs_cons, S1, Option.bind_some]
  simp only
  rw [exs_cons, S2, Option.bind_some]
  simp
section
variable {fu n : Nat} {W : List Nat}
theorem r_relabelled (hl : W.length ≤ 1000) {d : D} (hd : d = .py (tW W) ∨ d = .py (.list (W.map iN))) : run tab fu (n + 1) (Str.ofString "relabelled") [d] = some (.py (tW (Nm.nm W)), false, .py .none) := by
  obtain ⟨st, e⟩ := ev_relabel (C := tab.ct fu (run tab fu n)) W hl hd
  rw [run_of lk_relabelled rfl]
  show ((exs (tab.ct fu (run tab fu n)) F_relabelled.body [.fr d, .no, .no, .no]).bind _) = _
  rw [e]
  rfl
end
theorem Wd.perm {W V : List Nat} (h : Wd W) (p : V.Perm W) : Wd V := by
  have e := p.length_eq
  exact ⟨by rw [e]; exact h.ev, by rw [e]; exact h.few, fun x hx => by rw [e]; exact h.low x (p.mem_iff.mp hx), fun i hi => by rw [p.count_eq]; exact h.two i (by rw [← e]; exact hi)⟩
theorem perm_len {l s : List Nat} (h1 : l.Nodup) (h2 : s.Nodup) (h : ∀ x, x ∈ l ↔ x ∈ s) : l.length = s.length := by
  have a : ∀ {l s : List Nat}, l.Nodup → (∀ x ∈ l, x ∈ s) → l.length ≤ s.length := by
    intro l
    induction l with
    | nil => intro s _ _; exact Nat.zero_le _
    | cons x l ih =>
      intro s hn hs
      rw [List.nodup_cons] at hn
      have hx := hs x (List.mem_cons_self ..)
      have := ih (s := s.erase x) hn.2 fun y hy => by
        have hne : y ≠ x := fun e => hn.1 (e ▸ hy)
        exact (List.mem_erase_of_ne hne).mpr (hs y (List.mem_cons_of_mem _ hy))
      rw [List.length_erase_of_mem hx] at this
      have hp : 0 < s.length := List.length_pos_of_mem hx
      rw [List.length_cons]
      omega
  exact Nat.le_antisymm (a h1 fun x hx => (h x).mp hx) (a h2 fun x hx => (h x).mpr hx)
theorem Wd.has {W : List Nat} (h : Wd W) {i : Nat} (hi : i < W.length / 2) : i ∈ W := by
  have := h.two i hi
  exact List.count_pos_iff.mp (by omega)
theorem Wd.seen {W : List Nat} (h : Wd W) : (Nm.seen W).length = W.length / 2 := by
  have := perm_len (Nm.nodup_seen W) (List.nodup_range (n := W.length / 2)) fun x => by
    rw [Nm.mem_seen, List.mem_range]
    exact ⟨h.low x, fun hx => h.has hx⟩
  rw [this, List.length_range]
theorem Wd.nm {W : List Nat} (h : Wd W) : Wd (Nm.nm W) := by
  have e := Nm.nm_len W
  refine ⟨by rw [e]; exact h.ev, by rw [e]; exact h.few, fun x hx => ?_, fun i hi => ?_⟩
  · have := Nm.nm_low hx
    rw [h.seen] at this
    rw [e]
    exact this
  · rw [e] at hi
    have hi2 : i < (Nm.seen W).length := by rw [h.seen]; exact hi
    rw [Nm.nm_count hi2]
    have hm : (Nm.seen W)[i] ∈ W := (Nm.mem_seen W _).mp (List.getElem_mem hi2)
    exact h.two _ (h.low _ hm)
theorem Wd.trn {W : List Nat} (h : Wd W) {k : Nat} : Wd (Nm.trn W k) := h.perm (by
  have := List.perm_append_comm (l₁ := W.drop k) (l₂ := W.take k)
  rw [List.take_append_drop] at this
  exact this)
theorem Wd.rev {W : List Nat} (h : Wd W) : Wd W.reverse := h.perm (List.reverse_perm W)
theorem sz_row {L : List Nat} (h : ∀ v ∈ L, v < 100) : Sz (tW L) L.length 1 := (Sz.tup (SzA.map (k := 0) fun a ha => Sz.nat (h a ha))).mono (by omega) (Nat.le_refl 1)
end K55
end
section
namespace K55
open PySem Mi
theorem exs_step {C : Ct} {s : S} {ss : Ss} {st st' : En} (h : exS C s st = some (.nx, st')) : exs C (.cons s ss) st = exs C ss st' := by
  rw [exs_cons, h]
  rfl
/-- a check by what is shown -/
theorem ex_chk {C : Ct} {st st1 st2 : En} {A B : Ex} {xs : List PyData} {sh : Str} {s : Ss} (hA : evE C A st = some (.fe (.py (.list xs)), st1)) (hB : evE C B st1 = some (.fe (.py (.list xs)), st2)) (rp : biD .repr [.py (.list xs)] = some (.va (.py (.str sh)))) :
    exS C (.ifs (.v (.cm .ne (.bi .repr (.cons A .nil)) (.bi .repr (.cons B .nil)))) s .nil) st = some (.nx, st2) := by
  have q1 : evE C (.bi .repr (.cons A .nil)) st = some (.va (.py (.str sh)), st1) := by
    rw [ev_bi, evs_cons, hA]
    simp [rp]
  have q2 : evE C (.bi .repr (.cons B .nil)) st1 = some (.va (.py (.str sh)), st2) := by
    rw [ev_bi, evs_cons, hB]
    simp [rp]
  rw [ex_ifs, evT_v, ev_cm, q1, Option.bind_some, q2]
  simp [ne_str]
abbrev pot (x y : Int) : D := .py (.list [.int x, .int y])
theorem ev_draw1 {C : Ct} {x y m : Int} (hx : 0 < x) (hm : 0 < m) (hm2 : m < 1000) : exs C F__law_draw.body [.bo (pot x y), .fr (.py (.int m)), .no] = some (.rt (.py (.int (x % m))) false, [.bo (pot (x / m) y), .fr (.py (.int m)), .fr (.py (.int (x % m)))]) := by
  have i0 : item (pot x y) (.py (.int 0)) = some (.py (.int x)) := rfl
  have dm : biD .divmod [.py (.int x), .py (.int m)] = some (.va (.py (.tuple [.int (x / m), .int (x % m)]))) := if_pos ⟨hm, by omega⟩
  have ix : L2.ixN 2 0 = some 0 := rfl
  simp [F__law_draw, i0, hx, dm, lstAt, ix]
theorem ev_draw2 {C : Ct} {x y m : Int} (hx : ¬ 0 < x) (hm : 0 < m) : ∃ y' r : Int, 0 ≤ r ∧ r < m ∧ exs C F__law_draw.body [.bo (pot x y), .fr (.py (.int m)), .no] = some (.rt (.py (.int r)) false, [.bo (pot x y'), .fr (.py (.int m)), .no]) := by
  have i0 : item (pot x y) (.py (.int 0)) = some (.py (.int x)) := rfl
  have i1 : item (pot x y) (.py (.int 1)) = some (.py (.int y)) := rfl
  have ix : L2.ixN 2 1 = some 1 := rfl
  generalize hy : (y * 48271 + 1063) % 2147483587 = z
  have i2 : item (pot x z) (.py (.int 1)) = some (.py (.int z)) := rfl
  have lo : 0 ≤ z := by rw [← hy]; exact Int.emod_nonneg _ (by decide)
  have hi : z < 2147483587 := by rw [← hy]; exact Int.emod_lt_of_pos _ (by decide)
  have k1 : okMul y 48271 = true := by unfold okMul; simp
  have k2 : okMul z z = true := by unfold okMul; simp; omega
  refine ⟨z, ((z * z) % 2147483563 / 19) % m, Int.emod_nonneg _ (by omega), Int.emod_lt_of_pos _ hm, ?_⟩
  have m1 : op2 .mul (.py (.int y)) (.py (.int 48271)) = some (ofI (y * 48271)) := op_mul k1
  have m2 : op2 .mul (.py (.int z)) (.py (.int z)) = some (ofI (z * z)) := op_mul k2
  have d1 : op2 .mod (.py (.int (y * 48271 + 1063))) (.py (.int 2147483587)) = some (ofI z) := by rw [op_mod (by decide), hy]
  have d2 : op2 .mod (.py (.int (z * z))) (.py (.int 2147483563)) = some (ofI (z * z % 2147483563)) := op_mod (by decide)
  have d3 : op2 .fdiv (.py (.int (z * z % 2147483563))) (.py (.int 19)) = some (ofI (z * z % 2147483563 / 19)) := op_fdiv (by decide) (by decide)
  have d4 : op2 .mod (.py (.int (z * z % 2147483563 / 19))) (.py (.int m)) = some (ofI (z * z % 2147483563 / 19 % m)) := op_mod hm
  simp [F__law_draw, i0, i1, hx, objAt, putO, ix, m1, d1]
  simp [i2, m2, d2, d3, d4]
section
variable {fu n : Nat} {x y : Int}
theorem r_draw {m : Nat} (x y : Int) (hm : 0 < m) (hm2 : m < 1000) : ∃ (r : Nat) (x' y' : Int), r < m ∧ run tab fu (n + 1) (Str.ofString "_law_draw") [pot x y, .py (.int (m : Int))] = some (.py (.int (r : Int)), false, pot x' y') := by
  rw [run_of lk__law_draw rfl]
  by_cases hx : 0 < x
  · refine ⟨(x % (m : Int)).toNat, x / m, y, ?_, ?_⟩
    · have := Int.emod_nonneg x (show (m : Int) ≠ 0 by omega)
      have := Int.emod_lt_of_pos x (show 0 < (m : Int) by omega)
      omega
    · have z := ev_draw1 (C := tab.ct fu (run tab fu n)) (x := x) (y := y) (m := (m : Int)) hx (by omega) (by omega)
      have e : (((x % (m : Int)).toNat : Nat) : Int) = x % (m : Int) := Int.toNat_of_nonneg (Int.emod_nonneg x (show (m : Int) ≠ 0 by omega))
      show ((exs (tab.ct fu (run tab fu n)) F__law_draw.body [.bo (pot x y), .fr (.py (.int (m : Int))), .no]).bind _) = _
      rw [z, e]
      rfl
  · obtain ⟨y', r, h0, h1, z⟩ := ev_draw2 (C := tab.ct fu (run tab fu n)) (x := x) (y := y) (m := (m : Int)) hx (by omega)
    refine ⟨r.toNat, x, y', by omega, ?_⟩
    show ((exs (tab.ct fu (run tab fu n)) F__law_draw.body [.bo (pot x y), .fr (.py (.int (m : Int))), .no]).bind _) = _
    rw [z, Int.toNat_of_nonneg h0]
    rfl
end
theorem call_bo {C : Ct} {f : Str} {perm : List Nat} {os r : List Od} {st : En} {i : Nat} {d : D} {ds : List D} {q : D × Bool × D} (h : C.io f = true) (e : (perm.map fun j => os.getD j (.pk 0)) = .pk i :: r) (hs : st[i]? = some (.bo d)) (hv : vals r = some ds) (hc : C.call f (d :: ds) = some q) :
    callE C f perm os st = some (if q.2.1 then .fe q.1 else .va q.1, st.set i (.bo q.2.2)) := by
  unfold callE
  rw [h]
  simp only [if_true, e, hs, hv, hc, Option.bind_some, Option.map_some]
theorem call_ow {C : Ct} {f : Str} {perm : List Nat} {os r : List Od} {st : En} {i : Nat} {d : D} {ds : List D} {q : D × Bool × D} (h : C.io f = true) (e : (perm.map fun j => os.getD j (.pk 0)) = .pk i :: r) (hs : st[i]? = some (.ow d)) (hv : vals r = some ds) (hc : C.call f (d :: ds) = some q) :
    callE C f perm os st = some (if q.2.1 then .fe q.1 else .va q.1, st.set i (.ow q.2.2)) := by
  unfold callE
  rw [h]
  simp only [if_true, e, hs, hv, hc, Option.bind_some, Option.map_some]
section
variable {fu n : Nat} {x y : Int}
/-- a draw in an expression -/
theorem ev_drw {st : En} {i m : Nat} {e : Ex} {o : Od} (x y : Int) (hi : st[i]? = some (.bo (pot x y))) (he : evE (tab.ct fu (run tab fu (n + 1))) e st = some (o, st)) (ho : o.val = some (.py (.int (m : Int)))) (hm : 0 < m) (hm2 : m < 1000) :
    ∃ (r : Nat) (x' y' : Int), r < m ∧ evE (tab.ct fu (run tab fu (n + 1))) (.cal (Str.ofString "_law_draw") [0, 1] (.cons (.pk i) (.cons e .nil))) st = some (.va (.py (.int (r : Int))), st.set i (.bo (pot x' y'))) := by
  obtain ⟨r, x', y', hr, hc⟩ := r_draw (fu := fu) (n := n) x y hm hm2
  refine ⟨r, x', y', hr, ?_⟩
  have pk : evE (tab.ct fu (run tab fu (n + 1))) (.pk i) st = some (.pk i, st) := by rw [ev_pk, hi]
  rw [ev_cal, evs_cons, pk, Option.bind_some, evs_cons]
  simp only [he, Option.bind_some, evs_nil, Option.map_some]
  rw [call_bo (C := tab.ct fu (run tab fu (n + 1))) (q := (.py (.int (r : Int)), false, pot x' y')) (r := [o]) (ds := [.py (.int (m : Int))]) (ct_io lk__law_draw) rfl hi (by simp [ho]) (by rw [ct_call]; exact hc)]
  rfl
end
theorem cnt_range (j : Nat) : ∀ m : Nat, List.count j (List.range m) = if j < m then 1 else 0
  | 0 => rfl
  | m + 1 => by
    rw [List.range_succ, List.count_append, cnt_range j m, List.count_singleton]
    by_cases h : j = m
    · subst h; simp
    · by_cases h2 : j < m
      · have : ¬ m = j := fun e => h e.symm
        simp [h2, this]; omega
      · have : ¬ m = j := fun e => h e.symm
        simp [h2, this]; omega
/-- a list of numbers that holds each below m twice -/
abbrev Two (m : Nat) (W : List Nat) : Prop := W.Perm (List.range m ++ List.range m)
theorem Two.len {m : Nat} (h : Two m W) : W.length = 2 * m := by rw [h.length_eq]; simp; omega
theorem Two.wd {m : Nat} (h : Two m W) (hm : m ≤ 10) : Wd W := by
  have l := h.len
  refine ⟨by omega, by omega, fun z hz => ?_, fun j hj => ?_⟩
  · have := h.mem_iff.mp hz
    simp at this
    omega
  · rw [h.count_eq, List.count_append]
    have := cnt_range j m
    rw [if_pos (by omega)] at this
    omega
theorem map_erase {α β : Type} {g : α → β} : ∀ (l : List α) (r : Nat), (l.map g).eraseIdx r = (l.eraseIdx r).map g
  | [], _ => rfl
  | _ :: _, 0 => rfl
  | x :: l, r + 1 => by
    show g x :: (l.map g).eraseIdx r = g x :: (l.eraseIdx r).map g
    rw [map_erase l r]
theorem perm_erase {α : Type} : ∀ (l : List α) (r : Nat) (h : r < l.length), (l[r] :: l.eraseIdx r).Perm l
  | [], _, h => by cases h
  | _ :: _, 0, _ => .refl _
  | x :: l, r + 1, h => by
    have h' : r < l.length := by simpa using h
    exact (List.Perm.swap x l[r] (l.eraseIdx r)).trans (List.Perm.cons x (perm_erase l r h'))
/-- a word put into another one -/
theorem Two.put {m k a : Nat} {W L : List Nat} (h : Two m W) (g : Two k L) : Two (m + k) (W.take a ++ L.map (· + m) ++ W.drop a) := by
  have e1 : (W.take a ++ L.map (· + m) ++ W.drop a).Perm (W ++ L.map (· + m)) := by
    have : (W.take a ++ L.map (· + m) ++ W.drop a).Perm (W.take a ++ (W.drop a ++ L.map (· + m))) := by
      rw [List.append_assoc]
      exact List.Perm.append_left _ List.perm_append_comm
    rw [← List.append_assoc, List.take_append_drop] at this
    exact this
  have e2 : (L.map (· + m)).Perm ((List.range k ++ List.range k).map (· + m)) := g.map _
  have e3 : List.range (m + k) = List.range m ++ (List.range k).map (· + m) := by
    rw [List.range_add]
    congr 1
    exact List.map_congr_left fun a _ => Nat.add_comm m a
  refine e1.trans ((List.Perm.append h e2).trans ?_)
  rw [e3, List.map_append]
  generalize List.range m = A
  generalize (List.range k).map (· + m) = B
  -- (A ++ A) ++ (B ++ B) ~ (A ++ B) ++ (A ++ B)
  rw [List.append_assoc, List.append_assoc]
  refine List.Perm.append_left A ?_
  rw [← List.append_assoc, ← List.append_assoc]
  exact List.Perm.append_right B List.perm_append_comm
theorem Two.ren {m : Nat} {W G : List Nat} (h : Two m W) (g : G.Perm (List.range m)) : Two m (W.map fun i => G.getD i 0) := by
  have e : (List.range m).map (fun i => G.getD i 0) = G := by
    have lg : G.length = m := by rw [g.length_eq, List.length_range]
    apply List.ext_getElem
    · rw [List.length_map, List.length_range, lg]
    · intro i h1 h2
      rw [List.getElem_map, List.getElem_range, List.getD_eq_getElem?_getD, List.getElem?_eq_getElem h2] <;> rfl
  have := h.map (fun i => G.getD i 0)
  rw [List.map_append, e] at this
  exact this.trans (List.Perm.append g g)
section
variable {W : List Nat}
theorem Wd.lt {W : List Nat} (h : Wd W) {v : Nat} (hv : v ∈ W) : v < 100 := by
  have := h.low v hv
  have := h.few
  omega
theorem sz20 {L : List Nat} (h : ∀ v ∈ L, v < 100) (hl : L.length ≤ 20) : Sz (tW L) 20 1 := (sz_row h).mono hl (Nat.le_refl 1)
end
theorem ev_bi2 {C : Ct} {f : Bi} {ea eb : Ex} {st : En} {oa ob o : Od} {da db : D} (ha : evE C ea st = some (oa, st)) (hb : evE C eb st = some (ob, st)) (ra : rd st oa = some da) (rb : rd st ob = some db) (h : biD f [da, db] = some o) : evE C (.bi f (.cons ea (.cons eb .nil))) st = some (o, st) := by
  rw [ev_bi, evs_cons, ha, Option.bind_some, evs_cons, hb, Option.bind_some, evs_nil]
  simp only [Option.bind_some, Option.map_some, rds_cons, rds_nil, ra, rb, h]
theorem lr_ab {a b : Int} {k : Nat} (ha : okR a = true) (hb : okR b = true) (hk : (b - a).toNat = k) : biD .lrange [.py (.int a), .py (.int b)] = some (.fe (.py (.list (rngL a k)))) := by
  subst hk
  show (if okR a && okR b then some (rngL a (b - a).toNat) else none).map _ = _
  rw [ha, hb]
  rfl
theorem add_lst {xs ys : List PyData} (h : xs.length + ys.length ≤ 1000) : op2 .add (.py (.list xs)) (.py (.list ys)) = some (.fe (.py (.list (xs ++ ys)))) := if_pos (lim_ok h)
theorem cutL {xs : List PyData} {lo hi : Option Int} : sliceD (.py (.list xs)) lo hi = some (.fe (.py (.list (cutP xs lo hi)))) := id rfl
/-- a call that lends a slot -/
theorem ev_bo2 {C : Ct} {f : Str} {i : Nat} {e : Ex} {o : Od} {st : En} {D1 X : D} {q : D × Bool × D} (h : C.io f = true) (hi : st[i]? = some (.bo D1)) (he : evE C e st = some (o, st)) (ho : o.val = some X) (hc : C.call f [D1, X] = some q) :
    evE C (.cal f [0, 1] (.cons (.pk i) (.cons e .nil))) st = some (if q.2.1 then .fe q.1 else .va q.1, st.set i (.bo q.2.2)) := by
  have pk : evE C (.pk i) st = some (.pk i, st) := by rw [ev_pk, hi]
  rw [ev_cal, evs_cons, pk, Option.bind_some, evs_cons]
  simp only [he, Option.bind_some, evs_nil, Option.map_some]
  rw [call_bo (C := C) (q := q) (r := [o]) (ds := [X]) h rfl hi (by simp [ho]) hc]
theorem ev_ow2 {C : Ct} {f : Str} {i : Nat} {e : Ex} {o : Od} {st : En} {D1 X : D} {q : D × Bool × D} (h : C.io f = true) (hi : st[i]? = some (.ow D1)) (he : evE C e st = some (o, st)) (ho : o.val = some X) (hc : C.call f [D1, X] = some q) :
    evE C (.cal f [0, 1] (.cons (.pk i) (.cons e .nil))) st = some (if q.2.1 then .fe q.1 else .va q.1, st.set i (.ow q.2.2)) := by
  have pk : evE C (.pk i) st = some (.pk i, st) := by rw [ev_pk, hi]
  rw [ev_cal, evs_cons, pk, Option.bind_some, evs_cons]
  simp only [he, Option.bind_some, evs_nil, Option.map_some]
  rw [call_ow (C := C) (q := q) (r := [o]) (ds := [X]) h rfl hi (by simp [ho]) hc]
theorem lr_nat {k : Nat} (hk : k ≤ 900) : biD .lrange [.py (.int (k : Int))] = some (.fe (.py (.list ((List.range k).map iN)))) := by
  show (rngD [.py (.int (k : Int))]).map _ = _
  rw [rng_nat (by omega)]
  rfl
theorem mul_rng {k : Nat} (hk : k ≤ 900) : op2 .mul (.py (.list ((List.range k).map iN))) (.py (.int 2)) = some (.fe (.py (.list ((List.range k ++ List.range k).map iN)))) := by
  show (if (0 : Int) ≤ 2 ∧ (2 : Int) ≤ 1000 ∧ ((List.range k).map iN).length ≤ 1000 then _ else none) = _
  rw [if_pos ⟨by decide, by decide, by simp; omega⟩]
  have : (List.replicate (2 : Int).toNat ((List.range k).map iN)).flatten = (List.range k ++ List.range k).map iN := by
    rw [List.map_append]
    simp [List.replicate]
  rw [this]
/-- tuple(mixed(pot, ..)) -/
theorem tup_lst {xs : List PyData} : biD .tuple [.py (.list xs)] = some (.va (.py (.tuple xs))) := id rfl
section
variable {fu n : Nat} {x y : Int}
theorem r_pick {xs : List PyData} (x y : Int) (hl : 0 < xs.length) (hl2 : xs.length < 1000) : ∃ (v : PyData) (x' y' : Int), v ∈ xs ∧ run tab fu (n + 2) (Str.ofString "_law_pick") [pot x y, .py (.list xs)] = some (.py v, false, pot x' y') := by
  obtain ⟨r, x', y', hr, e⟩ := ev_drw (fu := fu) (n := n) (st := [.bo (pot x y), .fr (.py (.list xs))]) (i := 0) (m := xs.length) (e := .bi .len (.cons (.pk 1) .nil)) (o := ofI (xs.length : Int)) x y rfl (by simp) rfl hl hl2
  have g : xs[r]? = some xs[r] := List.getElem?_eq_getElem hr
  have it := (item_nat (xs := xs) g).2
  refine ⟨xs[r], x', y', List.getElem_mem hr, ?_⟩
  rw [run_of lk__law_pick rfl]
  show ((exs (tab.ct fu (run tab fu (n + 1))) F__law_pick.body [.bo (pot x y), .fr (.py (.list xs))]).bind _) = _
  simp only [F__law_pick, exs_cons, ex_ret, ev_ix, ev_pk, List.getElem?_cons_zero, List.getElem?_cons_succ, Option.bind_some, e]
  simp [it, F__law_pick]
end
end K55
end
section
namespace K55
open PySem Mi
theorem ev_pot2 {C : Ct} {d : D} {k c : Int} : ∃ x y : Int, evE C (.lst (.cons (.bi .max (.cons (.lit (.int (0))) (.cons (.op .sub (.pk 2) (.op .pow (.lit (.int (10))) (.lit (.int (18))))) .nil))) (.cons (.op .add (.op .mod (.bi .int (.cons (.op .add (.op .add (.op .mul (.op .mod (.bi .int (.cons (.pk 2) .nil)) (.lit (.int (2147483549)))) (.lit (.int (41201)))) (.op .mul (.lit (.int (631))) (.pk 1))) (.lit (.int (59)))) .nil)) (.lit (.int (2147483563)))) (.lit (.int (1)))) .nil))) [.fr d, .fr (.py (.int k)), .fr (.py (.int c))] =
    some (.fe (pot x y), [.fr d, .fr (.py (.int k)), .fr (.py (.int c))]) := by
  have pw : op2 .pow (.py (.int 10)) (.py (.int 18)) = some (ofI (10 ^ 18)) := rfl
  have mx : ∀ j : Int, biD .max [.py (.int 0), .py (.int j)] = some (ofI (if j > 0 then j else 0)) := fun _ => rfl
  have m1 : op2 .mod (.py (.int c)) (.py (.int 2147483549)) = some (ofI (c % 2147483549)) := op_mod (by decide)
  have m2 : ∀ j : Int, op2 .mul (.py (.int j)) (.py (.int 41201)) = some (ofI (j * 41201)) := fun j => op_mul (by unfold okMul; simp)
  have m3 : op2 .mul (.py (.int 631)) (.py (.int k)) = some (ofI (631 * k)) := op_mul (by unfold okMul; simp)
  have m4 : ∀ j : Int, op2 .mod (.py (.int j)) (.py (.int 2147483563)) = some (ofI (j % 2147483563)) := fun j => op_mod (by decide)
  generalize hz : (10 : Int) ^ 18 = z at pw
  refine ⟨if c - z > 0 then c - z else 0, (c % 2147483549 * 41201 + 631 * k + 59) % 2147483563 + 1, ?_⟩
  simp only [ev_lst, evs_cons, evs_nil, ev_bi, ev_lit, ev_op, ev_pk, List.getElem?_cons_zero, List.getElem?_cons_succ, Option.bind_some, Option.map_some, rd_va, rd_pk, con_fr, pw, rd_ofI, op_sub, rds_cons, rds_nil, mx, int_int, m1, m2, m3, op_add, m4, vals_cons, vals_nil, val_ofI, pyds_cons, pyds_nil, pyd_py, List.length_cons, List.length_nil]
  simp
abbrev pt0 : Mi.S := (.asg 2 (.op .add (.op .mul (.lit (.int (1019))) (.pk 1)) (.lit (.int (631)))))
abbrev pt1 : Mi.S := (.ifs (.v (.cm .lt (.pk 1) (.bi .len (.cons (.pk 0) .nil)))) (.cons (.asg 2 (.bi .abs (.cons (.ix (.pk 0) (.pk 1)) .nil))) .nil) .nil)
theorem ev_pt {C : Ct} {ns : List Int} {k : Nat} : ∃ c : Int, exs C (.cons pt0 (.cons pt1 .nil)) [.fr (.scr ns), .fr (.py (.int (k : Int))), .no] = some (.nx, [.fr (.scr ns), .fr (.py (.int (k : Int))), .fr (.py (.int c))]) := by
  have m3 : op2 .mul (.py (.int 1019)) (.py (.int (k : Int))) = some (ofI (1019 * (k : Int))) := op_mul (by unfold okMul; simp)
  have S1 : exS C pt0 [.fr (.scr ns), .fr (.py (.int (k : Int))), .no] = some (.nx, [.fr (.scr ns), .fr (.py (.int (k : Int))), .fr (.py (.int (1019 * (k : Int) + 631)))]) := by
    show exS C (.asg 2 _) _ = _
    rw [ex_asg]
    simp only [ev_op, ev_lit, ev_pk, List.getElem?_cons_zero, List.getElem?_cons_succ, Option.bind_some, Option.map_some, rd_pk, con_fr, rd_va, m3, rd_ofI, op_add]
    rfl
  by_cases h : k < ns.length
  · have it : item (.scr ns) (.py (.int (k : Int))) = some (.py (.int ns[k])) := by
      have e : L2.ixN ns.length (k : Int) = some k := by
        unfold L2.ixN
        simp
        omega
      show (L2.ixN ns.length (k : Int)).bind (fun k => (ns[k]?).map fun n => D.py (.int n)) = _
      rw [e, Option.bind_some, List.getElem?_eq_getElem h]
      rfl
    have ab : ∀ j : Int, biD .abs [.py (.int j)] = some (ofI (if j < 0 then -j else j)) := fun _ => rfl
    have T : evT C (.v (.cm .lt (.pk 1) (.bi .len (.cons (.pk 0) .nil)))) [.fr (.scr ns), .fr (.py (.int (k : Int))), .fr (.py (.int (1019 * (k : Int) + 631)))] = some (true, [.fr (.scr ns), .fr (.py (.int (k : Int))), .fr (.py (.int (1019 * (k : Int) + 631)))]) := by
      have d : (k : Int) < (ns.length : Int) := by omega
      simp [d]
    refine ⟨if ns[k] < 0 then -ns[k] else ns[k], ?_⟩
    rw [exs_cons, S1, Option.bind_some]
    simp only
    rw [exs_cons, ex_ifs, T, Option.bind_some]
    simp only [if_true, exs_cons, ex_asg, ev_bi, evs_cons, evs_nil, ev_ix, ev_pk, List.getElem?_cons_zero, List.getElem?_cons_succ, Option.bind_some, Option.map_some, rd_pk, con_fr, it, rds_cons, rds_nil, rd_va, ab]
    rfl
  · have T : evT C (.v (.cm .lt (.pk 1) (.bi .len (.cons (.pk 0) .nil)))) [.fr (.scr ns), .fr (.py (.int (k : Int))), .fr (.py (.int (1019 * (k : Int) + 631)))] = some (false, [.fr (.scr ns), .fr (.py (.int (k : Int))), .fr (.py (.int (1019 * (k : Int) + 631)))]) := by
      have d : ¬ (k : Int) < (ns.length : Int) := by omega
      simp [d]
    refine ⟨1019 * (k : Int) + 631, ?_⟩
    rw [exs_cons, S1, Option.bind_some]
    simp only
    rw [exs_cons, ex_ifs, T, Option.bind_some]
    rfl
theorem r_pot {fu n : Nat} {ns : List Int} {k : Nat} : ∃ x y : Int, run tab fu (n + 1) (Str.ofString "_law_pot") [.scr ns, .py (.int (k : Int))] = some (pot x y, true, .py .none) := by
  obtain ⟨c, e1⟩ := ev_pt (C := tab.ct fu (run tab fu n)) (ns := ns) (k := k)
  obtain ⟨x, y, e2⟩ := ev_pot2 (C := tab.ct fu (run tab fu n)) (d := .scr ns) (k := (k : Int)) (c := c)
  refine ⟨x, y, ?_⟩
  rw [run_of lk__law_pot rfl]
  show ((exs (tab.ct fu (run tab fu n)) F__law_pot.body [.fr (.scr ns), .fr (.py (.int (k : Int))), .no]).bind _) = _
  have B : ∀ e, evE (tab.ct fu (run tab fu n)) e [.fr (.scr ns), .fr (.py (.int (k : Int))), .fr (.py (.int c))] = some (.fe (pot x y), [.fr (.scr ns), .fr (.py (.int (k : Int))), .fr (.py (.int c))]) → exS (tab.ct fu (run tab fu n)) (.ret e) [.fr (.scr ns), .fr (.py (.int (k : Int))), .fr (.py (.int c))] = some (.rt (pot x y) true, [.fr (.scr ns), .fr (.py (.int (k : Int))), .fr (.py (.int c))]) := fun e he => by
    rw [ex_ret, he]
    rfl
  have two : ∀ (a b c : Mi.S) (st st' : En), exs (tab.ct fu (run tab fu n)) (.cons a (.cons b .nil)) st = some (.nx, st') → exs (tab.ct fu (run tab fu n)) (.cons a (.cons b (.cons c .nil))) st = exs (tab.ct fu (run tab fu n)) (.cons c .nil) st' := fun a b c st st' h => by
    rw [exs_cons] at h ⊢
    cases h1 : exS (tab.ct fu (run tab fu n)) a st with
    | none => rw [h1] at h; cases h
    | some q =>
      rw [h1, Option.bind_some] at h
      rw [Option.bind_some]
      obtain ⟨o, s1⟩ := q
      cases o with
      | nx =>
        simp only at h ⊢
        rw [exs_cons] at h ⊢
        cases h2 : exS (tab.ct fu (run tab fu n)) b s1 with
        | none => rw [h2] at h; cases h
        | some q =>
          rw [h2, Option.bind_some] at h
          rw [Option.bind_some]
          obtain ⟨o, s2⟩ := q
          cases o with
          | nx =>
            simp only [exs_nil] at h ⊢
            cases h
            rfl
          | _ => simp at h
      | _ => simp at h
  rw [F__law_pot, two _ _ _ _ _ e1, exs_cons, B _ e2]
  rfl
section
variable {fu n : Nat} {st : En} {l : Nat} {M : List Nat}
theorem ev_popd (x y : Int) (g0 : st[0]? = some (.bo (pot x y))) (gl : st[l]? = some (.ow (.py (.list (M.map iN))))) (hl0 : l ≠ 0) (hm : 0 < M.length) (hm2 : M.length < 1000) :
    ∃ (r : Nat) (x' y' : Int) (hr : r < M.length), evE (tab.ct fu (run tab fu (n + 1))) (.pop l (.cal (Str.ofString "_law_draw") [0, 1] (.cons (.pk 0) (.cons (.bi .len (.cons (.pk l) .nil)) .nil)))) st =
      some (.va (.py (iN M[r])), (st.set 0 (.bo (pot x' y'))).set l (.ow (.py (.list ((M.eraseIdx r).map iN))))) := by
  obtain ⟨r, x2, y2, hr, e⟩ := ev_drw (fu := fu) (n := n) (st := st) (i := 0) (m := M.length) (e := .bi .len (.cons (.pk l) .nil)) (o := ofI (M.length : Int)) x y g0 (by simp [gl]) rfl hm hm2
  refine ⟨r, x2, y2, hr, ?_⟩
  have gl2 : (st.set 0 (.bo (pot x2 y2)))[l]? = some (.ow (.py (.list (M.map iN)))) := by rw [List.getElem?_set_ne (Ne.symm hl0)]; exact gl
  have sl1 : lstAt st l = some (M.map iN, .ow) := by unfold lstAt; rw [gl]
  have sl2 : lstAt (st.set 0 (.bo (pot x2 y2))) l = some (M.map iN, .ow) := by unfold lstAt; rw [gl2]
  have hM' : M[r]? = some M[r] := List.getElem?_eq_getElem hr
  have ix : L2.ixN (M.map iN).length (r : Int) = some r := by
    unfold L2.ixN
    simp
    omega
  have okr : okR (r : Int) = true := by unfold okR; simp; omega
  have er : (M.map iN).eraseIdx r = (M.eraseIdx r).map iN := map_erase M r
  rw [ev_pop, sl1, Option.bind_some, e, Option.bind_some]
  simp only [rd_va, Option.bind_some, sl2, okr, if_true, ix, List.getElem?_map, hM', Option.map_some, er]
end
theorem eqv_nil {xs : List PyData} : PyData.eqv (.list xs) (.list []) = xs.isEmpty := by
  cases xs <;> simp [PyData.eqv, PyData.eqvAll]
theorem eqvAll_iN : ∀ A B : List Nat, PyData.eqvAll (A.map iN) (B.map iN) = decide (A = B)
  | [], [] => by simp [PyData.eqvAll]
  | [], _ :: _ => by simp [PyData.eqvAll]
  | _ :: _, [] => by simp [PyData.eqvAll]
  | x :: A, y :: B => by
    rw [List.map_cons, List.map_cons, PyData.eqvAll, eqv_int, eqvAll_iN A B]
    by_cases h : x = y
    · subst h; simp
    · have h2 : ¬ ((x : Int) = (y : Int)) := by omega
      simp [h, h2]
theorem eqv_tW (A B : List Nat) : PyData.eqv (tW A) (tW B) = decide (A = B) := by
  show PyData.eqv (.tuple (A.map iN)) (.tuple (B.map iN)) = _
  rw [PyData.eqv]
  exact eqvAll_iN A B
theorem dep_iN : ∀ A : List Nat, PyData.depthAll (A.map iN) = 0
  | [] => rfl
  | x :: A => by
    rw [List.map_cons, PyData.depthAll, dep_iN A]
    rfl
theorem okd_tW (A : List Nat) : okDp (tW A) = true := by
  refine decide_eq_true ?_
  show PyData.depthAll (A.map iN) + 1 ≤ 30
  rw [dep_iN]
  omega
theorem cmp_tW (A B : List Nat) : cmp .eq (.py (tW A)) (.py (tW B)) = some (decide (A = B)) ∧ cmp .ne (.py (tW A)) (.py (tW B)) = some (!decide (A = B)) := by
  refine ⟨?_, ?_⟩
  · show (if okDp (tW A) && okDp (tW B) then some (PyData.eqv (tW A) (tW B)) else none) = _
    rw [okd_tW, okd_tW, eqv_tW]
    rfl
  · show (if okDp (tW A) && okDp (tW B) then some (!PyData.eqv (tW A) (tW B)) else none) = _
    rw [okd_tW, okd_tW, eqv_tW]
    rfl
theorem ne_nil {xs : List PyData} (ok : okDp (.list xs) = true) : cmp .ne (.py (.list xs)) (.py (.list [])) = some (!xs.isEmpty) := by
  have okn : okDp (.list []) = true := rfl
  show (if okDp (.list xs) && okDp (.list []) then some (!PyData.eqv (.list xs) (.list [])) else none) = _
  rw [ok, okn, eqv_nil]
  rfl
section
variable {fu n : Nat}
abbrev sS (x y : Int) (L M G : List Nat) : En := [.bo (pot x y), .fr (.py (.list (L.map iN))), .ow (.py (.list (M.map iN))), .ow (.py (.list (G.map iN)))]
abbrev sB : Ss := (.cons (.app 3 (.pop 2 (.cal (Str.ofString "_law_draw") [0, 1] (.cons (.pk 0) (.cons (.bi .len (.cons (.pk 2) .nil)) .nil))))) .nil)
theorem okd_lN (A : List Nat) : okDp (.list (A.map iN)) = true := by
  refine decide_eq_true ?_
  show PyData.depthAll (A.map iN) + 1 ≤ 30
  rw [dep_iN]
  omega
theorem s_cond {C : Ct} {x y : Int} {L M G : List Nat} : evT C (.v (.cm .ne (.pk 2) (.lst .nil))) (sS x y L M G) = some (!M.isEmpty, sS x y L M G) := by
  have c := ne_nil (okd_lN M)
  have e : (M.map iN).isEmpty = M.isEmpty := by cases M <;> rfl
  rw [e] at c
  simp [c]
theorem s_turn {L M G : List Nat} (x y : Int) (hM : 0 < M.length) (hM2 : M.length + G.length ≤ 100) : ∃ (x' y' : Int) (M' G' : List Nat), (G' ++ M').Perm (G ++ M) ∧ M'.length + 1 = M.length ∧
    exs (tab.ct fu (run tab fu (n + 1))) sB (sS x y L M G) = some (.nx, sS x' y' L M' G') := by
  obtain ⟨k, x', y', hk, e⟩ := ev_popd (fu := fu) (n := n) (st := sS x y L M G) (l := 2) (M := M) x y rfl rfl (by omega) hM (by omega)
  have e0 : evE (tab.ct fu (run tab fu (n + 1))) (.pop 2 (.cal (Str.ofString "_law_draw") [0, 1] (.cons (.pk 0) (.cons (.bi .len (.cons (.pk 2) .nil)) .nil)))) (sS x y L M G) = some (.va (.py (iN M[k])), sS x' y' L (M.eraseIdx k) G) := e
  refine ⟨x', y', M.eraseIdx k, G ++ [M[k]], ?_, ?_, ?_⟩
  · rw [List.append_assoc]
    exact List.Perm.append_left G (perm_erase M k hk)
  · rw [List.length_eraseIdx]
    simp [hk]
    omega
  · have la : lstAt (sS x y L M G) 3 = some (G.map iN, .ow) := rfl
    have la2 : lstAt (sS x' y' L (M.eraseIdx k) G) 3 = some (G.map iN, .ow) := rfl
    have lt' : (G.map iN).length < lim := lim_lt (by rw [List.length_map]; omega)
    rw [exs_cons, ex_app, la, Option.bind_some, e0, Option.bind_some, val_va, Option.bind_some, pyd_py, Option.bind_some, la2, Option.bind_some]
    rw [if_pos lt']
    have e2 : (G ++ [M[k]]).map iN = G.map iN ++ [iN M[k]] := by rw [List.map_append]; rfl
    show some (Out.nx, ([.bo (pot x' y'), .fr (.py (.list (L.map iN))), .ow (.py (.list ((M.eraseIdx k).map iN))), .ow (.py (.list (G.map iN ++ [iN M[k]])))] : En)) = _
    rw [← e2]
theorem r_shuffled {L : List Nat} (x y : Int) (hL : L.length ≤ 100) (hfu : 1000 ≤ fu) : ∃ (G : List Nat) (x' y' : Int), G.Perm L ∧ run tab fu (n + 2) (Str.ofString "_law_shuffled") [pot x y, .py (.list (L.map iN))] = some (.py (.list (G.map iN)), true, pot x' y') := by
  have z := whL_J (c := evT (tab.ct fu (run tab fu (n + 1))) (.v (.cm .ne (.pk 2) (.lst .nil)))) (f := exs (tab.ct fu (run tab fu (n + 1))) sB)
    (fun j s => ∃ (x' y' : Int) (M G : List Nat), s = sS x' y' L M G ∧ (G ++ M).Perm L ∧ M.length = j) (fun s => ∃ (x' y' : Int) (G : List Nat), s = sS x' y' L [] G ∧ G.Perm L) ?h0 ?h1 L.length fu (sS x y L L []) (by omega) ⟨x, y, L, [], rfl, .refl _, rfl⟩
  case h0 =>
    rintro s ⟨x', y', M, G, rfl, hp, hl⟩
    have : M = [] := List.length_eq_zero_iff.mp hl
    subst this
    rw [List.append_nil] at hp
    exact ⟨_, s_cond, x', y', G, rfl, hp⟩
  case h1 =>
    rintro j s ⟨x', y', M, G, rfl, hp, hl⟩
    have len := hp.length_eq
    rw [List.length_append] at len
    obtain ⟨x2, y2, M', G', hp', hl', e⟩ := s_turn (fu := fu) (n := n) (L := L) (M := M) (G := G) x' y' (by omega) (by omega)
    have nm : M.isEmpty = false := by
      cases M with
      | nil => simp at hl
      | cons _ _ => rfl
    refine ⟨sS x' y' L M G, _, .nx, ?_, e, .inl rfl, x2, y2, M', G', rfl, hp'.trans hp, by omega⟩
    rw [s_cond, nm]
    rfl
  obtain ⟨s', e2, x2, y2, G, rfl, hp⟩ := z
  refine ⟨G, x2, y2, hp, ?_⟩
  rw [run_of lk__law_shuffled rfl]
  show ((exs (tab.ct fu (run tab fu (n + 1))) F__law_shuffled.body [.bo (pot x y), .fr (.py (.list (L.map iN))), .no, .no]).bind _) = _
  have S1 : exS (tab.ct fu (run tab fu (n + 1))) (.par [2, 3] (.cons (.bi .list (.cons (.pk 1) .nil)) (.cons (.lst .nil) .nil))) [.bo (pot x y), .fr (.py (.list (L.map iN))), .no, .no] = some (.nx, sS x y L L []) := by simp
  have S2 : exS (tab.ct fu (run tab fu (n + 1))) (.whl (.v (.cm .ne (.pk 2) (.lst .nil))) sB) (sS x y L L []) = some (.nx, sS x2 y2 L [] G) := by
    rw [ex_whl]
    exact e2
  rw [F__law_shuffled, exs_step S1, exs_step S2]
  rfl
theorem r_any {most : Nat} (x y : Int) (hm : most ≤ 10) (hfu : 1000 ≤ fu) : ∃ (W : List Nat) (m : Nat) (x' y' : Int), m ≤ most ∧ Two m W ∧ run tab fu (n + 3) (Str.ofString "_law_any") [pot x y, .py (.int (most : Int))] = some (.py (tW W), false, pot x' y') := by
  obtain ⟨m, x1, y1, hr, e1⟩ := ev_drw (fu := fu) (n := n + 1) (st := [.bo (pot x y), .fr (.py (.int (most : Int))), .no]) (i := 0) (m := most + 1) (e := .op .add (.pk 1) (.lit (.int (1)))) (o := ofI ((most : Int) + 1)) x y rfl (by simp) (by simp) (by omega) (by omega)
  have S1 : exS (tab.ct fu (run tab fu (n + 2))) (.asg 2 (.cal (Str.ofString "_law_draw") [0, 1] (.cons (.pk 0) (.cons (.op .add (.pk 1) (.lit (.int (1)))) .nil)))) [.bo (pot x y), .fr (.py (.int (most : Int))), .no] = some (.nx, [.bo (pot x1 y1), .fr (.py (.int (most : Int))), .fr (.py (iN m))]) := by
    rw [ex_asg, e1]
    rfl
  obtain ⟨G, x3, y3, hG, e3⟩ := r_shuffled (fu := fu) (n := n) (L := List.range m ++ List.range m) x1 y1 (by simp; omega) hfu
  refine ⟨G, m, x3, y3, by omega, hG, ?_⟩
  have lr := lr_nat (k := m) (by omega)
  have mu := mul_rng (k := m) (by omega)
  have A : evE (tab.ct fu (run tab fu (n + 2))) (.op .mul (.bi .lrange (.cons (.pk 2) .nil)) (.lit (.int (2)))) [.bo (pot x1 y1), .fr (.py (.int (most : Int))), .fr (.py (iN m))] = some (.fe (.py (.list ((List.range m ++ List.range m).map iN))), [.bo (pot x1 y1), .fr (.py (.int (most : Int))), .fr (.py (iN m))]) := by
    generalize (List.range m ++ List.range m).map iN = R2 at mu ⊢
    generalize (List.range m).map iN = R1 at lr mu
    simp [lr, mu]
  have E : evE (tab.ct fu (run tab fu (n + 2))) (.cal (Str.ofString "_law_shuffled") [0, 1] (.cons (.pk 0) (.cons (.op .mul (.bi .lrange (.cons (.pk 2) .nil)) (.lit (.int (2)))) .nil))) [.bo (pot x1 y1), .fr (.py (.int (most : Int))), .fr (.py (iN m))] = some (.fe (.py (.list (G.map iN))), [.bo (pot x3 y3), .fr (.py (.int (most : Int))), .fr (.py (iN m))]) :=
    ev_bo2 (q := (.py (.list (G.map iN)), true, pot x3 y3)) (ct_io lk__law_shuffled) rfl A rfl (by rw [ct_call]; exact e3)
  have E2 : evE (tab.ct fu (run tab fu (n + 2))) (.bi .tuple (.cons (.cal (Str.ofString "_law_shuffled") [0, 1] (.cons (.pk 0) (.cons (.op .mul (.bi .lrange (.cons (.pk 2) .nil)) (.lit (.int (2)))) .nil))) .nil)) [.bo (pot x1 y1), .fr (.py (.int (most : Int))), .fr (.py (iN m))] = some (.va (.py (tW G)), [.bo (pot x3 y3), .fr (.py (.int (most : Int))), .fr (.py (iN m))]) := by
    rw [ev_bi, evs_cons, E, Option.bind_some, evs_nil]
    simp only [Option.bind_some, Option.map_some, rds_cons, rds_nil, rd_fe, tup_lst]
  rw [run_of lk__law_any rfl]
  show ((exs (tab.ct fu (run tab fu (n + 2))) F__law_any.body [.bo (pot x y), .fr (.py (.int (most : Int))), .no]).bind _) = _
  rw [F__law_any, exs_step S1, exs_cons, ex_ret, E2]
  rfl
theorem sl_tupE {xs : List PyData} {lo hi : Option Int} : sliceD (.py (.tuple xs)) lo hi = some (.va (.py (.tuple (cutP xs lo hi)))) := id rfl
theorem ev_joined {C : Ct} {X A B T : List PyData} {Lw : PyData} {a m : Int} (LC : evE C (.lc [4, 5] [5] true (.v (.var 1)) .yes (.op .add (.pk 3) (.pk 5))) [.fr (.py (.tuple X)), .fr (.py Lw), .fr (.py (.int a)), .fr (.py (.int m)), .no, .no] = some (.fe (.py (.list T)), [.fr (.py (.tuple X)), .fr (.py Lw), .fr (.py (.int a)), .fr (.py (.int m)), .no, .no]))
    (c1 : cutP X none (some a) = A) (c2 : cutP X (some a) none = B) (a1 : op2 .add (.py (.tuple A)) (.py (.tuple T)) = some (.va (.py (.tuple (A ++ T))))) (a2 : op2 .add (.py (.tuple (A ++ T))) (.py (.tuple B)) = some (.va (.py (.tuple (A ++ T ++ B))))) :
    exs C (.cons (.ret (.op .add (.op .add (.sl (.pk 0) .no (.so (.pk 2))) (.bi .tuple (.cons (.lc [4, 5] [5] true (.v (.var 1)) .yes (.op .add (.pk 3) (.pk 5))) .nil))) (.sl (.pk 0) (.so (.pk 2)) .no))) .nil) [.fr (.py (.tuple X)), .fr (.py Lw), .fr (.py (.int a)), .fr (.py (.int m)), .no, .no] = some (.rt (.py (.tuple (A ++ T ++ B))) false, [.fr (.py (.tuple X)), .fr (.py Lw), .fr (.py (.int a)), .fr (.py (.int m)), .no, .no]) := by
  have TU : evE C (.bi .tuple (.cons (.lc [4, 5] [5] true (.v (.var 1)) .yes (.op .add (.pk 3) (.pk 5))) .nil)) [.fr (.py (.tuple X)), .fr (.py Lw), .fr (.py (.int a)), .fr (.py (.int m)), .no, .no] = some (.va (.py (.tuple T)), [.fr (.py (.tuple X)), .fr (.py Lw), .fr (.py (.int a)), .fr (.py (.int m)), .no, .no]) := by
    rw [ev_bi, evs_cons, LC, Option.bind_some, evs_nil]
    simp only [Option.bind_some, Option.map_some, rds_cons, rds_nil, rd_fe, tup_lst]
  have E1 : evE C (.sl (.pk 0) .no (.so (.pk 2))) [.fr (.py (.tuple X)), .fr (.py Lw), .fr (.py (.int a)), .fr (.py (.int m)), .no, .no] = some (.va (.py (.tuple A)), [.fr (.py (.tuple X)), .fr (.py Lw), .fr (.py (.int a)), .fr (.py (.int m)), .no, .no]) := by simp [c1, sl_tupE]
  have E2 : evE C (.sl (.pk 0) (.so (.pk 2)) .no) [.fr (.py (.tuple X)), .fr (.py Lw), .fr (.py (.int a)), .fr (.py (.int m)), .no, .no] = some (.va (.py (.tuple B)), [.fr (.py (.tuple X)), .fr (.py Lw), .fr (.py (.int a)), .fr (.py (.int m)), .no, .no]) := by simp [c2, sl_tupE]
  rw [exs_cons, ex_ret, ev_op, ev_op, E1, Option.bind_some, TU]
  simp only [Option.bind_some, rd_va, a1, Option.map_some, E2, a2]
  rfl
theorem r_joined {W L : List Nat} {a m : Nat} (hW : W.length = 2 * m) (hl : W.length ≤ 20) (hL : L.length ≤ 20) (ha : a ≤ W.length) : run tab fu (n + 1) (Str.ofString "_law_joined") [.py (tW W), .py (tW L), .py (.int (a : Int))] = some (.py (tW (W.take a ++ L.map (· + m) ++ W.drop a)), false, .py .none) := by
  have fd : op2 .fdiv (.py (.int (W.length : Int))) (.py (.int 2)) = some (ofI (m : Int)) := by rw [op_fdiv (by decide) (by decide)]; congr 2; omega
  have c1 := cut_to (xs := W.map iN) (k := a) (z := (a : Int)) rfl (by simpa using ha)
  have c2 := cut_from (xs := W.map iN) (k := a) (z := (a : Int)) rfl (by simpa using ha)
  have LC : evE (tab.ct fu (run tab fu n)) (.lc [4, 5] [5] true (.v (.var 1)) .yes (.op .add (.pk 3) (.pk 5))) [.fr (.py (tW W)), .fr (.py (tW L)), .fr (.py (.int (a : Int))), .fr (.py (iN m)), .no, .no] = some (.fe (.py (.list ((L.map (· + m)).map iN))), [.fr (.py (tW W)), .fr (.py (tW L)), .fr (.py (.int (a : Int))), .fr (.py (iN m)), .no, .no]) := by
    rw [lc_map (fun v => match v with
      | .int i => .int (m + i)
      | v => v) (st' := [.fr (.py (tW W)), .fr (.py (tW L)), .fr (.py (.int (a : Int))), .fr (.py (iN m)), .no, .no]) (xs := L.map iN) (by simp) rfl (lim_ok (by rw [List.length_map]; omega)) fun x hx => ?_]
    · rw [List.map_map, List.map_map]
      have : (fun v => match v with
        | PyData.int i => PyData.int (m + i)
        | v => v) ∘ iN = iN ∘ (· + m) := by
        funext k
        show PyData.int ((m : Int) + (k : Int)) = PyData.int ((k + m : Nat) : Int)
        congr 1
        omega
      rw [this]
    · obtain ⟨i, hi, rfl⟩ := List.mem_map.mp hx
      refine ⟨[.fr (.py (tW W)), .fr (.py (tW L)), .fr (.py (.int (a : Int))), .fr (.py (iN m)), .no, .fr (.py (iN i))], ofI ((m : Int) + (i : Int)), [.fr (.py (tW W)), .fr (.py (tW L)), .fr (.py (.int (a : Int))), .fr (.py (iN m)), .no, .fr (.py (iN i))], rfl, ?_, rfl, rfl⟩
      generalize tW W = W1
      generalize tW L = L1
      simp
  have e : tW (W.take a ++ L.map (· + m) ++ W.drop a) = .tuple ((W.map iN).take a ++ (L.map (· + m)).map iN ++ (W.map iN).drop a) := by
    unfold tW
    rw [List.map_append, List.map_append, List.map_take, List.map_drop]
  have a1 := add_tup (xs := (W.map iN).take a) (ys := (L.map (· + m)).map iN) (by simp; omega)
  have a2 := add_tup (xs := (W.map iN).take a ++ (L.map (· + m)).map iN) (ys := (W.map iN).drop a) (by simp; omega)
  have S1 : exS (tab.ct fu (run tab fu n)) (.asg 3 (.op .fdiv (.bi .len (.cons (.pk 0) .nil)) (.lit (.int (2))))) [.fr (.py (tW W)), .fr (.py (tW L)), .fr (.py (.int (a : Int))), .no, .no, .no] = some (.nx, [.fr (.py (tW W)), .fr (.py (tW L)), .fr (.py (.int (a : Int))), .fr (.py (iN m)), .no, .no]) := by
    simp [fd]
  rw [run_of lk__law_joined rfl]
  show ((exs (tab.ct fu (run tab fu n)) F__law_joined.body [.fr (.py (tW W)), .fr (.py (tW L)), .fr (.py (.int (a : Int))), .no, .no, .no]).bind _) = _
  rw [F__law_joined, exs_step S1, e, ev_joined LC c1 c2 a1 a2]
  rfl
end
end K55
end
section
namespace K55
open PySem Mi

section
variable {fu n : Nat}
theorem call_pl3 {C : Ct} {f : Str} {a b c d : D} {st : En} (h : C.io f = false) (hc : C.call f [a, b, c] = some (d, false, .py .none)) : callE C f [0, 1, 2] [.va a, .va b, .va c] st = some (.va d, st) := by
  rw [call_pl h]
  simp [hc]
abbrev kS (x y : Int) (most : Nat) (W : List Nat) (a b c : Sl) : En := [.bo (pot x y), .fr (.py (iN most)), .fr (.py (tW W)), a, b, c, .no, .no]
abbrev kB : Ss := (.cons (.asg 4 (.cal (Str.ofString "_law_pick") [0, 1] (.cons (.pk 0) (.cons (.lst (.cons (.lit (.int (1))) (.cons (.lit (.int (1))) (.cons (.lit (.int (3))) (.cons (.lit (.int (3))) (.cons (.lit (.int (5))) .nil)))))) .nil)))) (.cons (.ifs (.v (.cm .le (.op .add (.op .fdiv (.bi .len (.cons (.pk 2) .nil)) (.lit (.int (2)))) (.pk 4)) (.pk 1))) (.cons (.asg 2 (.cal (Str.ofString "_law_joined") [0, 1, 2] (.cons (.var 2) (.cons (.bi .tuple (.cons (.op .mul (.bi .lrange (.cons (.pk 4) .nil)) (.lit (.int (2)))) .nil)) (.cons (.cal (Str.ofString "_law_draw") [0, 1] (.cons (.pk 0) (.cons (.op .add (.bi .len (.cons (.pk 2) .nil)) (.lit (.int (1)))) .nil))) .nil))))) .nil) .nil) .nil))
theorem k_turn {most m : Nat} {W : List Nat} {a b : Sl} (x y : Int) (hW : Two m W) (hm : m ≤ most) (hm2 : most ≤ 10) : ∃ (x' y' : Int) (W' : List Nat) (m' : Nat) (b' : Sl), Two m' W' ∧ m' ≤ most ∧ exs (tab.ct fu (run tab fu (n + 2))) kB (kS x y most W a b .no) = some (.nx, kS x' y' most W' a b' .no) := by
  have len := hW.len
  obtain ⟨v, x1, y1, hv, e1⟩ := r_pick (fu := fu) (n := n) (xs := [.int 1, .int 1, .int 3, .int 3, .int 5]) x y (by simp) (by simp)
  obtain ⟨k, rfl, hk⟩ : ∃ k : Nat, v = iN k ∧ k ≤ 5 := by
    simp at hv
    rcases hv with rfl | rfl | rfl
    · exact ⟨1, rfl, by omega⟩
    · exact ⟨3, rfl, by omega⟩
    · exact ⟨5, rfl, by omega⟩
  have L : evE (tab.ct fu (run tab fu (n + 2))) (.lst (.cons (.lit (.int (1))) (.cons (.lit (.int (1))) (.cons (.lit (.int (3))) (.cons (.lit (.int (3))) (.cons (.lit (.int (5))) .nil)))))) (kS x y most W a b .no) = some (.fe (.py (.list [.int 1, .int 1, .int 3, .int 3, .int 5])), kS x y most W a b .no) := by simp
  have P : evE (tab.ct fu (run tab fu (n + 2))) (.cal (Str.ofString "_law_pick") [0, 1] (.cons (.pk 0) (.cons (.lst (.cons (.lit (.int (1))) (.cons (.lit (.int (1))) (.cons (.lit (.int (3))) (.cons (.lit (.int (3))) (.cons (.lit (.int (5))) .nil)))))) .nil))) (kS x y most W a b .no) = some (.va (.py (iN k)), kS x1 y1 most W a b .no) :=
    ev_bo2 (q := (.py (iN k), false, pot x1 y1)) (ct_io lk__law_pick) rfl L rfl (by rw [ct_call]; exact e1)
  have S1 : exS (tab.ct fu (run tab fu (n + 2))) (.asg 4 (.cal (Str.ofString "_law_pick") [0, 1] (.cons (.pk 0) (.cons (.lst (.cons (.lit (.int (1))) (.cons (.lit (.int (1))) (.cons (.lit (.int (3))) (.cons (.lit (.int (3))) (.cons (.lit (.int (5))) .nil)))))) .nil)))) (kS x y most W a b .no) = some (.nx, kS x1 y1 most W a (.fr (.py (iN k))) .no) := by
    rw [ex_asg, P]
    rfl
  have fd : op2 .fdiv (.py (.int (W.length : Int))) (.py (.int 2)) = some (ofI (m : Int)) := by rw [op_fdiv (by decide) (by decide)]; congr 2; omega
  have T : evT (tab.ct fu (run tab fu (n + 2))) (.v (.cm .le (.op .add (.op .fdiv (.bi .len (.cons (.pk 2) .nil)) (.lit (.int (2)))) (.pk 4)) (.pk 1))) (kS x1 y1 most W a (.fr (.py (iN k))) .no) = some (decide ((m : Int) + (k : Int) ≤ (most : Int)), kS x1 y1 most W a (.fr (.py (iN k))) .no) := by
    simp [fd]
  by_cases hle : m + k ≤ most
  · obtain ⟨r, x2, y2, hr, hc⟩ := r_draw (fu := fu) (n := n + 1) (m := W.length + 1) x1 y1 (by omega) (by omega)
    have A : evE (tab.ct fu (run tab fu (n + 2))) (.op .add (.bi .len (.cons (.pk 2) .nil)) (.lit (.int (1)))) (kS x1 y1 most W a (.fr (.py (iN k))) .no) = some (ofI ((W.length + 1 : Nat) : Int), kS x1 y1 most W a (.fr (.py (iN k))) .no) := by simp
    have D : evE (tab.ct fu (run tab fu (n + 2))) (.cal (Str.ofString "_law_draw") [0, 1] (.cons (.pk 0) (.cons (.op .add (.bi .len (.cons (.pk 2) .nil)) (.lit (.int (1)))) .nil))) (kS x1 y1 most W a (.fr (.py (iN k))) .no) = some (.va (.py (iN r)), kS x2 y2 most W a (.fr (.py (iN k))) .no) :=
      ev_bo2 (q := (.py (iN r), false, pot x2 y2)) (ct_io lk__law_draw) rfl A rfl (by rw [ct_call]; exact hc)
    have lr := lr_nat (k := k) (by omega)
    have mu := mul_rng (k := k) (by omega)
    have U : evE (tab.ct fu (run tab fu (n + 2))) (.bi .tuple (.cons (.op .mul (.bi .lrange (.cons (.pk 4) .nil)) (.lit (.int (2)))) .nil)) (kS x1 y1 most W a (.fr (.py (iN k))) .no) = some (.va (.py (tW (List.range k ++ List.range k))), kS x1 y1 most W a (.fr (.py (iN k))) .no) := by
      show evE _ _ _ = some (Od.va (.py (.tuple ((List.range k ++ List.range k).map iN))), _)
      generalize (List.range k ++ List.range k).map iN = R2 at mu ⊢
      generalize (List.range k).map iN = R1 at lr mu
      simp [lr, mu, tup_lst]
    have j := r_joined (fu := fu) (n := n + 1) (W := W) (L := List.range k ++ List.range k) (a := r) (m := m) len (by omega) (by simp; omega) (by omega)
    have V : evE (tab.ct fu (run tab fu (n + 2))) (.var 2) (kS x1 y1 most W a (.fr (.py (iN k))) .no) = some (.va (.py (tW W)), kS x1 y1 most W a (.fr (.py (iN k))) .no) := by
      rfl
    refine ⟨x2, y2, _, m + k, .fr (.py (iN k)), Two.put (a := r) hW (.refl _), hle, ?_⟩
    have J : evE (tab.ct fu (run tab fu (n + 2))) (.cal (Str.ofString "_law_joined") [0, 1, 2] (.cons (.var 2) (.cons (.bi .tuple (.cons (.op .mul (.bi .lrange (.cons (.pk 4) .nil)) (.lit (.int (2)))) .nil)) (.cons (.cal (Str.ofString "_law_draw") [0, 1] (.cons (.pk 0) (.cons (.op .add (.bi .len (.cons (.pk 2) .nil)) (.lit (.int (1)))) .nil))) .nil)))) (kS x1 y1 most W a (.fr (.py (iN k))) .no) = some (.va (.py (tW (W.take r ++ (List.range k ++ List.range k).map (· + m) ++ W.drop r))), kS x2 y2 most W a (.fr (.py (iN k))) .no) := by
      rw [ev_cal, evs_cons, V, Option.bind_some, evs_cons, U, Option.bind_some, evs_cons, D, Option.bind_some, evs_nil]
      exact call_pl3 (ct_io lk__law_joined) (by rw [ct_call]; exact j)
    rw [exs_step S1, exs_cons, ex_ifs, T, Option.bind_some]
    simp only [decide_eq_true (show (m : Int) + (k : Int) ≤ (most : Int) by omega), if_true]
    rw [exs_cons, ex_asg, J]
    rfl
  · refine ⟨x1, y1, W, m, .fr (.py (iN k)), hW, hm, ?_⟩
    rw [exs_step S1, exs_cons, ex_ifs, T, Option.bind_some]
    simp only [decide_eq_false (show ¬ (m : Int) + (k : Int) ≤ (most : Int) by omega), Bool.false_eq_true, if_false]
    rfl
theorem r_clovers {most : Nat} (x y : Int) (hm2 : most ≤ 10) (hfu : 1000 ≤ fu) : ∃ (W : List Nat) (m : Nat) (x' y' : Int), m ≤ most ∧ Two m W ∧ run tab fu (n + 3) (Str.ofString "_law_clovers") [pot x y, .py (.int (most : Int))] = some (.py (tW W), false, pot x' y') := by
  have S0 : exS (tab.ct fu (run tab fu (n + 2))) (.asg 2 (.tup .nil)) [.bo (pot x y), .fr (.py (iN most)), .no, .no, .no, .no, .no, .no] = some (.nx, kS x y most [] .no .no .no) := by simp
  obtain ⟨r, x1, y1, hr, hc⟩ := r_draw (fu := fu) (n := n + 1) (m := 3) x y (by omega) (by omega)
  have D : evE (tab.ct fu (run tab fu (n + 2))) (.cal (Str.ofString "_law_draw") [0, 1] (.cons (.pk 0) (.cons (.lit (.int (3))) .nil))) (kS x y most [] .no .no .no) = some (.va (.py (iN r)), kS x1 y1 most [] .no .no .no) :=
    ev_bo2 (q := (.py (iN r), false, pot x1 y1)) (ct_io lk__law_draw) rfl (ev_lit ..) rfl (by rw [ct_call]; exact hc)
  have rg := rng_nat (k := 1 + r) (by omega)
  have I : evI (tab.ct fu (run tab fu (n + 2))) (.rng (.cons (.op .add (.lit (.int (1))) (.cal (Str.ofString "_law_draw") [0, 1] (.cons (.pk 0) (.cons (.lit (.int (3))) .nil)))) .nil)) (kS x y most [] .no .no .no) = some ((List.range (1 + r)).map iN, kS x1 y1 most [] .no .no .no) := by
    have e : ((1 + r : Nat) : Int) = 1 + (r : Int) := by omega
    rw [e] at rg
    rw [evI_rng, evs_cons, ev_op, ev_lit, Option.bind_some, D]
    simp only [Option.bind_some, rd_va, op_add, Option.map_some, evs_nil, rds_cons, rds_nil, rd_ofI, rg]
  obtain ⟨s', e2, x2, y2, W, m, u, v, rfl, hW, hm⟩ := frL_J (f := fun q s => (bindT [3] true q s).bind (exs (tab.ct fu (run tab fu (n + 2))) kB)) (fun _ s => ∃ (x' y' : Int) (W : List Nat) (m : Nat) (u v : Sl), s = kS x' y' most W u v .no ∧ Two m W ∧ m ≤ most) ((List.range (1 + r)).map iN) 0 (kS x1 y1 most [] .no .no .no) ⟨x1, y1, [], 0, .no, .no, rfl, .refl _, by omega⟩ (by
    rintro j q s hq ⟨x', y', W, m, u, v, rfl, hW, hm⟩
    obtain ⟨x3, y3, W', m', v', hW', hm', e3⟩ := k_turn (fu := fu) (n := n) (a := .fr (.py q)) (b := v) x' y' hW hm hm2
    refine ⟨_, .nx, ?_, .inl rfl, x3, y3, W', m', .fr (.py q), v', rfl, hW', hm'⟩
    rw [bind_one, Option.bind_some]
    exact e3)
  have len := hW.len
  have fd : op2 .fdiv (.py (.int (W.length : Int))) (.py (.int 2)) = some (ofI (m : Int)) := by rw [op_fdiv (by decide) (by decide)]; congr 2; omega
  have lr := lr_nat (k := m) (by omega)
  have RG : evE (tab.ct fu (run tab fu (n + 2))) (.bi .lrange (.cons (.op .fdiv (.bi .len (.cons (.pk 2) .nil)) (.lit (.int (2)))) .nil)) (kS x2 y2 most W u v .no) = some (.fe (.py (.list ((List.range m).map iN))), kS x2 y2 most W u v .no) := by
    generalize (List.range m).map iN = R1 at lr ⊢
    simp [fd, lr]
  obtain ⟨G, x3, y3, hG, e3⟩ := r_shuffled (fu := fu) (n := n) (L := List.range m) x2 y2 (by simp; omega) hfu
  have SH : evE (tab.ct fu (run tab fu (n + 2))) (.cal (Str.ofString "_law_shuffled") [0, 1] (.cons (.pk 0) (.cons (.bi .lrange (.cons (.op .fdiv (.bi .len (.cons (.pk 2) .nil)) (.lit (.int (2)))) .nil)) .nil))) (kS x2 y2 most W u v .no) = some (.fe (.py (.list (G.map iN))), kS x3 y3 most W u v .no) :=
    ev_bo2 (q := (.py (.list (G.map iN)), true, pot x3 y3)) (ct_io lk__law_shuffled) rfl RG rfl (by rw [ct_call]; exact e3)
  have S2 : exS (tab.ct fu (run tab fu (n + 2))) (.asg 5 (.cal (Str.ofString "_law_shuffled") [0, 1] (.cons (.pk 0) (.cons (.bi .lrange (.cons (.op .fdiv (.bi .len (.cons (.pk 2) .nil)) (.lit (.int (2)))) .nil)) .nil)))) (kS x2 y2 most W u v .no) = some (.nx, kS x3 y3 most W u v (.ow (.py (.list (G.map iN))))) := by
    rw [ex_asg, SH]
    rfl
  have glen : G.length = m := by rw [hG.length_eq, List.length_range]
  have LC : evE (tab.ct fu (run tab fu (n + 2))) (.lc [6, 7] [7] true (.v (.var 2)) .yes (.ix (.pk 5) (.pk 7))) (kS x3 y3 most W u v (.ow (.py (.list (G.map iN))))) = some (.fe (.py (.list ((W.map fun i => G.getD i 0).map iN))), kS x3 y3 most W u v (.ow (.py (.list (G.map iN))))) := by
    rw [lc_map (fun v => match v with
      | .int i => iN (G.getD i.toNat 0)
      | v => v) (st' := kS x3 y3 most W u v (.ow (.py (.list (G.map iN))))) (xs := W.map iN) (by simp) rfl (lim_ok (by simp; omega)) fun x hx => ?_]
    · rw [List.map_map, List.map_map]
      rfl
    · obtain ⟨i, hi, rfl⟩ := List.mem_map.mp hx
      have him : i < m := by
        have := hW.mem_iff.mp hi
        simp at this
        exact this
      have hi' : i < G.length := by omega
      have eg : G.getD i 0 = G[i] := by rw [List.getD_eq_getElem?_getD, List.getElem?_eq_getElem hi']; rfl
      have it : item (.py (.list (G.map iN))) (.py (iN i)) = some (.py (iN G[i])) := (item_nat (xs := G.map iN) (k := i) (p := iN G[i]) (by rw [List.getElem?_map, List.getElem?_eq_getElem hi'] <;> rfl)).2
      refine ⟨[.bo (pot x3 y3), .fr (.py (iN most)), .fr (.py (tW W)), u, v, .ow (.py (.list (G.map iN))), .no, .fr (.py (iN i))], .va (.py (iN G[i])), [.bo (pot x3 y3), .fr (.py (iN most)), .fr (.py (tW W)), u, v, .ow (.py (.list (G.map iN))), .no, .fr (.py (iN i))], rfl, ?_, by simp only [Int.toNat_natCast, eg]; rfl, rfl⟩
      generalize PyData.list (G.map iN) = Y at it ⊢
      generalize iN G[i] = Z at it ⊢
      generalize tW W = W1
      simp [it]
  refine ⟨W.map fun i => G.getD i 0, m, x3, y3, hm, Two.ren hW hG, ?_⟩
  rw [run_of lk__law_clovers rfl]
  show ((exs (tab.ct fu (run tab fu (n + 2))) F__law_clovers.body [.bo (pot x y), .fr (.py (iN most)), .no, .no, .no, .no, .no, .no]).bind _) = _
  have S1 : exS (tab.ct fu (run tab fu (n + 2))) (.fr [3] true (.rng (.cons (.op .add (.lit (.int (1))) (.cal (Str.ofString "_law_draw") [0, 1] (.cons (.pk 0) (.cons (.lit (.int (3))) .nil)))) .nil)) kB) (kS x y most [] .no .no .no) = some (.nx, kS x2 y2 most W u v .no) := by
    rw [ex_fr, I, Option.bind_some]
    exact e2
  rw [F__law_clovers, exs_step S0, exs_step S1, exs_step S2, exs_cons, ex_ret, ev_bi, evs_cons, LC]
  rfl
theorem r_word {most : Nat} (x y : Int) (hm : most ≤ 10) (hfu : 1000 ≤ fu) : ∃ (W : List Nat) (m : Nat) (x' y' : Int), m ≤ most ∧ Two m W ∧ run tab fu (n + 4) (Str.ofString "_law_word") [pot x y, .py (.int (most : Int))] = some (.py (tW W), false, pot x' y') := by
  obtain ⟨r, x2, y2, hr2, e2⟩ := ev_drw (fu := fu) (n := n + 2) (st := [.bo (pot x y), .fr (.py (iN most))]) (i := 0) (m := 2) (e := .lit (.int (2))) (o := .va (.py (.int 2))) x y rfl rfl rfl (by omega) (by omega)
  have T : evT (tab.ct fu (run tab fu (n + 3))) (.v (.cm .eq (.cal (Str.ofString "_law_draw") [0, 1] (.cons (.pk 0) (.cons (.lit (.int (2))) .nil))) (.lit (.int (0))))) [.bo (pot x y), .fr (.py (iN most))] = some (decide ((r : Int) = 0), [.bo (pot x2 y2), .fr (.py (iN most))]) := by
    rw [evT_v, ev_cm, e2]
    simp
  by_cases h0 : r = 0
  · obtain ⟨V, m, x3, y3, hm3, hV, e3⟩ := r_clovers (fu := fu) (n := n) x2 y2 hm hfu
    refine ⟨V, m, x3, y3, hm3, hV, ?_⟩
    have E : evE (tab.ct fu (run tab fu (n + 3))) (.cal (Str.ofString "_law_clovers") [0, 1] (.cons (.pk 0) (.cons (.var 1) .nil))) [.bo (pot x2 y2), .fr (.py (iN most))] = some (.va (.py (tW V)), [.bo (pot x3 y3), .fr (.py (iN most))]) :=
      ev_bo2 (q := (.py (tW V), false, pot x3 y3)) (o := .va (.py (iN most))) (ct_io lk__law_clovers) rfl rfl rfl (by rw [ct_call]; exact e3)
    rw [run_of lk__law_word rfl]
    show ((exs (tab.ct fu (run tab fu (n + 3))) F__law_word.body [.bo (pot x y), .fr (.py (iN most))]).bind _) = _
    rw [F__law_word, exs_cons, ex_ret, ev_ite, T, Option.bind_some]
    simp only [decide_eq_true (show (r : Int) = 0 by omega), if_true]
    rw [E]
    rfl
  · obtain ⟨V, m, x3, y3, hm3, hV, e3⟩ := r_any (fu := fu) (n := n) x2 y2 hm hfu
    refine ⟨V, m, x3, y3, hm3, hV, ?_⟩
    have E : evE (tab.ct fu (run tab fu (n + 3))) (.cal (Str.ofString "_law_any") [0, 1] (.cons (.pk 0) (.cons (.var 1) .nil))) [.bo (pot x2 y2), .fr (.py (iN most))] = some (.va (.py (tW V)), [.bo (pot x3 y3), .fr (.py (iN most))]) :=
      ev_bo2 (q := (.py (tW V), false, pot x3 y3)) (o := .va (.py (iN most))) (ct_io lk__law_any) rfl rfl rfl (by rw [ct_call]; exact e3)
    rw [run_of lk__law_word rfl]
    show ((exs (tab.ct fu (run tab fu (n + 3))) F__law_word.body [.bo (pot x y), .fr (.py (iN most))]).bind _) = _
    rw [F__law_word, exs_cons, ex_ret, ev_ite, T, Option.bind_some]
    simp only [decide_eq_false (show ¬ (r : Int) = 0 by omega), Bool.false_eq_true, if_false]
    rw [E]
    rfl
end
end K55
end
section
namespace K55
open PySem Mi
/-! ### where a letter stands -/
def posR : Nat → List Nat → Nat → List Nat
  | _, [], _ => []
  | k, x :: W, i => if x = i then k :: posR (k + 1) W i else posR (k + 1) W i
theorem posR_len : ∀ (W : List Nat) (k i : Nat), (posR k W i).length = W.count i
  | [], _, _ => rfl
  | x :: W, k, i => by
    unfold posR
    by_cases h : x = i
    · subst h; rw [if_pos rfl, List.length_cons, posR_len W, List.count_cons_self]
    · rw [if_neg h, posR_len W, List.count_cons_of_ne h]
theorem posR_mem : ∀ (W : List Nat) (k i p : Nat), p ∈ posR k W i ↔ k ≤ p ∧ W[p - k]? = some i
  | [], k, i, p => by simp [posR]
  | x :: W, k, i, p => by
    unfold posR
    have ih := posR_mem W (k + 1) i p
    by_cases hp : p = k
    · subst hp
      have no : ¬ p ∈ posR (p + 1) W i := by rw [ih]; omega
      by_cases h : x = i <;> simp [h, no]
    · by_cases hk : k ≤ p
      · have e : p - k = (p - (k + 1)) + 1 := by omega
        rw [e, List.getElem?_cons_succ]
        by_cases h : x = i
        · rw [if_pos h, List.mem_cons, ih]
          constructor
          · rintro (z | z)
            · exact absurd z hp
            · exact ⟨hk, z.2⟩
          · exact fun z => .inr ⟨by omega, z.2⟩
        · rw [if_neg h, ih]
          exact ⟨fun z => ⟨hk, z.2⟩, fun z => ⟨by omega, z.2⟩⟩
      · by_cases h : x = i
        · rw [if_pos h, List.mem_cons, ih]; omega
        · rw [if_neg h, ih]; omega
theorem posR_first : ∀ (W : List Nat) (k i a : Nat) (r : List Nat), posR k W i = a :: r → k ≤ a ∧ (W.map iN).findIdx? (fun y => PyData.eqv y (.int (i : Int))) = some (a - k) ∧ posR (a + 1) (W.drop (a + 1 - k)) i = r
  | [], _, _, _, _, h => by cases h
  | x :: W, k, i, a, r, h => by
    unfold posR at h
    by_cases hx : x = i
    · subst hx
      rw [if_pos rfl] at h
      cases h
      refine ⟨Nat.le_refl _, ?_, ?_⟩
      · rw [List.map_cons, List.findIdx?_cons, eqv_int]; simp
      · rw [show k + 1 - k = 1 by omega]; rfl
    · rw [if_neg hx] at h
      obtain ⟨h1, h2, h3⟩ := posR_first W (k + 1) i a r h
      have ne : ¬ ((x : Int) = (i : Int)) := by omega
      refine ⟨by omega, ?_, ?_⟩
      · rw [List.map_cons, List.findIdx?_cons, eqv_int, h2]
        simp [ne]
        omega
      · rw [show a + 1 - k = (a + 1 - (k + 1)) + 1 by omega, List.drop_succ_cons]
        exact h3
/-- a letter's two places -/
structure Pl (W : List Nat) (i a b : Nat) : Prop where
  eq : posR 0 W i = [a, b]
  lt : a < b
  at_a : W[a]? = some i
  at_b : W[b]? = some i
  only : ∀ p, W[p]? = some i → p = a ∨ p = b
  ix1 : (W.map iN).findIdx? (fun y => PyData.eqv y (.int (i : Int))) = some a
  ix2 : ((W.map iN).drop (a + 1)).findIdx? (fun y => PyData.eqv y (.int (i : Int))) = some (b - (a + 1))
theorem pl_of {W : List Nat} (h : Wd W) {i : Nat} (hi : i < W.length / 2) : ∃ a b, Pl W i a b := by
  have l := (posR_len W 0 i).trans (h.two i hi)
  match e : posR 0 W i, l with
  | [a, b], _ =>
    obtain ⟨_, h2, h3⟩ := posR_first W 0 i a [b] e
    obtain ⟨k1, k2, _⟩ := posR_first _ (a + 1) i b [] h3
    have ma := (posR_mem W 0 i a).mp (by rw [e]; simp)
    have mb := (posR_mem W 0 i b).mp (by rw [e]; simp)
    refine ⟨a, b, e, by omega, ma.2, mb.2, fun p hp => ?_, h2, ?_⟩
    · have := (posR_mem W 0 i p).mpr ⟨Nat.zero_le _, hp⟩
      rw [e] at this
      simpa using this
    · rw [← List.map_drop]
      exact k2
theorem Pl.low {W : List Nat} {i a b : Nat} (P : Pl W i a b) : a < W.length ∧ b < W.length := ⟨(List.getElem?_eq_some_iff.mp P.at_a).1, (List.getElem?_eq_some_iff.mp P.at_b).1⟩
section
variable {fu n : Nat} {W : List Nat} {S : List Bool} {i a b p : Nat} {c : Bool}
theorem okd_i {i : Int} : okDp (.int i) = true := rfl
theorem ev_ix1 {C : Ct} {W : List PyData} {i a : Int} {u : Sl} (I1 : indexD W [.py (.int i)] = some (ofI a)) : evE C (.me .index (.pk 0) (.cons (.pk 1) .nil)) [.fr (.py (.tuple W)), .fr (.py (.int i)), u] = some (ofI a, [.fr (.py (.tuple W)), .fr (.py (.int i)), u]) := by
  simp [I1, D.tupD, D.lstD]
theorem ev_ix2 {C : Ct} {W : List PyData} {i a b : Int} (I2 : indexD W [.py (.int i), .py (.int (a + 1))] = some (ofI b)) : evE C (.me .index (.pk 0) (.cons (.pk 1) (.cons (.op .add (.pk 2) (.lit (.int (1)))) .nil))) [.fr (.py (.tuple W)), .fr (.py (.int i)), .fr (.py (.int a))] = some (ofI b, [.fr (.py (.tuple W)), .fr (.py (.int i)), .fr (.py (.int a))]) := by
  simp [I2, D.tupD, D.lstD]
theorem ev_places {C : Ct} {W : List PyData} {i a b : Int} (I1 : indexD W [.py (.int i)] = some (ofI a)) (I2 : indexD W [.py (.int i), .py (.int (a + 1))] = some (ofI b)) : exs C F_places_of.body [.fr (.py (.tuple W)), .fr (.py (.int i)), .no] = some (.rt (.py (.tuple [.int a, .int b])) false, [.fr (.py (.tuple W)), .fr (.py (.int i)), .fr (.py (.int a))]) := by
  have l2 : 2 ≤ lim := by unfold lim; omega
  simp [F_places_of, ev_ix1 (u := .no) I1, ev_ix2 I2, -ev_me, l2]
theorem r_places_of (h : Wd W) (P : Pl W i a b) : run tab fu (n + 1) (Str.ofString "places_of") [.py (tW W), .py (.int (i : Int))] = some (.py (.tuple [iN a, iN b]), false, .py .none) := by
  have few := h.few
  have lo := P.low
  have lt := P.lt
  have I1 := index_1 (xs := W.map iN) (x := .int (i : Int)) okd_i P.ix1
  have I2 : indexD (W.map iN) [.py (.int (i : Int)), .py (.int ((a : Int) + 1))] = some (ofI b) := index_z okd_i (by omega) (by omega) (by rw [show ((a : Int) + 1).toNat = a + 1 by omega]; exact P.ix2) (by omega)
  rw [run_of lk_places_of rfl]
  have z := ev_places (C := tab.ct fu (run tab fu n)) I1 I2
  show ((exs (tab.ct fu (run tab fu n)) F_places_of.body [.fr (.py (.tuple (W.map iN))), .fr (.py (.int (i : Int))), .no]).bind _) = _
  rw [z]
  rfl
end
theorem cut_mid {xs : List PyData} {k j : Nat} {z y : Int} (hz : z = (k : Int)) (hy : y = (j : Int)) (h : k ≤ xs.length) (h2 : j ≤ xs.length) : cutP xs (some z) (some y) = (xs.drop k).take (j - k) := by
  subst hz hy
  have e : HT.sIx xs.length 0 (some (k : Int)) = k := by
    rw [HT.sIx_nat]
    omega
  have e2 : HT.sIx xs.length xs.length (some (j : Int)) = j := by
    rw [HT.sIx_nat]
    omega
  unfold cutP
  rw [e, e2]
section
variable {C : Ct} {W R A B : List PyData} {i a b p : Int}
theorem ev_between (h0 : C.io (Str.ofString "places_of") = false) (h1 : C.call (Str.ofString "places_of") [.py (.tuple W), .py (.int i)] = some (.py (.tuple [.int a, .int b]), false, .py .none)) (c : cutP W (some (a + 1)) (some b) = R) :
    exs C F_between_of.body [.fr (.py (.tuple W)), .fr (.py (.int i)), .no, .no] = some (.rt (.py (.tuple R)) false, [.fr (.py (.tuple W)), .fr (.py (.int i)), .fr (.py (.int a)), .fr (.py (.int b))]) := by
  simp [F_between_of, call_pl h0, h1, bindT, sl_tupE, c]
end
section
variable {fu n : Nat} {W : List Nat} {i a b p : Nat}
/-- what stands between a letter's places, and around them -/
def btw (W : List Nat) (a b : Nat) : List Nat := (W.drop (a + 1)).take (b - (a + 1))
theorem r_between_of (h : Wd W) (P : Pl W i a b) : run tab fu (n + 2) (Str.ofString "between_of") [.py (tW W), .py (.int (i : Int))] = some (.py (tW (btw W a b)), false, .py .none) := by
  have few := h.few
  have lo := P.low
  rw [run_of lk_between_of rfl]
  have q : (tab.ct fu (run tab fu (n + 1))).call (Str.ofString "places_of") [.py (.tuple (W.map iN)), .py (.int (i : Int))] = some (.py (.tuple [.int (a : Int), .int (b : Int)]), false, .py .none) := by
    rw [ct_call]
    exact r_places_of h P
  have z := ev_between (C := tab.ct fu (run tab fu (n + 1))) (ct_io lk_places_of) q (cut_mid (k := a + 1) (j := b) (by omega) rfl (by simp; omega) (by simp; omega))
  show ((exs (tab.ct fu (run tab fu (n + 1))) F_between_of.body [.fr (.py (.tuple (W.map iN))), .fr (.py (.int (i : Int))), .no, .no]).bind _) = _
  rw [z, ← List.map_drop, ← List.map_take]
  rfl
end
theorem filt_map {α : Type} {f : α → PyData} {p : PyData → Bool} {q : α → Bool} (l : List α) (h : ∀ a ∈ l, p (f a) = q a) : (l.map f).filter p = (l.filter q).map f := by
  rw [List.filter_map]
  congr 1
  exact List.filter_congr h

theorem rng_pos : ∀ (W : List Nat) (k i : Nat), ((List.range' k W.length).filter fun j => decide (W[j - k]? = some i)) = posR k W i
  | [], _, _ => rfl
  | x :: W, k, i => by
    have ih := rng_pos W (k + 1) i
    have e : ((List.range' (k + 1) W.length).filter fun j => decide ((x :: W)[j - k]? = some i)) = posR (k + 1) W i := by
      rw [← ih]
      refine List.filter_congr fun j hj => ?_
      have := (List.mem_range'_1.mp hj).1
      rw [show j - k = (j - (k + 1)) + 1 by omega, List.getElem?_cons_succ]
    rw [List.length_cons, List.range'_succ, posR]
    by_cases h : x = i
    · rw [List.filter_cons_of_pos (by simp [h]), e, if_pos h]
    · rw [List.filter_cons_of_neg (by simp [h]), e, if_neg h]
section
variable {fu n : Nat} {W : List Nat} {i a b : Nat}
theorem r_lplaces (h : Wd W) (P : Pl W i a b) : run tab fu (n + 1) (Str.ofString "_law_places") [.py (tW W), .py (.int (i : Int))] = some (.py (.list [iN a, iN b]), true, .py .none) := by
  have few := h.few
  have rg := rng_nat (k := W.length) (by omega)
  have en := rng_pos W 0 i
  rw [P.eq, ← List.range_eq_range'] at en
  have I : evI (tab.ct fu (run tab fu n)) (.rng (.cons (.bi .len (.cons (.pk 0) .nil)) .nil)) [.fr (.py (tW W)), .fr (.py (.int (i : Int))), .no, .no] = some ((List.range W.length).map iN, [.fr (.py (tW W)), .fr (.py (.int (i : Int))), .no, .no]) := by
    simp [rg]
  have LC : evE (tab.ct fu (run tab fu n)) (.lc [2, 3] [3] true (.rng (.cons (.bi .len (.cons (.pk 0) .nil)) .nil)) (.v (.cm .eq (.ix (.pk 0) (.pk 3)) (.pk 1))) (.var 3)) [.fr (.py (tW W)), .fr (.py (.int (i : Int))), .no, .no] = some (.fe (.py (.list [iN a, iN b])), [.fr (.py (tW W)), .fr (.py (.int (i : Int))), .no, .no]) := by
    rw [lc_if (fun p => match p with
      | .int j => decide (W[j.toNat]? = some i)
      | _ => false) (fun p => p) (xs := (List.range W.length).map iN) (st' := [.fr (.py (tW W)), .fr (.py (.int (i : Int))), .no, .no]) I rfl (lim_ok (by rw [List.length_map, List.length_range]; omega)) fun p hp => ?_, filt_map (q := fun j => decide (W[j - 0]? = some i)) _ fun j _ => by simp, en]
    · rfl
    · obtain ⟨j, hj, rfl⟩ := List.mem_map.mp hp
      have lj : j < W.length := by simpa using hj
      have it : item (.py (tW W)) (.py (iN j)) = some (.py (iN W[j])) := (item_nat (xs := W.map iN) (k := j) (p := iN W[j]) (by rw [List.getElem?_map, List.getElem?_eq_getElem lj] <;> rfl)).1
      generalize hs : ([.fr (.py (tW W)), .fr (.py (.int (i : Int))), .no, .fr (.py (iN j))] : En) = s1
      have w1 : wipe s1 [2, 3] = [.fr (.py (tW W)), .fr (.py (.int (i : Int))), .no, .no] := by rw [← hs]; rfl
      have e2 : evT (tab.ct fu (run tab fu n)) (.v (.cm .eq (.ix (.pk 0) (.pk 3)) (.pk 1))) s1 = some (decide (((W[j] : Nat) : Int) = (i : Int)), s1) := by
        subst hs
        generalize tW W = W1 at it ⊢
        simp [it]
      have e3 : evE (tab.ct fu (run tab fu n)) (.var 3) s1 = some (.va (.py (iN j)), s1) := by
        subst hs
        rfl
      have d : decide (W[(j : Int).toNat]? = some i) = decide (((W[j] : Nat) : Int) = (i : Int)) := by
        rw [Int.toNat_natCast, List.getElem?_eq_getElem lj]
        simp
        omega
      exact ⟨s1, s1, by rw [← hs]; rfl, by rw [e2]; simp only [d], fun _ => w1, fun _ => ⟨_, s1, e3, rfl, w1⟩⟩
  rw [run_of lk__law_places rfl]
  simp [F__law_places, enter, LC]
end
/-! ### what a loop goes over -/
def rv (L b j : Nat) : Nat := if b + j < L then b + j else b + j - L
def ov (L a b : Nat) (t : Bool) : List Nat := if t then List.range' a (b + 1 - a) else (List.range (L - b + a + 1)).map (rv L b)
theorem ov_false {L a b : Nat} (hb : b < L) (hab : a < b) : ov L a b false = List.range' b (L - b) ++ List.range (a + 1) := by
  unfold ov
  rw [if_neg Bool.false_ne_true, show L - b + a + 1 = (L - b) + (a + 1) by omega, List.range_add, List.map_append, List.map_map]
  congr 1
  · rw [List.range'_eq_map_range]
    refine List.map_congr_left fun j hj => ?_
    have := List.mem_range.mp hj
    unfold rv
    rw [if_pos (by omega)]
  · refine (List.map_congr_left (g := id) fun j hj => ?_).trans (List.map_id _)
    have := List.mem_range.mp hj
    show rv L b (L - b + j) = j
    unfold rv
    rw [if_neg (by omega)]
    omega
theorem ov_len {L a b : Nat} {t : Bool} (hb : b < L) (hab : a < b) : (ov L a b t).length = if t then b + 1 - a else L - b + a + 1 := by
  unfold ov
  cases t <;> simp
theorem ov_low {L a b : Nat} {t : Bool} (hb : b < L) (hab : a < b) : ∀ p ∈ ov L a b t, p < L := fun p hp => by
  cases t with
  | true =>
    have := List.mem_range'_1.mp hp
    omega
  | false =>
    rw [ov_false hb hab] at hp
    rcases List.mem_append.mp hp with z | z
    · have := List.mem_range'_1.mp z
      omega
    · have := List.mem_range.mp z
      omega
theorem rng_L {a k : Nat} : rngL (a : Int) k = (List.range' a k).map iN := by
  unfold rngL
  rw [List.range'_eq_map_range, List.map_map]
  rfl
theorem tr_two {a b : Nat} {x y : Int} (hx : x = (a : Int)) (hy : y = (b : Int)) (hb : b ≤ 900) (hab : a ≤ b) : biD .trange [.py (.int x), .py (.int y)] = some (.va (.py (.tuple ((List.range' a (b - a)).map iN)))) := by
  subst hx hy
  show (if okR (a : Int) && okR (b : Int) then some (rngL (a : Int) ((b : Int) - (a : Int)).toNat) else none).map _ = _
  have o1 : okR (a : Int) = true := by unfold okR; simp; omega
  have o2 : okR (b : Int) = true := by unfold okR; simp; omega
  rw [o1, o2, show ((b : Int) - (a : Int)).toNat = b - a by omega, rng_L]
  rfl
theorem tr_one {a : Nat} {x : Int} (hx : x = (a : Int)) (ha : a ≤ 900) : biD .trange [.py (.int x)] = some (.va (.py (.tuple ((List.range a).map iN)))) := by
  subst hx
  show (rngD [.py (.int (a : Int))]).map _ = _
  rw [rng_nat (by omega)]
  rfl
section
variable {fu n : Nat} {W : List Nat} {i a b : Nat} {t : Bool}
theorem ev_over {C : Ct} {W R1 R2 R3 : List PyData} {i a b : Int} (i1 : C.io (Str.ofString "places_of") = false) (h1 : C.call (Str.ofString "places_of") [.py (.tuple W), .py (.int i)] = some (.py (.tuple [.int a, .int b]), false, .py .none))
    (t1 : biD .trange [.py (.int a), .py (.int (b + 1))] = some (.va (.py (.tuple R1)))) (t2 : biD .trange [.py (.int b), .py (.int (W.length : Int))] = some (.va (.py (.tuple R2)))) (t3 : biD .trange [.py (.int (a + 1))] = some (.va (.py (.tuple R3)))) (ad : op2 .add (.py (.tuple R2)) (.py (.tuple R3)) = some (.va (.py (.tuple (R2 ++ R3))))) :
    ∃ st, exs C F_over_of.body [.fr (.py (.tuple W)), .fr (.py (.tuple [.int i, .bool t])), .no, .no] = some (.rt (.py (.tuple (if t then R1 else R2 ++ R3))) false, st) := by
  have i0 : item (.py (.tuple [.int i, .bool t])) (.py (.int 0)) = some (.py (.int i)) := rfl
  have i1' : item (.py (.tuple [.int i, .bool t])) (.py (.int 1)) = some (.py (.bool t)) := rfl
  refine ⟨[.fr (.py (.tuple W)), .fr (.py (.tuple [.int i, .bool t])), .fr (.py (.int a)), .fr (.py (.int b))], ?_⟩
  cases t with
  | true => simp [F_over_of, call_pl i1, h1, i0, i1', bindT, t1]
  | false => simp [F_over_of, call_pl i1, h1, i0, i1', bindT, t2, t3, ad]
theorem r_over_of (h : Wd W) (P : Pl W i a b) : run tab fu (n + 2) (Str.ofString "over_of") [.py (tW W), .py (tA i t)] = some (.py (tW (ov W.length a b t)), false, .py .none) := by
  have few := h.few
  have lo := P.low
  have lt := P.lt
  obtain ⟨st, e⟩ := ev_over (t := t) (C := tab.ct fu (run tab fu (n + 1))) (W := W.map iN) (i := (i : Int)) (a := (a : Int)) (b := (b : Int)) (ct_io lk_places_of) (by rw [ct_call]; exact r_places_of h P)
    (tr_two (a := a) (b := b + 1) rfl (by omega) (by omega) (by omega)) (tr_two (a := b) (b := W.length) rfl (by simp) (by omega) (by omega)) (tr_one (a := a + 1) (by omega) (by omega)) (add_tup (by simp; omega))
  rw [run_of lk_over_of rfl]
  show ((exs (tab.ct fu (run tab fu (n + 1))) F_over_of.body [.fr (.py (.tuple (W.map iN))), .fr (.py (tA i t)), .no, .no]).bind _) = _
  rw [e]
  have : (if t then (List.range' a (b + 1 - a)).map iN else (List.range' b (W.length - b)).map iN ++ (List.range (a + 1)).map iN) = (ov W.length a b t).map iN := by
    cases t with
    | true => rfl
    | false => rw [ov_false lo.2 lt, List.map_append]; rfl
  rw [this]
  rfl
end
end K55
end
section
namespace K55
open PySem Mi

/-! ### the law's own way over a loop -/
abbrev oS (W : List Nat) (l a b : PyData) (F : List Nat) (x : Nat) : En := [.fr (.py (tW W)), .fr (.py l), .fr (.py a), .fr (.py b), .ow (.py (.list (F.map iN))), .fr (.py (iN x))]
abbrev oB : Ss := (.cons (.asg 5 (.ite (.v (.cm .lt (.op .add (.pk 5) (.lit (.int (1)))) (.bi .len (.cons (.pk 0) .nil)))) (.op .add (.pk 5) (.lit (.int (1)))) (.lit (.int (0))))) (.cons (.app 4 (.var 5)) .nil))
theorem o_turn {C : Ct} {W F : List Nat} {l a b : PyData} {x y : Nat} (hl : F.length < 100) (hy : y = if x + 1 < W.length then x + 1 else 0) : exs C oB (oS W l a b F x) = some (.nx, oS W l a b (F ++ [y]) y) := by
  have S1 : exS C (.asg 5 (.ite (.v (.cm .lt (.op .add (.pk 5) (.lit (.int (1)))) (.bi .len (.cons (.pk 0) .nil)))) (.op .add (.pk 5) (.lit (.int (1)))) (.lit (.int (0))))) (oS W l a b F x) = some (.nx, oS W l a b F y) := by
    have T : evT C (.v (.cm .lt (.op .add (.pk 5) (.lit (.int (1)))) (.bi .len (.cons (.pk 0) .nil)))) (oS W l a b F x) = some (decide ((x : Int) + 1 < (W.length : Int)), oS W l a b F x) := by simp
    rw [ex_asg, ev_ite, T, Option.bind_some]
    by_cases h : x + 1 < W.length
    · rw [if_pos h] at hy
      subst hy
      simp only [decide_eq_true (show (x : Int) + 1 < (W.length : Int) by omega), if_true, ev_op, ev_pk, ev_lit, List.getElem?_cons_zero, List.getElem?_cons_succ, Option.bind_some, rd_pk, con_fr, rd_va, op_add, Option.map_some]
      rfl
    · rw [if_neg h] at hy
      subst hy
      simp only [decide_eq_false (show ¬ (x : Int) + 1 < (W.length : Int) by omega), Bool.false_eq_true, if_false, ev_lit, Option.bind_some]
      rfl
  have la : lstAt (oS W l a b F y) 4 = some (F.map iN, .ow) := rfl
  have lt' : (F.map iN).length < lim := lim_lt (by rw [List.length_map]; omega)
  have e2 : (F ++ [y]).map iN = F.map iN ++ [iN y] := by rw [List.map_append]; rfl
  rw [exs_step S1, exs_cons, ex_app, la, Option.bind_some]
  simp only [ev_var, List.getElem?_cons_zero, List.getElem?_cons_succ, Option.bind_some]
  rw [show lstAt (oS W l a b F y) 4 = some (F.map iN, .ow) from rfl]
  simp only [Option.bind_some, val_va, pyd_py]
  rw [if_pos lt']
  unfold oS
  rw [e2]
  rfl
theorem rv_next {L a b j : Nat} (hb : b < L) (hab : a < b) (hj : j < L - b + a) : rv L b (j + 1) = if rv L b j + 1 < L then rv L b j + 1 else 0 := by
  unfold rv
  split <;> split <;> split <;> omega
theorem rv_end {L a b j : Nat} (hb : b < L) (hab : a < b) (hj : j ≤ L - b + a) : rv L b j = a ↔ j = L - b + a := by
  unfold rv
  split <;> omega
section
variable {fu n : Nat} {W : List Nat} {i a b : Nat} {t : Bool}
theorem r_lover (h : Wd W) (P : Pl W i a b) (hfu : 1000 ≤ fu) : run tab fu (n + 2) (Str.ofString "_law_over") [.py (tW W), .py (tA i t)] = some (.py (tW (ov W.length a b t)), false, .py .none) := by
  have few := h.few
  have lo := P.low
  have lt := P.lt
  have c1 := r_lplaces (fu := fu) (n := n) h P
  have i0 : item (.py (tA i t)) (.py (.int 0)) = some (.py (iN i)) := rfl
  have i1 : item (.py (tA i t)) (.py (.int 1)) = some (.py (.bool t)) := rfl
  have S0 : exS (tab.ct fu (run tab fu (n + 1))) (.asgT [2, 3] (.cal (Str.ofString "_law_places") [0, 1] (.cons (.var 0) (.cons (.ix (.pk 1) (.lit (.int (0)))) .nil)))) [.fr (.py (tW W)), .fr (.py (tA i t)), .no, .no, .no, .no] = some (.nx, [.fr (.py (tW W)), .fr (.py (tA i t)), .fr (.py (iN a)), .fr (.py (iN b)), .no, .no]) := by
    generalize tW W = W1 at c1 ⊢
    generalize tA i t = l at i0 ⊢
    simp [call_pl (ct_io lk__law_places), i0, c1, bindT]
  have T : evT (tab.ct fu (run tab fu (n + 1))) (.v (.ix (.pk 1) (.lit (.int (1))))) [.fr (.py (tW W)), .fr (.py (tA i t)), .fr (.py (iN a)), .fr (.py (iN b)), .no, .no] = some (t, [.fr (.py (tW W)), .fr (.py (tA i t)), .fr (.py (iN a)), .fr (.py (iN b)), .no, .no]) := by
    generalize tW W = W1
    generalize tA i t = l at i1 ⊢
    simp [i1]
  rw [run_of lk__law_over rfl]
  show ((exs (tab.ct fu (run tab fu (n + 1))) F__law_over.body [.fr (.py (tW W)), .fr (.py (tA i t)), .no, .no, .no, .no]).bind _) = _
  rw [F__law_over, exs_step S0, exs_cons, ex_ifs, T, Option.bind_some]
  cases t with
  | true =>
    have t1 := tr_two (a := a) (b := b + 1) (x := (a : Int)) (y := (b : Int) + 1) rfl (by omega) (by omega) (by omega)
    have E : evE (tab.ct fu (run tab fu (n + 1))) (.bi .trange (.cons (.pk 2) (.cons (.op .add (.pk 3) (.lit (.int (1)))) .nil))) [.fr (.py (tW W)), .fr (.py (tA i true)), .fr (.py (iN a)), .fr (.py (iN b)), .no, .no] = some (.va (.py (tW (ov W.length a b true))), [.fr (.py (tW W)), .fr (.py (tA i true)), .fr (.py (iN a)), .fr (.py (iN b)), .no, .no]) := by
      have : tW (ov W.length a b true) = .tuple ((List.range' a (b + 1 - a)).map iN) := rfl
      rw [this]
      generalize (List.range' a (b + 1 - a)).map iN = R at t1 ⊢
      generalize tW W = W1
      generalize tA i true = l
      simp [t1]
    simp only [if_true]
    rw [exs_cons, ex_ret, E]
    rfl
  | false =>
    simp only [Bool.false_eq_true, if_false]
    have S2 : exS (tab.ct fu (run tab fu (n + 1))) (.par [4, 5] (.cons (.lst (.cons (.var 3) .nil)) (.cons (.var 3) .nil))) [.fr (.py (tW W)), .fr (.py (tA i false)), .fr (.py (iN a)), .fr (.py (iN b)), .no, .no] = some (.nx, oS W (tA i false) (iN a) (iN b) [b] b) := by
      generalize tA i false = l
      simp
    obtain ⟨s', e2, x, rfl⟩ := whL_J (c := evT (tab.ct fu (run tab fu (n + 1))) (.v (.cm .ne (.pk 5) (.pk 2)))) (f := exs (tab.ct fu (run tab fu (n + 1))) oB)
      (fun k s => ∃ j, s = oS W (tA i false) (iN a) (iN b) ((List.range (j + 1)).map (rv W.length b)) (rv W.length b j) ∧ j + k = W.length - b + a) (fun s => ∃ x, s = oS W (tA i false) (iN a) (iN b) ((List.range (W.length - b + a + 1)).map (rv W.length b)) x)
      (by
        rintro s ⟨j, rfl, hj⟩
        have hj : j = W.length - b + a := by omega
        subst hj
        have e := (rv_end (j := W.length - b + a) lo.2 lt (Nat.le_refl _)).mpr rfl
        rw [e]
        refine ⟨oS W (tA i false) (iN a) (iN b) ((List.range (W.length - b + a + 1)).map (rv W.length b)) a, ?_, a, rfl⟩
        generalize (List.range (W.length - b + a + 1)).map (rv W.length b) = F
        generalize tA i false = l
        simp)
      (by
        rintro k s ⟨j, rfl, hj⟩
        have ne : ¬ rv W.length b j = a := fun z => by
          have := (rv_end (j := j) lo.2 lt (by omega)).mp z
          omega
        have ne' : ¬ ((rv W.length b j : Nat) : Int) = (a : Int) := by omega
        have e := o_turn (C := tab.ct fu (run tab fu (n + 1))) (W := W) (F := (List.range (j + 1)).map (rv W.length b)) (l := tA i false) (a := iN a) (b := iN b) (x := rv W.length b j) (by rw [List.length_map, List.length_range]; omega) (rv_next (a := a) lo.2 lt (by omega))
        have e3 : (List.range (j + 1)).map (rv W.length b) ++ [rv W.length b (j + 1)] = (List.range (j + 1 + 1)).map (rv W.length b) := by
          rw [List.range_succ (n := j + 1), List.map_append]
          rfl
        rw [e3] at e
        refine ⟨oS W (tA i false) (iN a) (iN b) ((List.range (j + 1)).map (rv W.length b)) (rv W.length b j), _, .nx, ?_, e, .inl rfl, j + 1, rfl, by omega⟩
        generalize (List.range (j + 1)).map (rv W.length b) = F
        generalize tA i false = l
        generalize rv W.length b j = x at ne' ⊢
        simp [ne'])
      (W.length - b + a) fu (oS W (tA i false) (iN a) (iN b) [b] b) (by omega) ⟨0, by
        have : rv W.length b 0 = b := by unfold rv; rw [if_pos (by omega)]; omega
        show _ = oS W (tA i false) (iN a) (iN b) [rv W.length b 0] (rv W.length b 0)
        rw [this], by omega⟩
    have S3 : exS (tab.ct fu (run tab fu (n + 1))) (.whl (.v (.cm .ne (.pk 5) (.pk 2))) oB) (oS W (tA i false) (iN a) (iN b) [b] b) = some (.nx, oS W (tA i false) (iN a) (iN b) ((List.range (W.length - b + a + 1)).map (rv W.length b)) x) := by
      rw [ex_whl]
      exact e2
    rw [exs_nil, Option.bind_some]
    simp only
    rw [exs_step S2, exs_step S3]
    have e4 : tW (ov W.length a b false) = .tuple (((List.range (W.length - b + a + 1)).map (rv W.length b)).map iN) := rfl
    rw [e4]
    generalize (List.range (W.length - b + a + 1)).map (rv W.length b) = F
    generalize tA i false = l
    simp [tup_lst]
end
end K55
end
section
namespace K55
open PySem Mi
/-- all arrows -/
def allA (L : Nat) : List PyData := (List.range L).flatMap fun p => [tA p false, tA p true]
/-- both arrows of each place, one after another -/
theorem allA_succ {L : Nat} : allA (L + 1) = allA L ++ [tA L false, tA L true] := by
  unfold allA
  rw [List.range_succ, List.flatMap_append]
  rfl
theorem allA_len {L : Nat} : (allA L).length = 2 * L := by
  induction L with
  | zero => rfl
  | succ L ih => rw [allA_succ, List.length_append, ih]; simp; omega
/-- the loop that lists all arrows, at slots i, j -/
theorem arrows_loop {C : Ct} {L : Nat} (st : En) (i j : Nat) (hij : i ≠ j) (hi : st[i]? = some (.ow (.py (.list [])))) (hj : j < st.length) (hL : L ≤ 400) :
    ∃ u, frL (fun x s => (bindT [j] true x s).bind (exs C (.cons (.ext i (.lst (.cons (.tup (.cons (.var j) (.cons (.lit (.bool false)) .nil))) (.cons (.tup (.cons (.var j) (.cons (.lit (.bool true)) .nil))) .nil)))) .nil))) ((List.range L).map fun (k : Nat) => PyData.int (k : Int)) st = some (.nx, (st.set i (.ow (.py (.list (allA L))))).set j u) := by
  have hil : i < st.length := (List.getElem?_eq_some_iff.mp hi).1
  have base : ∃ u, st = (st.set i (.ow (.py (.list (allA 0))))).set j u := ⟨st[j], by
    have : st.set i (.ow (.py (.list (allA 0)))) = st := by
      apply List.ext_getElem?
      intro q
      by_cases e : q = i
      · subst e; rw [List.getElem?_set_self hil, hi]; rfl
      · rw [List.getElem?_set_ne (Ne.symm e)]
    rw [this, List.set_getElem_self]⟩
  have step : ∀ m x s, ((List.range L).map fun (k : Nat) => PyData.int (k : Int))[m]? = some x → (∃ u, s = (st.set i (.ow (.py (.list (allA (0 + m)))))).set j u) → ∃ s' o, (bindT [j] true x s).bind (exs C (.cons (.ext i (.lst (.cons (.tup (.cons (.var j) (.cons (.lit (.bool false)) .nil))) (.cons (.tup (.cons (.var j) (.cons (.lit (.bool true)) .nil))) .nil)))) .nil)) = some (o, s') ∧ (o = .nx ∨ o = .cont) ∧ ∃ u, s' = (st.set i (.ow (.py (.list (allA (0 + m + 1)))))).set j u := by
    intro m x s hx ⟨u, hs⟩
    have hm : m < L := by have := (List.getElem?_eq_some_iff.mp hx).1; simpa using this
    have ex : x = .int (m : Int) := by
      rw [List.getElem?_map, List.getElem?_range hm] at hx
      exact (Option.some.inj hx).symm
    subst ex hs
    have g1 : ((st.set i (.ow (.py (.list (allA (0 + m)))))).set j u).set j (.fr (.py (.int (m : Int)))) = (st.set i (.ow (.py (.list (allA m))))).set j (.fr (.py (.int (m : Int)))) := by rw [List.set_set, Nat.zero_add]
    have gi : ((st.set i (.ow (.py (.list (allA m))))).set j (.fr (.py (.int (m : Int)))))[i]? = some (.ow (.py (.list (allA m)))) := by
      rw [List.getElem?_set_ne (Ne.symm hij), List.getElem?_set_self hil]
    have gj : ((st.set i (.ow (.py (.list (allA m))))).set j (.fr (.py (.int (m : Int)))))[j]? = some (.fr (.py (.int (m : Int)))) := by
      rw [List.getElem?_set_self (by rw [List.length_set]; exact hj)]
    have la : lstAt ((st.set i (.ow (.py (.list (allA m))))).set j (.fr (.py (.int (m : Int))))) i = some (allA m, .ow) := by
      unfold lstAt
      rw [gi]
    refine ⟨_, .nx, ?_, .inl rfl, ⟨.fr (.py (.int (m : Int))), rfl⟩⟩
    rw [bind_one, Option.bind_some, g1]
    have lt : (allA m).length + 2 < lim := lim_lt (by rw [allA_len]; omega)
    have fin : (((st.set i (.ow (.py (.list (allA m))))).set j (.fr (.py (.int (m : Int))))).set i (.ow (.py (.list (allA m ++ [tA m false, tA m true]))))) = (st.set i (.ow (.py (.list (allA (0 + m + 1)))))).set j (.fr (.py (.int (m : Int)))) := by
      rw [List.set_comm _ _ (Ne.symm hij), List.set_set, Nat.zero_add, allA_succ]
    clear hx g1 gi base hi
    generalize ((st.set i (.ow (.py (.list (allA m))))).set j (.fr (.py (.int (m : Int))))) = s0 at gj la fin ⊢
    simp [gj, la, lt]
    rw [Nat.zero_add] at fin
    exact fin
  obtain ⟨s', e, u, hu⟩ := frL_J (fun m s => ∃ u, s = (st.set i (.ow (.py (.list (allA m))))).set j u) ((List.range L).map fun (k : Nat) => PyData.int (k : Int)) 0 st base step
  exact ⟨u, by rw [e, hu]; simp⟩
theorem has_nat {x : Nat} : ∀ lot : List Nat, hasB (.int (x : Int)) (lot.map iN) = decide (x ∈ lot)
  | [] => by simp [hasB]
  | y :: lot => by
    have ih := has_nat (x := x) lot
    unfold hasB at ih ⊢
    rw [List.map_cons, List.any_cons, ih, eqv_int]
    by_cases h : y = x
    · subst h; simp
    · have h2 : ¬ ((y : Int) = (x : Int)) := by omega
      have h3 : ¬ x = y := fun e => h e.symm
      simp [h2, h3]
abbrev vA (v : Nat × Bool) : PyData := tA v.1 v.2
theorem allA_vws (m : Nat) : allA m = (Nm.vws m).map vA := by
  unfold allA Nm.vws
  rw [List.map_flatMap]
  rfl
theorem lp3 {C : Ct} {d : D} {m : Nat} (hm : m ≤ 400) : ∃ u, frL (fun x s => (bindT [2] true x s).bind (exs C (.cons (.ext 1 (.lst (.cons (.tup (.cons (.var 2) (.cons (.lit (.bool false)) .nil))) (.cons (.tup (.cons (.var 2) (.cons (.lit (.bool true)) .nil))) .nil)))) .nil))) ((List.range m).map iN) [.fr d, .ow (.py (.list [])), .no] = some (.nx, [.fr d, .ow (.py (.list (allA m))), u]) := by
  obtain ⟨u, e⟩ := arrows_loop (C := C) (L := m) [.fr d, .ow (.py (.list [])), .no] 1 2 (by decide) rfl (by simp) hm
  exact ⟨u, e⟩

/-! ### a loop's positions, letters -/
def fp (W : List Nat) (i : Nat) : Nat := ((posR 0 W i)[0]?).getD 0
def sp (W : List Nat) (i : Nat) : Nat := ((posR 0 W i)[1]?).getD 0
theorem pl_fs {W : List Nat} (h : Wd W) {i : Nat} (hi : i < W.length / 2) : Pl W i (fp W i) (sp W i) := by
  obtain ⟨a, b, P⟩ := pl_of h hi
  have e1 : fp W i = a := by unfold fp; rw [P.eq]; rfl
  have e2 : sp W i = b := by unfold sp; rw [P.eq]; rfl
  rw [e1, e2]
  exact P
abbrev Lp := Nat × Bool
def OV (W : List Nat) (v : Lp) : List Nat := ov W.length (fp W v.1) (sp W v.1) v.2
def IN (W : List Nat) (v : Lp) : List Nat := (OV W v).tail.dropLast
def LS (W : List Nat) (v : Lp) : List Nat := (IN W v).map fun p => W.getD p 0
def TM (W : List Nat) (v : Lp) (k : Nat) : List Nat := (List.range (W.length / 2)).filter fun j => decide ((LS W v).count j = k)
theorem OV_low {W : List Nat} (h : Wd W) {v : Lp} (hv : v.1 < W.length / 2) : ∀ p ∈ OV W v, p < W.length := fun p hp => by
  have P := pl_fs h hv
  exact ov_low P.low.2 P.lt p hp
theorem IN_sub {W : List Nat} {v : Lp} : ∀ p ∈ IN W v, p ∈ OV W v := fun p hp => List.mem_of_mem_tail (List.dropLast_subset _ hp)
theorem OV_len {W : List Nat} (h : Wd W) {v : Lp} (hv : v.1 < W.length / 2) : (OV W v).length ≤ W.length + 1 ∧ 2 ≤ (OV W v).length := by
  have P := pl_fs h hv
  have lo := P.low
  have lt := P.lt
  unfold OV
  rw [ov_len lo.2 lt]
  obtain ⟨v1, t⟩ := v
  simp only at lo lt ⊢
  cases t with
  | true => simp only [if_true]; omega
  | false => simp only [Bool.false_eq_true, if_false]; omega
theorem IN_len {W : List Nat} (h : Wd W) {v : Lp} (hv : v.1 < W.length / 2) : (IN W v).length ≤ 20 := by
  have := OV_len h hv
  have few := h.few
  unfold IN
  rw [List.length_dropLast, List.length_tail]
  omega
theorem cut_inn {xs : List PyData} : cutP xs (some 1) (some (-1)) = xs.tail.dropLast := by
  unfold cutP
  have e1 : HT.sIx xs.length 0 (some 1) = min 1 xs.length := HT.sIx_nat _ _ 1
  have e2 : HT.sIx xs.length xs.length (some (-1)) = xs.length - 1 := by
    show (if (-1 : Int) < 0 then ((-1 : Int) + (xs.length : Int)).toNat else min (-1 : Int).toNat xs.length) = xs.length - 1
    rw [if_pos (by decide)]
    omega
  rw [e1, e2, List.dropLast_eq_take, List.length_tail]
  cases xs with
  | nil => rfl
  | cons x xs => simp
theorem cnt_ls {ls : List Nat} {j : Nat} : countD (ls.map iN) [.py (iN j)] = some (ofI ((ls.count j : Nat) : Int)) := by
  have ok : okDp (iN j) = true := rfl
  unfold countD
  simp only [ok, if_true]
  rw [List.countP_map, cnt_map']
theorem TM_len {W : List Nat} (h : Wd W) {v : Lp} {k : Nat} : (TM W v k).length ≤ 10 := by
  have few := h.few
  unfold TM
  refine Nat.le_trans (List.length_filter_le _ _) ?_
  rw [List.length_range]
  omega

theorem lc_lets {C : Ct} {it : I} {W X : List Nat} {s1 : Sl} (hI : evI C it [.fr (.py (tW W)), s1, .no, .no] = some (X.map iN, [.fr (.py (tW W)), s1, .no, .no])) (hX : ∀ p ∈ X, p < W.length) (hl : X.length ≤ 40) :
    evE C (.lc [2, 3] [3] true it .yes (.ix (.pk 0) (.pk 3))) [.fr (.py (tW W)), s1, .no, .no] = some (.fe (.py (.list ((X.map fun p => W.getD p 0).map iN))), [.fr (.py (tW W)), s1, .no, .no]) := by
  rw [lc_map (fun v => match v with
    | .int p => iN (W.getD p.toNat 0)
    | v => v) (st' := [.fr (.py (tW W)), s1, .no, .no]) (xs := X.map iN) hI rfl (lim_ok (by rw [List.length_map]; omega)) fun z hz => ?_]
  · rw [List.map_map, List.map_map]
    rfl
  · obtain ⟨p, hp, rfl⟩ := List.mem_map.mp hz
    have lp := hX p hp
    have it : item (.py (tW W)) (.py (iN p)) = some (.py (iN W[p])) := (item_nat (xs := W.map iN) (k := p) (p := iN W[p]) (by rw [List.getElem?_map, List.getElem?_eq_getElem lp] <;> rfl)).1
    have eg : W.getD p 0 = W[p] := by rw [List.getD_eq_getElem?_getD, List.getElem?_eq_getElem lp]; rfl
    refine ⟨[.fr (.py (tW W)), s1, .no, .fr (.py (iN p))], .va (.py (iN W[p])), [.fr (.py (tW W)), s1, .no, .fr (.py (iN p))], rfl, ?_, by simp only [Int.toNat_natCast, eg]; rfl, rfl⟩
    generalize tW W = W1 at it ⊢
    simp [it]

theorem lc_letsL {C : Ct} {it : I} {W X : List Nat} {s1 : Sl} {s2 : Sl} {s3 : Sl} (hI : evI C it [.fr (.py (tW W)), s1, s2, s3, .no, .no, .no] = some (X.map iN, [.fr (.py (tW W)), s1, s2, s3, .no, .no, .no])) (hX : ∀ p ∈ X, p < W.length) (hl : X.length ≤ 40) :
    evE C (.lc [4, 5] [5] true it .yes (.ix (.pk 0) (.pk 5))) [.fr (.py (tW W)), s1, s2, s3, .no, .no, .no] = some (.fe (.py (.list ((X.map fun p => W.getD p 0).map iN))), [.fr (.py (tW W)), s1, s2, s3, .no, .no, .no]) := by
  rw [lc_map (fun v => match v with
    | .int p => iN (W.getD p.toNat 0)
    | v => v) (st' := [.fr (.py (tW W)), s1, s2, s3, .no, .no, .no]) (xs := X.map iN) hI rfl (lim_ok (by rw [List.length_map]; omega)) fun z hz => ?_]
  · rw [List.map_map, List.map_map]
    rfl
  · obtain ⟨p, hp, rfl⟩ := List.mem_map.mp hz
    have lp := hX p hp
    have it : item (.py (tW W)) (.py (iN p)) = some (.py (iN W[p])) := (item_nat (xs := W.map iN) (k := p) (p := iN W[p]) (by rw [List.getElem?_map, List.getElem?_eq_getElem lp] <;> rfl)).1
    have eg : W.getD p 0 = W[p] := by rw [List.getD_eq_getElem?_getD, List.getElem?_eq_getElem lp]; rfl
    refine ⟨[.fr (.py (tW W)), s1, s2, s3, .no, .fr (.py (iN p)), .no], .va (.py (iN W[p])), [.fr (.py (tW W)), s1, s2, s3, .no, .fr (.py (iN p)), .no], rfl, ?_, by simp only [Int.toNat_natCast, eg]; rfl, rfl⟩
    generalize tW W = W1 at it ⊢
    simp [it]

theorem lc_tms {C : Ct} {it : I} {W ls : List Nat} {k m : Nat} {s1 : Sl} (hI : evI C it [.fr (.py (tW W)), s1, .fr (.py (iN k)), .ow (.py (.list (ls.map iN))), .no, .no] = some ((List.range m).map iN, [.fr (.py (tW W)), s1, .fr (.py (iN k)), .ow (.py (.list (ls.map iN))), .no, .no])) (hm : m ≤ 40) :
    evE C (.lc [4, 5] [5] true it (.v (.cm .eq (.me .count (.pk 3) (.cons (.pk 5) .nil)) (.pk 2))) (.var 5)) [.fr (.py (tW W)), s1, .fr (.py (iN k)), .ow (.py (.list (ls.map iN))), .no, .no] = some (.fe (.py (.list (((List.range m).filter fun j => decide (ls.count j = k)).map iN))), [.fr (.py (tW W)), s1, .fr (.py (iN k)), .ow (.py (.list (ls.map iN))), .no, .no]) := by
  rw [lc_if (fun v => match v with
    | .int j => decide (ls.count j.toNat = k)
    | _ => false) (fun v => v) (st' := [.fr (.py (tW W)), s1, .fr (.py (iN k)), .ow (.py (.list (ls.map iN))), .no, .no]) (xs := (List.range m).map iN) hI rfl (lim_ok (by rw [List.length_map, List.length_range]; omega)) fun z hz => ?_, filt_map (q := fun j => decide (ls.count j = k)) _ fun j _ => by simp]
  · rw [List.map_id']
  · obtain ⟨j, hj, rfl⟩ := List.mem_map.mp hz
    have c := cnt_ls (ls := ls) (j := j)
    generalize hs : ([.fr (.py (tW W)), s1, .fr (.py (iN k)), .ow (.py (.list (ls.map iN))), .no, .fr (.py (iN j))] : En) = st1
    have w1 : wipe st1 [4, 5] = [.fr (.py (tW W)), s1, .fr (.py (iN k)), .ow (.py (.list (ls.map iN))), .no, .no] := by rw [← hs]; rfl
    have e2 : evT C (.v (.cm .eq (.me .count (.pk 3) (.cons (.pk 5) .nil)) (.pk 2))) st1 = some (decide (((ls.count j : Nat) : Int) = (k : Int)), st1) := by
      subst hs
      generalize ls.map iN = Y at c ⊢
      simp [c, D.tupD, D.lstD]
    have e3 : evE C (.var 5) st1 = some (.va (.py (iN j)), st1) := by
      subst hs
      rfl
    have d : decide (ls.count (j : Int).toNat = k) = decide (((ls.count j : Nat) : Int) = (k : Int)) := by
      rw [Int.toNat_natCast]
      simp only [decide_eq_decide]
      omega
    exact ⟨st1, st1, by rw [← hs]; rfl, by rw [e2]; simp only [d], fun _ => w1, fun _ => ⟨_, st1, e3, rfl, w1⟩⟩

theorem lc_tmsL {C : Ct} {it : I} {W ls : List Nat} {k m : Nat} {s1 : Sl} (hI : evI C it [.fr (.py (tW W)), s1, .fr (.py (iN k)), .ow (.py (.list (ls.map iN))), .no, .no, .no] = some ((List.range m).map iN, [.fr (.py (tW W)), s1, .fr (.py (iN k)), .ow (.py (.list (ls.map iN))), .no, .no, .no])) (hm : m ≤ 40) :
    evE C (.lc [4, 6] [6] true it (.v (.cm .eq (.me .count (.pk 3) (.cons (.pk 6) .nil)) (.pk 2))) (.var 6)) [.fr (.py (tW W)), s1, .fr (.py (iN k)), .ow (.py (.list (ls.map iN))), .no, .no, .no] = some (.fe (.py (.list (((List.range m).filter fun j => decide (ls.count j = k)).map iN))), [.fr (.py (tW W)), s1, .fr (.py (iN k)), .ow (.py (.list (ls.map iN))), .no, .no, .no]) := by
  rw [lc_if (fun v => match v with
    | .int j => decide (ls.count j.toNat = k)
    | _ => false) (fun v => v) (st' := [.fr (.py (tW W)), s1, .fr (.py (iN k)), .ow (.py (.list (ls.map iN))), .no, .no, .no]) (xs := (List.range m).map iN) hI rfl (lim_ok (by rw [List.length_map, List.length_range]; omega)) fun z hz => ?_, filt_map (q := fun j => decide (ls.count j = k)) _ fun j _ => by simp]
  · rw [List.map_id']
  · obtain ⟨j, hj, rfl⟩ := List.mem_map.mp hz
    have c := cnt_ls (ls := ls) (j := j)
    generalize hs : ([.fr (.py (tW W)), s1, .fr (.py (iN k)), .ow (.py (.list (ls.map iN))), .no, .no, .fr (.py (iN j))] : En) = st1
    have w1 : wipe st1 [4, 6] = [.fr (.py (tW W)), s1, .fr (.py (iN k)), .ow (.py (.list (ls.map iN))), .no, .no, .no] := by rw [← hs]; rfl
    have e2 : evT C (.v (.cm .eq (.me .count (.pk 3) (.cons (.pk 6) .nil)) (.pk 2))) st1 = some (decide (((ls.count j : Nat) : Int) = (k : Int)), st1) := by
      subst hs
      generalize ls.map iN = Y at c ⊢
      simp [c, D.tupD, D.lstD]
    have e3 : evE C (.var 6) st1 = some (.va (.py (iN j)), st1) := by
      subst hs
      rfl
    have d : decide (ls.count (j : Int).toNat = k) = decide (((ls.count j : Nat) : Int) = (k : Int)) := by
      rw [Int.toNat_natCast]
      simp only [decide_eq_decide]
      omega
    exact ⟨st1, st1, by rw [← hs]; rfl, by rw [e2]; simp only [d], fun _ => w1, fun _ => ⟨_, st1, e3, rfl, w1⟩⟩

section
variable {fu n : Nat} {W : List Nat} {v : Lp}
theorem r_many_of : run tab fu (n + 1) (Str.ofString "many_of") [.py (tW W)] = some (.py (.int ((W.length / 2 : Nat) : Int)), false, .py .none) := by
  have fd : op2 .fdiv (.py (.int (W.length : Int))) (.py (.int 2)) = some (ofI ((W.length / 2 : Nat) : Int)) := by rw [op_fdiv (by decide) (by decide)]; congr 2
  rw [run_of lk_many_of rfl]
  simp [F_many_of, enter, fd]
theorem sl_inn {C : Ct} {e : Ex} {st : En} {xs : List PyData} (h : evE C e st = some (.va (.py (.tuple xs)), st)) : evE C (.sl e (.so (.lit (.int (1)))) (.so (.neg (.lit (.int (1)))))) st = some (.va (.py (.tuple xs.tail.dropLast)), st) := by
  have c := cut_inn (xs := xs)
  rw [ev_sl, h]
  simp [sl_tupE, c]
theorem in_map {X : List Nat} : (X.map iN).tail.dropLast = X.tail.dropLast.map iN := by
  rw [← List.map_tail, List.map_dropLast]
theorem r_within_of (h : Wd W) (hv : v.1 < W.length / 2) : run tab fu (n + 3) (Str.ofString "within_of") [.py (tW W), .py (vA v)] = some (.py (tW (IN W v)), false, .py .none) := by
  have c1 := r_over_of (fu := fu) (n := n) (t := v.2) h (pl_fs h hv)
  have E : evE (tab.ct fu (run tab fu (n + 2))) (.cal (Str.ofString "over_of") [0, 1] (.cons (.var 0) (.cons (.var 1) .nil))) [.fr (.py (tW W)), .fr (.py (vA v))] = some (.va (.py (.tuple ((OV W v).map iN))), [.fr (.py (tW W)), .fr (.py (vA v))]) := by
    have c1' : run tab fu (n + 2) (Str.ofString "over_of") [.py (tW W), .py (vA v)] = some (.py (.tuple ((OV W v).map iN)), false, .py .none) := c1
    generalize tW W = W1 at c1' ⊢
    generalize vA v = l at c1' ⊢
    simp [call_pl (ct_io lk_over_of), c1']
  have z := sl_inn E
  rw [in_map] at z
  rw [run_of lk_within_of rfl]
  show ((exs (tab.ct fu (run tab fu (n + 2))) F_within_of.body [.fr (.py (tW W)), .fr (.py (vA v))]).bind _) = _
  rw [F_within_of, exs_cons, ex_ret, z]
  rfl
theorem r_letters_within (h : Wd W) (hv : v.1 < W.length / 2) : run tab fu (n + 4) (Str.ofString "letters_within") [.py (tW W), .py (vA v)] = some (.py (.list ((LS W v).map iN)), true, .py .none) := by
  have c1 := r_within_of (fu := fu) (n := n) h hv
  have I : evI (tab.ct fu (run tab fu (n + 3))) (.v (.cal (Str.ofString "within_of") [0, 1] (.cons (.var 0) (.cons (.var 1) .nil)))) [.fr (.py (tW W)), .fr (.py (vA v)), .no, .no] = some ((IN W v).map iN, [.fr (.py (tW W)), .fr (.py (vA v)), .no, .no]) := by
    have c1' : run tab fu (n + 3) (Str.ofString "within_of") [.py (tW W), .py (vA v)] = some (.py (.tuple ((IN W v).map iN)), false, .py .none) := c1
    generalize tW W = W1 at c1' ⊢
    generalize vA v = l at c1' ⊢
    simp [call_pl (ct_io lk_within_of), c1']
  have LC := lc_lets I (fun p hp => OV_low h hv p (IN_sub p hp)) (by have := IN_len h hv; omega)
  rw [run_of lk_letters_within rfl]
  show ((exs (tab.ct fu (run tab fu (n + 3))) F_letters_within.body [.fr (.py (tW W)), .fr (.py (vA v)), .no, .no]).bind _) = _
  rw [F_letters_within, exs_cons, ex_ret, LC]
  rfl
theorem r_times_within {k : Nat} (h : Wd W) (hv : v.1 < W.length / 2) : run tab fu (n + 5) (Str.ofString "times_within") [.py (tW W), .py (vA v), .py (.int (k : Int))] = some (.py (tW (TM W v k)), false, .py .none) := by
  have few := h.few
  have c1 := r_letters_within (fu := fu) (n := n) h hv
  have c2 := r_many_of (fu := fu) (n := n + 3) (W := W)
  have rg := rng_nat (k := W.length / 2) (by omega)
  have S1 : exS (tab.ct fu (run tab fu (n + 4))) (.asg 3 (.cal (Str.ofString "letters_within") [0, 1] (.cons (.var 0) (.cons (.var 1) .nil)))) [.fr (.py (tW W)), .fr (.py (vA v)), .fr (.py (iN k)), .no, .no, .no] = some (.nx, [.fr (.py (tW W)), .fr (.py (vA v)), .fr (.py (iN k)), .ow (.py (.list ((LS W v).map iN))), .no, .no]) := by
    generalize tW W = W1 at c1 ⊢
    generalize vA v = l at c1 ⊢
    generalize (LS W v).map iN = Y at c1 ⊢
    simp [call_pl (ct_io lk_letters_within), c1]
  have I : evI (tab.ct fu (run tab fu (n + 4))) (.rng (.cons (.cal (Str.ofString "many_of") [0] (.cons (.var 0) .nil)) .nil)) [.fr (.py (tW W)), .fr (.py (vA v)), .fr (.py (iN k)), .ow (.py (.list ((LS W v).map iN))), .no, .no] = some ((List.range (W.length / 2)).map iN, [.fr (.py (tW W)), .fr (.py (vA v)), .fr (.py (iN k)), .ow (.py (.list ((LS W v).map iN))), .no, .no]) := by
    generalize tW W = W1 at c2 ⊢
    generalize vA v = l
    generalize (LS W v).map iN = Y
    generalize W.length / 2 = m at c2 rg ⊢
    simp [call_pl (ct_io lk_many_of), c2, rg]
  have LC := lc_tms (ls := LS W v) (k := k) I (by omega)
  rw [run_of lk_times_within rfl]
  show ((exs (tab.ct fu (run tab fu (n + 4))) F_times_within.body [.fr (.py (tW W)), .fr (.py (vA v)), .fr (.py (iN k)), .no, .no, .no]).bind _) = _
  rw [F_times_within, exs_step S1, exs_cons, ex_ret, ev_bi, evs_cons, LC]
  rfl
theorem r_once_of (h : Wd W) (hv : v.1 < W.length / 2) : run tab fu (n + 6) (Str.ofString "once_of") [.py (tW W), .py (vA v)] = some (.py (tW (TM W v 1)), false, .py .none) := by
  have c1 := r_times_within (fu := fu) (n := n) (k := 1) h hv
  have c1' : run tab fu (n + 5) (Str.ofString "times_within") [.py (tW W), .py (vA v), .py (.int 1)] = some (.py (tW (TM W v 1)), false, .py .none) := c1
  rw [run_of lk_once_of rfl]
  generalize tW W = W1 at c1' ⊢
  generalize vA v = l at c1' ⊢
  generalize tW (TM W v 1) = Q at c1' ⊢
  simp [F_once_of, enter, call_pl (ct_io lk_times_within), c1']
theorem r_twice_of (h : Wd W) (hv : v.1 < W.length / 2) : run tab fu (n + 6) (Str.ofString "twice_of") [.py (tW W), .py (vA v)] = some (.py (tW (TM W v 2)), false, .py .none) := by
  have c1 := r_times_within (fu := fu) (n := n) (k := 2) h hv
  have c1' : run tab fu (n + 5) (Str.ofString "times_within") [.py (tW W), .py (vA v), .py (.int 2)] = some (.py (tW (TM W v 2)), false, .py .none) := c1
  rw [run_of lk_twice_of rfl]
  generalize tW W = W1 at c1' ⊢
  generalize vA v = l at c1' ⊢
  generalize tW (TM W v 2) = Q at c1' ⊢
  simp [F_twice_of, enter, call_pl (ct_io lk_times_within), c1']
end
end K55
end
section
namespace K55
open PySem Mi

abbrev lBody : Ss := (.cons (.ifs (.v (.cm .notin (.pk 3) (.pk 1))) (.cons (.setI 1 (.pk 3) (.bi .len (.cons (.pk 1) .nil))) .nil) .nil) (.cons (.app 2 (.ix (.pk 1) (.pk 3))) .nil))
theorem ev_lnI {C : Ct} {d : D} {kvs : List (L2.Key × PyData)} {x : Int} {r : PyData} {O : List PyData} (g : getK kvs (.inl x) = some r) (hl : O.length < lim) :
    exs C lBody [.fr d, .ow (.dct kvs), .ow (.py (.list O)), .fr (.py (.int x))] = some (.nx, [.fr d, .ow (.dct kvs), .ow (.py (.list (O ++ [r]))), .fr (.py (.int x))]) := by
  have c : cmp .notin (.py (.int x)) (.dct kvs) = some false := by
    show (keyP (.int x)).map (fun k => !(getK kvs k).isSome) = some false
    simp [keyP, g]
  simp [c, item, keyP, g, lstAt, hl]
theorem ev_lnN {C : Ct} {d : D} {kvs kvs' : List (L2.Key × PyData)} {x : Int} {r : PyData} {O : List PyData} (n : getK kvs (.inl x) = none) (h : putO (.dct kvs) (.py (.int x)) (.int kvs.length) = some (.dct kvs')) (g : getK kvs' (.inl x) = some r) (hl : O.length < lim) :
    exs C lBody [.fr d, .ow (.dct kvs), .ow (.py (.list O)), .fr (.py (.int x))] = some (.nx, [.fr d, .ow (.dct kvs'), .ow (.py (.list (O ++ [r]))), .fr (.py (.int x))]) := by
  have c : cmp .notin (.py (.int x)) (.dct kvs) = some true := by
    show (keyP (.int x)).map (fun k => !(getK kvs k).isSome) = some true
    simp [keyP, n]
  simp [c, objAt, h, item, keyP, g, lstAt, hl, len_dct]
theorem ev_lnames {C : Ct} {d : D} (W : List Nat) (hl : W.length ≤ 1000) : ∃ u, frL (fun x s => (bindT [3] true x s).bind (exs C lBody)) (W.map iN) [.fr d, .ow (.dct []), .ow (.py (.list [])), .no] = some (.nx, [.fr d, .ow (.dct (kv 0 (Nm.seen W))), .ow (.py (.list ((Nm.nm W).map iN))), u]) := by
  obtain ⟨s', e, u, hu⟩ := frL_J (f := fun x s => (bindT [3] true x s).bind (exs C lBody)) (fun k s => ∃ u, s = [.fr d, .ow (.dct (kv 0 (Nm.seen (W.take k)))), .ow (.py (.list ((Nm.nm (W.take k)).map iN))), u]) (W.map iN) 0 [.fr d, .ow (.dct []), .ow (.py (.list [])), .no] ⟨.no, rfl⟩ (by
    rintro j v s hv ⟨u, rfl⟩
    rw [Nat.zero_add]
    have hj : j < W.length := by have := (List.getElem?_eq_some_iff.mp hv).1; simpa using this
    have ev : v = iN W[j] := by
      rw [List.getElem?_map, List.getElem?_eq_getElem hj] at hv
      exact (Option.some.inj hv).symm
    subst ev
    have tk : W.take (j + 1) = W.take j ++ [W[j]] := by rw [List.take_succ, List.getElem?_eq_getElem hj]; rfl
    have sl : (Nm.seen (W.take j)).length ≤ 1000 := by
      have h1 : ∀ L : List Nat, (Nm.seen L).length ≤ L.length := fun L => by
        refine Nm.snocR (P := fun L => (Nm.seen L).length ≤ L.length) (by simp [Nm.seen, Nm.nmF]) (fun L y ih => ?_) L
        rw [Nm.seen_snoc]
        split
        · rw [List.length_append]; omega
        · rw [List.length_append, List.length_append]; simpa using ih
      have := h1 (W.take j)
      rw [List.length_take] at this
      omega
    refine ⟨_, .nx, ?_, .inl rfl, .fr (.py (iN W[j])), rfl⟩
    rw [bind_one, Option.bind_some, tk, Nm.nm_snoc, Nm.seen_snoc, List.map_append]
    generalize Nm.seen (W.take j) = sn at sl ⊢
    have hO : ((Nm.nm (W.take j)).map iN).length < lim := lim_lt (by rw [List.length_map, Nm.nm_len, List.length_take]; omega)
    generalize (Nm.nm (W.take j)).map iN = O at hO ⊢
    generalize W[j] = x
    have kl : (kv 0 sn).length < lim := lim_lt (by rw [kv_len]; exact sl)
    by_cases hx : x ∈ sn
    · rw [if_pos hx]
      exact ev_lnI (get_kv sn 0 x hx |>.trans (by rw [Nat.zero_add])) hO
    · rw [if_neg hx]
      refine ev_lnN (kvs' := kv 0 (sn ++ [x])) (no_kv sn 0 x hx).1 ?_ ?_ hO
      · show (if (kv 0 sn).length < lim then some (D.dct (putKd (kv 0 sn) (.inl (x : Int)) (.int ((kv 0 sn).length : Int)))) else none) = _
        rw [if_pos kl, kv_len, put_kv hx]
      · rw [get_kv (sn ++ [x]) 0 x (by simp), Nat.zero_add])
  rw [Nat.zero_add, List.length_map, List.take_length] at hu
  exact ⟨u, by rw [e, hu]⟩
theorem ev_lrel {C : Ct} (W : List Nat) (hl : W.length ≤ 1000) {d : D} (hd : d = .py (tW W) ∨ d = .py (.list (W.map iN))) : ∃ st, exs C F__law_named.body [.fr d, .no, .no, .no] = some (.rt (.py (tW (Nm.nm W))) false, st) := by
  obtain ⟨u, e⟩ := ev_lnames (C := C) (d := d) W hl
  have I : evI C (.v (.var 0)) [.fr d, .ow (.dct []), .ow (.py (.list [])), .no] = some (W.map iN, [.fr d, .ow (.dct []), .ow (.py (.list [])), .no]) := by
    rcases hd with rfl | rfl <;> simp
  have S1 : exS C (.par [1, 2] (.cons .dct0 (.cons (.lst .nil) .nil))) [.fr d, .no, .no, .no] = some (.nx, [.fr d, .ow (.dct []), .ow (.py (.list [])), .no]) := by simp
  have S2 : exS C (.fr [3] true (.v (.var 0)) lBody) [.fr d, .ow (.dct []), .ow (.py (.list [])), .no] = some (.nx, [.fr d, .ow (.dct (kv 0 (Nm.seen W))), .ow (.py (.list ((Nm.nm W).map iN))), u]) := by
    rw [ex_fr, I, Option.bind_some]
    exact e
  refine ⟨[.fr d, .ow (.dct (kv 0 (Nm.seen W))), .ow (.py (.list ((Nm.nm W).map iN))), u], ?_⟩
  rw [show F__law_named.body = .cons (.par [1, 2] (.cons .dct0 (.cons (.lst .nil) .nil))) (.cons (.fr [3] true (.v (.var 0)) lBody) (.cons (.ret (.bi .tuple (.cons (.pk 2) .nil))) .nil)) from rfl, exs_cons, S1, Option.bind_some]
  simp only
  rw [exs_cons, S2, Option.bind_some]
  simp
section
variable {fu n : Nat} {W : List Nat}
theorem r_lnamed (hl : W.length ≤ 1000) {d : D} (hd : d = .py (tW W) ∨ d = .py (.list (W.map iN))) : run tab fu (n + 1) (Str.ofString "_law_named") [d] = some (.py (tW (Nm.nm W)), false, .py .none) := by
  obtain ⟨st, e⟩ := ev_lrel (C := tab.ct fu (run tab fu n)) W hl hd
  rw [run_of lk__law_named rfl]
  show ((exs (tab.ct fu (run tab fu n)) F__law_named.body [.fr d, .no, .no, .no]).bind _) = _
  rw [e]
  rfl
end

/-! ### words of loops, simple ones -/
def WL (W : List Nat) (v : Lp) : List Nat := Nm.nm ((LS W v).filter fun x => decide (x ∈ TM W v 2))
theorem has_T {C : Ct} {x : Nat} {T : List Nat} : cmp .isin (.py (iN x)) (.py (tW T)) = some (decide (x ∈ T)) := by
  have ok : okDp (iN x) = true := rfl
  show (if okDp (iN x) then some (hasB (iN x) (T.map iN)) else none) = _
  rw [ok, has_nat]
  rfl
section
variable {fu n : Nat} {W : List Nat} {v : Lp}
theorem r_word_of_loop (h : Wd W) (hv : v.1 < W.length / 2) : run tab fu (n + 7) (Str.ofString "word_of_loop") [.py (tW W), .py (vA v)] = some (.py (tW (WL W v)), false, .py .none) := by
  have c1 := r_letters_within (fu := fu) (n := n + 2) h hv
  have c2 := r_twice_of (fu := fu) (n := n) h hv
  have il := IN_len h hv
  have ll : (LS W v).length ≤ 20 := by unfold LS; rw [List.length_map]; exact il
  have c3 := r_relabelled (fu := fu) (n := n + 5) (W := (LS W v).filter fun x => decide (x ∈ TM W v 2)) (d := .py (.list (((LS W v).filter fun x => decide (x ∈ TM W v 2)).map iN))) (Nat.le_trans (List.length_filter_le _ _) (by omega)) (.inr rfl)
  have S1 : exS (tab.ct fu (run tab fu (n + 6))) (.par [2, 3] (.cons (.cal (Str.ofString "letters_within") [0, 1] (.cons (.var 0) (.cons (.var 1) .nil))) (.cons (.cal (Str.ofString "twice_of") [0, 1] (.cons (.var 0) (.cons (.var 1) .nil))) .nil))) [.fr (.py (tW W)), .fr (.py (vA v)), .no, .no, .no, .no] = some (.nx, [.fr (.py (tW W)), .fr (.py (vA v)), .ow (.py (.list ((LS W v).map iN))), .fr (.py (tW (TM W v 2))), .no, .no]) := by
    generalize tW W = W1 at c1 c2 ⊢
    generalize vA v = l at c1 c2 ⊢
    generalize tW (TM W v 2) = T at c2 ⊢
    generalize (LS W v).map iN = Y at c1 ⊢
    simp [call_pl (ct_io lk_letters_within), call_pl (ct_io lk_twice_of), c1, c2]
  have LC : evE (tab.ct fu (run tab fu (n + 6))) (.lc [4, 5] [5] true (.v (.var 2)) (.v (.cm .isin (.pk 5) (.pk 3))) (.var 5)) [.fr (.py (tW W)), .fr (.py (vA v)), .ow (.py (.list ((LS W v).map iN))), .fr (.py (tW (TM W v 2))), .no, .no] = some (.fe (.py (.list (((LS W v).filter fun x => decide (x ∈ TM W v 2)).map iN))), [.fr (.py (tW W)), .fr (.py (vA v)), .fr (.py (.list ((LS W v).map iN))), .fr (.py (tW (TM W v 2))), .no, .no]) := by
    rw [lc_if (fun p => match p with
      | .int j => decide (j.toNat ∈ TM W v 2)
      | _ => false) (fun p => p) (st' := [.fr (.py (tW W)), .fr (.py (vA v)), .fr (.py (.list ((LS W v).map iN))), .fr (.py (tW (TM W v 2))), .no, .no]) (xs := (LS W v).map iN) (by simp) rfl (lim_ok (by rw [List.length_map]; omega)) fun z hz => ?_, filt_map (q := fun x => decide (x ∈ TM W v 2)) _ fun j _ => by simp]
    · rw [List.map_id']
    · obtain ⟨j, hj, rfl⟩ := List.mem_map.mp hz
      have c := has_T (C := tab.ct fu (run tab fu (n + 6))) (x := j) (T := TM W v 2)
      generalize hs : ([.fr (.py (tW W)), .fr (.py (vA v)), .fr (.py (.list ((LS W v).map iN))), .fr (.py (tW (TM W v 2))), .no, .fr (.py (iN j))] : En) = st1
      have w1 : wipe st1 [4, 5] = [.fr (.py (tW W)), .fr (.py (vA v)), .fr (.py (.list ((LS W v).map iN))), .fr (.py (tW (TM W v 2))), .no, .no] := by rw [← hs]; rfl
      have e2 : evT (tab.ct fu (run tab fu (n + 6))) (.v (.cm .isin (.pk 5) (.pk 3))) st1 = some (decide (j ∈ TM W v 2), st1) := by
        subst hs
        generalize tW (TM W v 2) = T at c ⊢
        generalize (LS W v).map iN = Y
        generalize decide (j ∈ TM W v 2) = q at c ⊢
        simp [c]
      have e3 : evE (tab.ct fu (run tab fu (n + 6))) (.var 5) st1 = some (.va (.py (iN j)), st1) := by
        subst hs
        rfl
      exact ⟨st1, st1, by rw [← hs]; rfl, by rw [e2]; rfl, fun _ => w1, fun _ => ⟨_, st1, e3, rfl, w1⟩⟩
  rw [run_of lk_word_of_loop rfl]
  show ((exs (tab.ct fu (run tab fu (n + 6))) F_word_of_loop.body [.fr (.py (tW W)), .fr (.py (vA v)), .no, .no, .no, .no]).bind _) = _
  rw [F_word_of_loop, exs_step S1, exs_cons, ex_ret, ev_cal, evs_cons, LC, Option.bind_some, evs_nil]
  unfold WL
  generalize ((LS W v).filter fun x => decide (x ∈ TM W v 2)).map iN = Y at c3 ⊢
  generalize tW (Nm.nm ((LS W v).filter fun x => decide (x ∈ TM W v 2))) = Q at c3 ⊢
  simp [call_pl (ct_io lk_relabelled), c3]
theorem r_is_simple_of (h : Wd W) (hv : v.1 < W.length / 2) : run tab fu (n + 7) (Str.ofString "is_simple_of") [.py (tW W), .py (vA v)] = some (.py (.bool (decide (TM W v 2 = []))), false, .py .none) := by
  have c2 := r_twice_of (fu := fu) (n := n) h hv
  have c := (cmp_tW (TM W v 2) []).1
  rw [run_of lk_is_simple_of rfl]
  have c' : cmp .eq (.py (tW (TM W v 2))) (.py (.tuple [])) = some (decide (TM W v 2 = [])) := c
  generalize tW W = W1 at c2 ⊢
  generalize vA v = l at c2 ⊢
  generalize decide (TM W v 2 = []) = q at c' ⊢
  generalize tW (TM W v 2) = T at c2 c' ⊢
  simp [F_is_simple_of, enter, call_pl (ct_io lk_twice_of), c2, c']
theorem r_loops_of (h : Wd W) : run tab fu (n + 2) (Str.ofString "loops_of") [.py (tW W)] = some (.py (.list ((Nm.vws (W.length / 2)).map vA)), true, .py .none) := by
  have few := h.few
  have c2 := r_many_of (fu := fu) (n := n) (W := W)
  have rg := rng_nat (k := W.length / 2) (by omega)
  obtain ⟨u, e⟩ := lp3 (C := tab.ct fu (run tab fu (n + 1))) (d := .py (tW W)) (m := W.length / 2) (by omega)
  rw [← allA_vws, run_of lk_loops_of rfl]
  show ((exs (tab.ct fu (run tab fu (n + 1))) F_loops_of.body [.fr (.py (tW W)), .no, .no]).bind _) = _
  have I : evI (tab.ct fu (run tab fu (n + 1))) (.rng (.cons (.cal (Str.ofString "many_of") [0] (.cons (.var 0) .nil)) .nil)) [.fr (.py (tW W)), .ow (.py (.list [])), .no] = some ((List.range (W.length / 2)).map iN, [.fr (.py (tW W)), .ow (.py (.list [])), .no]) := by
    generalize tW W = W1 at c2 ⊢
    generalize W.length / 2 = m at c2 rg ⊢
    simp [call_pl (ct_io lk_many_of), c2, rg]
  have S1 : exS (tab.ct fu (run tab fu (n + 1))) (.asg 1 (.lst .nil)) [.fr (.py (tW W)), .no, .no] = some (.nx, [.fr (.py (tW W)), .ow (.py (.list [])), .no]) := by simp
  rw [F_loops_of, exs_step S1, exs_cons, ex_fr, I, Option.bind_some, e]
  rfl
theorem r_lloops (h : Wd W) : run tab fu (n + 1) (Str.ofString "_law_loops") [.py (tW W)] = some (.py (.list ((Nm.vws (W.length / 2)).map vA)), true, .py .none) := by
  have few := h.few
  have rg := rng_nat (k := W.length / 2) (by omega)
  have fd : op2 .fdiv (.py (.int (W.length : Int))) (.py (.int 2)) = some (ofI ((W.length / 2 : Nat) : Int)) := by rw [op_fdiv (by decide) (by decide)]; congr 2
  obtain ⟨u, e⟩ := lp3 (C := tab.ct fu (run tab fu n)) (d := .py (tW W)) (m := W.length / 2) (by omega)
  rw [← allA_vws, run_of lk__law_loops rfl]
  show ((exs (tab.ct fu (run tab fu n)) F__law_loops.body [.fr (.py (tW W)), .no, .no]).bind _) = _
  have I : evI (tab.ct fu (run tab fu n)) (.rng (.cons (.op .fdiv (.bi .len (.cons (.pk 0) .nil)) (.lit (.int (2)))) .nil)) [.fr (.py (tW W)), .ow (.py (.list [])), .no] = some ((List.range (W.length / 2)).map iN, [.fr (.py (tW W)), .ow (.py (.list [])), .no]) := by
    generalize W.length / 2 = m at fd rg ⊢
    simp [fd, rg]
  have S1 : exS (tab.ct fu (run tab fu n)) (.asg 1 (.lst .nil)) [.fr (.py (tW W)), .no, .no] = some (.nx, [.fr (.py (tW W)), .ow (.py (.list [])), .no]) := by simp
  rw [F__law_loops, exs_step S1, exs_cons, ex_fr, I, Option.bind_some, e]
  rfl
def SM (W : List Nat) : List Lp := (Nm.vws (W.length / 2)).filter fun v => decide (TM W v 2 = [])
theorem vws_lp {W : List Nat} {v : Lp} (hv : v ∈ Nm.vws (W.length / 2)) : v.1 < W.length / 2 := Nm.mem_vws.mp hv
theorem vws_len (m : Nat) : (Nm.vws m).length = 2 * m := by
  have := allA_len (L := m)
  rw [allA_vws, List.length_map] at this
  exact this
theorem r_simple_of (h : Wd W) : run tab fu (n + 8) (Str.ofString "simple_of") [.py (tW W)] = some (.py (.list ((SM W).map vA)), true, .py .none) := by
  have few := h.few
  have c1 := r_loops_of (fu := fu) (n := n + 5) h
  have I : evI (tab.ct fu (run tab fu (n + 7))) (.v (.cal (Str.ofString "loops_of") [0] (.cons (.var 0) .nil))) [.fr (.py (tW W)), .no, .no] = some ((Nm.vws (W.length / 2)).map vA, [.fr (.py (tW W)), .no, .no]) := by
    generalize tW W = W1 at c1 ⊢
    generalize (Nm.vws (W.length / 2)).map vA = Y at c1 ⊢
    simp [call_pl (ct_io lk_loops_of), c1]
  have LC : evE (tab.ct fu (run tab fu (n + 7))) (.lc [1, 2] [2] true (.v (.cal (Str.ofString "loops_of") [0] (.cons (.var 0) .nil))) (.v (.cal (Str.ofString "is_simple_of") [0, 1] (.cons (.var 0) (.cons (.var 2) .nil)))) (.var 2)) [.fr (.py (tW W)), .no, .no] = some (.fe (.py (.list ((SM W).map vA))), [.fr (.py (tW W)), .no, .no]) := by
    rw [lc_if (fun p => match p with
      | .tuple [.int j, .bool t] => decide (TM W (j.toNat, t) 2 = [])
      | _ => false) (fun p => p) (st' := [.fr (.py (tW W)), .no, .no]) (xs := (Nm.vws (W.length / 2)).map vA) I rfl (lim_ok (by rw [List.length_map, vws_len]; omega)) fun z hz => ?_, filt_map (q := fun v => decide (TM W v 2 = [])) _ fun j _ => by simp]
    · rw [List.map_id']
      rfl
    · obtain ⟨v, hv, rfl⟩ := List.mem_map.mp hz
      have c := r_is_simple_of (fu := fu) (n := n) h (vws_lp hv)
      generalize hs : ([.fr (.py (tW W)), .no, .fr (.py (vA v))] : En) = st1
      have w1 : wipe st1 [1, 2] = [.fr (.py (tW W)), .no, .no] := by rw [← hs]; rfl
      have e2 : evT (tab.ct fu (run tab fu (n + 7))) (.v (.cal (Str.ofString "is_simple_of") [0, 1] (.cons (.var 0) (.cons (.var 2) .nil)))) st1 = some (decide (TM W v 2 = []), st1) := by
        subst hs
        generalize tW W = W1 at c ⊢
        generalize decide (TM W v 2 = []) = q at c ⊢
        generalize vA v = l at c ⊢
        simp [call_pl (ct_io lk_is_simple_of), c]
      have e3 : evE (tab.ct fu (run tab fu (n + 7))) (.var 2) st1 = some (.va (.py (vA v)), st1) := by
        subst hs
        rfl
      exact ⟨st1, st1, by rw [← hs]; rfl, by rw [e2]; rfl, fun _ => w1, fun _ => ⟨_, st1, e3, rfl, w1⟩⟩
  rw [run_of lk_simple_of rfl]
  show ((exs (tab.ct fu (run tab fu (n + 7))) F_simple_of.body [.fr (.py (tW W)), .no, .no]).bind _) = _
  rw [F_simple_of, exs_cons, ex_ret, LC]
  rfl
end
end K55
end
section
namespace K55
open PySem Mi

section
variable {fu n : Nat} {W : List Nat} {v : Lp} {i : Nat}
theorem r_is_letter_of (hi : i < W.length / 2) : run tab fu (n + 4) (Str.ofString "is_letter_of") [.py (tW W), .py (iN i)] = some (.py (.bool true), false, .py .none) := by
  have c1 := r_many_of (fu := fu) (n := n + 2) (W := W)
  have c2 := r_is_below (fu := fu) (n := n) (i := (i : Int)) (j := ((W.length / 2 : Nat) : Int))
  have d1 : decide ((0 : Int) ≤ (i : Int)) = true := decide_eq_true (by omega)
  have d2 : decide ((i : Int) < ((W.length / 2 : Nat) : Int)) = true := decide_eq_true (by omega)
  rw [d1, d2] at c2
  rw [run_of lk_is_letter_of rfl]
  generalize tW W = W1 at c1 ⊢
  generalize W.length / 2 = m at c1 c2
  simp [F_is_letter_of, enter, call_pl (ct_io lk_many_of), call_pl (ct_io lk_is_below), c1, c2]
theorem r_is_loop_of (hv : v.1 < W.length / 2) : run tab fu (n + 5) (Str.ofString "is_loop_of") [.py (tW W), .py (vA v)] = some (.py (.bool true), false, .py .none) := by
  have c1 := r_is_letter_of (fu := fu) (n := n) (W := W) (i := v.1) hv
  have c2 := r_is_row (fu := fu) (n := n + 3) (W := [iN v.1, .bool v.2]) (j := 2)
  have i0 : item (.py (vA v)) (.py (.int 0)) = some (.py (iN v.1)) := rfl
  have i1 : item (.py (vA v)) (.py (.int 1)) = some (.py (.bool v.2)) := rfl
  have ty : isTy (.bool v.2) .bool = true := rfl
  have c2' : run tab fu (n + 4) (Str.ofString "is_row") [.py (vA v), .py (.int 2)] = some (.py (.bool true), false, .py .none) := c2
  rw [run_of lk_is_loop_of rfl]
  generalize tW W = W1 at c1 ⊢
  generalize vA v = l at c2' i0 i1 ⊢
  simp [F_is_loop_of, enter, call_pl (ct_io lk_is_letter_of), call_pl (ct_io lk_is_row), c1, c2', i0, i1, ty]
theorem r_want_loop (hv : v.1 < W.length / 2) : run tab fu (n + 6) (Str.ofString "want_loop") [.py (tW W), .py (vA v)] = some (.py (vA v), false, .py .none) := by
  have c1 := r_is_loop_of (fu := fu) (n := n) (W := W) hv
  rw [run_of lk_want_loop rfl]
  generalize tW W = W1 at c1 ⊢
  generalize vA v = l at c1 ⊢
  simp [F_want_loop, enter, call_pl (ct_io lk_is_loop_of), c1]
theorem r_want_letter (hi : i < W.length / 2) : run tab fu (n + 5) (Str.ofString "want_letter") [.py (tW W), .py (iN i)] = some (.py (iN i), false, .py .none) := by
  have c1 := r_is_letter_of (fu := fu) (n := n) (W := W) hi
  rw [run_of lk_want_letter rfl]
  generalize tW W = W1 at c1 ⊢
  generalize iN i = l at c1 ⊢
  simp [F_want_letter, enter, call_pl (ct_io lk_is_letter_of), c1]
theorem r_is_loop (h : Wd W) (hv : v.1 < W.length / 2) : run tab fu (n + 6) (Str.ofString "is_loop") [.py (tW W), .py (vA v)] = some (.py (.bool true), false, .py .none) := by
  have c1 := r_is_loop_of (fu := fu) (n := n) (W := W) hv
  have c2 := r_want_word (fu := fu) (n := n) h
  rw [run_of lk_is_loop rfl]
  generalize tW W = W1 at c1 c2 ⊢
  generalize vA v = l at c1 ⊢
  simp [F_is_loop, enter, call_pl (ct_io lk_is_loop_of), call_pl (ct_io lk_want_word), c1, c2]
theorem r_gone_over (h : Wd W) (hv : v.1 < W.length / 2) : run tab fu (n + 8) (Str.ofString "gone_over") [.py (tW W), .py (vA v)] = some (.py (tW (OV W v)), false, .py .none) := by
  have c1 : run tab fu (n + 7) (Str.ofString "over_of") [.py (tW W), .py (vA v)] = some (.py (tW (OV W v)), false, .py .none) := r_over_of (fu := fu) (n := n + 5) (t := v.2) h (pl_fs h hv)
  have c2 := r_want_word (fu := fu) (n := n + 2) h
  have c3 := r_want_loop (fu := fu) (n := n + 1) (W := W) hv
  rw [run_of lk_gone_over rfl]
  generalize hR : (tW (OV W v) : PyData) = R at c1 ⊢
  generalize tW W = W1 at c1 c2 c3 ⊢
  generalize vA v = l at c1 c3 ⊢
  simp [F_gone_over, enter, call_pl (ct_io lk_over_of), call_pl (ct_io lk_want_word), call_pl (ct_io lk_want_loop), c1, c2, c3]
theorem r_within (h : Wd W) (hv : v.1 < W.length / 2) : run tab fu (n + 8) (Str.ofString "within") [.py (tW W), .py (vA v)] = some (.py (tW (IN W v)), false, .py .none) := by
  have c1 : run tab fu (n + 7) (Str.ofString "within_of") [.py (tW W), .py (vA v)] = some (.py (tW (IN W v)), false, .py .none) := r_within_of (fu := fu) (n := n + 4) h hv
  have c2 := r_want_word (fu := fu) (n := n + 2) h
  have c3 := r_want_loop (fu := fu) (n := n + 1) (W := W) hv
  rw [run_of lk_within rfl]
  generalize hR : (tW (IN W v) : PyData) = R at c1 ⊢
  generalize tW W = W1 at c1 c2 c3 ⊢
  generalize vA v = l at c1 c3 ⊢
  simp [F_within, enter, call_pl (ct_io lk_within_of), call_pl (ct_io lk_want_word), call_pl (ct_io lk_want_loop), c1, c2, c3]
theorem r_once_within (h : Wd W) (hv : v.1 < W.length / 2) : run tab fu (n + 8) (Str.ofString "once_within") [.py (tW W), .py (vA v)] = some (.py (tW (TM W v 1)), false, .py .none) := by
  have c1 : run tab fu (n + 7) (Str.ofString "once_of") [.py (tW W), .py (vA v)] = some (.py (tW (TM W v 1)), false, .py .none) := r_once_of (fu := fu) (n := n + 1) h hv
  have c2 := r_want_word (fu := fu) (n := n + 2) h
  have c3 := r_want_loop (fu := fu) (n := n + 1) (W := W) hv
  rw [run_of lk_once_within rfl]
  generalize hR : (tW (TM W v 1) : PyData) = R at c1 ⊢
  generalize tW W = W1 at c1 c2 c3 ⊢
  generalize vA v = l at c1 c3 ⊢
  simp [F_once_within, enter, call_pl (ct_io lk_once_of), call_pl (ct_io lk_want_word), call_pl (ct_io lk_want_loop), c1, c2, c3]
theorem r_twice_within (h : Wd W) (hv : v.1 < W.length / 2) : run tab fu (n + 8) (Str.ofString "twice_within") [.py (tW W), .py (vA v)] = some (.py (tW (TM W v 2)), false, .py .none) := by
  have c1 : run tab fu (n + 7) (Str.ofString "twice_of") [.py (tW W), .py (vA v)] = some (.py (tW (TM W v 2)), false, .py .none) := r_twice_of (fu := fu) (n := n + 1) h hv
  have c2 := r_want_word (fu := fu) (n := n + 2) h
  have c3 := r_want_loop (fu := fu) (n := n + 1) (W := W) hv
  rw [run_of lk_twice_within rfl]
  generalize hR : (tW (TM W v 2) : PyData) = R at c1 ⊢
  generalize tW W = W1 at c1 c2 c3 ⊢
  generalize vA v = l at c1 c3 ⊢
  simp [F_twice_within, enter, call_pl (ct_io lk_twice_of), call_pl (ct_io lk_want_word), call_pl (ct_io lk_want_loop), c1, c2, c3]
theorem r_loop_word (h : Wd W) (hv : v.1 < W.length / 2) : run tab fu (n + 8) (Str.ofString "loop_word") [.py (tW W), .py (vA v)] = some (.py (tW (WL W v)), false, .py .none) := by
  have c1 : run tab fu (n + 7) (Str.ofString "word_of_loop") [.py (tW W), .py (vA v)] = some (.py (tW (WL W v)), false, .py .none) := r_word_of_loop (fu := fu) (n := n) h hv
  have c2 := r_want_word (fu := fu) (n := n + 2) h
  have c3 := r_want_loop (fu := fu) (n := n + 1) (W := W) hv
  rw [run_of lk_loop_word rfl]
  generalize hR : (tW (WL W v) : PyData) = R at c1 ⊢
  generalize tW W = W1 at c1 c2 c3 ⊢
  generalize vA v = l at c1 c3 ⊢
  simp [F_loop_word, enter, call_pl (ct_io lk_word_of_loop), call_pl (ct_io lk_want_word), call_pl (ct_io lk_want_loop), c1, c2, c3]
theorem r_is_simple (h : Wd W) (hv : v.1 < W.length / 2) : run tab fu (n + 8) (Str.ofString "is_simple") [.py (tW W), .py (vA v)] = some (.py (.bool (decide (TM W v 2 = []))), false, .py .none) := by
  have c1 : run tab fu (n + 7) (Str.ofString "is_simple_of") [.py (tW W), .py (vA v)] = some (.py (.bool (decide (TM W v 2 = []))), false, .py .none) := r_is_simple_of (fu := fu) (n := n) h hv
  have c2 := r_want_word (fu := fu) (n := n + 2) h
  have c3 := r_want_loop (fu := fu) (n := n + 1) (W := W) hv
  rw [run_of lk_is_simple rfl]
  generalize hR : (.bool (decide (TM W v 2 = [])) : PyData) = R at c1 ⊢
  generalize tW W = W1 at c1 c2 c3 ⊢
  generalize vA v = l at c1 c3 ⊢
  simp [F_is_simple, enter, call_pl (ct_io lk_is_simple_of), call_pl (ct_io lk_want_word), call_pl (ct_io lk_want_loop), c1, c2, c3]
theorem r_all_loops (h : Wd W) : run tab fu (n + 9) (Str.ofString "all_loops") [.py (tW W)] = some (.py (.list ((Nm.vws (W.length / 2)).map vA)), true, .py .none) := by
  have c1 : run tab fu (n + 8) (Str.ofString "loops_of") [.py (tW W)] = some (.py (.list ((Nm.vws (W.length / 2)).map vA)), true, .py .none) := r_loops_of (fu := fu) (n := n + 6) h
  have c2 := r_want_word (fu := fu) (n := n + 3) h
  rw [run_of lk_all_loops rfl]
  generalize hR : (.list ((Nm.vws (W.length / 2)).map vA) : PyData) = R at c1 ⊢
  generalize tW W = W1 at c1 c2 ⊢
  simp [F_all_loops, enter, call_pl (ct_io lk_loops_of), call_pl (ct_io lk_want_word), c1, c2]
theorem r_simple_loops (h : Wd W) : run tab fu (n + 9) (Str.ofString "simple_loops") [.py (tW W)] = some (.py (.list ((SM W).map vA)), true, .py .none) := by
  have c1 : run tab fu (n + 8) (Str.ofString "simple_of") [.py (tW W)] = some (.py (.list ((SM W).map vA)), true, .py .none) := r_simple_of (fu := fu) (n := n) h
  have c2 := r_want_word (fu := fu) (n := n + 3) h
  rw [run_of lk_simple_loops rfl]
  generalize hR : (.list ((SM W).map vA) : PyData) = R at c1 ⊢
  generalize tW W = W1 at c1 c2 ⊢
  simp [F_simple_loops, enter, call_pl (ct_io lk_simple_of), call_pl (ct_io lk_want_word), c1, c2]

def NE (W : List Nat) (i : Nat) : List Nat := (List.range (W.length / 2)).filter fun j => decide ((btw W (fp W i) (sp W i)).count j = 1)
abbrev nS (W : List Nat) (k : Nat) (u w : Sl) : En := [.fr (.py (tW W)), .ow (.py (.list ((List.range k).map fun i => tW (NE W i)))), u, w, .no, .no]
abbrev nB : Ss := (.cons (.asg 3 (.cal (Str.ofString "between_of") [0, 1] (.cons (.var 0) (.cons (.var 2) .nil)))) (.cons (.app 1 (.bi .tuple (.cons (.lc [4, 5] [5] true (.rng (.cons (.cal (Str.ofString "many_of") [0] (.cons (.var 0) .nil)) .nil)) (.v (.cm .eq (.me .count (.pk 3) (.cons (.pk 5) .nil)) (.lit (.int (1))))) (.var 5)) .nil))) .nil))
theorem n_turn {u w : Sl} (h : Wd W) (hi : i < W.length / 2) : exs (tab.ct fu (run tab fu (n + 2))) nB (nS W i (.fr (.py (iN i))) w) = some (.nx, nS W (i + 1) (.fr (.py (iN i))) (.fr (.py (tW (btw W (fp W i) (sp W i)))))) := by
  have few := h.few
  have c1 := r_between_of (fu := fu) (n := n) h (pl_fs h hi)
  have c2 := r_many_of (fu := fu) (n := n + 1) (W := W)
  have rg := rng_nat (k := W.length / 2) (by omega)
  have S1 : exS (tab.ct fu (run tab fu (n + 2))) (.asg 3 (.cal (Str.ofString "between_of") [0, 1] (.cons (.var 0) (.cons (.var 2) .nil)))) (nS W i (.fr (.py (iN i))) w) = some (.nx, nS W i (.fr (.py (iN i))) (.fr (.py (tW (btw W (fp W i) (sp W i)))))) := by
    unfold nS
    generalize (List.range i).map (fun i => tW (NE W i)) = Y
    generalize tW W = W1 at c1 ⊢
    generalize tW (btw W (fp W i) (sp W i)) = B at c1 ⊢
    simp [call_pl (ct_io lk_between_of), c1]
  have LC : evE (tab.ct fu (run tab fu (n + 2))) (.lc [4, 5] [5] true (.rng (.cons (.cal (Str.ofString "many_of") [0] (.cons (.var 0) .nil)) .nil)) (.v (.cm .eq (.me .count (.pk 3) (.cons (.pk 5) .nil)) (.lit (.int (1))))) (.var 5)) (nS W i (.fr (.py (iN i))) (.fr (.py (tW (btw W (fp W i) (sp W i)))))) = some (.fe (.py (.list ((NE W i).map iN))), nS W i (.fr (.py (iN i))) (.fr (.py (tW (btw W (fp W i) (sp W i)))))) := by
    rw [lc_if (fun v => match v with
      | .int j => decide ((btw W (fp W i) (sp W i)).count j.toNat = 1)
      | _ => false) (fun v => v) (st' := nS W i (.fr (.py (iN i))) (.fr (.py (tW (btw W (fp W i) (sp W i)))))) (xs := (List.range (W.length / 2)).map iN) (by
        unfold nS
        generalize (List.range i).map (fun i => tW (NE W i)) = Y
        generalize tW (btw W (fp W i) (sp W i)) = B
        generalize tW W = W1 at c2 ⊢
        generalize W.length / 2 = m at c2 rg ⊢
        simp [call_pl (ct_io lk_many_of), c2, rg]) rfl (lim_ok (by rw [List.length_map, List.length_range]; omega)) fun z hz => ?_, filt_map (q := fun j => decide ((btw W (fp W i) (sp W i)).count j = 1)) _ fun j _ => by simp]
    · rw [List.map_id']
      rfl
    · obtain ⟨j, hj, rfl⟩ := List.mem_map.mp hz
      have c := cnt_ls (ls := btw W (fp W i) (sp W i)) (j := j)
      generalize hs : ([.fr (.py (tW W)), .ow (.py (.list ((List.range i).map fun i => tW (NE W i)))), .fr (.py (iN i)), .fr (.py (tW (btw W (fp W i) (sp W i)))), .no, .fr (.py (iN j))] : En) = st1
      have w1 : wipe st1 [4, 5] = nS W i (.fr (.py (iN i))) (.fr (.py (tW (btw W (fp W i) (sp W i))))) := by rw [← hs]; rfl
      have e2 : evT (tab.ct fu (run tab fu (n + 2))) (.v (.cm .eq (.me .count (.pk 3) (.cons (.pk 5) .nil)) (.lit (.int (1))))) st1 = some (decide ((((btw W (fp W i) (sp W i)).count j : Nat) : Int) = 1), st1) := by
        subst hs
        show evT _ _ [_, _, _, .fr (.py (.tuple ((btw W (fp W i) (sp W i)).map iN))), _, _] = some (_, [_, _, _, .fr (.py (.tuple ((btw W (fp W i) (sp W i)).map iN))), _, _])
        generalize (List.range i).map (fun i => tW (NE W i)) = Y
        generalize tW W = W1
        generalize (btw W (fp W i) (sp W i)).count j = q at c ⊢
        generalize (btw W (fp W i) (sp W i)).map iN = B at c ⊢
        simp [c, D.tupD, D.lstD]
      have e3 : evE (tab.ct fu (run tab fu (n + 2))) (.var 5) st1 = some (.va (.py (iN j)), st1) := by
        subst hs
        rfl
      have d : decide ((btw W (fp W i) (sp W i)).count (j : Int).toNat = 1) = decide ((((btw W (fp W i) (sp W i)).count j : Nat) : Int) = 1) := by
        rw [Int.toNat_natCast]
        simp only [decide_eq_decide]
        omega
      exact ⟨st1, st1, by rw [← hs]; rfl, by rw [e2]; simp only [d], fun _ => w1, fun _ => ⟨_, st1, e3, rfl, w1⟩⟩
  have la : ∀ u w, lstAt (nS W i u w) 1 = some ((List.range i).map (fun i => tW (NE W i)), .ow) := fun _ _ => rfl
  have lt' : ((List.range i).map fun i => tW (NE W i)).length < lim := lim_lt (by rw [List.length_map, List.length_range]; omega)
  have E : evE (tab.ct fu (run tab fu (n + 2))) (.bi .tuple (.cons (.lc [4, 5] [5] true (.rng (.cons (.cal (Str.ofString "many_of") [0] (.cons (.var 0) .nil)) .nil)) (.v (.cm .eq (.me .count (.pk 3) (.cons (.pk 5) .nil)) (.lit (.int (1))))) (.var 5)) .nil)) (nS W i (.fr (.py (iN i))) (.fr (.py (tW (btw W (fp W i) (sp W i)))))) = some (.va (.py (tW (NE W i))), nS W i (.fr (.py (iN i))) (.fr (.py (tW (btw W (fp W i) (sp W i)))))) := by
    rw [ev_bi, evs_cons, LC, Option.bind_some, evs_nil]
    simp only [Option.bind_some, Option.map_some, rds_cons, rds_nil, rd_fe, tup_lst]
  have e2 : (List.range (i + 1)).map (fun i => tW (NE W i)) = (List.range i).map (fun i => tW (NE W i)) ++ [tW (NE W i)] := by rw [List.range_succ, List.map_append]; rfl
  rw [exs_step S1, exs_cons, ex_app, la, Option.bind_some, E, Option.bind_some, val_va, Option.bind_some, pyd_py, Option.bind_some, la, Option.bind_some]
  rw [if_pos lt', ← e2]
  rfl
theorem r_near_of (h : Wd W) : run tab fu (n + 3) (Str.ofString "near_of") [.py (tW W)] = some (.py (.list ((List.range (W.length / 2)).map fun i => tW (NE W i))), true, .py .none) := by
  have few := h.few
  have c2 := r_many_of (fu := fu) (n := n + 1) (W := W)
  have rg := rng_nat (k := W.length / 2) (by omega)
  have I : evI (tab.ct fu (run tab fu (n + 2))) (.rng (.cons (.cal (Str.ofString "many_of") [0] (.cons (.var 0) .nil)) .nil)) (nS W 0 .no .no) = some ((List.range (W.length / 2)).map iN, nS W 0 .no .no) := by
    unfold nS
    generalize (List.range 0).map (fun i => tW (NE W i)) = Y
    generalize tW W = W1 at c2 ⊢
    generalize W.length / 2 = m at c2 rg ⊢
    simp [call_pl (ct_io lk_many_of), c2, rg]
  obtain ⟨s', e, u, w, rfl⟩ := frL_J (f := fun q s => (bindT [2] true q s).bind (exs (tab.ct fu (run tab fu (n + 2))) nB)) (fun k s => ∃ u w, s = nS W k u w) ((List.range (W.length / 2)).map iN) 0 (nS W 0 .no .no) ⟨.no, .no, rfl⟩ (by
    rintro j q s hq ⟨u, w, rfl⟩
    have hj : j < W.length / 2 := by have := (List.getElem?_eq_some_iff.mp hq).1; simpa using this
    have eq : q = iN j := by
      rw [List.getElem?_map, List.getElem?_range hj] at hq
      exact (Option.some.inj hq).symm
    subst eq
    refine ⟨_, .nx, ?_, .inl rfl, .fr (.py (iN j)), .fr (.py (tW (btw W (fp W j) (sp W j)))), rfl⟩
    rw [bind_one, Option.bind_some, Nat.zero_add]
    exact n_turn (u := u) h hj)
  rw [List.length_map, List.length_range, Nat.zero_add] at e
  rw [run_of lk_near_of rfl]
  show ((exs (tab.ct fu (run tab fu (n + 2))) F_near_of.body [.fr (.py (tW W)), .no, .no, .no, .no, .no]).bind _) = _
  have S0 : exS (tab.ct fu (run tab fu (n + 2))) (.asg 1 (.lst .nil)) [.fr (.py (tW W)), .no, .no, .no, .no, .no] = some (.nx, nS W 0 .no .no) := by simp
  rw [F_near_of, exs_step S0, exs_cons, ex_fr, I, Option.bind_some, e]
  rfl
theorem r_near (h : Wd W) (hi : i < W.length / 2) : run tab fu (n + 6) (Str.ofString "near") [.py (tW W), .py (iN i)] = some (.py (tW (NE W i)), false, .py .none) := by
  have c1 := r_near_of (fu := fu) (n := n + 2) h
  have c2 := r_want_word (fu := fu) (n := n) h
  have c3 := r_want_letter (fu := fu) (n := n) (W := W) hi
  have it : item (.py (.list ((List.range (W.length / 2)).map fun i => tW (NE W i)))) (.py (iN i)) = some (.py (tW (NE W i))) := (item_nat (xs := (List.range (W.length / 2)).map fun i => tW (NE W i)) (k := i) (p := tW (NE W i)) (by rw [List.getElem?_map, List.getElem?_range hi] <;> rfl)).2
  rw [run_of lk_near rfl]
  generalize tW (NE W i) = R at it ⊢
  generalize (List.range (W.length / 2)).map (fun i => tW (NE W i)) = Y at c1 it
  generalize tW W = W1 at c1 c2 c3 ⊢
  generalize iN i = l at c3 it ⊢
  simp [F_near, enter, call_pl (ct_io lk_near_of), call_pl (ct_io lk_want_word), call_pl (ct_io lk_want_letter), c1, c2, c3, it]
end
end K55
end
section
namespace K55
open PySem Mi
/-! ### plain: what is within a loop -/
theorem get_seg {W : List Nat} : ∀ (n s : Nat), s + n ≤ W.length → (List.range' s n).map (fun p => W.getD p 0) = (W.drop s).take n
  | 0, s, _ => by simp
  | n + 1, s, h => by
    rw [List.range'_succ, List.map_cons, get_seg n (s + 1) (by omega), List.drop_eq_getElem_cons (show s < W.length by omega), List.take_succ_cons, List.getD_eq_getElem?_getD, List.getElem?_eq_getElem (show s < W.length by omega)]
    rfl
theorem LS_true {W : List Nat} (h : Wd W) {i : Nat} (hi : i < W.length / 2) : LS W (i, true) = btw W (fp W i) (sp W i) := by
  have P := pl_fs h hi
  have lo := P.low
  have lt := P.lt
  unfold LS IN OV ov btw
  simp only [if_true]
  have e : ((List.range' (fp W i) (sp W i + 1 - fp W i)).tail).dropLast = List.range' (fp W i + 1) (sp W i - (fp W i + 1)) := by
    rw [show sp W i + 1 - fp W i = (sp W i - (fp W i + 1)) + 1 + 1 by omega, List.range'_succ, List.tail_cons, List.range'_concat, List.dropLast_concat]
  rw [e, get_seg _ _ (by omega)]
theorem LS_false {W : List Nat} (h : Wd W) {i : Nat} (hi : i < W.length / 2) : LS W (i, false) = W.drop (sp W i + 1) ++ W.take (fp W i) := by
  have P := pl_fs h hi
  have lo := P.low
  have lt := P.lt
  unfold LS IN OV
  simp only
  rw [ov_false lo.2 lt]
  have e : (List.range' (sp W i) (W.length - sp W i) ++ List.range (fp W i + 1)).tail.dropLast = List.range' (sp W i + 1) (W.length - (sp W i + 1)) ++ List.range (fp W i) := by
    rw [show W.length - sp W i = (W.length - (sp W i + 1)) + 1 by omega, List.range'_succ, List.cons_append, List.tail_cons, List.range_succ, ← List.append_assoc, List.dropLast_concat]
  rw [e, List.map_append, get_seg _ _ (by omega), List.range_eq_range', get_seg _ _ (by omega)]
  congr 1
  rw [List.take_of_length_le (by rw [List.length_drop]; omega)]
/-- a letter's times: ahead of, between, behind two places -/
theorem cnt_parts {W : List Nat} {a b i j : Nat} (hab : a < b) (ga : W[a]? = some i) (gb : W[b]? = some i) : W.count j = (W.take a).count j + (if i = j then 2 else 0) + (btw W a b).count j + (W.drop (b + 1)).count j := by
  have hb := (List.getElem?_eq_some_iff.mp gb).1
  have ea : W[a] = i := (List.getElem?_eq_some_iff.mp ga).2
  have eb : W[b] = i := (List.getElem?_eq_some_iff.mp gb).2
  have e1 : W = W.take a ++ (i :: ((W.drop (a + 1)).take (b - (a + 1)) ++ (i :: W.drop (b + 1)))) := by
    have d1 : (W.drop (a + 1)).take (b - (a + 1)) ++ (i :: W.drop (b + 1)) = W.drop (a + 1) := by
      have : i :: W.drop (b + 1) = (W.drop (a + 1)).drop (b - (a + 1)) := by
        rw [List.drop_drop, show a + 1 + (b - (a + 1)) = b by omega, List.drop_eq_getElem_cons hb, eb]
      rw [this, List.take_append_drop]
    rw [d1]
    have : i :: W.drop (a + 1) = W.drop a := by rw [List.drop_eq_getElem_cons (show a < W.length by omega), ea]
    rw [this, List.take_append_drop]
  have c := congrArg (List.count j) e1
  rw [List.count_append, List.count_cons, List.count_append, List.count_cons] at c
  unfold btw
  rw [c]
  by_cases h : i = j
  · subst h
    simp
    omega
  · have hne : (i == j) = false := beq_eq_false_iff_ne.mpr h
    simp [h, hne]
    omega
theorem cnt_both {W : List Nat} (h : Wd W) {i j : Nat} (hi : i < W.length / 2) (hj : j < W.length / 2) : (LS W (i, true)).count j + (LS W (i, false)).count j = if i = j then 0 else 2 := by
  have P := pl_fs h hi
  have c := cnt_parts (j := j) P.lt P.at_a P.at_b
  rw [h.two j hj] at c
  rw [LS_true h hi, LS_false h hi, List.count_append]
  split
  · rename_i e
    rw [if_pos e] at c
    omega
  · rename_i e
    rw [if_neg e] at c
    omega
theorem once_both {W : List Nat} (h : Wd W) {v : Lp} (hv : v.1 < W.length / 2) : TM W (v.1, !v.2) 1 = TM W v 1 := by
  unfold TM
  refine List.filter_congr fun j hj => ?_
  have hj := List.mem_range.mp hj
  obtain ⟨i, t⟩ := v
  have c : (LS W (i, true)).count j + (LS W (i, false)).count j = if i = j then 0 else 2 := cnt_both h hv hj
  have : ((LS W (i, !t)).count j = 1) ↔ ((LS W (i, t)).count j = 1) := by
    cases t with
    | true =>
      show (LS W (i, false)).count j = 1 ↔ _
      split at c <;> omega
    | false =>
      show (LS W (i, true)).count j = 1 ↔ _
      split at c <;> omega
  simp only [this]
theorem near_once {W : List Nat} (h : Wd W) {v : Lp} (hv : v.1 < W.length / 2) : NE W v.1 = TM W v 1 := by
  have e : NE W v.1 = TM W (v.1, true) 1 := by
    unfold NE TM
    rw [LS_true h hv]
  rw [e]
  obtain ⟨i, t⟩ := v
  cases t with
  | true => rfl
  | false => exact once_both (v := (i, false)) h hv
/-- a loop with a letter twice within is not the shortest -/
theorem shorter {W : List Nat} (h : Wd W) {v : Lp} (hv : v.1 < W.length / 2) (ht : TM W v 2 ≠ []) : ∃ w : Lp, w.1 < W.length / 2 ∧ (OV W w).length < (OV W v).length := by
  obtain ⟨j, hj⟩ := List.exists_mem_of_ne_nil _ ht
  obtain ⟨hj1, hj2⟩ := List.mem_filter.mp hj
  have hj1 := List.mem_range.mp hj1
  have hj2 : (LS W v).count j = 2 := of_decide_eq_true hj2
  have P := pl_fs h hv
  have Q := pl_fs h hj1
  have lo := P.low
  have lt := P.lt
  have lq := Q.low
  have ltq := Q.lt
  obtain ⟨i, t⟩ := v
  simp only at P lo lt hv
  have two := h.two j hj1
  have len : ∀ w : Lp, w.1 < W.length / 2 → (OV W w).length = if w.2 then sp W w.1 + 1 - fp W w.1 else W.length - sp W w.1 + fp W w.1 + 1 := fun w hw => by
    have R := pl_fs h hw
    unfold OV
    rw [ov_len R.low.2 R.lt]
  have c := cnt_parts (j := j) lt P.at_a P.at_b
  rw [two] at c
  -- where a place of j may stand
  have inT : ∀ p, W[p]? = some j → p < fp W i → 0 < (W.take (fp W i)).count j := fun p hp hlt => by
    refine List.count_pos_iff.mpr (List.mem_iff_getElem?.mpr ⟨p, ?_⟩)
    rw [List.getElem?_take, if_pos hlt]
    exact hp
  have inB : ∀ p, W[p]? = some j → fp W i < p → p < sp W i → 0 < (btw W (fp W i) (sp W i)).count j := fun p hp h1 h2 => by
    refine List.count_pos_iff.mpr (List.mem_iff_getElem?.mpr ⟨p - (fp W i + 1), ?_⟩)
    unfold btw
    rw [List.getElem?_take, if_pos (by omega), List.getElem?_drop, show fp W i + 1 + (p - (fp W i + 1)) = p by omega]
    exact hp
  have inD : ∀ p, W[p]? = some j → sp W i < p → 0 < (W.drop (sp W i + 1)).count j := fun p hp h1 => by
    refine List.count_pos_iff.mpr (List.mem_iff_getElem?.mpr ⟨p - (sp W i + 1), ?_⟩)
    rw [List.getElem?_drop, show sp W i + 1 + (p - (sp W i + 1)) = p by omega]
    exact hp
  have ij : ¬ i = j := fun e => by
    rw [if_pos e] at c
    cases t with
    | true => rw [LS_true h hv] at hj2; omega
    | false => rw [LS_false h hv, List.count_append] at hj2; omega
  rw [if_neg ij] at c
  have nea : ∀ p, W[p]? = some j → p ≠ fp W i ∧ p ≠ sp W i := fun p hp => ⟨fun e => by
    have := P.at_a
    rw [← e, hp] at this
    exact ij (Option.some.inj this).symm, fun e => by
    have := P.at_b
    rw [← e, hp] at this
    exact ij (Option.some.inj this).symm⟩
  have n1 := nea _ Q.at_a
  have n2 := nea _ Q.at_b
  cases t with
  | true =>
    rw [LS_true h hv] at hj2
    refine ⟨(j, true), hj1, ?_⟩
    rw [len _ hj1, len _ hv]
    simp only [if_true]
    have a1 : ¬ fp W j < fp W i := fun z => by have := inT _ Q.at_a z; omega
    have a2 : ¬ sp W i < sp W j := fun z => by have := inD _ Q.at_b z; omega
    omega
  | false =>
    rw [LS_false h hv, List.count_append] at hj2
    have b1 : ¬ (fp W i < fp W j ∧ fp W j < sp W i) := fun z => by have := inB _ Q.at_a z.1 z.2; omega
    have b2 : ¬ (fp W i < sp W j ∧ sp W j < sp W i) := fun z => by have := inB _ Q.at_b z.1 z.2; omega
    by_cases h1 : fp W j < fp W i
    · by_cases h2 : sp W j < fp W i
      · refine ⟨(j, true), hj1, ?_⟩
        rw [len _ hj1, len _ hv]
        simp only [if_true, Bool.false_eq_true, if_false]
        omega
      · refine ⟨(j, false), hj1, ?_⟩
        rw [len _ hj1, len _ hv]
        simp only [Bool.false_eq_true, if_false]
        omega
    · refine ⟨(j, true), hj1, ?_⟩
      rw [len _ hj1, len _ hv]
      simp only [if_true, Bool.false_eq_true, if_false]
      omega
end K55
end
section
namespace K55
open PySem Mi

theorem repr_tup {xs : List PyData} {k d : Nat} (s : Sz (.tuple xs) k d) (h : k ≤ 60000) (h2 : d ≤ 30) : biD .repr [.py (.tuple xs)] = some (.va (.py (.str (PyData.tuple xs).shown))) := by
  show (if okDp (.tuple xs) && (PyData.tuple xs).showable && decide ((PyData.tuple xs).shown.length ≤ lim) then _ else none) = _
  rw [if_pos]
  rw [s.ok h2, s.sh, decide_eq_true (s.len h)] <;> rfl
theorem ev_lcf {C : Ct} {own : List Nat} {i : Nat} {fs : List (Str × List Nat)} {os : Exs} {st : En} : evE C (.lcf own i fs os) st = if own.all (fun j => calmSl (st.getD j .no)) && decide (i ∈ own) && decide (i < st.length) then (fcL (fun s => evs C os s) (callE C) own fs [] (wipe st own)).map fun r => (.fe (.py (.list r.1)), back st r.2 own) else none := id rfl
theorem fc_all {ev : En → Option (List Od × En)} {ca : Str → List Nat → List Od → En → Option (Od × En)} {own : List Nat} {s : En} {q : List Od} (he : ev s = some (q, s)) (hw : wipe s own = s) (g : Str → PyData) :
    ∀ (fs : List (Str × List Nat)) (acc : List PyData), (∀ f ∈ fs, ca f.1 f.2 q s = some (.va (.py (g f.1)), s)) → acc.length + fs.length ≤ 100 → fcL ev ca own fs acc s = some (acc ++ fs.map fun f => g f.1, s)
  | [], acc, _, _ => by simp [fcL]
  | f :: fs, acc, h, hl => by
    rw [List.length_cons] at hl
    have l : acc.length < lim := lim_lt (by omega)
    rw [fcL, he, Option.bind_some, h f (List.mem_cons_self ..), Option.bind_some, val_va, Option.bind_some, pyd_py, Option.bind_some, if_pos l, hw, fc_all he hw g fs _ (fun f hf => h f (List.mem_cons_of_mem _ hf)) (by rw [List.length_append]; simp; omega)]
    simp
theorem call_2 {C : Ct} {f : Str} {a b d : D} {st : En} (h : C.io f = false) (hc : C.call f [a, b] = some (d, false, .py .none)) : callE C f [0, 1] [.va a, .va b] st = some (.va d, st) ∧ callE C f [1, 0] [.va b, .va a] st = some (.va d, st) := by
  constructor <;> (rw [call_pl h]; simp [hc])
section
variable {fu n : Nat} {W : List Nat} {v : Lp}
theorem r_ltimes {k : Nat} (h : Wd W) (hv : v.1 < W.length / 2) (hfu : 1000 ≤ fu) : run tab fu (n + 3) (Str.ofString "_law_times") [.py (tW W), .py (vA v), .py (.int (k : Int))] = some (.py (tW (TM W v k)), false, .py .none) := by
  have few := h.few
  have c1 := r_lover (fu := fu) (n := n) (t := v.2) h (pl_fs h hv) hfu
  have c1' : run tab fu (n + 2) (Str.ofString "_law_over") [.py (tW W), .py (vA v)] = some (.py (.tuple ((OV W v).map iN)), false, .py .none) := c1
  have rg := rng_nat (k := W.length / 2) (by omega)
  have fd : op2 .fdiv (.py (.int (W.length : Int))) (.py (.int 2)) = some (ofI ((W.length / 2 : Nat) : Int)) := by rw [op_fdiv (by decide) (by decide)]; congr 2
  have E : evE (tab.ct fu (run tab fu (n + 2))) (.cal (Str.ofString "_law_over") [0, 1] (.cons (.var 0) (.cons (.var 1) .nil))) [.fr (.py (tW W)), .fr (.py (vA v)), .fr (.py (iN k)), .no, .no, .no, .no] = some (.va (.py (.tuple ((OV W v).map iN))), [.fr (.py (tW W)), .fr (.py (vA v)), .fr (.py (iN k)), .no, .no, .no, .no]) := by
    generalize tW W = W1 at c1' ⊢
    generalize vA v = l at c1' ⊢
    generalize (OV W v).map iN = Y at c1' ⊢
    simp [call_pl (ct_io lk__law_over), c1']
  have z := sl_inn E
  rw [in_map] at z
  have I : evI (tab.ct fu (run tab fu (n + 2))) (.v (.sl (.cal (Str.ofString "_law_over") [0, 1] (.cons (.var 0) (.cons (.var 1) .nil))) (.so (.lit (.int (1)))) (.so (.neg (.lit (.int (1))))))) [.fr (.py (tW W)), .fr (.py (vA v)), .fr (.py (iN k)), .no, .no, .no, .no] = some ((IN W v).map iN, [.fr (.py (tW W)), .fr (.py (vA v)), .fr (.py (iN k)), .no, .no, .no, .no]) := by
    rw [evI_v, z]
    rfl
  have LC := lc_letsL I (fun p hp => OV_low h hv p (IN_sub p hp)) (by have := IN_len h hv; omega)
  have S1 : exS (tab.ct fu (run tab fu (n + 2))) (.asg 3 (.lc [4, 5] [5] true (.v (.sl (.cal (Str.ofString "_law_over") [0, 1] (.cons (.var 0) (.cons (.var 1) .nil))) (.so (.lit (.int (1)))) (.so (.neg (.lit (.int (1))))))) .yes (.ix (.pk 0) (.pk 5)))) [.fr (.py (tW W)), .fr (.py (vA v)), .fr (.py (iN k)), .no, .no, .no, .no] = some (.nx, [.fr (.py (tW W)), .fr (.py (vA v)), .fr (.py (iN k)), .ow (.py (.list ((LS W v).map iN))), .no, .no, .no]) := by
    rw [ex_asg, LC]
    rfl
  have I2 : evI (tab.ct fu (run tab fu (n + 2))) (.rng (.cons (.op .fdiv (.bi .len (.cons (.pk 0) .nil)) (.lit (.int (2)))) .nil)) [.fr (.py (tW W)), .fr (.py (vA v)), .fr (.py (iN k)), .ow (.py (.list ((LS W v).map iN))), .no, .no, .no] = some ((List.range (W.length / 2)).map iN, [.fr (.py (tW W)), .fr (.py (vA v)), .fr (.py (iN k)), .ow (.py (.list ((LS W v).map iN))), .no, .no, .no]) := by
    generalize vA v = l
    generalize (LS W v).map iN = Y
    generalize W.length / 2 = m at fd rg ⊢
    simp [fd, rg]
  have LC2 := lc_tmsL (ls := LS W v) (k := k) I2 (by omega)
  rw [run_of lk__law_times rfl]
  show ((exs (tab.ct fu (run tab fu (n + 2))) F__law_times.body [.fr (.py (tW W)), .fr (.py (vA v)), .fr (.py (iN k)), .no, .no, .no, .no]).bind _) = _
  rw [F__law_times, exs_step S1, exs_cons, ex_ret, ev_bi, evs_cons, LC2]
  rfl
def DU (W : List Nat) (v : Lp) : List PyData := [tW (OV W v), tW (IN W v), tW (TM W v 1), tW (TM W v 2), tW (WL W v), .bool (decide (TM W v 2 = []))]
abbrev qS (W : List Nat) (v : Lp) (a b c d e f g : Sl) : En := [.fr (.py (tW W)), .fr (.py (vA v)), a, b, c, d, e, f, g, .no, .no, .no]
abbrev z0 : Mi.S := (.asg 2 (.cal (Str.ofString "_law_over") [0, 1] (.cons (.var 0) (.cons (.var 1) .nil))))
abbrev z1 : Mi.S := (.par [3, 4] (.cons (.cal (Str.ofString "_law_times") [0, 1, 2] (.cons (.var 0) (.cons (.var 1) (.cons (.lit (.int (1))) .nil)))) (.cons (.cal (Str.ofString "_law_times") [0, 1, 2] (.cons (.var 0) (.cons (.var 1) (.cons (.lit (.int (2))) .nil)))) .nil)))
abbrev z2 : Mi.S := (.asg 5 (.cal (Str.ofString "_law_named") [0] (.cons (.lc [9, 10] [10] true (.v (.sl (.pk 2) (.so (.lit (.int (1)))) (.so (.neg (.lit (.int (1))))))) (.v (.cm .isin (.ix (.pk 0) (.pk 10)) (.pk 4))) (.ix (.pk 0) (.pk 10))) .nil)))
abbrev z3 : Mi.S := (.asg 6 (.lst (.cons (.var 2) (.cons (.sl (.pk 2) (.so (.lit (.int (1)))) (.so (.neg (.lit (.int (1)))))) (.cons (.var 3) (.cons (.var 4) (.cons (.var 5) (.cons (.cm .eq (.pk 4) (.tup .nil)) .nil))))))))
abbrev z4 : Mi.S := (.asg 7 (.lcf [9, 11] 11 [("gone_over", [0, 1]), ("within", [0, 1]), ("once_within", [0, 1]), ("twice_within", [0, 1]), ("loop_word", [0, 1]), ("is_simple", [0, 1])] (.cons (.var 0) (.cons (.var 1) .nil))))
abbrev z5 : Mi.S := (.asg 8 (.lcf [9, 11] 11 [("gone_over", [1, 0]), ("within", [1, 0]), ("once_within", [1, 0]), ("twice_within", [1, 0]), ("loop_word", [1, 0]), ("is_simple", [1, 0])] (.cons (.var 1) (.cons (.var 0) .nil))))
abbrev z6 : Mi.S := (.ifs (.or (.v (.cm .ne (.bi .repr (.cons (.lst (.cons (.var 7) (.cons (.var 8) .nil))) .nil)) (.bi .repr (.cons (.lst (.cons (.var 6) (.cons (.var 6) .nil))) .nil)))) (.v (.cm .isnot (.cal (Str.ofString "is_loop") [0, 1] (.cons (.var 0) (.cons (.var 1) .nil))) (.lit (.bool true))))) (.cons (.ret (.lit (.bool false))) .nil) .nil)
abbrev z7 : Mi.S := (.ret (.and (.cm .eq (.bi .repr (.cons (.cal (Str.ofString "near") [0, 1] (.cons (.var 0) (.cons (.ix (.pk 1) (.lit (.int (0)))) .nil))) .nil)) (.bi .repr (.cons (.pk 3) .nil))) (.cm .eq (.pk 3) (.cal (Str.ofString "_law_times") [0, 1, 2] (.cons (.var 0) (.cons (.tup (.cons (.ix (.pk 1) (.lit (.int (0)))) (.cons (.nt (.ix (.pk 1) (.lit (.int (1))))) .nil))) (.cons (.lit (.int (1))) .nil)))))))
theorem lr_body : F__law_loop_right.body = .cons z0 (.cons z1 (.cons z2 (.cons z3 (.cons z4 (.cons z5 (.cons z6 (.cons z7 .nil))))))) := by rfl
theorem ex_z0 (h : Wd W) (hv : v.1 < W.length / 2) (hfu : 1000 ≤ fu) : exS (tab.ct fu (run tab fu (n + 2))) z0 (qS W v .no .no .no .no .no .no .no) = some (.nx, qS W v (.fr (.py (tW (OV W v)))) .no .no .no .no .no .no) := by
  have c1 : run tab fu (n + 2) (Str.ofString "_law_over") [.py (tW W), .py (vA v)] = some (.py (tW (OV W v)), false, .py .none) := r_lover (fu := fu) (n := n) (t := v.2) h (pl_fs h hv) hfu
  unfold qS
  generalize tW W = W1 at c1 ⊢
  generalize vA v = l at c1 ⊢
  generalize tW (OV W v) = Y at c1 ⊢
  simp [call_pl (ct_io lk__law_over), c1]
theorem ex_z1 {a : Sl} (h : Wd W) (hv : v.1 < W.length / 2) (hfu : 1000 ≤ fu) : exS (tab.ct fu (run tab fu (n + 3))) z1 (qS W v a .no .no .no .no .no .no) = some (.nx, qS W v a (.fr (.py (tW (TM W v 1)))) (.fr (.py (tW (TM W v 2)))) .no .no .no .no) := by
  have c1 := r_ltimes (fu := fu) (n := n) (k := 1) h hv hfu
  have c2 := r_ltimes (fu := fu) (n := n) (k := 2) h hv hfu
  have c1' : run tab fu (n + 3) (Str.ofString "_law_times") [.py (tW W), .py (vA v), .py (.int 1)] = some (.py (tW (TM W v 1)), false, .py .none) := c1
  have c2' : run tab fu (n + 3) (Str.ofString "_law_times") [.py (tW W), .py (vA v), .py (.int 2)] = some (.py (tW (TM W v 2)), false, .py .none) := c2
  unfold qS
  generalize tW W = W1 at c1' c2' ⊢
  generalize vA v = l at c1' c2' ⊢
  generalize tW (TM W v 1) = Y at c1' ⊢
  generalize tW (TM W v 2) = Y2 at c2' ⊢
  simp [call_pl (ct_io lk__law_times), c1', c2']
theorem ex_z2 {b : Sl} (h : Wd W) (hv : v.1 < W.length / 2) : exS (tab.ct fu (run tab fu (n + 1))) z2 (qS W v (.fr (.py (tW (OV W v)))) b (.fr (.py (tW (TM W v 2)))) .no .no .no .no) = some (.nx, qS W v (.fr (.py (tW (OV W v)))) b (.fr (.py (tW (TM W v 2)))) (.fr (.py (tW (WL W v)))) .no .no .no) := by
  have il := IN_len h hv
  have ll : (LS W v).length ≤ 20 := by unfold LS; rw [List.length_map]; exact il
  have c3 := r_lnamed (fu := fu) (n := n) (W := (LS W v).filter fun x => decide (x ∈ TM W v 2)) (d := .py (.list (((LS W v).filter fun x => decide (x ∈ TM W v 2)).map iN))) (Nat.le_trans (List.length_filter_le _ _) (by omega)) (.inr rfl)
  have z : evE (tab.ct fu (run tab fu (n + 1))) (.sl (.pk 2) (.so (.lit (.int (1)))) (.so (.neg (.lit (.int (1)))))) (qS W v (.fr (.py (tW (OV W v)))) b (.fr (.py (tW (TM W v 2)))) .no .no .no .no) = some (.va (.py (.tuple ((IN W v).map iN))), qS W v (.fr (.py (tW (OV W v)))) b (.fr (.py (tW (TM W v 2)))) .no .no .no .no) := by
    have c := cut_inn (xs := (OV W v).map iN)
    rw [in_map] at c
    have e : (IN W v).map iN = (OV W v).tail.dropLast.map iN := rfl
    rw [e]
    unfold qS
    show evE _ _ [_, _, .fr (.py (.tuple ((OV W v).map iN))), _, _, _, _, _, _, _, _, _] = some (_, [_, _, .fr (.py (.tuple ((OV W v).map iN))), _, _, _, _, _, _, _, _, _])
    generalize (OV W v).tail.dropLast.map iN = Y at c ⊢
    generalize (OV W v).map iN = X at c ⊢
    generalize tW W = W1
    generalize vA v = l
    generalize tW (TM W v 2) = Y2
    simp [sl_tupE, c]
  have I : evI (tab.ct fu (run tab fu (n + 1))) (.v (.sl (.pk 2) (.so (.lit (.int (1)))) (.so (.neg (.lit (.int (1))))))) (qS W v (.fr (.py (tW (OV W v)))) b (.fr (.py (tW (TM W v 2)))) .no .no .no .no) = some ((IN W v).map iN, qS W v (.fr (.py (tW (OV W v)))) b (.fr (.py (tW (TM W v 2)))) .no .no .no .no) := by
    rw [evI_v, z]
    rfl
  have LC : evE (tab.ct fu (run tab fu (n + 1))) (.lc [9, 10] [10] true (.v (.sl (.pk 2) (.so (.lit (.int (1)))) (.so (.neg (.lit (.int (1))))))) (.v (.cm .isin (.ix (.pk 0) (.pk 10)) (.pk 4))) (.ix (.pk 0) (.pk 10))) (qS W v (.fr (.py (tW (OV W v)))) b (.fr (.py (tW (TM W v 2)))) .no .no .no .no) = some (.fe (.py (.list (((LS W v).filter fun x => decide (x ∈ TM W v 2)).map iN))), qS W v (.fr (.py (tW (OV W v)))) b (.fr (.py (tW (TM W v 2)))) .no .no .no .no) := by
    rw [lc_if (fun p => match p with
      | .int j => decide (W.getD j.toNat 0 ∈ TM W v 2)
      | _ => false) (fun p => match p with
      | .int j => iN (W.getD j.toNat 0)
      | p => p) (st' := qS W v (.fr (.py (tW (OV W v)))) b (.fr (.py (tW (TM W v 2)))) .no .no .no .no) (xs := (IN W v).map iN) I rfl (lim_ok (by rw [List.length_map]; omega)) fun z hz => ?_, filt_map (q := fun p => decide (W.getD p 0 ∈ TM W v 2)) _ fun j _ => by simp]
    · unfold LS
      rw [List.filter_map, List.map_map, List.map_map]
      rfl
    · obtain ⟨p, hp, rfl⟩ := List.mem_map.mp hz
      have lp := OV_low h hv p (IN_sub p hp)
      have it : item (.py (tW W)) (.py (iN p)) = some (.py (iN W[p])) := (item_nat (xs := W.map iN) (k := p) (p := iN W[p]) (by rw [List.getElem?_map, List.getElem?_eq_getElem lp] <;> rfl)).1
      have eg : W.getD p 0 = W[p] := by rw [List.getD_eq_getElem?_getD, List.getElem?_eq_getElem lp]; rfl
      have c := has_T (C := tab.ct fu (run tab fu (n + 1))) (x := W[p]) (T := TM W v 2)
      generalize hs : ([.fr (.py (tW W)), .fr (.py (vA v)), .fr (.py (tW (OV W v))), b, .fr (.py (tW (TM W v 2))), .no, .no, .no, .no, .no, .fr (.py (iN p)), .no] : En) = st1
      have w1 : wipe st1 [9, 10] = qS W v (.fr (.py (tW (OV W v)))) b (.fr (.py (tW (TM W v 2)))) .no .no .no .no := by rw [← hs]; rfl
      have e2 : evT (tab.ct fu (run tab fu (n + 1))) (.v (.cm .isin (.ix (.pk 0) (.pk 10)) (.pk 4))) st1 = some (decide (W[p] ∈ TM W v 2), st1) := by
        subst hs
        generalize tW (TM W v 2) = T at c ⊢
        generalize decide (W[p] ∈ TM W v 2) = q at c ⊢
        generalize iN W[p] = w at it c
        generalize tW W = W1 at it ⊢
        generalize tW (OV W v) = Y
        generalize vA v = l
        simp [it, c]
      have e3 : evE (tab.ct fu (run tab fu (n + 1))) (.ix (.pk 0) (.pk 10)) st1 = some (.va (.py (iN W[p])), st1) := by
        subst hs
        generalize tW (TM W v 2) = T
        generalize iN W[p] = w at it ⊢
        generalize tW W = W1 at it ⊢
        generalize tW (OV W v) = Y
        generalize vA v = l
        simp [it]
      exact ⟨st1, st1, by rw [← hs]; rfl, by rw [e2]; simp only [Int.toNat_natCast, eg], fun _ => w1, fun _ => ⟨_, st1, e3, by simp only [Int.toNat_natCast, eg]; rfl, w1⟩⟩
  show exS _ (.asg 5 (.cal (Str.ofString "_law_named") [0] (.cons (.lc [9, 10] [10] true (.v (.sl (.pk 2) (.so (.lit (.int (1)))) (.so (.neg (.lit (.int (1))))))) (.v (.cm .isin (.ix (.pk 0) (.pk 10)) (.pk 4))) (.ix (.pk 0) (.pk 10))) .nil))) _ = _
  rw [ex_asg, ev_cal, evs_cons, LC, Option.bind_some, evs_nil]
  unfold WL qS
  generalize ((LS W v).filter fun x => decide (x ∈ TM W v 2)).map iN = Y at c3 ⊢
  generalize tW (Nm.nm ((LS W v).filter fun x => decide (x ∈ TM W v 2))) = Q at c3 ⊢
  simp [call_pl (ct_io lk__law_named), c3]
theorem ex_z3 {C : Ct} : exS C z3 (qS W v (.fr (.py (tW (OV W v)))) (.fr (.py (tW (TM W v 1)))) (.fr (.py (tW (TM W v 2)))) (.fr (.py (tW (WL W v)))) .no .no .no) = some (.nx, qS W v (.fr (.py (tW (OV W v)))) (.fr (.py (tW (TM W v 1)))) (.fr (.py (tW (TM W v 2)))) (.fr (.py (tW (WL W v)))) (.ow (.py (.list (DU W v)))) .no .no) := by
  have c := cut_inn (xs := (OV W v).map iN)
  rw [in_map] at c
  have e : (tW (IN W v)) = .tuple ((OV W v).tail.dropLast.map iN) := rfl
  have cc := (cmp_tW (TM W v 2) []).1
  have cc' : cmp .eq (.py (tW (TM W v 2))) (.py (.tuple [])) = some (decide (TM W v 2 = [])) := cc
  unfold DU qS
  rw [e]
  show exS _ _ [_, _, .fr (.py (.tuple ((OV W v).map iN))), _, _, _, _, _, _, _, _, _] = some (_, [_, _, .fr (.py (.tuple ((OV W v).map iN))), _, _, _, .ow (.py (.list [.tuple ((OV W v).map iN), _, _, _, _, _])), _, _, _, _, _])
  generalize (OV W v).tail.dropLast.map iN = Y at c ⊢
  generalize (OV W v).map iN = X at c ⊢
  generalize decide (TM W v 2 = []) = q at cc' ⊢
  generalize tW (TM W v 2) = T at cc' ⊢
  generalize tW (TM W v 1) = T1
  generalize tW (WL W v) = T2
  generalize tW W = W1
  generalize vA v = l
  simp [sl_tupE, c, cc']
def gF (W : List Nat) (v : Lp) (x : Str) : PyData := if x = Str.ofString "gone_over" then tW (OV W v) else if x = Str.ofString "within" then tW (IN W v) else if x = Str.ofString "once_within" then tW (TM W v 1) else if x = Str.ofString "twice_within" then tW (TM W v 2) else if x = Str.ofString "loop_word" then tW (WL W v) else .bool (decide (TM W v 2 = []))
theorem all6 {st : En} (h : Wd W) (hv : v.1 < W.length / 2) : ∀ x ∈ [Str.ofString "gone_over", Str.ofString "within", Str.ofString "once_within", Str.ofString "twice_within", Str.ofString "loop_word", Str.ofString "is_simple"],
    callE (tab.ct fu (run tab fu (n + 8))) x [0, 1] [.va (.py (tW W)), .va (.py (vA v))] st = some (.va (.py (gF W v x)), st) ∧ callE (tab.ct fu (run tab fu (n + 8))) x [1, 0] [.va (.py (vA v)), .va (.py (tW W))] st = some (.va (.py (gF W v x)), st) := by
  intro x hx
  simp only [List.mem_cons, List.not_mem_nil, or_false] at hx
  rcases hx with rfl | rfl | rfl | rfl | rfl | rfl
  · exact call_2 (ct_io lk_gone_over) (by rw [ct_call]; exact r_gone_over h hv)
  · exact call_2 (ct_io lk_within) (by rw [ct_call]; exact r_within h hv)
  · exact call_2 (ct_io lk_once_within) (by rw [ct_call]; exact r_once_within h hv)
  · exact call_2 (ct_io lk_twice_within) (by rw [ct_call]; exact r_twice_within h hv)
  · exact call_2 (ct_io lk_loop_word) (by rw [ct_call]; exact r_loop_word h hv)
  · exact call_2 (ct_io lk_is_simple) (by rw [ct_call]; exact r_is_simple h hv)
theorem du_eq : DU W v = [Str.ofString "gone_over", Str.ofString "within", Str.ofString "once_within", Str.ofString "twice_within", Str.ofString "loop_word", Str.ofString "is_simple"].map (gF W v) := rfl
theorem ex_z4 {a b c d e : Sl} (h : Wd W) (hv : v.1 < W.length / 2) : exS (tab.ct fu (run tab fu (n + 8))) z4 (qS W v a b c d e .no .no) = some (.nx, qS W v a b c d e (.ow (.py (.list (DU W v)))) .no) := by
  have E : evE (tab.ct fu (run tab fu (n + 8))) (.lcf [9, 11] 11 [(Str.ofString "gone_over", [0, 1]), (Str.ofString "within", [0, 1]), (Str.ofString "once_within", [0, 1]), (Str.ofString "twice_within", [0, 1]), (Str.ofString "loop_word", [0, 1]), (Str.ofString "is_simple", [0, 1])] (.cons (.var 0) (.cons (.var 1) .nil))) (qS W v a b c d e .no .no) = some (.fe (.py (.list (DU W v))), qS W v a b c d e .no .no) := by
    have cc : (([9, 11].all fun j => calmSl (List.getD (qS W v a b c d e .no .no) j Sl.no)) && decide (11 ∈ [9, 11]) && decide (11 < List.length (qS W v a b c d e .no .no))) = true := rfl
    rw [ev_lcf, if_pos cc]
    rw [show wipe (qS W v a b c d e .no .no) [9, 11] = qS W v a b c d e .no .no from rfl]
    rw [fc_all (q := [.va (.py (tW W)), .va (.py (vA v))]) rfl rfl (gF W v) _ [] (fun f hf => ?_) (by simp)]
    · rfl
    · simp only [List.mem_cons, List.not_mem_nil, or_false] at hf
      have A := all6 (fu := fu) (n := n) (st := qS W v a b c d e .no .no) h hv
      rcases hf with rfl | rfl | rfl | rfl | rfl | rfl <;> exact (A _ (by simp)).1
  show exS _ (.asg 7 _) _ = _
  rw [ex_asg, E]
  rfl
theorem ex_z5 {a b c d e f : Sl} (h : Wd W) (hv : v.1 < W.length / 2) : exS (tab.ct fu (run tab fu (n + 8))) z5 (qS W v a b c d e f .no) = some (.nx, qS W v a b c d e f (.ow (.py (.list (DU W v))))) := by
  have E : evE (tab.ct fu (run tab fu (n + 8))) (.lcf [9, 11] 11 [(Str.ofString "gone_over", [1, 0]), (Str.ofString "within", [1, 0]), (Str.ofString "once_within", [1, 0]), (Str.ofString "twice_within", [1, 0]), (Str.ofString "loop_word", [1, 0]), (Str.ofString "is_simple", [1, 0])] (.cons (.var 1) (.cons (.var 0) .nil))) (qS W v a b c d e f .no) = some (.fe (.py (.list (DU W v))), qS W v a b c d e f .no) := by
    have cc : (([9, 11].all fun j => calmSl (List.getD (qS W v a b c d e f .no) j Sl.no)) && decide (11 ∈ [9, 11]) && decide (11 < List.length (qS W v a b c d e f .no))) = true := rfl
    rw [ev_lcf, if_pos cc]
    rw [show wipe (qS W v a b c d e f .no) [9, 11] = qS W v a b c d e f .no from rfl]
    rw [fc_all (q := [.va (.py (vA v)), .va (.py (tW W))]) rfl rfl (gF W v) _ [] (fun f' hf => ?_) (by simp)]
    · rfl
    · simp only [List.mem_cons, List.not_mem_nil, or_false] at hf
      have A := all6 (fu := fu) (n := n) (st := qS W v a b c d e f .no) h hv
      rcases hf with rfl | rfl | rfl | rfl | rfl | rfl <;> exact (A _ (by simp)).2
  show exS _ (.asg 8 _) _ = _
  rw [ex_asg, E]
  rfl
end
end K55
end
section
namespace K55
open PySem Mi

theorem evT_chk {C : Ct} {st st1 st2 : En} {A B : Ex} {xs : List PyData} {sh : Str} (hA : evE C A st = some (.fe (.py (.list xs)), st1)) (hB : evE C B st1 = some (.fe (.py (.list xs)), st2)) (rp : biD .repr [.py (.list xs)] = some (.va (.py (.str sh)))) :
    evT C (.v (.cm .ne (.bi .repr (.cons A .nil)) (.bi .repr (.cons B .nil)))) st = some (false, st2) := by
  have q1 : evE C (.bi .repr (.cons A .nil)) st = some (.va (.py (.str sh)), st1) := by
    rw [ev_bi, evs_cons, hA]
    simp [rp]
  have q2 : evE C (.bi .repr (.cons B .nil)) st1 = some (.va (.py (.str sh)), st2) := by
    rw [ev_bi, evs_cons, hB]
    simp [rp]
  rw [evT_v, ev_cm, q1, Option.bind_some, q2]
  simp [ne_str]
section
variable {fu n : Nat} {W : List Nat} {v : Lp}
theorem sz_DU (h : Wd W) (hv : v.1 < W.length / 2) : Sz (.list (DU W v)) 111 2 := by
  have few := h.few
  have ol := OV_len h hv
  have il := IN_len h hv
  have t1 := TM_len h (v := v) (k := 1)
  have t2 := TM_len h (v := v) (k := 2)
  have s1 : Sz (tW (OV W v)) 21 1 := (sz_row fun x hx => by have := OV_low h hv x hx; omega).mono (by omega) (Nat.le_refl 1)
  have s2 : Sz (tW (IN W v)) 21 1 := (sz_row fun x hx => by have := OV_low h hv x (IN_sub x hx); omega).mono (by omega) (Nat.le_refl 1)
  have st : ∀ k, Sz (tW (TM W v k)) 21 1 := fun k => (sz_row fun x hx => by
    have := List.mem_range.mp (List.mem_filter.mp hx).1
    omega).mono (by have := TM_len h (v := v) (k := k); omega) (Nat.le_refl 1)
  have ll : ((LS W v).filter fun x => decide (x ∈ TM W v 2)).length ≤ 20 := Nat.le_trans (List.length_filter_le _ _) (by unfold LS; rw [List.length_map]; exact il)
  have s5 : Sz (tW (WL W v)) 21 1 := (sz_row fun x hx => by
    have a := Nm.nm_low hx
    have b := Nm.seen_le ((LS W v).filter fun x => decide (x ∈ TM W v 2))
    omega).mono (by unfold WL; rw [Nm.nm_len]; omega) (Nat.le_refl 1)
  exact (Sz.lst (SzA.cons s1 (SzA.cons s2 (SzA.cons (st 1) (SzA.cons (st 2) (SzA.cons s5 (SzA.cons ((Sz.bool _).mono (Nat.le_refl 0) (by omega : 0 ≤ 1)) .nil))))))).mono (by omega) (Nat.le_refl 2)
theorem ex_z6 {a b c d : Sl} (h : Wd W) (hv : v.1 < W.length / 2) : exS (tab.ct fu (run tab fu (n + 6))) z6 (qS W v a b c d (.ow (.py (.list (DU W v)))) (.ow (.py (.list (DU W v)))) (.ow (.py (.list (DU W v))))) = some (.nx, qS W v a b c d (.fr (.py (.list (DU W v)))) (.fr (.py (.list (DU W v)))) (.fr (.py (.list (DU W v))))) := by
  have c1 := r_is_loop (fu := fu) (n := n) h hv
  have sz := sz_DU h hv
  have rp := repr_lst (Sz.lst (SzA.cons sz (SzA.cons sz .nil))) (by omega) (by omega)
  have T1 : evT (tab.ct fu (run tab fu (n + 6))) (.v (.cm .ne (.bi .repr (.cons (.lst (.cons (.var 7) (.cons (.var 8) .nil))) .nil)) (.bi .repr (.cons (.lst (.cons (.var 6) (.cons (.var 6) .nil))) .nil)))) (qS W v a b c d (.ow (.py (.list (DU W v)))) (.ow (.py (.list (DU W v)))) (.ow (.py (.list (DU W v))))) = some (false, qS W v a b c d (.fr (.py (.list (DU W v)))) (.fr (.py (.list (DU W v)))) (.fr (.py (.list (DU W v))))) := by
    refine evT_chk (st1 := qS W v a b c d (.ow (.py (.list (DU W v)))) (.fr (.py (.list (DU W v)))) (.fr (.py (.list (DU W v))))) (xs := [.list (DU W v), .list (DU W v)]) ?_ ?_ rp
    · unfold qS
      generalize DU W v = Y
      generalize tW W = W1
      generalize vA v = l
      simp
    · unfold qS
      generalize DU W v = Y
      generalize tW W = W1
      generalize vA v = l
      simp
  have T2 : evT (tab.ct fu (run tab fu (n + 6))) (.v (.cm .isnot (.cal (Str.ofString "is_loop") [0, 1] (.cons (.var 0) (.cons (.var 1) .nil))) (.lit (.bool true)))) (qS W v a b c d (.fr (.py (.list (DU W v)))) (.fr (.py (.list (DU W v)))) (.fr (.py (.list (DU W v))))) = some (false, qS W v a b c d (.fr (.py (.list (DU W v)))) (.fr (.py (.list (DU W v)))) (.fr (.py (.list (DU W v))))) := by
    have ci : cmp .isnot (.py (.bool true)) (.py (.bool true)) = some false := rfl
    unfold qS
    generalize DU W v = Y
    generalize tW W = W1 at c1 ⊢
    generalize vA v = l at c1 ⊢
    simp [call_pl (ct_io lk_is_loop), c1, ci]
  show exS _ (.ifs (.or (.v (.cm .ne (.bi .repr (.cons (.lst (.cons (.var 7) (.cons (.var 8) .nil))) .nil)) (.bi .repr (.cons (.lst (.cons (.var 6) (.cons (.var 6) .nil))) .nil)))) (.v (.cm .isnot (.cal (Str.ofString "is_loop") [0, 1] (.cons (.var 0) (.cons (.var 1) .nil))) (.lit (.bool true))))) _ _) _ = _
  rw [ex_ifs, evT_or, T1, Option.bind_some]
  simp only [Bool.false_eq_true, if_false]
  rw [T2, Option.bind_some]
  rfl
theorem ex_z7 {a c d e f g : Sl} (h : Wd W) (hv : v.1 < W.length / 2) (hfu : 1000 ≤ fu) : exS (tab.ct fu (run tab fu (n + 6))) z7 (qS W v a (.fr (.py (tW (TM W v 1)))) c d e f g) = some (.rt (.py (.bool true)) false, qS W v a (.fr (.py (tW (TM W v 1)))) c d e f g) := by
  have few := h.few
  have c1 := r_near (fu := fu) (n := n) h (i := v.1) hv
  rw [near_once h hv] at c1
  have c2 := r_ltimes (fu := fu) (n := n + 3) (v := (v.1, !v.2)) (k := 1) h hv hfu
  rw [once_both h hv] at c2
  have c2' : run tab fu (n + 6) (Str.ofString "_law_times") [.py (tW W), .py (.tuple [iN v.1, .bool (!v.2)]), .py (.int 1)] = some (.py (tW (TM W v 1)), false, .py .none) := c2
  have i0 : item (.py (vA v)) (.py (.int 0)) = some (.py (iN v.1)) := rfl
  have i1 : item (.py (vA v)) (.py (.int 1)) = some (.py (.bool v.2)) := rfl
  have ce := (cmp_tW (TM W v 1) (TM W v 1)).1
  rw [decide_eq_true rfl] at ce
  have sz : Sz (tW (TM W v 1)) 21 1 := (sz_row fun x hx => by
    have := List.mem_range.mp (List.mem_filter.mp hx).1
    omega).mono (by have := TM_len h (v := v) (k := 1); omega) (Nat.le_refl 1)
  have rp := repr_tup sz (by omega) (by omega)
  have cs : ∀ s : Str, cmp .eq (.py (.str s)) (.py (.str s)) = some true := fun s => eq_str
  have rp' : biD .repr [.py (tW (TM W v 1))] = some (.va (.py (.str (tW (TM W v 1)).shown))) := rp
  unfold qS
  generalize tW (TM W v 1) = T at c1 c2' ce rp' ⊢
  have lm : 2 ≤ lim := by unfold lim; omega
  have N : evE (tab.ct fu (run tab fu (n + 6))) (.cal (Str.ofString "near") [0, 1] (.cons (.var 0) (.cons (.ix (.pk 1) (.lit (.int (0)))) .nil))) [.fr (.py (tW W)), .fr (.py (vA v)), a, .fr (.py T), c, d, e, f, g, .no, .no, .no] = some (.va (.py T), [.fr (.py (tW W)), .fr (.py (vA v)), a, .fr (.py T), c, d, e, f, g, .no, .no, .no]) := by
    generalize tW W = W1 at c1 ⊢
    generalize vA v = l at i0 ⊢
    simp [call_pl (ct_io lk_near), i0, c1]
  have M : evE (tab.ct fu (run tab fu (n + 6))) (.cal (Str.ofString "_law_times") [0, 1, 2] (.cons (.var 0) (.cons (.tup (.cons (.ix (.pk 1) (.lit (.int (0)))) (.cons (.nt (.ix (.pk 1) (.lit (.int (1))))) .nil))) (.cons (.lit (.int (1))) .nil)))) [.fr (.py (tW W)), .fr (.py (vA v)), a, .fr (.py T), c, d, e, f, g, .no, .no, .no] = some (.va (.py T), [.fr (.py (tW W)), .fr (.py (vA v)), a, .fr (.py T), c, d, e, f, g, .no, .no, .no]) := by
    generalize tW W = W1 at c2' ⊢
    generalize vA v = l at i0 i1 ⊢
    simp [call_pl (ct_io lk__law_times), i0, i1, c2', lm]
  have A : evE (tab.ct fu (run tab fu (n + 6))) (.cm .eq (.bi .repr (.cons (.cal (Str.ofString "near") [0, 1] (.cons (.var 0) (.cons (.ix (.pk 1) (.lit (.int (0)))) .nil))) .nil)) (.bi .repr (.cons (.pk 3) .nil))) [.fr (.py (tW W)), .fr (.py (vA v)), a, .fr (.py T), c, d, e, f, g, .no, .no, .no] = some (ofB true, [.fr (.py (tW W)), .fr (.py (vA v)), a, .fr (.py T), c, d, e, f, g, .no, .no, .no]) := by
    rw [ev_cm, ev_bi, evs_cons, N]
    generalize tW W = W1
    generalize vA v = l
    simp [rp', cs]
  have B : evE (tab.ct fu (run tab fu (n + 6))) (.cm .eq (.pk 3) (.cal (Str.ofString "_law_times") [0, 1, 2] (.cons (.var 0) (.cons (.tup (.cons (.ix (.pk 1) (.lit (.int (0)))) (.cons (.nt (.ix (.pk 1) (.lit (.int (1))))) .nil))) (.cons (.lit (.int (1))) .nil))))) [.fr (.py (tW W)), .fr (.py (vA v)), a, .fr (.py T), c, d, e, f, g, .no, .no, .no] = some (ofB true, [.fr (.py (tW W)), .fr (.py (vA v)), a, .fr (.py T), c, d, e, f, g, .no, .no, .no]) := by
    rw [ev_cm, ev_pk]
    simp only [List.getElem?_cons_zero, List.getElem?_cons_succ, Option.bind_some]
    rw [M]
    simp only [Option.bind_some, rd_pk, List.getElem?_cons_zero, List.getElem?_cons_succ, con_fr, rd_va, ce, Option.map_some]
  show exS _ (.ret (.and (.cm .eq (.bi .repr (.cons (.cal (Str.ofString "near") [0, 1] (.cons (.var 0) (.cons (.ix (.pk 1) (.lit (.int (0)))) .nil))) .nil)) (.bi .repr (.cons (.pk 3) .nil))) (.cm .eq (.pk 3) (.cal (Str.ofString "_law_times") [0, 1, 2] (.cons (.var 0) (.cons (.tup (.cons (.ix (.pk 1) (.lit (.int (0)))) (.cons (.nt (.ix (.pk 1) (.lit (.int (1))))) .nil))) (.cons (.lit (.int (1))) .nil))))))) _ = _
  rw [ex_ret, ev_and, A]
  simp only [Option.bind_some, rd_ofB]
  rw [B]
  rfl
theorem r_loop_right (h : Wd W) (hv : v.1 < W.length / 2) (hfu : 1000 ≤ fu) : run tab fu (n + 9) (Str.ofString "_law_loop_right") [.py (tW W), .py (vA v)] = some (.py (.bool true), false, .py .none) := by
  rw [run_of lk__law_loop_right rfl]
  show ((exs (tab.ct fu (run tab fu (n + 8))) F__law_loop_right.body (qS W v .no .no .no .no .no .no .no)).bind _) = _
  rw [lr_body, exs_step (ex_z0 (n := n + 6) h hv hfu), exs_step (ex_z1 (n := n + 5) h hv hfu), exs_step (ex_z2 (n := n + 7) h hv), exs_step ex_z3, exs_step (ex_z4 (n := n) h hv), exs_step (ex_z5 (n := n) h hv), exs_step (ex_z6 (n := n + 2) h hv), exs_cons, ex_z7 (n := n + 2) h hv hfu]
  rfl
end
end K55
end
section
namespace K55
open PySem Mi
theorem has_vA {v : Nat × Bool} : ∀ l : List (Nat × Bool), hasB (vA v) (l.map vA) = decide (v ∈ l)
  | [] => by simp [hasB]
  | w :: l => by
    have ih := has_vA (v := v) l
    unfold hasB at ih ⊢
    rw [List.map_cons, List.any_cons, ih]
    have q : PyData.eqv (vA w) (vA v) = decide (w = v) := by
      obtain ⟨t, b⟩ := w
      obtain ⟨s, c⟩ := v
      have e1 : PyData.eqv (tA t b) (tA s c) = (decide ((t : Int) = (s : Int)) && (b == c)) := by
        simp [PyData.eqv, PyData.eqvAll]
        try rfl
      rw [e1]
      by_cases h : t = s
      · subst h
        cases b <;> cases c <;> simp
      · have h2 : ¬ ((t : Int) = (s : Int)) := by omega
        simp [h, h2]
    rw [q]
    by_cases h : w = v
    · subst h; simp
    · have h3 : ¬ v = w := fun e => h e.symm
      simp [h, h3]
theorem okd_vA (v : Nat × Bool) : okDp (vA v) = true := rfl
theorem in_vA {v : Nat × Bool} {l : List (Nat × Bool)} (h : v ∈ l) : cmp .isin (.py (vA v)) (.py (.list (l.map vA))) = some true ∧ cmp .notin (.py (vA v)) (.py (.list (l.map vA))) = some false := by
  have q := has_vA (v := v) l
  rw [decide_eq_true h] at q
  refine ⟨?_, ?_⟩
  · show (if okDp (vA v) then some (hasB (vA v) (l.map vA)) else none) = _
    rw [okd_vA, q]
    rfl
  · show (if okDp (vA v) then some (!hasB (vA v) (l.map vA)) else none) = _
    rw [okd_vA, q]
    rfl
theorem sz_vA {v : Nat × Bool} (h : v.1 < 100) : Sz (vA v) 2 1 := Sz.tup (SzA.cons (Sz.nat h) (SzA.cons (Sz.bool v.2) .nil))
theorem sz_views {l : List (Nat × Bool)} (h : ∀ v ∈ l, v.1 < 100) : Sz (.list (l.map vA)) (l.length * 3) 2 := Sz.lst (SzA.map (k := 2) fun v hv => sz_vA (h v hv))

theorem fil_no {α : Type} : ∀ l : List α, l.filter (fun _ => false) = []
  | [] => rfl
  | _ :: l => (List.filter_cons_of_neg (by simp)).trans (fil_no l)
theorem eqnil : cmp .eq (.py (.list [])) (.py (.list [])) = some true ∧ cmp .ne (.py (.list [])) (.py (.list [])) = some false := ⟨rfl, rfl⟩
theorem alike_i (a b : Int) : PySem.W.alike (.int a) (.int b) = true := by simp [PySem.W.alike]
theorem fold_le : ∀ (l : List Int) (a : Int), l.foldl min a ≤ a ∧ ∀ x ∈ l, l.foldl min a ≤ x
  | [], a => ⟨Int.le_refl a, fun x hx => by cases hx⟩
  | y :: l, a => by
    obtain ⟨h1, h2⟩ := fold_le l (min a y)
    rw [List.foldl_cons]
    refine ⟨by omega, fun x hx => ?_⟩
    rcases List.mem_cons.mp hx with rfl | hx
    · omega
    · exact h2 x hx
theorem min_i {l : List Nat} (hl : l ≠ []) : ∃ k : Int, biD .min [.py (.list (l.map iN))] = some (.va (.py (.int k))) ∧ ∀ x ∈ l, k ≤ (x : Int) := by
  cases l with
  | nil => exact absurd rfl hl
  | cons x xs =>
    have ok := okd_lN (x :: xs)
    have e : xs.map iN = (xs.map fun (n : Nat) => (n : Int)).map .int := by rw [List.map_map]; rfl
    have al : alikeB ((x :: xs).map iN) = true := by
      unfold alikeB
      refine List.all_eq_true.mpr fun a ha => List.all_eq_true.mpr fun b hb => ?_
      obtain ⟨p, _, rfl⟩ := List.mem_map.mp ha
      obtain ⟨q, _, rfl⟩ := List.mem_map.mp hb
      exact alike_i _ _
    have nn : ((x :: xs).map iN).all (fun z => !isNn z) = true := List.all_eq_true.mpr fun a ha => by
      obtain ⟨p, _, rfl⟩ := List.mem_map.mp ha
      rfl
    refine ⟨(xs.map fun (n : Nat) => (n : Int)).foldl min (x : Int), ?_, fun y hy => ?_⟩
    · rw [List.map_cons] at ok al nn ⊢
      show (if alikeB (iN x :: xs.map iN) && ((iN x :: xs.map iN).all fun z => !isNn z) && okDp (.list (iN x :: xs.map iN)) then some (Od.va (.py (PySem.W.minD (iN x) (xs.map iN)))) else none) = _
      rw [al, nn, ok, e, PySem.W.minD_ints]
      rfl
    · obtain ⟨h1, h2⟩ := fold_le (xs.map fun (n : Nat) => (n : Int)) (x : Int)
      rcases List.mem_cons.mp hy with rfl | hy
      · exact h1
      · exact h2 _ (List.mem_map.mpr ⟨y, hy, rfl⟩)
theorem mul_pair {X Y : PyData} : op2 .mul (.py (.list [X, Y])) (.py (.int 2)) = some (.fe (.py (.list [X, Y, X, Y]))) := by
  show (if (0 : Int) ≤ 2 ∧ (2 : Int) ≤ 1000 ∧ ([X, Y] : List PyData).length ≤ 1000 then _ else none) = _
  rw [if_pos ⟨by decide, by decide, by simp⟩]
  rfl
section
variable {fu n : Nat} {W : List Nat}
abbrev rS (P : D) (W : List Nat) (a b c : Sl) : En := [.bo P, .fr (.py (tW W)), a, b, c, .no, .no]
abbrev rQ (P : D) (W : List Nat) (a b c : Sl) (v : Lp) : En := [.bo P, .fr (.py (tW W)), a, b, c, .no, .fr (.py (vA v))]
theorem lps_few (h : Wd W) : (Nm.vws (W.length / 2)).length ≤ 20 := by
  have few := h.few
  rw [vws_len]
  omega
/-- a comprehension over the loops, what is kept told by q -/
theorem lc_loops {C : Ct} {P : D} {a b c : Sl} {t : T} {L : List Lp} (q : Lp → Bool) (hl : L.length ≤ 40) (I : evI C (.v (.var 2)) (rS P W a b c) = some (L.map vA, rS P W (.fr (.py (.list (L.map vA)))) b c))
    (hc : calmSl a = true ∨ True) (ht : ∀ v ∈ L, evT C t (rQ P W (.fr (.py (.list (L.map vA)))) b c v) = some (q v, rQ P W (.fr (.py (.list (L.map vA)))) b c v)) :
    evE C (.lc [5, 6] [6] true (.v (.var 2)) t (.var 6)) (rS P W a b c) = some (.fe (.py (.list ((L.filter q).map vA))), rS P W (.fr (.py (.list (L.map vA)))) b c) := by
  rw [lc_if (fun p => match p with
    | .tuple [.int j, .bool t] => q (j.toNat, t)
    | _ => false) (fun p => p) (st' := rS P W (.fr (.py (.list (L.map vA)))) b c) (xs := L.map vA) I rfl (lim_ok (by rw [List.length_map]; omega)) fun z hz => ?_, filt_map (q := q) _ fun j _ => by simp]
  · rw [List.map_id']
  · obtain ⟨v, hv, rfl⟩ := List.mem_map.mp hz
    exact ⟨rQ P W (.fr (.py (.list (L.map vA)))) b c v, rQ P W (.fr (.py (.list (L.map vA)))) b c v, rfl, by rw [ht v hv]; rfl, fun _ => rfl, fun _ => ⟨.va (.py (vA v)), rQ P W (.fr (.py (.list (L.map vA)))) b c v, rfl, rfl, rfl⟩⟩
theorem I_ow {C : Ct} {P : D} {b c : Sl} {Y : List PyData} : evI C (.v (.var 2)) (rS P W (.ow (.py (.list Y))) b c) = some (Y, rS P W (.fr (.py (.list Y))) b c) ∧ evI C (.v (.var 2)) (rS P W (.fr (.py (.list Y))) b c) = some (Y, rS P W (.fr (.py (.list Y))) b c) := by
  constructor
  · unfold rS
    generalize tW W = W1
    simp
  · unfold rS
    generalize tW W = W1
    simp
abbrev w0 : Mi.S := (.asg 1 (.cal (Str.ofString "_law_word") [0, 1] (.cons (.pk 0) (.cons (.lit (.int (8))) .nil))))
abbrev w1 : Mi.S := (.asg 2 (.cal (Str.ofString "_law_loops") [0] (.cons (.var 1) .nil)))
abbrev w2 : Mi.S := (.asg 3 (.lc [5, 6] [6] true (.v (.var 2)) (.v (.cm .eq (.cal (Str.ofString "_law_times") [0, 1, 2] (.cons (.var 1) (.cons (.var 6) (.cons (.lit (.int (2))) .nil)))) (.tup .nil))) (.var 6)))
abbrev w3 : Mi.S := (.ifs (.v (.cm .ne (.bi .repr (.cons (.lst (.cons (.cal (Str.ofString "all_loops") [0] (.cons (.var 1) .nil)) (.cons (.cal (Str.ofString "simple_loops") [0] (.cons (.var 1) .nil)) (.cons (.cal (Str.ofString "all_loops") [0] (.cons (.var 1) .nil)) (.cons (.cal (Str.ofString "simple_loops") [0] (.cons (.var 1) .nil)) .nil))))) .nil)) (.bi .repr (.cons (.op .mul (.lst (.cons (.var 2) (.cons (.var 3) .nil))) (.lit (.int (2)))) .nil)))) (.cons (.ret (.lit (.bool false))) .nil) .nil)
abbrev w4 : Mi.S := (.ifs (.v (.cm .ne (.lc [5, 6] [6] true (.v (.var 2)) (.nt (.v (.cal (Str.ofString "_law_loop_right") [0, 1] (.cons (.var 1) (.cons (.var 6) .nil))))) (.var 6)) (.lst .nil))) (.cons (.ret (.lit (.bool false))) .nil) .nil)
abbrev w5 : Mi.S := (.asg 4 (.bi .min (.cons (.op .add (.lc [5, 6] [6] true (.v (.var 2)) .yes (.bi .len (.cons (.cal (Str.ofString "_law_over") [0, 1] (.cons (.var 1) (.cons (.var 6) .nil))) .nil))) (.lst (.cons (.lit (.int (99))) .nil))) .nil)))
abbrev w6 : Mi.S := (.ret (.cm .eq (.lc [5, 6] [6] true (.v (.var 2)) (.and (.v (.cm .eq (.bi .len (.cons (.cal (Str.ofString "_law_over") [0, 1] (.cons (.var 1) (.cons (.var 6) .nil))) .nil)) (.pk 4))) (.v (.cm .notin (.pk 6) (.pk 3)))) (.var 6)) (.lst .nil)))
theorem right_body : F__law_right.body = .cons w0 (.cons w1 (.cons w2 (.cons w3 (.cons w4 (.cons w5 (.cons w6 .nil)))))) := by rfl
abbrev LL (W : List Nat) : PyData := .list ((Nm.vws (W.length / 2)).map vA)
abbrev SS (W : List Nat) : PyData := .list ((SM W).map vA)
theorem ex_w2 {P : D} (h : Wd W) (hfu : 1000 ≤ fu) : exS (tab.ct fu (run tab fu (n + 3))) w2 (rS P W (.ow (.py (LL W))) .no .no) = some (.nx, rS P W (.fr (.py (LL W))) (.ow (.py (SS W))) .no) := by
  have LC := lc_loops (C := tab.ct fu (run tab fu (n + 3))) (P := P) (W := W) (a := .ow (.py (LL W))) (b := .no) (c := .no) (t := (.v (.cm .eq (.cal (Str.ofString "_law_times") [0, 1, 2] (.cons (.var 1) (.cons (.var 6) (.cons (.lit (.int (2))) .nil)))) (.tup .nil)))) (L := Nm.vws (W.length / 2)) (fun v => decide (TM W v 2 = [])) (by have := lps_few h; omega) I_ow.1 (.inr trivial) fun v hv => by
    have c1 := r_ltimes (fu := fu) (n := n) (k := 2) h (vws_lp hv) hfu
    have c1' : run tab fu (n + 3) (Str.ofString "_law_times") [.py (tW W), .py (vA v), .py (.int 2)] = some (.py (tW (TM W v 2)), false, .py .none) := c1
    have cc := (cmp_tW (TM W v 2) []).1
    have cc' : cmp .eq (.py (tW (TM W v 2))) (.py (.tuple [])) = some (decide (TM W v 2 = [])) := cc
    unfold rQ
    generalize (Nm.vws (W.length / 2)).map vA = Y
    generalize decide (TM W v 2 = []) = q at cc' ⊢
    generalize tW (TM W v 2) = T at c1' cc'
    generalize tW W = W1 at c1' ⊢
    generalize vA v = l at c1' ⊢
    simp [call_pl (ct_io lk__law_times), c1', cc']
  show exS _ (.asg 3 _) _ = _
  rw [ex_asg, LC]
  rfl
theorem SM_sub {v : Lp} (hv : v ∈ SM W) : v ∈ Nm.vws (W.length / 2) ∧ TM W v 2 = [] := by
  obtain ⟨h1, h2⟩ := List.mem_filter.mp hv
  exact ⟨h1, of_decide_eq_true h2⟩
theorem sz_LL (h : Wd W) : Sz (LL W) 60 2 ∧ Sz (SS W) 60 2 := by
  have few := h.few
  have l1 := lps_few h
  have l2 : (SM W).length ≤ 20 := Nat.le_trans (List.length_filter_le _ _) l1
  exact ⟨(sz_views fun v hv => by have := vws_lp hv; omega).mono (by omega) (Nat.le_refl 2), (sz_views fun v hv => by have := vws_lp (SM_sub hv).1; omega).mono (by omega) (Nat.le_refl 2)⟩
theorem ex_w3 {P : D} {c : Sl} (h : Wd W) : exS (tab.ct fu (run tab fu (n + 9))) w3 (rS P W (.fr (.py (LL W))) (.ow (.py (SS W))) c) = some (.nx, rS P W (.fr (.py (LL W))) (.fr (.py (SS W))) c) := by
  have c1 := r_all_loops (fu := fu) (n := n) h
  have c2 := r_simple_loops (fu := fu) (n := n) h
  obtain ⟨s1, s2⟩ := sz_LL h
  have rp := repr_lst (Sz.lst (SzA.cons s1 (SzA.cons s2 (SzA.cons s1 (SzA.cons s2 .nil))))) (by omega) (by omega)
  refine ex_chk (st1 := rS P W (.fr (.py (LL W))) (.ow (.py (SS W))) c) (xs := [LL W, SS W, LL W, SS W]) ?_ ?_ rp
  · unfold rS LL SS
    generalize (Nm.vws (W.length / 2)).map vA = Y at c1 ⊢
    generalize (SM W).map vA = X at c2 ⊢
    generalize tW W = W1 at c1 c2 ⊢
    simp [call_pl (ct_io lk_all_loops), call_pl (ct_io lk_simple_loops), c1, c2]
  · unfold rS LL SS
    generalize (Nm.vws (W.length / 2)).map vA = Y
    generalize (SM W).map vA = X
    generalize tW W = W1
    simp [mul_pair]
theorem ex_w4 {P : D} {b c : Sl} (h : Wd W) (hfu : 1000 ≤ fu) : exS (tab.ct fu (run tab fu (n + 9))) w4 (rS P W (.fr (.py (LL W))) b c) = some (.nx, rS P W (.fr (.py (LL W))) b c) := by
  have LC := lc_loops (C := tab.ct fu (run tab fu (n + 9))) (P := P) (W := W) (a := .fr (.py (LL W))) (b := b) (c := c) (t := (.nt (.v (.cal (Str.ofString "_law_loop_right") [0, 1] (.cons (.var 1) (.cons (.var 6) .nil)))))) (L := Nm.vws (W.length / 2)) (fun v => false) (by have := lps_few h; omega) I_ow.2 (.inr trivial) fun v hv => by
    have c1 := r_loop_right (fu := fu) (n := n) h (vws_lp hv) hfu
    unfold rQ
    generalize (Nm.vws (W.length / 2)).map vA = Y
    generalize tW W = W1 at c1 ⊢
    generalize vA v = l at c1 ⊢
    simp [call_pl (ct_io lk__law_loop_right), c1]
  rw [fil_no] at LC
  have cn := eqnil.2
  show exS _ (.ifs (.v (.cm .ne (.lc [5, 6] [6] true (.v (.var 2)) (.nt (.v (.cal (Str.ofString "_law_loop_right") [0, 1] (.cons (.var 1) (.cons (.var 6) .nil))))) (.var 6)) (.lst .nil))) _ _) _ = _
  rw [ex_ifs, evT_v, ev_cm, LC]
  simp [cn]
theorem ex_w5 {P : D} {b : Sl} (h : Wd W) (hfu : 1000 ≤ fu) : ∃ k : Int, (∀ v ∈ Nm.vws (W.length / 2), k ≤ ((OV W v).length : Int)) ∧ exS (tab.ct fu (run tab fu (n + 2))) w5 (rS P W (.fr (.py (LL W))) b .no) = some (.nx, rS P W (.fr (.py (LL W))) b (.fr (.py (.int k)))) := by
  have l1 := lps_few h
  have LC : evE (tab.ct fu (run tab fu (n + 2))) (.lc [5, 6] [6] true (.v (.var 2)) .yes (.bi .len (.cons (.cal (Str.ofString "_law_over") [0, 1] (.cons (.var 1) (.cons (.var 6) .nil))) .nil))) (rS P W (.fr (.py (LL W))) b .no) = some (.fe (.py (.list (((Nm.vws (W.length / 2)).map fun v => (OV W v).length).map iN))), rS P W (.fr (.py (LL W))) b .no) := by
    rw [lc_map (fun v => match v with
      | .tuple [.int j, .bool t] => iN (OV W (j.toNat, t)).length
      | v => v) (st' := rS P W (.fr (.py (LL W))) b .no) (xs := (Nm.vws (W.length / 2)).map vA) I_ow.2 rfl (lim_ok (by rw [List.length_map]; omega)) fun z hz => ?_]
    · rw [List.map_map, List.map_map]
      rfl
    · obtain ⟨v, hv, rfl⟩ := List.mem_map.mp hz
      have c1 : run tab fu (n + 2) (Str.ofString "_law_over") [.py (tW W), .py (vA v)] = some (.py (.tuple ((OV W v).map iN)), false, .py .none) := r_lover (fu := fu) (n := n) (t := v.2) h (pl_fs h (vws_lp hv)) hfu
      have ll : ((OV W v).map iN).length = (OV W v).length := List.length_map ..
      refine ⟨rQ P W (.fr (.py (LL W))) b .no v, ofI ((OV W v).length : Int), rQ P W (.fr (.py (LL W))) b .no v, rfl, ?_, rfl, rfl⟩
      rw [← ll]
      unfold rQ LL
      generalize (OV W v).map iN = X at c1 ⊢
      generalize (Nm.vws (W.length / 2)).map vA = Y
      generalize tW W = W1 at c1 ⊢
      generalize vA v = l at c1 ⊢
      simp [call_pl (ct_io lk__law_over), c1]
  have e : ((Nm.vws (W.length / 2)).map fun v => (OV W v).length).map iN ++ [.int 99] = (((Nm.vws (W.length / 2)).map fun v => (OV W v).length) ++ [99]).map iN := by rw [List.map_append]; rfl
  have ad := add_lst (xs := ((Nm.vws (W.length / 2)).map fun v => (OV W v).length).map iN) (ys := [.int 99]) (by rw [List.length_map, List.length_map]; simp; omega)
  rw [e] at ad
  obtain ⟨k, e1, e2⟩ := min_i (l := ((Nm.vws (W.length / 2)).map fun v => (OV W v).length) ++ [99]) (by simp)
  refine ⟨k, fun v hv => e2 _ (List.mem_append_left _ (List.mem_map.mpr ⟨v, hv, rfl⟩)), ?_⟩
  show exS _ (.asg 4 (.bi .min (.cons (.op .add (.lc [5, 6] [6] true (.v (.var 2)) .yes (.bi .len (.cons (.cal (Str.ofString "_law_over") [0, 1] (.cons (.var 1) (.cons (.var 6) .nil))) .nil))) (.lst (.cons (.lit (.int (99))) .nil))) .nil))) _ = _
  rw [ex_asg, ev_bi, evs_cons, ev_op, LC]
  generalize (((Nm.vws (W.length / 2)).map fun v => (OV W v).length) ++ [99]).map iN = Z at ad e1
  generalize ((Nm.vws (W.length / 2)).map fun v => (OV W v).length).map iN = Z2 at ad ⊢
  unfold rS
  generalize tW W = W1
  generalize LL W = Y
  simp [ad, e1]
theorem ex_w6 {P : D} {k : Int} (h : Wd W) (hk : ∀ v ∈ Nm.vws (W.length / 2), k ≤ ((OV W v).length : Int)) (hfu : 1000 ≤ fu) : exS (tab.ct fu (run tab fu (n + 2))) w6 (rS P W (.fr (.py (LL W))) (.fr (.py (SS W))) (.fr (.py (.int k)))) = some (.rt (.py (.bool true)) false, rS P W (.fr (.py (LL W))) (.fr (.py (SS W))) (.fr (.py (.int k)))) := by
  have LC := lc_loops (C := tab.ct fu (run tab fu (n + 2))) (P := P) (W := W) (a := .fr (.py (LL W))) (b := .fr (.py (SS W))) (c := .fr (.py (.int k))) (t := (.and (.v (.cm .eq (.bi .len (.cons (.cal (Str.ofString "_law_over") [0, 1] (.cons (.var 1) (.cons (.var 6) .nil))) .nil)) (.pk 4))) (.v (.cm .notin (.pk 6) (.pk 3))))) (L := Nm.vws (W.length / 2)) (fun v => false) (by have := lps_few h; omega) I_ow.2 (.inr trivial) fun v hv => by
    have c1 : run tab fu (n + 2) (Str.ofString "_law_over") [.py (tW W), .py (vA v)] = some (.py (.tuple ((OV W v).map iN)), false, .py .none) := r_lover (fu := fu) (n := n) (t := v.2) h (pl_fs h (vws_lp hv)) hfu
    have ll : ((OV W v).map iN).length = (OV W v).length := List.length_map ..
    have A : evT (tab.ct fu (run tab fu (n + 2))) (.v (.cm .eq (.bi .len (.cons (.cal (Str.ofString "_law_over") [0, 1] (.cons (.var 1) (.cons (.var 6) .nil))) .nil)) (.pk 4))) (rQ P W (.fr (.py (LL W))) (.fr (.py (SS W))) (.fr (.py (.int k))) v) = some (decide (((OV W v).length : Int) = k), rQ P W (.fr (.py (LL W))) (.fr (.py (SS W))) (.fr (.py (.int k))) v) := by
      rw [← ll]
      unfold rQ LL SS
      generalize (OV W v).map iN = X at c1 ⊢
      generalize (Nm.vws (W.length / 2)).map vA = Y
      generalize (SM W).map vA = Y2
      generalize tW W = W1 at c1 ⊢
      generalize vA v = l at c1 ⊢
      simp [call_pl (ct_io lk__law_over), c1]
    rw [evT_and]
    show (evT _ _ (rQ P W (.fr (.py (LL W))) (.fr (.py (SS W))) (.fr (.py (.int k))) v)).bind _ = _
    rw [A, Option.bind_some]
    by_cases hl : ((OV W v).length : Int) = k
    · simp only [decide_eq_true hl, if_true]
      have hs : v ∈ SM W := by
        refine List.mem_filter.mpr ⟨hv, decide_eq_true (Classical.byContradiction fun hn => ?_)⟩
        obtain ⟨w, hw, hlt⟩ := shorter h (vws_lp hv) hn
        have := hk w (Nm.mem_vws.mpr hw)
        omega
      have cn := (in_vA hs).2
      unfold rQ LL SS
      generalize (Nm.vws (W.length / 2)).map vA = Y
      generalize (SM W).map vA = Y2 at cn ⊢
      generalize tW W = W1
      generalize vA v = l at cn ⊢
      simp [cn]
    · simp only [decide_eq_false hl, Bool.false_eq_true, if_false]
  rw [fil_no] at LC
  have cn := eqnil.1
  show exS _ (.ret (.cm .eq (.lc [5, 6] [6] true (.v (.var 2)) (.and (.v (.cm .eq (.bi .len (.cons (.cal (Str.ofString "_law_over") [0, 1] (.cons (.var 1) (.cons (.var 6) .nil))) .nil)) (.pk 4))) (.v (.cm .notin (.pk 6) (.pk 3)))) (.var 6)) (.lst .nil))) _ = _
  rw [ex_ret, ev_cm, LC]
  simp [cn]
theorem r_right (x y : Int) (hfu : 1000 ≤ fu) : ∃ x' y' : Int, run tab fu (n + 10) (Str.ofString "_law_right") [pot x y] = some (.py (.bool true), false, pot x' y') := by
  obtain ⟨W, m, x1, y1, hm, hW2, e1⟩ := r_word (fu := fu) (n := n + 5) (most := 8) x y (by omega) hfu
  have h := hW2.wd (by omega)
  refine ⟨x1, y1, ?_⟩
  have E : evE (tab.ct fu (run tab fu (n + 9))) (.cal (Str.ofString "_law_word") [0, 1] (.cons (.pk 0) (.cons (.lit (.int (8))) .nil))) [.bo (pot x y), .no, .no, .no, .no, .no, .no] = some (.va (.py (tW W)), [.bo (pot x1 y1), .no, .no, .no, .no, .no, .no]) :=
    ev_bo2 (q := (.py (tW W), false, pot x1 y1)) (ct_io lk__law_word) rfl (ev_lit ..) rfl (by rw [ct_call]; exact e1)
  have S0 : exS (tab.ct fu (run tab fu (n + 9))) w0 [.bo (pot x y), .no, .no, .no, .no, .no, .no] = some (.nx, rS (pot x1 y1) W .no .no .no) := by
    show exS _ (.asg 1 _) _ = _
    rw [ex_asg, E]
    rfl
  have c1 := r_lloops (fu := fu) (n := n + 8) h
  have S1 : exS (tab.ct fu (run tab fu (n + 9))) w1 (rS (pot x1 y1) W .no .no .no) = some (.nx, rS (pot x1 y1) W (.ow (.py (LL W))) .no .no) := by
    unfold rS LL
    generalize (Nm.vws (W.length / 2)).map vA = Y at c1 ⊢
    generalize tW W = W1 at c1 ⊢
    simp [call_pl (ct_io lk__law_loops), c1]
  obtain ⟨k, hk, S5⟩ := ex_w5 (fu := fu) (n := n + 7) (P := pot x1 y1) (b := .fr (.py (SS W))) h hfu
  rw [run_of lk__law_right rfl]
  show ((exs (tab.ct fu (run tab fu (n + 9))) F__law_right.body [.bo (pot x y), .no, .no, .no, .no, .no, .no]).bind _) = _
  rw [right_body, exs_step S0, exs_step S1, exs_step (ex_w2 (n := n + 6) h hfu), exs_step (ex_w3 (n := n) h), exs_step (ex_w4 (n := n) h hfu), exs_step S5, exs_cons, ex_w6 (n := n + 7) h hk hfu]
  rfl
abbrev lB2 : Ss := (.cons (.ifs (.nt (.v (.cal (Str.ofString "_law_right") [0] (.cons (.pk 2) .nil)))) (.cons (.ret (.lit (.bool false))) .nil) .nil) .nil)
abbrev lB1 : Ss := (.cons (.asg 2 (.cal (Str.ofString "_law_pot") [0, 1] (.cons (.var 0) (.cons (.var 1) .nil)))) (.cons (.fr [3] true (.rng (.cons (.lit (.int (2))) .nil)) (.cons (.ifs (.nt (.v (.cal (Str.ofString "_law_right") [0] (.cons (.pk 2) .nil)))) (.cons (.ret (.lit (.bool false))) .nil) .nil) .nil)) .nil))
theorem in_turn {ns : List Int} {u : Sl} (x y : Int) (q : PyData) (hfu : 1000 ≤ fu) : ∃ (x' y' : Int), exs (tab.ct fu (run tab fu (n + 10))) lB2 [.fr (.scr ns), u, .ow (pot x y), .fr (.py q)] = some (.nx, [.fr (.scr ns), u, .ow (pot x' y'), .fr (.py q)]) := by
  obtain ⟨x2, y2, e2⟩ := r_right (fu := fu) (n := n) x y hfu
  refine ⟨x2, y2, ?_⟩
  have A : evs (tab.ct fu (run tab fu (n + 10))) (.cons (.pk 2) .nil) [.fr (.scr ns), u, .ow (pot x y), .fr (.py q)] = some ([.pk 2], [.fr (.scr ns), u, .ow (pot x y), .fr (.py q)]) := by simp
  have E : evE (tab.ct fu (run tab fu (n + 10))) (.cal (Str.ofString "_law_right") [0] (.cons (.pk 2) .nil)) [.fr (.scr ns), u, .ow (pot x y), .fr (.py q)] = some (.va (.py (.bool true)), [.fr (.scr ns), u, .ow (pot x2 y2), .fr (.py q)]) := by
    rw [ev_cal, A, Option.bind_some, call_ow (C := tab.ct fu (run tab fu (n + 10))) (q := (.py (.bool true), false, pot x2 y2)) (r := []) (ds := []) (ct_io lk__law_right) rfl rfl rfl (by rw [ct_call]; exact e2)]
    rfl
  rw [exs_cons, ex_ifs, evT_nt, evT_v, E]
  rfl
theorem out_turn {ns : List Int} {u w : Sl} (j : Nat) (hfu : 1000 ≤ fu) : ∃ (u' w' : Sl), exs (tab.ct fu (run tab fu (n + 10))) lB1 [.fr (.scr ns), .fr (.py (iN j)), u, w] = some (.nx, [.fr (.scr ns), .fr (.py (iN j)), u', w']) := by
  obtain ⟨x0, y0, p0⟩ := r_pot (fu := fu) (n := n + 9) (ns := ns) (k := j)
  have S1 : exS (tab.ct fu (run tab fu (n + 10))) (.asg 2 (.cal (Str.ofString "_law_pot") [0, 1] (.cons (.var 0) (.cons (.var 1) .nil)))) [.fr (.scr ns), .fr (.py (iN j)), u, w] = some (.nx, [.fr (.scr ns), .fr (.py (iN j)), .ow (pot x0 y0), w]) := by
    have p0' : run tab fu (n + 10) (Str.ofString "_law_pot") [.scr ns, .py (iN j)] = some (pot x0 y0, true, .py .none) := p0
    simp [call_pl (ct_io lk__law_pot), p0']
  have rg : rngD [.py (.int 2)] = some ((List.range 2).map iN) := rng_nat (k := 2) (by omega)
  have I : ∀ st : En, evI (tab.ct fu (run tab fu (n + 10))) (.rng (.cons (.lit (.int (2))) .nil)) st = some ((List.range 2).map iN, st) := fun st => by
    simp only [evI_rng, evs_cons, evs_nil, ev_lit, Option.bind_some, Option.map_some, rds_cons, rds_nil, rd_va, rg]
  obtain ⟨s', e, x', y', w', rfl⟩ := frL_J (f := fun q s => (bindT [3] true q s).bind (exs (tab.ct fu (run tab fu (n + 10))) lB2)) (fun _ s => ∃ (x' y' : Int) (w' : Sl), s = [.fr (.scr ns), .fr (.py (iN j)), .ow (pot x' y'), w']) ((List.range 2).map iN) 0 [.fr (.scr ns), .fr (.py (iN j)), .ow (pot x0 y0), w] ⟨x0, y0, w, rfl⟩ (by
    rintro i q s hq ⟨x', y', w', rfl⟩
    obtain ⟨x2, y2, e2⟩ := in_turn (fu := fu) (n := n) (ns := ns) (u := .fr (.py (iN j))) x' y' q hfu
    refine ⟨_, .nx, ?_, .inl rfl, x2, y2, .fr (.py q), rfl⟩
    rw [bind_one, Option.bind_some]
    exact e2)
  refine ⟨.ow (pot x' y'), w', ?_⟩
  rw [exs_step S1, exs_cons, ex_fr, I, Option.bind_some, e]
  rfl
theorem r_law {ns : List Int} (hfu : 1000 ≤ fu) : run tab fu (n + 11) (Str.ofString "law") [.scr ns] = some (.py (.bool true), false, .py .none) := by
  have I : evI (tab.ct fu (run tab fu (n + 10))) (.v (.tup (.cons (.lit (.int (0))) (.cons (.lit (.int (1))) .nil)))) [.fr (.scr ns), .no, .no, .no] = some ([0, 1].map iN, [.fr (.scr ns), .no, .no, .no]) := by
    have l2 : 2 ≤ lim := by unfold lim; omega
    simp [l2]
  obtain ⟨s', e, u, v, w, rfl⟩ := frL_J (f := fun q s => (bindT [1] true q s).bind (exs (tab.ct fu (run tab fu (n + 10))) lB1)) (fun _ s => ∃ u v w : Sl, s = [.fr (.scr ns), u, v, w]) ([0, 1].map iN) 0 [.fr (.scr ns), .no, .no, .no] ⟨.no, .no, .no, rfl⟩ (by
    rintro i q s hq ⟨u, v, w, rfl⟩
    obtain ⟨j, hj⟩ : ∃ j : Nat, q = iN j := by
      obtain ⟨j, _, e⟩ := List.mem_map.mp (List.mem_of_getElem? hq)
      exact ⟨j, e.symm⟩
    subst hj
    obtain ⟨v', w', e2⟩ := out_turn (fu := fu) (n := n) (ns := ns) (u := v) (w := w) j hfu
    refine ⟨_, .nx, ?_, .inl rfl, .fr (.py (iN j)), v', w', rfl⟩
    rw [bind_one, Option.bind_some]
    exact e2)
  rw [run_of lk_law rfl]
  show ((exs (tab.ct fu (run tab fu (n + 10))) F_law.body [.fr (.scr ns), .no, .no, .no]).bind _) = _
  have S1 : exS (tab.ct fu (run tab fu (n + 10))) (.fr [1] true (.v (.tup (.cons (.lit (.int (0))) (.cons (.lit (.int (1))) .nil)))) lB1) [.fr (.scr ns), .no, .no, .no] = some (.nx, [.fr (.scr ns), u, v, w]) := by
    rw [ex_fr, I, Option.bind_some]
    exact e
  rw [F_law, exs_step S1]
  simp
end
end K55
theorem law55 (ns : List Int) (h : ns.length ≤ 63) : ∃ b fin, Mi.run (Mi.tabOf (Mi.dfsOf K55.lw.prog.main.body) (Mi.glosOf [] K55.lw.prog.main.body) (Mi.blOf K55.lw.prog.main.body) 60) 100000 40 "law" [.scr ns] = some (.py (.bool true), b, fin) := by
  rw [K55.tab_eq]
  exact ⟨false, .py .none, K55.r_law (n := 29) (by omega)⟩
end
section
namespace K55
open PySem PySem.Spec PyProof.Rows L2
def ds : List Mi.Df := Mi.dfsOf lw.prog.main.body
def gl : List (Str × PyData) := Mi.glosOf [] lw.prog.main.body
def bl : List Str := Mi.blOf lw.prog.main.body
def fn : List He.DefD := ds.map Mi.Df.he
def fa : List He.Fa := Mi.fasOf ds bl
abbrev R : PySem.W.OpenRow := PySem.W.OpenLaw.row lw
def lastI : Nat := lw.prog.main.body.length - 1
abbrev hk : PySem.W.Hook := Mi.hookM 4 fa fn gl
def ob (s : PySem.W.SharedT) : Bool × He.AlD := Mi.obsMG 4 fa fn gl (HandSHeadRun.getT s)
theorem ob_eq (s : PySem.W.SharedT) : ob s = hk.obs s.abs := Mi.obsMG_eq (HandSHeadRun.getT_eq s)
def loose : List Str := Mi.defNames (lw.prog.main.body.take lastI)
theorem run (w : World) : HandSHeadRun.RunEq R (PySem.W.view R.prog [lastI]) hk ob 4000 loose w := by
  intro os
  kernel_rfl
theorem ok : ds.all Mi.Df.okB = true := by kernel_rfl
end K55
open PySem PySem.W PySem.Calls PyProof.Rows
theorem PySem.Challenge.cw_passedtwice_k55_whole_loops_of_words_holds : PySem.Challenge.rw_passedtwice_k55_whole_loops_of_words.Holds := by
  w_on; o_law
  refine HandSHeadRun.head_any (r := OpenLaw.row K55.lw) (q := view (OpenLaw.row K55.lw).prog [K55.lastI]) (H := K55.hk) (ob := K55.ob) (M := 4000) (loose := K55.loose) (d := HandSHeadRun.topDef (OpenLaw.row K55.lw).prog K55.lastI) (kwd := []) K55.ob_eq
    (by kernel_rfl) (fun s => by kernel_rfl) K55.run (by kernel_rfl) (by kernel_rfl) (by kernel_rfl) (by rfl) (by first | assumption | decide +kernel) (by decide +kernel) ⟨rfl, rfl, rfl, rfl, rfl, by decide +kernel⟩ ?hw ?hc
  case hw => w_witness2
  case hc =>
    have hnm : (HandSHeadRun.topDef (OpenLaw.row K55.lw).prog K55.lastI).name = ("law" : PySem.Str) := by kernel_rfl
    refine Mi.law_of (l := K55.lw) (n := 63) (k := 40) (lev := 4) (x := "script") (ds := K55.ds) (gl := K55.gl) (bl := K55.bl) (fuel := 100000) (m := 60) (dl := (K55.ds.find? fun y => ("law" : PySem.Str) == y.x).getD ⟨"", [], [], default, [], false⟩) rfl (by decide) (by kernel_rfl) ⟨rfl, by decide, by decide⟩ (by rw [hnm]; kernel_rfl) (by kernel_rfl) (by kernel_rfl) K55.ok ?_
    rw [hnm]
    exact law55
end
