import PyProof.Rows.All
import Wide.All
import OpenK.AllK
import Wide.FinOn
import KE.SortData
import KE.DataMinMax
import KE.DataAny
import KE.DataFind
import HandS.ForMost
import KE.GoesEnum
import PyProof.EnumMake
import HandS.Base
import HandS.Call
import HandS.List
import HandS.Comp
import HandS.Dict
import HandS.Iter
import HandS.Walk
import HandS.TupAny
import HandS.Style
import KE.KRevSl
import HandS.Zip
import KE.GoesZip
import KE.GoesMore
import HandS.SetKeys
import HandS.Deep
import HandS.TupMul
import HandS.TupLe
import HandS.Flow
import HandS.Defaults
import HandS.Conv
import PyProof.SeqIndex
import KE.KIndexOf
import HandS.IsInst
import HandS.HeadEnd
import HandS.Head0
import HandS.Head1
import HandS.Head2
import HandS.HeadHook1
import HandS.HeadHook2
import PyProof.ReprBulk
import KE.KStateDown
import HandS.More
import HandS.Words
import HandS.WordsExc
import PySem.Challenge.RW_passedtwice_k46_whole_loops_known_by_han
set_option Elab.async false
set_option linter.all false
set_option maxRecDepth 100000
set_option maxHeartbeats 0
section
/-! Mi: a small evaluator for the part of Python that the program and its laws use: values are data, lists in one hand alone may be changed. -/
namespace Mi
open PySem

/-- what a name may hold -/
inductive D where
  | py (p : PyData) | dct (kvs : List (PyData × PyData)) | set (xs : List PyData) | scr (ns : List Int)

/-- a slot of a frame: empty; a value that nobody changes; a list in this hand alone; one lent by the caller -/
inductive Sl where
  | no | fr (d : D) | ow (d : D) | bo (d : D)
abbrev En := List Sl
/-- what an expression hands on: a value that nobody changes; one just made; what stands in a slot -/
inductive Od where
  | va (d : D) | fe (d : D) | pk (i : Nat)

inductive O2 where
  | add | sub | mul | fdiv | mod | pow
inductive Cm where
  | eq | ne | lt | le | gt | ge | isin | notin | is | isnot
inductive Bi where
  | len | tuple | list | sorted | min | max | sum | any | all | abs | int | bool | str | repr | divmod | dict | set | lrange | trange
inductive Ty where
  | int | bool | str | list | tuple
inductive Me where
  | count | index | get
mutual
inductive Ex where
  | lit (p : PyData) | var (i : Nat) | pk (i : Nat) | glo (x : Str)
  | op (o : O2) (a b : Ex) | neg (a : Ex)
  | cm (o : Cm) (a b : Ex) | cm2 (o o' : Cm) (a b c : Ex)
  | and (a b : Ex) | or (a b : Ex) | nt (a : Ex) | ite (c : T) (a b : Ex)
  | tup (es : Exs) | lst (es : Exs) | dct0
  | ix (a i : Ex) | sl (a : Ex) (lo hi : Pt) | rev (a : Ex)
  | bi (f : Bi) (es : Exs) | isa (a : Ex) (ts : List Ty)
  | cal (f : Str) (perm : List Nat) (es : Exs)
  | me (m : Me) (a : Ex) (es : Exs)
  | pop (i : Nat) (e : Ex)
  | lc (own : List Nat) (tg : List Nat) (one : Bool) (it : I) (c : T) (e : Ex)
  | dc (own : List Nat) (tg : List Nat) (one : Bool) (it : I) (c : T) (k e : Ex)
  | lcf (own : List Nat) (i : Nat) (fs : List (Str × List Nat)) (os : Exs)
  | bad
inductive Exs where
  | nil | cons (e : Ex) (es : Exs)
/-- a part of a slice -/
inductive Pt where
  | no | so (e : Ex)
/-- a test -/
inductive T where
  | v (e : Ex) | and (a b : T) | or (a b : T) | nt (a : T) | ite (c a b : T) | yes
/-- what is walked -/
inductive I where
  | v (e : Ex) | rng (es : Exs) | enu (es : Exs) | zip (es : Exs)
end
mutual
inductive S where
  | asg (i : Nat) (e : Ex) | asgT (is : List Nat) (e : Ex) | par (is : List Nat) (es : Exs)
  | divI (i : Nat) (k : Int) (j : Nat) (e : Ex) | asgTT (is js : List Nat) (e : Ex) | asgSS (i : Nat) (k : Ex) (j : Nat) (l : Ex) (e : Ex)
  | setI (i : Nat) (k e : Ex) | augI (i : Nat) (k : Ex) (e : Ex) | aug (i : Nat) (o : O2) (e : Ex)
  | app (i : Nat) (e : Ex) | ext (i : Nat) (e : Ex) | upd (i : Nat) (e : Ex) | sdf (i : Nat) (k e : Ex)
  | ex (e : Ex) | ret (e : Ex) | retv (i : Nat) | retN | pass | brk | cont | raise
  | ifs (c : T) (a b : Ss) | whl (c : T) (b : Ss) | fr (tg : List Nat) (one : Bool) (it : I) (b : Ss)
inductive Ss where
  | nil | cons (s : S) (ss : Ss)
end
/-- a def: its parameters, how many slots, whether the first parameter is lent, its body -/
structure Fd where
  ps : List Str
  n : Nat
  io : Bool
  body : Ss

/-! ### operations on data -/
def lim : Nat := 1000000
abbrev dp : Nat := 30

def D.tru : D → Option Bool
  | .py (.bool b) => some b
  | .py (.int i) => some (i != 0)
  | .py (.list xs) => some (!xs.isEmpty)
  | .py (.tuple xs) => some (!xs.isEmpty)
  | .py .none => some false
  | .py (.str x) => if x.length ≤ lim then some ((x.length : Int) != 0) else none
  | .scr ns => some (!ns.isEmpty)
  | _ => none
/-- keys of a dict: ints and texts -/
def keyP : PyData → Option L2.Key
  | .int i => some (.inl i)
  | .str x => some (.inr x)
  | _ => none
/-- may x be a key of such a dict -/
def okKey (kvs : List (PyData × PyData)) (x : PyData) : Bool := (keyP x).isSome
/-- what a dict holds at a key -/
def getK (kvs : List (PyData × PyData)) (x : PyData) : Option PyData := (kvs.find? fun q => PyData.eqv q.1 x).map (·.2)
/-- in its place, or behind all -/
def putKd (kvs : List (PyData × PyData)) (x : PyData) (p : PyData) : List (PyData × PyData) :=
  if (kvs.any fun q => PyData.eqv q.1 x) = true then kvs.map (fun q => if PyData.eqv q.1 x = true then (q.1, p) else q) else kvs ++ [(x, p)]
def ofB (b : Bool) : Od := .va (.py (.bool b))
def ofI (i : Int) : Od := .va (.py (.int i))
def okMul (i j : Int) : Bool := decide (i.natAbs < 18446744073709551616) || decide (j.natAbs < 18446744073709551616)
def op2 : O2 → D → D → Option Od
  | .add, .py (.int i), .py (.int j) => some (ofI (i + j))
  | .add, .py (.list xs), .py (.list ys) => if xs.length + ys.length ≤ lim then some (.fe (.py (.list (xs ++ ys)))) else none
  | .add, .py (.tuple xs), .py (.tuple ys) => if xs.length + ys.length ≤ lim then some (.va (.py (.tuple (xs ++ ys)))) else none
  | .sub, .py (.int i), .py (.int j) => some (ofI (i - j))
  | .mul, .py (.int i), .py (.int j) => if okMul i j then some (ofI (i * j)) else none
  | .mul, .py (.list xs), .py (.int j) => if -1000 ≤ j ∧ j ≤ 1000 ∧ xs.length ≤ 1000 then some (.fe (.py (.list (List.replicate j.toNat xs).flatten))) else none
  | .mul, .py (.tuple xs), .py (.int j) => if -1000 ≤ j ∧ j ≤ 1000 ∧ xs.length ≤ 1000 then some (.va (.py (.tuple (List.replicate j.toNat xs).flatten))) else none
  | .fdiv, .py (.int i), .py (.int j) => if 0 < j ∧ j < 1073741824 then some (ofI (i / j)) else none
  | .mod, .py (.int i), .py (.int j) => if 0 < j then some (ofI (i % j)) else none
  | .pow, .py (.int i), .py (.int j) => if 0 ≤ j ∧ j ≤ 1000 ∧ i.natAbs < 1000000 then some (ofI (i ^ j.toNat)) else none
  | _, _, _ => none
def okDp (p : PyData) : Bool := decide (p.depth ≤ dp)
def isNn : PyData → Bool
  | .none => true
  | _ => false
def hasB (x : PyData) (ys : List PyData) : Bool := ys.any fun z => PyData.eqv z x
def cmp : Cm → D → D → Option Bool
  | .eq, .py x, .py y => if okDp x && okDp y then some (PyData.eqv x y) else none
  | .ne, .py x, .py y => if okDp x && okDp y then some (!PyData.eqv x y) else none
  | .lt, .py (.int i), .py (.int j) => some (decide (i < j))
  | .le, .py (.int i), .py (.int j) => some (decide (i ≤ j))
  | .gt, .py (.int i), .py (.int j) => some (decide (j < i))
  | .ge, .py (.int i), .py (.int j) => some (decide (j ≤ i))
  | .isin, .py x, .py (.list ys) => if okDp x then some (hasB x ys) else none
  | .isin, .py x, .py (.tuple ys) => if okDp x then some (hasB x ys) else none
  | .notin, .py x, .py (.list ys) => if okDp x then some (!hasB x ys) else none
  | .notin, .py x, .py (.tuple ys) => if okDp x then some (!hasB x ys) else none
  | .is, .py x, .py .none => some (isNn x)
  | .isnot, .py x, .py .none => some (!isNn x)
  | .is, .py (.bool a), .py (.bool b) => some (decide (a = b))
  | .isnot, .py (.bool a), .py (.bool b) => some (!decide (a = b))
  | .isin, .py x, .dct kvs => if okKey kvs x then some (getK kvs x).isSome else none
  | .notin, .py x, .dct kvs => if okKey kvs x then some (!(getK kvs x).isSome) else none
  | _, _, _ => none
/-- the kind of a datum -/
inductive Kd where
  | non | bl | int | str | lst | tup | dct
def kd : PyData → Kd
  | .none => .non
  | .bool _ => .bl
  | .int _ => .int
  | .str _ => .str
  | .list _ => .lst
  | .tuple _ => .tup
  | .dict _ => .dct
def kdTy : Kd → Ty → Bool
  | .int, .int => true
  | .bl, .int => true
  | .bl, .bool => true
  | .str, .str => true
  | .lst, .list => true
  | .tup, .tuple => true
  | _, _ => false
def isTy (p : PyData) (t : Ty) : Bool := kdTy (kd p) t
/-- the place of index i among n items -/
abbrev plc (i : Int) (n : Nat) : Option Nat := L2.ixN n i
def item : D → D → Option D
  | .py (.list xs), .py (.int i) => (L2.ixN xs.length i).bind fun k => (xs[k]?).map .py
  | .py (.tuple xs), .py (.int i) => (L2.ixN xs.length i).bind fun k => (xs[k]?).map .py
  | .scr ns, .py (.int i) => (L2.ixN ns.length i).bind fun k => (ns[k]?).map fun n => .py (.int n)
  | .dct kvs, .py x => if okKey kvs x then (getK kvs x).map .py else none
  | _, _ => none
/-- xs[lo:hi] -/
def cutP (xs : List PyData) (lo hi : Option Int) : List PyData := (xs.drop (HT.sIx xs.length 0 lo)).take (HT.sIx xs.length xs.length hi - HT.sIx xs.length 0 lo)
def sliceD (d : D) (lo hi : Option Int) : Option Od := match d with
  | .py (.tuple xs) => some (.va (.py (.tuple (cutP xs lo hi))))
  | .py (.list xs) => some (.fe (.py (.list (cutP xs lo hi))))
  | _ => none
def revD : D → Option Od
  | .py (.list xs) => some (.fe (.py (.list xs.reverse)))
  | .py (.tuple xs) => some (.va (.py (.tuple xs.reverse)))
  | _ => none
def alikeB (xs : List PyData) : Bool := xs.all fun x => xs.all fun y => PySem.W.alike x y
def sortB (xs : List PyData) : Bool := (xs.all fun x => match x with | .tuple (_ :: _) => true | _ => false) || (xs.all fun x => match x with | .tuple _ => false | .none => false | _ => true)
def leD (x y : PyData) : Bool := !PySem.W.dataLt y x
def rngL (lo : Int) (n : Nat) : List PyData := (List.range n).map fun (k : Nat) => PyData.int (lo + (k : Int))
def okR (i : Int) : Bool := decide (-1000000 ≤ i) && decide (i ≤ 1000000)
def rngC (lo c : Int) (n : Nat) : List PyData := (List.range n).map fun i => .int (lo + (i : Nat) * c)
def rngD : List D → Option (List PyData)
  | [.py (.int b)] => if okR b then some (rngL 0 b.toNat) else none
  | [.py (.int a), .py (.int b)] => if okR a && okR b then some (rngL a (b - a).toNat) else none
  | [.py (.int a), .py (.int b), .py (.int c)] => if (okR a && okR b) && (okR c && decide (c ≠ 0)) && PySem.Builtin.Range.small a b c then some (rngC a c (PySem.Builtin.Range.rangeSize a b c).toNat) else none
  | _ => none
def sumI : List PyData → Option Int
  | [] => some 0
  | .int i :: r => (sumI r).map (i + ·)
  | _ => none
def bools : List PyData → Option (List Bool)
  | [] => some []
  | .bool b :: r => (bools r).map (b :: ·)
  | _ => none
def biD : Bi → List D → Option Od
  | .len, [.py (.list xs)] => some (ofI xs.length)
  | .len, [.py (.tuple xs)] => some (ofI xs.length)
  | .len, [.scr ns] => some (ofI ns.length)
  | .len, [.dct kvs] => some (ofI kvs.length)
  | .len, [.py (.str x)] => if x.length ≤ lim then some (ofI x.length) else none
  | .tuple, [.py (.list xs)] => some (.va (.py (.tuple xs)))
  | .tuple, [.py (.tuple xs)] => some (.va (.py (.tuple xs)))
  | .list, [.py (.list xs)] => some (.fe (.py (.list xs)))
  | .list, [.py (.tuple xs)] => some (.fe (.py (.list xs)))
  | .sorted, [.py (.list xs)] => if alikeB xs && sortB xs && okDp (.list xs) && decide (xs.length ≤ lim) then some (.fe (.py (.list (xs.mergeSort leD)))) else none
  | .min, [.py (.list (x :: xs))] => if alikeB (x :: xs) && ((x :: xs).all fun z => !isNn z) && okDp (.list (x :: xs)) then some (.va (.py (PySem.W.minD x xs))) else none
  | .max, [.py (.list (x :: xs))] => if alikeB (x :: xs) && ((x :: xs).all fun z => !isNn z) && okDp (.list (x :: xs)) then some (.va (.py (PySem.W.maxD x xs))) else none
  | .min, [.py (.int i), .py (.int j)] => some (ofI (if j < i then j else i))
  | .max, [.py (.int i), .py (.int j)] => some (ofI (if j > i then j else i))
  | .all, [.py (.list xs)] => (bools xs).map fun bs => ofB (bs.all id)
  | .any, [.py (.list xs)] => (bools xs).map fun bs => ofB (bs.any id)
  | .abs, [.py (.int i)] => some (ofI (if i < 0 then -i else i))
  | .int, [.py (.int i)] => some (ofI i)
  | .int, [.py (.bool b)] => some (ofI (if b then 1 else 0))
  | .divmod, [.py (.int i), .py (.int j)] => if 0 < j ∧ j < 1073741824 then some (.va (.py (.tuple [.int (i / j), .int (i % j)]))) else none
  | .repr, [.py (.bool b)] => some (.va (.py (.str (PyData.bool b).shown)))
  | .repr, [.py (.list xs)] => if okDp (.list xs) && (PyData.list xs).showable && decide ((PyData.list xs).shown.length ≤ lim) then some (.va (.py (.str (PyData.list xs).shown))) else none
  | .repr, [.py (.tuple xs)] => if okDp (.tuple xs) && (PyData.tuple xs).showable && decide ((PyData.tuple xs).shown.length ≤ lim) then some (.va (.py (.str (PyData.tuple xs).shown))) else none
  | .lrange, ds => (rngD ds).map fun xs => .fe (.py (.list xs))
  | .trange, ds => (rngD ds).map fun xs => .va (.py (.tuple xs))
  | _, _ => none
def countD (xs : List PyData) : List D → Option Od
  | [.py x] => if okDp x then some (ofI ((xs.countP fun y => PyData.eqv y x : Nat) : Int)) else none
  | _ => none
def indexD (xs : List PyData) : List D → Option Od
  | [.py x] => if okDp x then (xs.findIdx? fun y => PyData.eqv y x).map fun (k : Nat) => ofI (k : Int) else none
  | [.py x, .py (.int a)] => if okDp x && decide (0 ≤ a) && decide (a ≤ 1000000) then ((xs.drop a.toNat).findIdx? fun y => PyData.eqv y x).map fun (k : Nat) => ofI (a + (k : Int)) else none
  | _ => none
def index1 (xs : List PyData) : List D → Option Od
  | [.py x] => if okDp x then (xs.findIdx? fun y => PyData.eqv y x).map fun (k : Nat) => ofI (k : Int) else none
  | _ => none
def meD : Me → D → List D → Option Od
  | .count, .py (.tuple xs), ds => countD xs ds
  | .count, .py (.list xs), ds => countD xs ds
  | .index, .py (.tuple xs), ds => indexD xs ds
  | .index, .py (.list xs), ds => index1 xs ds
  | _, _, _ => none

def D.tupD : D → Bool
  | .py (.tuple _) => true
  | _ => false
def D.lstD : D → Bool
  | .py (.list _) => true
  | _ => false

/-- the pairs that enumerate gives -/
def enuL : Nat → List PyData → List PyData
  | _, [] => []
  | k, x :: xs => .tuple [.int (k : Int), x] :: enuL (k + 1) xs
def zipL : List PyData → List PyData → List PyData
  | x :: xs, y :: ys => .tuple [x, y] :: zipL xs ys
  | _, _ => []

/-! ### slots -/
def Sl.con : Sl → Option D
  | .no => none
  | .fr d => some d
  | .ow d => some d
  | .bo d => some d
/-- what stands behind an operand now -/
def rd (st : En) : Od → Option D
  | .va d => some d
  | .fe d => some d
  | .pk i => (st[i]?).bind Sl.con
/-- an operand that is kept -/
def Od.val : Od → Option D
  | .va d => some d
  | .fe d => some d
  | .pk _ => none
def D.pyd : D → Option PyData
  | .py p => some p
  | _ => none
/-- what a name comes to hold -/
def Od.slot : Od → Option Sl
  | .va d => some (.fr d)
  | .fe d => some (.ow d)
  | .pk _ => none
def slots : List Od → Option (List Sl)
  | [] => some []
  | o :: os => o.slot.bind fun s => (slots os).map (s :: ·)
def setSl (st : En) : List Nat → List Sl → En
  | i :: is, s :: ss => setSl (st.set i s) is ss
  | _, _ => st
def rds (st : En) : List Od → Option (List D)
  | [] => some []
  | o :: os => (rd st o).bind fun d => (rds st os).map (d :: ·)
def vals : List Od → Option (List D)
  | [] => some []
  | o :: os => o.val.bind fun d => (vals os).map (d :: ·)
def vas : List Od → Option (List D)
  | [] => some []
  | .va d :: os => (vas os).map (d :: ·)
  | _ => none
def pyds : List D → Option (List PyData)
  | [] => some []
  | d :: ds => d.pyd.bind fun p => (pyds ds).map (p :: ·)
/-- a list that may be changed -/
def lstAt (st : En) (i : Nat) : Option (List PyData × (D → Sl)) := match st[i]? with
  | some (.ow (.py (.list xs))) => some (xs, .ow)
  | some (.bo (.py (.list xs))) => some (xs, .bo)
  | _ => none
/-- what may be changed -/
def objAt (st : En) (i : Nat) : Option (D × (D → Sl)) := match st[i]? with
  | some (.ow d) => some (d, .ow)
  | some (.bo d) => some (d, .bo)
  | _ => none
/-- x[k] = p -/
def putO : D → D → PyData → Option D
  | .py (.list xs), .py (.int k), p => (L2.ixN xs.length k).map fun j => .py (.list (xs.set j p))
  | .dct kvs, .py x, p => if okKey kvs x && decide (kvs.length < lim) then some (.dct (putKd kvs x p)) else none
  | _, _, _ => none
/-- x.setdefault(k, p) -/
def sdfO : D → D → PyData → Option D
  | .dct kvs, .py x, p => if okKey kvs x && decide (kvs.length < lim) then some (if (getK kvs x).isSome then .dct kvs else .dct (putKd kvs x p)) else none
  | _, _, _ => none
def D.isDct : D → Bool
  | .dct _ => true
  | _ => false
def wipe (st : En) : List Nat → En
  | [] => st
  | v :: vs => (wipe st vs).set v .no
/-- the outer frame's own slots come back -/
def back (st0 st : En) : List Nat → En
  | [] => st
  | v :: vs => (back st0 st vs).set v (st0.getD v .no)
def calmSl : Sl → Bool
  | .no => true
  | .fr _ => true
  | _ => false
/-- the targets of a loop take a value -/
def bindT (tg : List Nat) (one : Bool) (p : PyData) (st : En) : Option En :=
  if one then (match tg with | [i] => some (st.set i (.fr (.py p))) | _ => none)
  else (match p with
    | .tuple xs => if xs.length = tg.length then some ((tg.zip xs).foldl (fun s q => s.set q.1 (.fr (.py q.2))) st) else none
    | .list xs => if xs.length = tg.length then some ((tg.zip xs).foldl (fun s q => s.set q.1 (.fr (.py q.2))) st) else none
    | _ => none)

def Exs.app : Exs → Exs → Exs
  | .nil, b => b
  | .cons e es, b => .cons e (es.app b)
/-! ### the evaluator -/
structure Ct where
  call : Str → List D → Option (D × Bool × D)
  io : Str → Bool
  glo : Str → Option PyData
  fuel : Nat

/-- a loop of a comprehension -/
def lcL (f : PyData → List PyData → En → Option (List PyData × En)) : List PyData → List PyData → En → Option (List PyData × En)
  | [], acc, st => some (acc, st)
  | x :: xs, acc, st => (f x acc st).bind fun r => lcL f xs r.1 r.2
/-- a comprehension that calls defs in turn -/
def fcL (ev : En → Option (List Od × En)) (ca : Str → List Nat → List Od → En → Option (Od × En)) (own : List Nat) : List (Str × List Nat) → List PyData → En → Option (List PyData × En)
  | [], acc, s => some (acc, s)
  | f :: fs, acc, s => (ev s).bind fun q => (ca f.1 f.2 q.1 q.2).bind fun qe => qe.1.val.bind fun d => d.pyd.bind fun p => if acc.length < lim then fcL ev ca own fs (acc ++ [p]) (wipe qe.2 own) else none
inductive Out where
  | nx | brk | cont | rt (d : D) (fe : Bool)
def frL (f : PyData → En → Option (Out × En)) : List PyData → En → Option (Out × En)
  | [], st => some (.nx, st)
  | x :: xs, st => (f x st).bind fun r => match r.1 with
    | .nx => frL f xs r.2
    | .cont => frL f xs r.2
    | .brk => some (.nx, r.2)
    | .rt d b => some (.rt d b, r.2)
def whL (c : En → Option (Bool × En)) (f : En → Option (Out × En)) : Nat → En → Option (Out × En)
  | 0, _ => none
  | n + 1, st => (c st).bind fun q => if q.1 then (f q.2).bind fun r => match r.1 with
      | .nx => whL c f n r.2
      | .cont => whL c f n r.2
      | .brk => some (.nx, r.2)
      | .rt d b => some (.rt d b, r.2)
    else some (.nx, q.2)
/-- the call of a def of the text: the operands behind one another, perm: which of them each parameter takes -/
def callE (C : Ct) (f : Str) (perm : List Nat) (os : List Od) (st : En) : Option (Od × En) :=
  let os' := perm.map fun j => os.getD j (.pk 0)
  if C.io f then (match os' with
    | .pk i :: r => (match st[i]? with
      | some (.ow d) => (vals r).bind fun ds => (C.call f (d :: ds)).map fun q => (if q.2.1 then .fe q.1 else .va q.1, st.set i (.ow q.2.2))
      | some (.bo d) => (vals r).bind fun ds => (C.call f (d :: ds)).map fun q => (if q.2.1 then .fe q.1 else .va q.1, st.set i (.bo q.2.2))
      | _ => none)
    | .fe d :: r => (vas r).bind fun ds => (C.call f (d :: ds)).map fun q => (if q.2.1 then .fe q.1 else .va q.1, st)
    | _ => none)
  else (vals os').bind fun ds => (C.call f ds).map fun q => (if q.2.1 then .fe q.1 else .va q.1, st)
mutual
def evE (C : Ct) : Ex → En → Option (Od × En)
  | .lit p, st => some (.va (.py p), st)
  | .var i, st => (match st[i]? with
    | some (.fr d) => some (.va d, st)
    | some (.ow d) => some (.va d, st.set i (.fr d))
    | _ => none)
  | .pk i, st => (match st[i]? with
    | some .no => none
    | some _ => some (.pk i, st)
    | none => none)
  | .glo x, st => (C.glo x).map fun p => (.va (.py p), st)
  | .op o a b, st => (evE C a st).bind fun qa => (evE C b qa.2).bind fun qb => (rd qb.2 qa.1).bind fun x => (rd qb.2 qb.1).bind fun y => (op2 o x y).map fun z => (z, qb.2)
  | .neg a, st => (evE C a st).bind fun qa => (match rd qa.2 qa.1 with
    | some (.py (.int i)) => some (ofI (-i), qa.2)
    | _ => none)
  | .cm o a b, st => (evE C a st).bind fun qa => (evE C b qa.2).bind fun qb => (rd qb.2 qa.1).bind fun x => (rd qb.2 qb.1).bind fun y => (cmp o x y).map fun z => (ofB z, qb.2)
  | .cm2 o o' a b c, st => (evE C a st).bind fun qa => (evE C b qa.2).bind fun qb => (rd qb.2 qa.1).bind fun x => (rd qb.2 qb.1).bind fun y => (cmp o x y).bind fun z =>
      if z then (evE C c qb.2).bind fun qc => (rd qc.2 qb.1).bind fun y => (rd qc.2 qc.1).bind fun u => (cmp o' y u).map fun z => (ofB z, qc.2) else some (ofB false, qb.2)
  | .and a b, st => (evE C a st).bind fun qa => (match rd qa.2 qa.1 with
    | some (.py (.bool c)) => if c then evE C b qa.2 else some (ofB false, qa.2)
    | _ => none)
  | .or a b, st => (evE C a st).bind fun qa => (match rd qa.2 qa.1 with
    | some (.py (.bool c)) => if c then some (ofB true, qa.2) else evE C b qa.2
    | _ => none)
  | .nt a, st => (evE C a st).bind fun qa => (match rd qa.2 qa.1 with
    | some (.py (.bool c)) => some (ofB (!c), qa.2)
    | _ => none)
  | .ite c a b, st => (evT C c st).bind fun q => if q.1 then evE C a q.2 else evE C b q.2
  | .tup es, st => (evs C es st).bind fun q => (vals q.1).bind fun ds => (pyds ds).bind fun ps => if ps.length ≤ lim then some (.va (.py (.tuple ps)), q.2) else none
  | .lst es, st => (evs C es st).bind fun q => (vals q.1).bind fun ds => (pyds ds).bind fun ps => if ps.length ≤ lim then some (.fe (.py (.list ps)), q.2) else none
  | .dct0, st => some (.fe (.dct []), st)
  | .ix a i, st => (evE C a st).bind fun qa => (evE C i qa.2).bind fun qi => (rd qi.2 qa.1).bind fun x => (rd qi.2 qi.1).bind fun y => (item x y).map fun z => (.va z, qi.2)
  | .sl a lo hi, st => (evE C a st).bind fun qa => (evP C lo qa.2).bind fun ql => (evP C hi ql.2).bind fun qh => (rd qh.2 qa.1).bind fun x => (sliceD x ql.1 qh.1).map fun o => (o, qh.2)
  | .rev a, st => (evE C a st).bind fun qa => (rd qa.2 qa.1).bind fun x => (revD x).map fun o => (o, qa.2)
  | .bi f es, st => (evs C es st).bind fun q => (rds q.2 q.1).bind fun ds => (biD f ds).map fun o => (o, q.2)
  | .isa a ts, st => (evE C a st).bind fun qa => (rd qa.2 qa.1).bind fun d => d.pyd.map fun p => (ofB (ts.any (isTy p)), qa.2)
  | .cal f perm es, st => (evs C es st).bind fun q => callE C f perm q.1 q.2
  | .me m a es, st => (evE C a st).bind fun qa => (rd qa.2 qa.1).bind fun x0 => (evs C es qa.2).bind fun q => (rd q.2 qa.1).bind fun x => if x0.tupD == x.tupD && x0.lstD == x.lstD then (rds q.2 q.1).bind fun ds => (meD m x ds).map fun o => (o, q.2) else none
  | .pop i e, st => (lstAt st i).bind fun _ => (evE C e st).bind fun q => (rd q.2 q.1).bind fun k => (lstAt q.2 i).bind fun m => (match k with
    | .py (.int k) => if okR k then (L2.ixN m.1.length k).bind fun j => (m.1[j]?).map fun p => (.va (.py p), q.2.set i (m.2 (.py (.list (m.1.eraseIdx j))))) else none
    | _ => none)
  | .lc own tg one it c e, st => (evI C it st).bind fun q => if own.all (fun i => calmSl (q.2.getD i .no)) then
      (lcL (fun x acc s => (bindT tg one x s).bind fun s1 => (evT C c s1).bind fun qc => if qc.1 then (evE C e qc.2).bind fun qe => qe.1.val.bind fun d => d.pyd.bind fun p =>
        if acc.length < lim then some (acc ++ [p], wipe qe.2 own) else none else some (acc, wipe qc.2 own)) q.1 [] (wipe q.2 own)).map fun r => (.fe (.py (.list r.1)), back q.2 r.2 own)
      else none
  | .dc own tg one it c k e, st => none
  | .lcf own i fs os, st => if own.all (fun j => calmSl (st.getD j .no)) && decide (i ∈ own) && decide (i < st.length) then (fcL (fun s => evs C os s) (callE C) own fs [] (wipe st own)).map fun r => (.fe (.py (.list r.1)), back st r.2 own) else none
  | .bad, st => none
def evP (C : Ct) : Pt → En → Option (Option Int × En)
  | .no, st => some (none, st)
  | .so e, st => (evE C e st).bind fun q => (match rd q.2 q.1 with
    | some (.py (.int i)) => some (some i, q.2)
    | _ => none)
def evT (C : Ct) : T → En → Option (Bool × En)
  | .and a b, st => (evT C a st).bind fun q => if q.1 then evT C b q.2 else some (false, q.2)
  | .or a b, st => (evT C a st).bind fun q => if q.1 then some (true, q.2) else evT C b q.2
  | .nt a, st => (evT C a st).map fun q => (!q.1, q.2)
  | .ite c a b, st => (evT C c st).bind fun q => if q.1 then evT C a q.2 else evT C b q.2
  | .yes, st => some (true, st)
  | .v e, st => (evE C e st).bind fun q => ((rd q.2 q.1).bind D.tru).map fun b => (b, q.2)
def evs (C : Ct) : Exs → En → Option (List Od × En)
  | .nil, st => some ([], st)
  | .cons e es, st => (evE C e st).bind fun q => (evs C es q.2).map fun r => (q.1 :: r.1, r.2)
/-- what is walked -/
def evI (C : Ct) : I → En → Option (List PyData × En)
  | .rng es, st => (evs C es st).bind fun q => (rds q.2 q.1).bind fun ds => (rngD ds).map fun xs => (xs, q.2)
  | .enu es, st => (evs C es st).bind fun q => (vals q.1).bind fun ds => (match ds with
    | [.py (.list xs)] => some (enuL 0 xs, q.2)
    | [.py (.tuple xs)] => some (enuL 0 xs, q.2)
    | _ => none)
  | .zip es, st => (evs C es st).bind fun q => (vals q.1).bind fun ds => (match ds with
    | [.py (.list xs), .py (.list ys)] => some (zipL xs ys, q.2)
    | [.py (.tuple xs), .py (.tuple ys)] => some (zipL xs ys, q.2)
    | [.py (.list xs), .py (.tuple ys)] => some (zipL xs ys, q.2)
    | _ => none)
  | .v e, st => (evE C e st).bind fun q => q.1.val.bind fun d => (match d with
    | .py (.list xs) => some (xs, q.2)
    | .py (.tuple xs) => some (xs, q.2)
    | _ => none)
end
/-- a value is handed back -/
def retE (o : Od) : Option Out := match o with
  | .va d => some (.rt d false)
  | .fe d => some (.rt d true)
  | .pk _ => none
mutual
def exS (C : Ct) : S → En → Option (Out × En)
  | .asg i e, st => (evE C e st).bind fun q => q.1.slot.map fun s => (.nx, q.2.set i s)
  | .asgT is e, st => (evE C e st).bind fun q => (rd q.2 q.1).bind fun d => d.pyd.bind fun p => (bindT is false p q.2).map fun s => (.nx, s)
  | .par is es, st => (evs C es st).bind fun q => (slots q.1).bind fun ss => if ss.length = is.length then some (.nx, setSl q.2 is ss) else none
  | .divI i k j e, st => (evE C e st).bind fun q => (rd q.2 q.1).bind fun d => (lstAt q.2 i).bind fun m => (match d with
    | .py (.tuple [a, b]) => (L2.ixN m.1.length k).map fun n => (.nx, (q.2.set i (m.2 (.py (.list (m.1.set n a))))).set j (.fr (.py b)))
    | _ => none)
  | .asgTT is js e, st => (evE C e st).bind fun q => (rd q.2 q.1).bind fun d => (match d with
    | .py (.tuple [a, b]) => (bindT is false a q.2).bind fun s1 => (bindT js false b s1).map fun s => (.nx, s)
    | _ => none)
  | .asgSS i k j l e, st => (evE C e st).bind fun q => (rd q.2 q.1).bind fun d => (match d with
    | .py (.tuple [a, b]) => (objAt q.2 i).bind fun _ => (evE C k q.2).bind fun qk => (rd qk.2 qk.1).bind fun kd => (objAt qk.2 i).bind fun m => (putO m.1 kd a).bind fun d1 =>
      (objAt (qk.2.set i (m.2 d1)) j).bind fun _ => (evE C l (qk.2.set i (m.2 d1))).bind fun ql => (rd ql.2 ql.1).bind fun ld => (objAt ql.2 j).bind fun m2 => (putO m2.1 ld b).map fun d2 => (.nx, ql.2.set j (m2.2 d2))
    | _ => none)
  | .setI i k e, st => (evE C e st).bind fun q => q.1.val.bind fun d => d.pyd.bind fun p => (objAt q.2 i).bind fun _ => (evE C k q.2).bind fun qk => (rd qk.2 qk.1).bind fun kd => (objAt qk.2 i).bind fun m =>
      (putO m.1 kd p).map fun d' => (.nx, qk.2.set i (m.2 d'))
  | .augI i k e, st => (objAt st i).bind fun _ => (evE C k st).bind fun qk => (rd qk.2 qk.1).bind fun kd => (objAt qk.2 i).bind fun m => (match item m.1 kd with
    | some (.py (.int x)) => (evE C e qk.2).bind fun q => (rd q.2 q.1).bind fun d => (objAt q.2 i).bind fun m2 => (match kd, d with
      | .py kp, .py (.int y) => (putO m2.1 (.py kp) (.int (x + y))).map fun d' => (.nx, q.2.set i (m2.2 d'))
      | _, _ => none)
    | _ => none)
  | .aug i o e, st => (match st[i]? with
    | some (.fr (.py (.int x))) => (evE C e st).bind fun q => (rd q.2 q.1).bind fun d => (match o, d with
      | .add, .py (.int y) => some (.nx, q.2.set i (.fr (.py (.int (x + y)))))
      | .sub, .py (.int y) => some (.nx, q.2.set i (.fr (.py (.int (x - y)))))
      | _, _ => none)
    | _ => none)
  | .app i e, st => (lstAt st i).bind fun _ => (evE C e st).bind fun q => q.1.val.bind fun d => d.pyd.bind fun p => (lstAt q.2 i).bind fun m =>
      if m.1.length < lim then some (.nx, q.2.set i (m.2 (.py (.list (m.1 ++ [p]))))) else none
  | .ext i e, st => (lstAt st i).bind fun _ => (evE C e st).bind fun q => (rd q.2 q.1).bind fun d => (lstAt q.2 i).bind fun m => (match d with
    | .py (.list ys) => if m.1.length + ys.length < lim then some (.nx, q.2.set i (m.2 (.py (.list (m.1 ++ ys))))) else none
    | _ => none)
  | .upd _ _, _ => none
  | .sdf i k e, st => (objAt st i).bind fun m0 => if m0.1.isDct then (evE C k st).bind fun qk => (rd qk.2 qk.1).bind fun kd => (evE C e qk.2).bind fun q => q.1.val.bind fun d => d.pyd.bind fun p => (objAt q.2 i).bind fun m =>
      (sdfO m.1 kd p).map fun d' => (.nx, q.2.set i (m.2 d')) else none
  | .ex e, st => (evE C e st).map fun q => (.nx, q.2)
  | .ret e, st => (evE C e st).bind fun q => (retE q.1).map fun o => (o, q.2)
  | .retv i, st => (match st[i]? with
    | some (.fr d) => some (.rt d false, st)
    | some (.ow d) => some (.rt d true, st.set i .no)
    | _ => none)
  | .retN, st => some (.rt (.py .none) false, st)
  | .pass, st => some (.nx, st)
  | .brk, st => some (.brk, st)
  | .cont, st => some (.cont, st)
  | .raise, _ => none
  | .ifs c a b, st => (evT C c st).bind fun q => if q.1 then exs C a q.2 else exs C b q.2
  | .whl c b, st => whL (evT C c) (exs C b) C.fuel st
  | .fr tg one it b, st => (evI C it st).bind fun q => frL (fun x s => (bindT tg one x s).bind (exs C b)) q.1 q.2
def exs (C : Ct) : Ss → En → Option (Out × En)
  | .nil, st => some (.nx, st)
  | .cons s ss, st => (exS C s st).bind fun r => match r.1 with
    | .nx => exs C ss r.2
    | .brk => some (.brk, r.2)
    | .cont => some (.cont, r.2)
    | .rt d b => some (.rt d b, r.2)
end
/-- the slots at a def's entry -/
def enter (F : Fd) (ds : List D) : En := (match F.io, ds with
    | true, d :: r => .bo d :: r.map .fr
    | _, ds => ds.map .fr) ++ List.replicate (F.n - ds.length) .no
/-- what the lent first parameter is at the end -/
def lentE (io : Bool) (st : En) : Option D := match io, st with
  | false, _ => some (.py .none)
  | true, .bo d :: _ => some d
  | _, _ => none
/-- the defs of a text -/
structure Tab where
  fds : List (Str × Fd)
  glos : List (Str × PyData)
def Tab.ct (T : Tab) (fuel : Nat) (call : Str → List D → Option (D × Bool × D)) : Ct := ⟨call, fun f => (T.fds.lookup f).elim false Fd.io, fun x => T.glos.lookup x, fuel⟩
/-- a call, at most n deep -/
def run (T : Tab) (fuel : Nat) : Nat → Str → List D → Option (D × Bool × D)
  | 0, _, _ => none
  | n + 1, f, ds => (T.fds.lookup f).bind fun F => if ds.length = F.ps.length then (exs (T.ct fuel (run T fuel n)) F.body (enter F ds)).bind fun r =>
      (lentE F.io r.2).bind fun fin => match r.1 with
      | .rt d b => some (d, b, fin)
      | .nx => some (.py .none, false, fin)
      | _ => none
    else none
end Mi
end
section
/-! Mi0: enumerate of a tuple, a list taken apart. -/
namespace Mi
open PySem PySem.Spec
open PyProof.Rows hiding St Fr
open L2

/-! ### a list taken apart -/
section
variable {prog : Program} {w : World} {A : Around} {E : Value → Shared → Prop} {s : Shared}
theorem list_ext {h h' : Heap} {it l : Addr} {xs : Array Value} (hl : h.IsList l xs) (ne : l ≠ it) (k : ∀ b o, b ≠ it → h.get? b = some o → h'.get? b = some o) : h'.IsList l xs := hl.at fun o e => k l o ne e
theorem draw_lst {l it : Addr} {xs : Array Value} (ne : l ≠ it) : ∀ (m j : Nat) (s : Shared) (Q : List Value → Shared → Prop), s.heap.IsListIter it l j → s.heap.IsList l xs → j + m ≤ xs.size →
    (∀ h', h'.IsListIter it l (j + m) → (∀ b o, b ≠ it → s.heap.get? b = some o → h'.get? b = some o) → Q ((xs.toList.drop j).take m) { s with heap := h' }) → wpAny (model prog w) A (draw (.ref it) m) Q E s
  | 0, j, s, Q, hi, hl, hm, q => wpAny_pure (q s.heap hi fun _ _ _ e => e)
  | m + 1, j, s, Q, hi, hl, hm, q => by
    have lt : j < xs.size := by omega
    show wpAny _ _ (pyNext (.ref it) >>= _) Q E s
    refine wpAny_bind (wpAny_pyNext_list_item hi hl (x := xs[j]) (by simp [lt]) fun h1 i1 k1 => ?_)
    have k1' : ∀ b o, b ≠ it → s.heap.get? b = some o → h1.get? b = some o := fun b o hb e => (k1.2 b hb).trans e
    refine wpAny_bind (wpAny_holding (draw_lst ne m (j + 1) { s with heap := h1 } _ i1 (list_ext hl ne k1') (by omega) fun h2 i2 k2 => wpAny_pure ?_))
    have e1 : xs.toList.drop j = xs[j] :: xs.toList.drop (j + 1) := by rw [List.drop_eq_getElem_cons (by simpa using lt)]; simp
    rw [e1, List.take_succ_cons] at q
    exact q h2 (by rw [show j + (m + 1) = j + 1 + m by omega]; exact i2) fun b o hb e => k2 b o hb (k1' b o hb e)
theorem unpack_lst {l : Addr} {xs : Array Value} {Q : List Value → Shared → Prop} (hh : A.handled = none) (hl : s.heap.IsList l xs)
    (q : ∀ h', (∀ b o, b ≠ s.heap.objs.size → s.heap.get? b = some o → h'.get? b = some o) → Q xs.toList { s with heap := h' }) : wpAny (model prog w) A (unpackItems (.ref l) xs.size none) Q E s := by
  have ne : l ≠ s.heap.objs.size := by
    obtain ⟨o, e, _⟩ := hl
    exact Nat.ne_of_lt (Heap.lt_size e)
  unfold unpackItems notIterableAtAll
  refine wpAny_bind (wpAny_bind (wpAny_specialOf hl.typeIs PySem.F.slot_list_iter.lookup (wpAny_pure ?_)))
  simp only [Bool.false_eq_true, if_false]
  refine wpAny_bind (wpAny_holding (wpAny_pyIter_list hl ?_))
  have push : ∀ (o : Obj) (b : Addr) (u : Obj), s.heap.get? b = some u → (s.heap.push o).get? b = some u := fun o b u e => Heap.get?_push_of_some _ e
  refine wpAny_bind (wpAny_holding (draw_lst ne xs.size 0 _ _ ⟨_, Heap.get?_push_size _ rfl, rfl, rfl⟩ (hl.at fun o e => push _ l o e) (by omega) fun h1 i1 k1 => ?_))
  have all : List.take xs.size (List.drop 0 xs.toList) = xs.toList := by
    rw [List.drop_zero]
    exact List.take_of_length_le (by simp)
  rw [all, if_neg (by simp)]
  have l1 : h1.IsList l xs := list_ext (hl.at fun o e => push _ l o e) ne k1
  refine wpAny_bind (wpAny_holding (wpAny_pyNext_list_end (s := { s with heap := h1 }) hh i1 l1 (by simp) fun h2 k2 => ?_))
  simp only [Option.isSome_none, Bool.false_eq_true, if_false]
  exact wpAny_pure (q h2 fun b o hb e => k2 b o hb (k1 b o hb (push _ b o e)))
end
/-- (a, b, ..) = a list of that length -/
def gLst (K : PySem.W.Frag) (n : Nat) (t : TGs) : TG := fun v σ H Q => ∃ a xs, v = .ref a ∧ SqL K H a xs ∧ xs.length = n ∧ t xs σ H Q
section
variable {X : Cx} {pos : Pos}
theorem pg_lst {es : List Expr} {k : Nat} {t : TGs} {n : Nat} (hc : X.calm = true) (h : PGs X es t) (hn : (assignEach es X.env).length = n) (hst : (assignEach es X.env).findIdx? (·.1) = none) : PG X (.Tuple es k pos) (gLst X.K n t) := by
  refine ⟨fun pins s σ H v u Q I r hw => ?_⟩
  obtain ⟨a, xs, rfl, hq, hl, hw⟩ := hw
  cases r
  obtain ⟨its, rv, pl, _⟩ := I.list hq
  have e1 : its.toArray.size = (assignEach es X.env).length := by rw [hn, List.size_toArray, ← hl, rv.length]
  rw [PyProof.Rows.assign_Tuple]
  refine wpAny_bind (wpAny_standAt ?_)
  unfold unpack
  rw [← e1, hst]
  refine wpAny_bind (wpAny_holding (unpack_lst (I.ok.hd hc) pl.isList fun h1 k1 => ?_))
  have I1 : Inv X pins σ H { s with heap := h1 } := I.kept (t' := s.toks) fun b o e => k1 b o (Nat.ne_of_lt (Heap.lt_size e)) e
  exact h.run pins _ σ H xs _ Q I1 (by simpa using rv) hw
end
/-! ### enumerate of a tuple -/
theorem get_lt' {α : Type} {l : List α} {i : Nat} {x : α} (h : l[i]? = some x) : i < l.length := (List.getElem?_eq_some_iff.mp h).1
open PySem in
theorem meets_enuT (t : Addr) (xs : Array Value) :
    Meets (Builtin.«enumerate.__new__» ⟨[.type "enumerate", .ref t], []⟩) (fun _ R s => s.heap.IsTuple t xs ∧
      R (.ok (.ret (.ref (s.heap.push { cls := .type "tuple_iterator", data := .fields #[.ref t, .int 0 0] }).objs.size)))
        { s with heap := (s.heap.push { cls := .type "tuple_iterator", data := .fields #[.ref t, .int 0 0] }).push { cls := .type "enumerate", data := .fields #[.none, .bool false, .ref s.heap.objs.size, rawInt 0, .none, .none] } }) :=
  .of_wp fun prog w A R s h => by
    obtain ⟨hp, g, d, tk, os⟩ := s
    obtain ⟨ht, h⟩ := h
    have hsub := sub_enumerate
    wp_walk using wpAny_pyIter_tuple ht
    refine wpAny_stack_any fun st => wpAny_pure ?_
    split
    · rename_i c _ _ _ _ _
      cases (c == Value.type "enumerate")
      · wp_walk using wpAny_pyIter_tuple ht
        exact ⟨_, rfl, h⟩
      · wp_walk using wpAny_pyIter_tuple ht
        exact ⟨_, rfl, h⟩
    · wp_walk using wpAny_pyIter_tuple ht
      exact ⟨_, rfl, h⟩
section
variable {prog : Program} {w : World} {A : Around} {E : Value → Shared → Prop} {s : Shared}
theorem call_enuT {t : Addr} {xs : Array Value} {Q : Value → Shared → Prop} (ht : s.heap.IsTuple t xs)
    (h : ∀ h', IsEnum h' (s.heap.objs.size + 1) s.heap.objs.size ((0 : Nat) : Int) .none → h'.IsTupleIter s.heap.objs.size t 0 → h'.objs.size = s.heap.objs.size + 2 → (∀ b o, s.heap.get? b = some o → h'.get? b = some o) → Q (.ref (s.heap.objs.size + 1)) { s with heap := h' }) :
    wpAny (model prog w) A (call (.type "enumerate") [.ref t]) Q E s := by
  refine callType_new F.called_enumerate (by decide) (F.typeCall_enumerate_1 _) (F.newCall_enumerate_1 _) (fun obj => F.args_object_init_2 obj _) F.entry_enumerate_new (meets_enuT t xs) ⟨ht, ?_⟩
  generalize hit : ({ cls := .type "tuple_iterator", data := .fields #[.ref t, .int 0 0] } : Obj) = oi
  have z1 : (s.heap.push oi).objs.size = s.heap.objs.size + 1 := Heap.size_push ..
  have g1 : (s.heap.push oi).get? s.heap.objs.size = some oi := by rw [← hit]; exact Heap.get?_push_size _ rfl
  show _ ∧ _
  rw [z1]
  generalize hen : ({ cls := .type "enumerate", data := .fields #[.none, .bool false, .ref s.heap.objs.size, rawInt 0, .none, .none] } : Obj) = oe
  have g2 : ((s.heap.push oi).push oe).get? (s.heap.objs.size + 1) = some oe := by rw [← z1, ← hen]; exact Heap.get?_push_size _ rfl
  refine ⟨⟨_, g2, by rw [← hen]⟩, h _ (by rw [← hen] at g2 ⊢; exact g2) ⟨oi, Heap.get?_push_of_some _ g1, by rw [← hit], by rw [← hit] <;> rfl⟩ (by rw [Heap.size_push, z1]) fun b o e => Heap.get?_push_of_some _ (Heap.get?_push_of_some _ e)⟩
end
/-- the tuple at a, each item in a new pair -/
def ItE (K : PySem.W.Frag) (a : Addr) : It where
  go := fun i H => ∃ (xs : List V) (x : V), SqT K H a xs ∧ xs[i]? = some x
  yld := fun i H v H' => ∃ T x, v = .ref T ∧ H T = none ∧ H' = upd H T (.tup [.int (i : Nat), x]) ∧ ∀ xs, SqT K H a xs → xs[i]? = some x
  stop := fun i H => ∃ xs : List V, SqT K H a xs ∧ xs.length = i
theorem turn_enuT {P : Program} {w : World} {K : PySem.W.Frag} {elts : List Expr} {kk : Nat} {tp : Pos} (a e it : Addr) :
    Turn P w K (.Tuple elts kk tp) (ItE K a) [e, it] e (fun i h => (∃ old, IsEnum h e it ((i : Nat) : Int) old) ∧ h.IsTupleIter it a i ∧ e ≠ it ∧ a ≠ it ∧ a ≠ e) where
  mem := List.mem_cons_self ..
  obj := fun i h ⟨⟨old, he⟩, ⟨o, ho, _, hd⟩, _⟩ b hb => by
    rcases List.mem_cons.mp hb with rfl | hb
    · exact ⟨_, he, fun v q => nomatch q⟩
    · rw [List.mem_singleton.mp hb]
      exact ⟨o, ho, fun v q => by rw [hd] at q; cases q⟩
  keep := fun i h h' ⟨⟨old, he⟩, hi, r⟩ k => ⟨⟨old, k e (List.mem_cons_self ..) _ he⟩, hi.at fun o q => k it (by simp) o q, r⟩
  item := by
    intro X hP hw hK hc i pins s σ H E I hf st hg
    subst hP hw hK
    obtain ⟨⟨old, he⟩, hit, n1, n2, n3⟩ := st
    obtain ⟨xs, x, hq, hx⟩ := hg
    obtain ⟨its, rv, pt, hz⟩ := I.tuple hq
    obtain ⟨u, hu, ru⟩ := rv.get hx
    have lt : i < its.toArray.size := by
      have := get_lt' hu
      simpa using this
    have le : e < s.heap.objs.size := Heap.lt_size he
    have li : it < s.heap.objs.size := by
      obtain ⟨o, q, _⟩ := hit
      exact Heap.lt_size q
    refine wpAny_pyNext_enum_itemC (Draws.tuple (prog := X.prog) (w := X.w) (A := X.A.in1) (I.ok.hd hc) it a n2 its.toArray) he ⟨hit, pt⟩ lt n1 (by simp [n1, Ne.symm n3]) fun y h1 tk hy out st1 hT hsz hk => ?_
    obtain rfl : u = y := by
      have hy : its.toArray[i]? = some y := hy
      have : its[i]? = some y := by simpa using hy
      rw [hu] at this
      exact Option.some.inj this
    refine ⟨_, rfl, wpAny_letOwnedTupleGo_enum (s := { s with heap := h1, toks := tk + 1 }) out fun h2 he2 sb => ?_⟩
    have new : h2.get? s.heap.objs.size = some { cls := .type "tuple", data := .seq #[.int i tk, u] } := (sb.2 _ (Nat.ne_of_gt le)).trans hT
    have okN : ObjOk X.prog X.w (upd H s.heap.objs.size (.tup [.int (i : Nat), x])) h2 s.heap.objs.size (.tup [.int (i : Nat), x]) :=
      ⟨by show 2 ≤ sizeLine; decide, [.int i tk, u], .cons ⟨_, rfl⟩ (.cons ru .nil), ⟨_, new, rfl, _, rfl⟩⟩
    have I1 : Inv X pins σ (upd H s.heap.objs.size (.tup [.int (i : Nat), x])) { s with heap := h2, toks := tk + 1 } :=
      I.turnedNew (ch := [e, it]) (fun b ob hb q => (sb.2 b (fun z => hb (by simp [z]))).trans (hk b ob (fun z => hb (by simp [z])) (fun z => hb (by simp [z])) q)) hf (Nat.le_refl _) okN
    refine ⟨.ref s.heap.objs.size, _, I1, rfl, ⟨_, x, rfl, I.hok.fresh (Nat.le_refl _), rfl, fun ys hy => by rw [I.tuple_inj hy hq]; exact hx⟩, ⟨⟨u, ?_⟩, st1.1.at fun o q => (sb.2 it (Ne.symm n1)).trans q, n1, n2, n3⟩, fun b hb => ?_⟩
    · rw [show ((i + 1 : Nat) : Int) = (i : Int) + 1 by omega]
      exact he2
    · have hb' : b < s.heap.objs.size := by
        rcases List.mem_cons.mp hb with rfl | q
        · exact le
        · rw [List.mem_singleton.mp q]; exact li
      rw [upd_ne (Nat.ne_of_lt hb')]
      exact (hf b hb).1
  done := by
    intro X hP hw hK hc i pins s σ H E I hf st hg
    subst hP hw hK
    obtain ⟨⟨old, he⟩, hit, n1, n2, n3⟩ := st
    obtain ⟨xs, hq, hx⟩ := hg
    obtain ⟨its, rv, pt, hz⟩ := I.tuple hq
    obtain ⟨f0, f1, f2, f3, f4, f5⟩ := hf it (by simp)
    have len : i = its.toArray.size := by rw [← hx, rv.length, List.size_toArray]
    subst len
    exact wpAny_pyNext_enum_endD (Draws.tuple (prog := X.prog) (w := X.w) (A := X.A.in1) (I.ok.hd hc) it a n2 its.toArray) he ⟨hit, pt⟩ fun h' eb => ⟨rfl, I.turned (t' := s.toks) (fun b o hb q => eb b o hb q) f0 f1 f3 f4 f5⟩
  self := fun A i s Q E st h => by
    obtain ⟨⟨old, he⟩, _⟩ := st
    exact wpAny_pyIter_enum he h
theorem walk_enuT {K : PySem.W.Frag} {a : Addr} {xs : List V} : Walk (ItE K a) xs.length (fun H => SqT K H a xs) (YPair (fun i => some (.int (i : Nat))) (fun i => xs[i]?)) := by
  constructor
  · intro i H hi q
    exact ⟨xs, xs[i], q, by simp [hi]⟩
  · intro H q
    exact ⟨xs, q, rfl⟩
  · intro i H v H' _ q y
    obtain ⟨T, x, c1, c2, c3, c4⟩ := y
    exact ⟨T, .int (i : Nat), x, c1, c2, c3, rfl, c4 xs q⟩
def iEnuT (K : PySem.W.Frag) (ta : TA) : TI := fun σ H R => ta σ H fun vs H1 => ∃ a xs, vs = [.ref a] ∧ SqT K H1 a xs ∧ R (ItE K a) H1
theorem pi_enuT {X : Cx} {e : Expr} {ta : TA} {p pos tp : Pos} {elts : List Expr} {kk : Nat} (gl : Gl X "enumerate") (hm : X.mg "enumerate" = none) (ha : PA X [e] ta) (hs : starEach [e] X.env = [(false, eval e X.env)]) :
    PI X (.Tuple elts kk tp) (.Call (.Name "enumerate" p) [e] [] pos) (iEnuT X.K ta) := by
  refine ⟨fun pins s σ H R I h => ?_⟩
  refine Call_ (ld_blt I gl hm boot_enumerate (PyProof.Rows.callWith_type1 (thn (ha.run pos pins s σ H _ I h) fun us t ⟨vs, H1, I1, r1, q1⟩ => ?_) hs rfl))
  obtain ⟨a, xs, rfl, hq, q⟩ := q1
  obtain ⟨u, rfl, ru⟩ := Vals.one r1
  cases ru
  obtain ⟨its, rv, pt, hz⟩ := I1.tuple hq
  have la : a < t.heap.objs.size := by
    obtain ⟨o, e, _⟩ := (show t.heap.IsTuple a its.toArray from pt)
    exact Heap.lt_size e
  refine call_enuT (show t.heap.IsTuple a its.toArray from pt) fun h' he hit hsz hk => wpAny_pyIter_enum he ?_
  have I2 : Inv X pins σ H1 { t with heap := h' } := I1.kept (t' := t.toks) hk
  refine ⟨t.heap.objs.size + 1, [t.heap.objs.size + 1, t.heap.objs.size], _, _, H1, rfl, I2, turn_enuT a (t.heap.objs.size + 1) t.heap.objs.size, ⟨⟨.none, he⟩, hit, Nat.succ_ne_self _, Nat.ne_of_lt la, Nat.ne_of_lt (Nat.lt_succ_of_lt la)⟩, fun b hb => ?_, q⟩
  have ge : t.heap.objs.size ≤ b := by
    rcases List.mem_cons.mp hb with rfl | z
    · exact Nat.le_succ _
    · rw [List.mem_singleton.mp z]; exact Nat.le_refl _
  exact I1.fpOk ge (I1.hok.fresh ge)
end Mi
end
section
/-! MiR: a tuple turned round by a slice. -/
namespace HT
open PySem PySem.Spec PyProof.Rows
section
variable {prog : Program} {w : World} {A : Around} {E : Value → Shared → Prop} {s : Shared}
theorem sliceApplied_rev {sl : Addr} {vs : Value} {n : Nat} {Q : Int × Int × Nat → Shared → Prop} (hs : s.heap.IsSliceOf sl .none .none vs) (ps : IsPart vs (some (-1)))
    (h : Q ((n : Int) - 1, -1, n) s) : wpAny (model prog w) A (Builtin.Slice.sliceApplied (.ref sl) (pure (n : Int))) Q E s := by
  obtain ⟨os, hos, hcs, hds⟩ := id hs
  unfold Builtin.Slice.sliceApplied Builtin.Slice.sliceFields
  refine wpAny_bind (wpAny_bind (wpAny_field hos hds (x := .none) rfl (wpAny_bind (wpAny_field hos hds (x := .none) rfl (wpAny_bind (wpAny_field hos hds (x := vs) rfl (wpAny_pure ?_)))))))
  refine wpAny_bind (slicePart_ ps ?_)
  show wpAny _ _ (if ((-1 : Int) == 0) = true then _ else _) _ _ s
  rw [if_neg (by decide)]
  refine wpAny_bind (slicePart_none (wpAny_bind (slicePart_none (wpAny_bind (wpAny_pure ?_)))))
  show wpAny _ _ (match Builtin.Slice.sliceAdjust none none (-1) (n : Int) with | (lo, hi) => pure (lo, (-1 : Int), Builtin.Slice.slicePlaces lo hi (-1))) _ _ s
  have e : Builtin.Slice.sliceAdjust none none (-1) (n : Int) = ((n : Int) - 1, -1) := by
    unfold Builtin.Slice.sliceAdjust
    simp
  rw [e]
  show wpAny _ _ (pure ((n : Int) - 1, (-1 : Int), Builtin.Slice.slicePlaces ((n : Int) - 1) (-1) (-1))) _ _ s
  have e2 : Builtin.Slice.slicePlaces ((n : Int) - 1) (-1) (-1) = n := by
    unfold Builtin.Slice.slicePlaces
    by_cases h0 : n = 0
    · subst h0; simp
    · simp
      omega
  rw [e2]
  exact wpAny_pure h
theorem pick_rev (xs : Array Value) : ((List.range xs.size).filterMap fun (m : Nat) => xs[((xs.size : Int) - 1 + (m : Int) * (-1)).toNat]?).toArray = xs.toList.reverse.toArray := by
  congr 1
  have e : ∀ m ∈ List.range xs.size, xs[((xs.size : Int) - 1 + (m : Int) * (-1)).toNat]? = some (xs.toList.reverse.getD m .none) := fun m hm => by
    have hm := List.mem_range.mp hm
    have h1 : ((xs.size : Int) - 1 + (m : Int) * (-1)).toNat = xs.size - 1 - m := by omega
    have h2 : xs.size - 1 - m < xs.size := by omega
    rw [h1, Array.getElem?_eq_getElem h2, List.getD_eq_getElem?_getD, List.getElem?_reverse (by simpa using hm)]
    simp [h2]
  have e2 : ∀ (l : List Nat) (f : Nat → Option Value) (g : Nat → Value), (∀ m ∈ l, f m = some (g m)) → l.filterMap f = l.map g := by
    intro l f g h
    induction l with
    | nil => rfl
    | cons x l ih =>
      rw [List.filterMap_cons_some (h x (List.mem_cons_self ..)), List.map_cons, ih fun m hm => h m (List.mem_cons_of_mem _ hm)]
  rw [e2 _ _ _ e]
  apply List.ext_getElem
  · simp
  · intro i h1 h2
    rw [List.getElem_map, List.getElem_range, List.getD_eq_getElem?_getD, List.getElem?_eq_getElem h2]
    rfl
theorem getItem_tuple_rev {t sl : Addr} {items : Array Value} {vs : Value} {Q : Value → Shared → Prop} (ht : IsTup s.heap t items) (hs : s.heap.IsSliceOf sl .none .none vs) (ps : IsPart vs (some (-1)))
    (h : Q (.ref s.heap.objs.size) { s with heap := s.heap.push { cls := .type "tuple", data := .seq items.toList.reverse.toArray } })
    (hsz : items.size ≤ sizeLine) : wpAny (model prog w) A (getItem (.ref t) (.ref sl)) Q E s := by
  have htake : sizeOk (.seq items.toList.reverse.toArray) := by
    show items.toList.reverse.toArray.size ≤ sizeLine
    rw [List.size_toArray, List.length_reverse, Array.length_toList]
    exact hsz
  obtain ⟨os, hos, hcs, hds⟩ := id hs
  have hTs : s.TypeIs (.ref sl) "slice" := ⟨os, hos, hcs⟩
  unfold getItem
  try with_reducible refine wpAny_holding ?_
  first | refine wpAny_bind (wpAny_pure ?_) | skip
  refine wpAny_bind (wpAny_sequenceKey ht.typeIs (by decide) ?_)
  refine wpAny_bind (wpAny_callSpecial?_slot (name := Str.ofString "__getitem__") ht.typeIs PyProof.Rows.slot_tuple_getitem
    (wpAny_call_entry PyProof.Rows.slot_tuple_getitem ht.typeIs entry_tuple_getitem ?_ (args_tuple_getitem _ _)))
  show wpAny _ _ (Builtin.Tuple.tupleItemsOf (.ref t) >>= _) _ _ s
  refine wpAny_bind (tupleItemsOf_ ht ?_)
  refine wpAny_bind (wpAny_typeOf hTs ?_)
  rw [if_pos (by decide)]
  refine wpAny_bind (sliceApplied_rev hs ps ?_)
  have hno : ¬ ((((items.size : Int) - 1) == 0 && (-1 : Int) == 1 && items.size == items.size) = true) := by
    intro q
    rw [Bool.and_eq_true, Bool.and_eq_true] at q
    exact absurd q.1.2 (by decide)
  show wpAny _ _ (if (((items.size : Int) - 1) == 0 && (-1 : Int) == 1 && items.size == items.size) = true then _ else _) _ _ s
  rw [if_neg hno, pick_rev]
  first
    | exact wpAny_bind (m := Builtin.Tuple.tupleExact _) (wpAny_newObj_type (wpAny_pure ⟨_, rfl, wpAny_pure h⟩) htake)
    | exact wpAny_bind (m := Builtin.Tuple.tupleExact _) (wpAny_newObj_type (wpAny_bind (wpAny_pure (wpAny_pure ⟨_, rfl, wpAny_pure h⟩))) htake)
    | exact wpAny_bind (wpAny_bind (m := Builtin.Tuple.tupleExact _) (wpAny_newObj_type (wpAny_pure (wpAny_pure ⟨_, rfl, wpAny_pure h⟩)) htake))
    | exact wpAny_bind (wpAny_bind (m := Builtin.Tuple.tupleExact _) (wpAny_newObj_type (wpAny_pure ⟨_, rfl, wpAny_pure h⟩) htake))
end
end HT
namespace L2
open PySem PySem.Spec PyProof.Rows
section
variable {X : Cx}
/-- xs[::-1], a list or a tuple -/
def tRevA (K : PySem.W.Frag) (te : TE) : TE := fun σ H Q => te σ H fun v H1 => ∃ (a : Addr) (xs : List V), v = .ref a ∧ ((SqL K H1 a xs ∧ ∀ p, H1 p = none → Q (.ref p) (upd H1 p (.lst xs.reverse))) ∨
  (SqT K H1 a xs ∧ ∀ p us, H1 p = none → Q (.ref p) (upd H1 p (.frz { cls := .type "tuple", data := .seq us } (.tup xs.reverse)))))
theorem pe_revA {e : Expr} {te : TE} {k : Nat} {p1 p2 p3 pos : Pos} (he : PE X e te) : PE X (.Subscript e (.Slice none none (some (.UnaryOp .USub (.Constant (.int 1) k p1) p2)) p3) pos) (tRevA X.K te) := by
  refine ⟨fun pins s σ H Q I h => ?_⟩
  refine Subscript_ (thn (he.run pins s σ H _ I h) fun v s1 ⟨x, H1, I1, r1, q1⟩ => ?_)
  obtain ⟨a, xs, ex, q⟩ := q1
  subst ex
  cases r1
  have hst : PO X (some (.UnaryOp .USub (.Constant (.int 1) k p1) p2)) (tPart (tUn (rU fun i => .int (-i)) (tC (.int 1)))) := po_some (pe_un un_neg pe_int)
  refine wpAny_Slice (thn (po_none.run pins s1 σ H1 (fun o H2 => o = none ∧ H2 = H1) I1 ⟨rfl, rfl⟩) fun vl s2 ⟨l, H2, I2, pl, el, e2⟩ => ?_)
  subst el e2
  refine thn (po_none.run pins s2 σ H2 (fun o H3 => o = none ∧ H3 = H2) I2 ⟨rfl, rfl⟩) fun vu s3 ⟨u, H3, I3, pu, eu, e3⟩ => ?_
  subst eu e3
  refine thn (hst.run pins s3 σ H3 (fun o H4 => o = some (-1) ∧ H4 = H3) I3 ⟨1, rfl, -1, rfl, rfl, rfl⟩) fun vs s4 ⟨o, H4, I4, ps, eo, e4⟩ => ?_
  subst eo e4
  have I5 : Inv X pins σ H4 { s4 with heap := s4.heap.push { cls := .type "slice", data := .fields #[vl, vu, vs] } } := I4.kept (t' := s4.toks) fun b ob q => Heap.get?_push_of_some _ q
  show wpAny (model X.prog X.w) X.A (subscriptTail e (.Slice none none (some (.UnaryOp .USub (.Constant (.int 1) k p1) p2)) p3) (.ref a) (.ref s4.heap.objs.size)) (EP X pins σ Q) X.xe { s4 with heap := s4.heap.push { cls := .type "slice", data := .fields #[vl, vu, vs] } }
  rcases q with ⟨hx, q⟩ | ⟨hx, q⟩
  · obtain ⟨its, r, ht, hz⟩ := I5.list hx
    have hlen := r.length
    refine tail_any (ops := [.ref a, .ref s4.heap.objs.size]) ht.isList.typeIs (PySem.slot_list_getitem.lookup) ?_ (by with_unfolding_all rfl)
    refine wpAny_getItem_list_slice ht.isList (Heap.IsSliceOf.new _ vl vu vs) pl pu ps (by decide) ?_ (by rw [List.size_toArray]; omega)
    rw [PySem.W.krv_pick]
    refine ⟨.ref _, _, I5.laid (t' := s4.toks) (o := .lst xs.reverse) (fun b ob q => Heap.get?_push_of_some _ q) (Nat.le_refl _) ?_, rfl, q _ (I5.hok.fresh (Nat.le_refl _))⟩
    exact ⟨by rw [List.length_reverse]; exact hz, _, 0, r.reverse, Heap.get?_push_size _ rfl⟩
  · obtain ⟨its, r, ht, hz⟩ := I5.tuple hx
    have hlen := r.length
    cases pl; cases pu
    refine tail_any (ops := [.ref a, .ref s4.heap.objs.size]) ht.typeIs PyProof.Rows.slot_tuple_getitem.lookup ?_ (by with_unfolding_all rfl)
    refine HT.getItem_tuple_rev ht (Heap.IsSliceOf.new _ .none .none vs) ps ?_ (by rw [List.size_toArray]; omega)
    refine ⟨.ref _, _, I5.laid (t' := s4.toks) (o := .frz { cls := .type "tuple", data := .seq its.toArray.toList.reverse.toArray } (.tup xs.reverse)) (fun b ob q => Heap.get?_push_of_some _ q) (Nat.le_refl _) ?_, rfl, q _ _ (I5.hok.fresh (Nat.le_refl _))⟩
    exact ⟨Heap.get?_push_size _ rfl, by rw [List.length_reverse]; exact hz, its.reverse, r.reverse, ⟨_, Heap.get?_push_size _ rfl, rfl, _, rfl⟩⟩
end
end L2
end
section
/-! MiZ: zip of a list and a tuple. -/
namespace Mz
open PySem PySem.Spec PyProof.Rows L2
/-- a list at a, a tuple at b, as they stand at each turn; the pairs are new -/
def ItM (K : PySem.W.Frag) (a b : Addr) : It where
  go := fun m G => ∃ (us ws : List V) (p q : V), SqL K G a us ∧ SqT K G b ws ∧ us[m]? = some p ∧ ws[m]? = some q
  yld := fun m G v G' => ∃ T p q, v = .ref T ∧ G T = none ∧ G' = upd G T (.tup [p, q]) ∧ (∀ us, SqL K G a us → us[m]? = some p) ∧ (∀ ws, SqT K G b ws → ws[m]? = some q)
  stop := fun m G => ∃ us ws : List V, SqL K G a us ∧ SqT K G b ws ∧ (us.length = m ∨ ws.length = m) ∧ m ≤ us.length ∧ m ≤ ws.length
theorem sep_of {a b z TI TO i1 i2 : Addr} (D : ZipApart z TI TO i1 i2 a b) : PySem.ZipSep2 z TI TO i1 i2 [i1, a] [i2, b] where
  TIz := D.TIz
  TOz := D.TOz
  TITO := D.TITO
  TIi1 := D.TIi1
  mem1 := List.mem_cons_self ..
  zf1 := by simp [Ne.symm D.i1z, Ne.symm D.l1z]
  Tf1 := by simp [D.TOi1, Ne.symm D.l1TO]
  TIi2 := D.TIi2
  mem2 := List.mem_cons_self ..
  zf2 := by simp [Ne.symm D.i2z, Ne.symm D.l2z]
  Tf2 := by simp [D.TOi2, Ne.symm D.l2TO]
  sep1_2 := by simp [D.i12, Ne.symm D.l2i1]
  sep2_1 := by simp [Ne.symm D.i12, Ne.symm D.l1i2]
section
variable {P : Program} {w : World} {K : PySem.W.Frag} {tgs : List Expr} {nn : Nat} {ps : Pos} {a b z TI TO i1 i2 : Addr}
abbrev cells (z TI TO i1 i2 : Addr) : List Addr := [z, TI, TO, i1, i2]
theorem in_cells {c : Addr} (h : c ∈ cells z TI TO i1 i2) : c = z ∨ c = TI ∨ c = TO ∨ c = i1 ∨ c = i2 := by simpa [cells] using h
theorem not_cells {c : Addr} (h : c ∉ cells z TI TO i1 i2) : c ≠ z ∧ c ≠ TI ∧ c ≠ TO ∧ c ≠ i1 ∧ c ≠ i2 := by
  simp only [cells, List.mem_cons, List.mem_nil_iff, or_false, not_or] at h
  exact h
/-- where the five cells stand ahead of turn m -/
def StM (z TI TO i1 i2 a b : Addr) (m : Nat) (g : Heap) : Prop := IsZip g z TI TO .none ∧ IsPair g TI (.ref i1) (.ref i2) ∧ (∃ p q, IsPair g TO p q) ∧ g.IsListIter i1 a m ∧ g.IsTupleIter i2 b m
theorem StM.lt {m : Nat} {g : Heap} (S : StM z TI TO i1 i2 a b m g) {c : Addr} (h : c ∈ cells z TI TO i1 i2) : c < g.objs.size := by
  obtain ⟨s1, s2, ⟨p, q, s3⟩, ⟨o1, e1, _⟩, ⟨o2, e2, _⟩⟩ := S
  rcases in_cells h with rfl | rfl | rfl | rfl | rfl
  · exact Heap.lt_size s1
  · exact Heap.lt_size s2
  · exact Heap.lt_size s3
  · exact Heap.lt_size e1
  · exact Heap.lt_size e2
theorem turnM (D : ZipApart z TI TO i1 i2 a b) : Turn P w K (.Tuple tgs nn ps) (ItM K a b) (cells z TI TO i1 i2) z (StM z TI TO i1 i2 a b) where
  mem := List.mem_cons_self ..
  obj := fun m g S c hc => by
    obtain ⟨s1, s2, ⟨p, q, s3⟩, ⟨o1, e1, _, d1⟩, ⟨o2, e2, _, d2⟩⟩ := S
    rcases in_cells hc with rfl | rfl | rfl | rfl | rfl
    · exact ⟨_, s1, fun v n => nomatch n⟩
    · exact ⟨_, s2, fun v n => nomatch n⟩
    · exact ⟨_, s3, fun v n => nomatch n⟩
    · exact ⟨o1, e1, fun v n => by rw [d1] at n; cases n⟩
    · exact ⟨o2, e2, fun v n => by rw [d2] at n; cases n⟩
  keep := fun m g g' S kp => by
    obtain ⟨s1, s2, ⟨p, q, s3⟩, s4, s5⟩ := S
    have mz : ∀ c ∈ cells z TI TO i1 i2, ∀ o, g.get? c = some o → g'.get? c = some o := kp
    exact ⟨mz z (by simp [cells]) _ s1, mz TI (by simp [cells]) _ s2, ⟨p, q, mz TO (by simp [cells]) _ s3⟩, s4.at fun o e => mz i1 (by simp [cells]) o e, s5.at fun o e => mz i2 (by simp [cells]) o e⟩
  item := by
    intro X eP ew eK hc m pins s σ G E I hf S hg
    subst eP ew eK
    have low : ∀ c ∈ cells z TI TO i1 i2, c < s.heap.objs.size := fun c hm => S.lt hm
    obtain ⟨s1, s2, ⟨p0, q0, s3⟩, s4, s5⟩ := S
    obtain ⟨us, ws, p, q, gu, gw, hp, hq⟩ := hg
    obtain ⟨ius, ru, pu, _⟩ := I.list gu
    obtain ⟨iws, rw_, pw, _⟩ := I.tuple gw
    obtain ⟨vu, eu, rvu⟩ := ru.get hp
    obtain ⟨vw, ew, rvw⟩ := rw_.get hq
    have hh : X.A.in1.handled = none := I.ok.hd hc
    have l1 : m < ius.toArray.size := by rw [List.size_toArray]; exact (List.getElem?_eq_some_iff.mp eu).1
    have l2 : m < iws.toArray.size := by rw [List.size_toArray]; exact (List.getElem?_eq_some_iff.mp ew).1
    refine PySem.wpAny_pyNext_zipD2_item (sep_of D) (Draws.list hh i1 a D.l1i1 ius.toArray) (Draws.tuple hh i2 b D.l2i2 iws.toArray) s1 s2 s3 ⟨s4, pu.isList⟩ ⟨s5, pw⟩ l1 l2 fun x1 x2 g tk y1 y2 n1 n2 n3 n4 n5 n6 kp => ?_
    have e1 : x1 = vu := by
      have : ius.toArray[m]? = some vu := by simpa using eu
      rw [this] at y1
      exact (Option.some.inj y1).symm
    have e2 : x2 = vw := by
      have : iws.toArray[m]? = some vw := by simpa using ew
      rw [this] at y2
      exact (Option.some.inj y2).symm
    subst e1 e2
    have T : Addr := s.heap.objs.size
    refine ⟨_, rfl, wpAny_letOwnedTupleGo_zip (s := { s with heap := g, toks := tk }) n1 fun g2 n1' sb => ?_⟩
    have zl := low z (by simp [cells])
    have keepT : g2.get? s.heap.objs.size = some { cls := .type "tuple", data := .seq #[x1, x2] } := (sb.2 _ (Nat.ne_of_gt zl)).trans n5
    have made : ObjOk X.prog X.w (upd G s.heap.objs.size (.tup [p, q])) g2 s.heap.objs.size (.tup [p, q]) := ⟨(by decide : 2 ≤ sizeLine), [x1, x2], .cons rvu (.cons rvw .nil), ⟨_, keepT, rfl, _, rfl⟩⟩
    have I' : Inv X pins σ (upd G s.heap.objs.size (.tup [p, q])) { s with heap := g2, toks := tk } :=
      I.turnedNew (t' := tk) (ch := cells z TI TO i1 i2) (fun c o no e => by
        obtain ⟨c1, c2, c3, c4, c5⟩ := not_cells no
        exact (sb.2 c c1).trans (kp c o c1 c3 c4 c5 e)) hf (Nat.le_refl _) made
    refine ⟨.ref s.heap.objs.size, _, I', rfl, ⟨_, p, q, rfl, I.hok.fresh (Nat.le_refl _), rfl, fun us' hu' => ?_, fun ws' hw' => ?_⟩, ⟨n1', ?_, ⟨x1, x2, (sb.2 _ D.TOz).trans n2⟩, ?_, ?_⟩, fun c hcm => ?_⟩
    · rw [I.list_inj hu' gu]; exact hp
    · rw [I.tuple_inj hw' gw]; exact hq
    · exact (sb.2 _ D.TIz).trans (kp _ _ D.TIz D.TITO D.TIi1 D.TIi2 s2)
    · exact n3.1.at fun o e => (sb.2 _ D.i1z).trans e
    · exact n4.1.at fun o e => (sb.2 _ D.i2z).trans e
    · rw [upd_ne (Nat.ne_of_lt (low c hcm))]
      exact (hf c hcm).1
  done := by
    intro X eP ew eK hc m pins s σ G E I hf S hg
    subst eP ew eK
    obtain ⟨s1, s2, ⟨p0, q0, s3⟩, s4, s5⟩ := S
    obtain ⟨us, ws, gu, gw, fin, le1, le2⟩ := hg
    obtain ⟨ius, ru, pu, _⟩ := I.list gu
    obtain ⟨iws, rw_, pw, _⟩ := I.tuple gw
    have hh : X.A.in1.handled = none := I.ok.hd hc
    have k1 := ru.length
    have k2 := rw_.length
    exact PySem.wpAny_pyNext_zipD2_end (sep_of D) (Draws.list hh i1 a D.l1i1 ius.toArray) (Draws.tuple hh i2 b D.l2i2 iws.toArray) s1 s2 s3 ⟨s4, pu.isList⟩ ⟨s5, pw⟩ (by rw [List.size_toArray]; omega) (by rw [List.size_toArray]; omega) (by rw [List.size_toArray, List.size_toArray]; omega)
      fun g tk kp => ⟨rfl, I.turnedL (t' := tk) (ch := cells z TI TO i1 i2) (fun c o no e => by
        obtain ⟨c1, c2, c3, c4, c5⟩ := not_cells no
        exact kp c o c1 c3 c4 c5 e) hf⟩
  self := fun A m s Q E S h => wpAny_pyIter_zip S.1 h
end
/-- zip(list, tuple) -/
def iZipM (K : PySem.W.Frag) (ta : TA) : TI := fun σ G R => ta σ G fun vs G1 => ∃ a b us ws, vs = [.ref a, .ref b] ∧ SqL K G1 a us ∧ SqT K G1 b ws ∧ R (ItM K a b) G1
theorem pi_zipM {X : Cx} {e e2 : Expr} {ta : TA} {p pos tpos : Pos} {tgs : List Expr} {nn : Nat} (hg : Gl X "zip") (hm : X.mg "zip" = none) (ha : PA X [e, e2] ta)
    (hs : starEach [e, e2] X.env = (false, eval e X.env) :: starEach [e2] X.env) (hpl : (backTo pos (starEach [e2] X.env)).any (·.1) = false) :
    PI X (.Tuple tgs nn tpos) (.Call (.Name "zip" p) [e, e2] [] pos) (iZipM X.K ta) := by
  refine ⟨fun pins s σ G R I h => ?_⟩
  refine Call_ (ld_blt I hg hm PyProof.Rows.boot_zip (PyProof.Rows.callWith_type1 (thn (ha.run pos pins s σ G _ I h) fun vs s1 ⟨xs, G1, I1, rv, more⟩ => ?_) hs hpl))
  obtain ⟨a, b, us, ws, rfl, gu, gw, fin⟩ := more
  obtain ⟨va, vb, rfl, ra, rb⟩ := vals2 rv
  cases ra; cases rb
  obtain ⟨ius, ru, pu, _⟩ := I1.list gu
  obtain ⟨iws, rw_, pw, _⟩ := I1.tuple gw
  have la : a < s1.heap.objs.size := pu.lt
  have lb : b < s1.heap.objs.size := by obtain ⟨o, ho, _⟩ := id pw; exact Heap.lt_size ho
  have young : ∀ c ∈ cells (s1.heap.objs.size + 4) (s1.heap.objs.size + 2) (s1.heap.objs.size + 3) s1.heap.objs.size (s1.heap.objs.size + 1), FpOk X pins G1 c := fun c hc => by
    have ge : s1.heap.objs.size ≤ c := by
      rcases in_cells hc with rfl | rfl | rfl | rfl | rfl <;> omega
    exact I1.fpOk ge (I1.hok.fresh ge)
  refine PySem.zip_begins2 (PySem.begins_list a ius.toArray) (PySem.begins_tuple b iws.toArray) pu.isList pw fun g n1 n2 n3 n4 n5 n6 kp => wpAny_pyIter_zip n1 ?_
  have I2 : Inv X pins σ G1 { s1 with heap := g } := I1.kept (t' := s1.toks) kp
  exact ⟨_, _, _, _, G1, rfl, I2, turnM (PySem.W.ktu_apart s1.heap.objs.size a b la lb), ⟨n1, n2, ⟨_, _, n3⟩, ⟨_, n4, rfl, rfl⟩, ⟨_, n5, rfl, rfl⟩⟩, young, fin⟩
end Mz
end
section
/-! Mi2: what the evaluator's frames have to do with HandS's frames and heaps. -/
namespace Mi
open PySem PySem.Spec
open PyProof.Rows hiding St Fr
open L2

/-! ### data in a heap -/
/-- a tuple without a dict of its own -/
def Tp (K : PySem.W.Frag) (F : Hp) (a : Addr) (xs : List V) : Prop := (∃ ob : Obj, ob.dict = none ∧ F a = some (.frz ob (.tup xs))) ∨
  ∃ (o : Obj) (vs : Array Value) (n : Nat), K.lookup a = some o ∧ o.cls = .type "tuple" ∧ o.dict = none ∧ o.data = .seq vs n ∧ vs.size ≤ sizeLine ∧ Vals xs vs.toList
theorem Tp.same {K : PySem.W.Frag} {H H' : Hp} {a : Addr} {xs : List V} (e : Same H H') (h : Tp K H a xs) : Tp K H' a xs := by
  rcases h with ⟨ob, h1, h2⟩ | h
  · exact .inl ⟨ob, h1, e _ _ h2⟩
  · exact .inr h
mutual
inductive Dn (K : PySem.W.Frag) (F : Hp) : V → PyData → Prop
  | non : Dn K F .non .none
  | bl (b : Bool) : Dn K F (.bl b) (.bool b)
  | int (i : Int) : Dn K F (.int i) (.int i)
  | str (x : Str) : Dn K F (.str x) (.str x)
  | lst {a : Addr} {xs : List V} {ds : List PyData} : F a = some (.lst xs) → DnAll K F xs ds → Dn K F (.ref a) (.list ds)
  | tup {a : Addr} {xs : List V} {ds : List PyData} : Tp K F a xs → DnAll K F xs ds → Dn K F (.ref a) (.tuple ds)
inductive DnAll (K : PySem.W.Frag) (F : Hp) : List V → List PyData → Prop
  | nil : DnAll K F [] []
  | cons {v : V} {vs : List V} {d : PyData} {ds : List PyData} : Dn K F v d → DnAll K F vs ds → DnAll K F (v :: vs) (d :: ds)
end
theorem Tp.sq {K : PySem.W.Frag} {H : Hp} {a : Addr} {xs : List V} (h : Tp K H a xs) : SqT K H a xs := by
  rcases h with ⟨ob, h1, h2⟩ | ⟨o, vs, n, h1, h2, h3, h4, h5, h6⟩
  · exact .inl (.inr ⟨ob, h2⟩)
  · exact .inr ⟨o, vs, n, h1, h2, h4, h5, h6⟩
mutual
theorem dn_dp {K : PySem.W.Frag} {F : Hp} : ∀ (p : PyData) (v : V), Dn K F v p → Dp K F v p
  | .none, _, h => by cases h; exact .non
  | .bool b, _, h => by cases h; exact .bl b
  | .int i, _, h => by cases h; exact .int i
  | .str x, _, h => by cases h; exact .str x
  | .list ds, _, h => by
    cases h with
    | lst h1 h2 => exact .lst (.inl (.inl h1)) (dnAll_dp ds _ h2)
  | .tuple ds, _, h => by
    cases h with
    | tup h1 h2 => exact .tup h1.sq (dnAll_dp ds _ h2)
  | .dict _, _, h => by cases h
theorem dnAll_dp {K : PySem.W.Frag} {F : Hp} : ∀ (ps : List PyData) (vs : List V), DnAll K F vs ps → DpAll K F vs ps
  | [], _, h => by cases h; exact .nil
  | p :: ps, _, h => by
    cases h with
    | cons h1 h2 => exact .cons (dn_dp p _ h1) (dnAll_dp ps _ h2)
end

mutual
theorem dp_same {K : PySem.W.Frag} {F F' : Hp} (e : Same F F') : ∀ (p : PyData) (v : V), Dn K F v p → Dn K F' v p
  | .none, _, h => by cases h; exact .non
  | .bool b, _, h => by cases h; exact .bl b
  | .int i, _, h => by cases h; exact .int i
  | .str x, _, h => by cases h; exact .str x
  | .list ds, _, h => by
    cases h with
    | lst h1 h2 => exact .lst (e _ _ h1) (dpAll_same e ds _ h2)
  | .tuple ds, _, h => by
    cases h with
    | tup h1 h2 => exact .tup (h1.same e) (dpAll_same e ds _ h2)
  | .dict _, _, h => by cases h
theorem dpAll_same {K : PySem.W.Frag} {F F' : Hp} (e : Same F F') : ∀ (ps : List PyData) (vs : List V), DnAll K F vs ps → DnAll K F' vs ps
  | [], _, h => by cases h; exact .nil
  | p :: ps, _, h => by
    cases h with
    | cons h1 h2 => exact .cons (dp_same e p _ h1) (dpAll_same e ps _ h2)
end
section
variable {K : PySem.W.Frag} {F F' H H' : Hp} {vs ws : List V} {ps qs : List PyData} {v : V} {p : PyData}
theorem dpl_len : ∀ {vs : List V} {ps : List PyData}, DnAll K F vs ps → vs.length = ps.length
  | _, _, .nil => rfl
  | _, _, .cons _ t => congrArg Nat.succ (dpl_len t)
theorem dpl_app : ∀ {vs ws : List V} {ps qs : List PyData}, DnAll K F vs ps → DnAll K F ws qs → DnAll K F (vs ++ ws) (ps ++ qs)
  | _, _, _, _, .nil, s => s
  | _, _, _, _, .cons r t, s => .cons r (dpl_app t s)
theorem dpl_get : ∀ {vs : List V} {ps : List PyData} {i : Nat} {p : PyData}, DnAll K F vs ps → ps[i]? = some p → ∃ v, vs[i]? = some v ∧ Dn K F v p
  | _, _, _, _, .nil, e => by simp at e
  | _, _, 0, _, .cons r _, e => by simp at e; subst e; exact ⟨_, rfl, r⟩
  | _, _, i + 1, p, .cons _ t, e => by
    obtain ⟨v, h1, h2⟩ := dpl_get (i := i) (p := p) t (by simpa using e)
    exact ⟨v, by simpa using h1, h2⟩
theorem dpl_get' : ∀ {vs : List V} {ps : List PyData} {i : Nat} {v : V}, DnAll K F vs ps → vs[i]? = some v → ∃ p, ps[i]? = some p ∧ Dn K F v p
  | _, _, _, _, .nil, e => by simp at e
  | _, _, 0, _, .cons r _, e => by simp at e; subst e; exact ⟨_, rfl, r⟩
  | _, _, i + 1, p, .cons _ t, e => by
    obtain ⟨v, h1, h2⟩ := dpl_get' (i := i) (v := p) t (by simpa using e)
    exact ⟨v, by simpa using h1, h2⟩
theorem dpl_set (r : Dn K F v p) : ∀ {vs : List V} {ps : List PyData} (i : Nat), DnAll K F vs ps → DnAll K F (vs.set i v) (ps.set i p)
  | _, _, _, .nil => .nil
  | _, _, 0, .cons _ t => .cons r t
  | _, _, i + 1, .cons q t => .cons q (dpl_set r i t)
theorem dpl_erase : ∀ {vs : List V} {ps : List PyData} (i : Nat), DnAll K F vs ps → DnAll K F (vs.eraseIdx i) (ps.eraseIdx i)
  | _, _, _, .nil => .nil
  | _, _, 0, .cons _ t => t
  | _, _, i + 1, .cons q t => .cons q (dpl_erase i t)
theorem dpl_take : ∀ {vs : List V} {ps : List PyData} (n : Nat), DnAll K F vs ps → DnAll K F (vs.take n) (ps.take n)
  | _, _, 0, _ => .nil
  | _, _, _ + 1, .nil => .nil
  | _, _, n + 1, .cons r t => .cons r (dpl_take n t)
theorem dpl_drop : ∀ {vs : List V} {ps : List PyData} (n : Nat), DnAll K F vs ps → DnAll K F (vs.drop n) (ps.drop n)
  | _, _, 0, r => r
  | _, _, _ + 1, .nil => .nil
  | _, _, n + 1, .cons r t => dpl_drop n t
theorem dpl_rev : ∀ {vs : List V} {ps : List PyData}, DnAll K F vs ps → DnAll K F vs.reverse ps.reverse
  | _, _, .nil => .nil
  | _, _, .cons r t => by rw [List.reverse_cons, List.reverse_cons]; exact dpl_app (dpl_rev t) (.cons r .nil)
theorem dpl_rep : ∀ (n : Nat), DnAll K F vs ps → DnAll K F (List.replicate n vs).flatten (List.replicate n ps).flatten
  | 0, _ => .nil
  | n + 1, h => by rw [List.replicate_succ, List.replicate_succ, List.flatten_cons, List.flatten_cons]; exact dpl_app h (dpl_rep n h)
mutual
theorem dp_plain : ∀ (p : PyData) (v : V), Dn K F v p → p.plain = true
  | .none, _, _ => rfl
  | .bool _, _, _ => rfl
  | .int _, _, _ => rfl
  | .str _, _, _ => rfl
  | .list ds, _, h => by
    cases h with
    | lst h1 h2 => show PyData.plainAll ds = true; exact dpl_plain ds _ h2
  | .tuple ds, _, h => by
    cases h with
    | tup h1 h2 => show PyData.plainAll ds = true; exact dpl_plain ds _ h2
  | .dict _, _, h => by cases h
theorem dpl_plain : ∀ (ps : List PyData) (vs : List V), DnAll K F vs ps → PyData.plainAll ps = true
  | [], _, _ => rfl
  | p :: ps, _, h => by
    cases h with
    | cons h1 h2 =>
      show (p.plain && PyData.plainAll ps) = true
      rw [dp_plain p _ h1, dpl_plain ps _ h2] <;> rfl
end
end

/-- a dict's pairs -/
inductive DnKV (K : PySem.W.Frag) (F : Hp) : List (Key × V) → List (PyData × PyData) → Prop
  | nil : DnKV K F [] []
  | cons {k : Key} {q : PyData} {v : V} {p : PyData} {vs : List (Key × V)} {ps : List (PyData × PyData)} : keyP q = some k → Dn K F v p → DnKV K F vs ps → DnKV K F ((k, v) :: vs) ((q, p) :: ps)
theorem keyP_eqv {a b : PyData} {k j : Key} (ha : keyP a = some k) (hb : keyP b = some j) : PyData.eqv a b = decide (k = j) := by
  cases a <;> cases ha <;> cases b <;> cases hb
  · rename_i i1 i2
    rw [key_ll]
    simp [PyData.eqv]
  · rw [key_lr]; rfl
  · rw [key_rl]; rfl
  · rename_i x y
    rw [key_rr]
    show (x == y) = _
    by_cases h : x = y
    · subst h; simp
    · rw [decide_eq_false h]; exact beq_eq_false_iff_ne.mpr h
section
variable {K : PySem.W.Frag} {F F' : Hp}
theorem dkv_same (e : Same F F') : ∀ {vs : List (Key × V)} {ps : List (PyData × PyData)}, DnKV K F vs ps → DnKV K F' vs ps
  | _, _, .nil => .nil
  | _, _, .cons q h t => .cons q (dp_same e _ _ h) (dkv_same e t)
theorem dkv_len : ∀ {vs : List (Key × V)} {ps : List (PyData × PyData)}, DnKV K F vs ps → vs.length = ps.length
  | _, _, .nil => rfl
  | _, _, .cons _ _ t => congrArg Nat.succ (dkv_len t)
theorem dkv_get {x : PyData} {k : Key} (hx : keyP x = some k) : ∀ {vs : List (Key × V)} {ps : List (PyData × PyData)}, DnKV K F vs ps → (∀ p, getK ps x = some p → ∃ v, valV vs k = some v ∧ Dn K F v p) ∧ (getK ps x = none → valV vs k = none)
  | _, _, .nil => ⟨fun p h => (by cases h), fun _ => rfl⟩
  | _, _, .cons (k := j) (q := y) (v := v) (p := p0) hq h t => by
    obtain ⟨h1, h2⟩ := dkv_get hx t
    have ee := keyP_eqv hq hx
    by_cases e : j = k
    · subst e
      rw [decide_eq_true rfl] at ee
      refine ⟨fun p hp => ?_, fun hp => ?_⟩
      · simp [getK, ee] at hp
        subst hp
        exact ⟨v, valV_pos rfl, h⟩
      · simp [getK, ee] at hp
    · rw [decide_eq_false e] at ee
      have g : ∀ ps : List (PyData × PyData), getK ((y, p0) :: ps) x = getK ps x := fun ps => by simp [getK, List.find?_cons, ee]
      refine ⟨fun p hp => ?_, fun hp => ?_⟩
      · rw [g] at hp
        obtain ⟨u, q1, q2⟩ := h1 p hp
        exact ⟨u, by rw [valV_neg (show ¬ ((j, v) : Key × V).1 = k from e)]; exact q1, q2⟩
      · rw [g] at hp
        rw [valV_neg (show ¬ ((j, v) : Key × V).1 = k from e)]
        exact h2 hp
theorem dkv_some {x : PyData} {k : Key} (hx : keyP x = some k) {vs : List (Key × V)} {ps : List (PyData × PyData)} (h : DnKV K F vs ps) : (valV vs k).isSome = (getK ps x).isSome := by
  obtain ⟨h1, h2⟩ := dkv_get hx h
  cases e : getK ps x with
  | none => rw [h2 e] <;> rfl
  | some p =>
    obtain ⟨v, q, _⟩ := h1 p e
    rw [q] <;> rfl
theorem dkv_any {x : PyData} {k : Key} (hx : keyP x = some k) : ∀ {vs : List (Key × V)} {ps : List (PyData × PyData)}, DnKV K F vs ps → (vs.any fun q => decide (q.1 = k)) = (ps.any fun q => PyData.eqv q.1 x)
  | _, _, .nil => rfl
  | _, _, .cons hq _ t => by rw [List.any_cons, List.any_cons, dkv_any hx t, keyP_eqv hq hx]
theorem dkv_repl {x : PyData} {k : Key} (hx : keyP x = some k) {v : V} {p : PyData} (h : Dn K F v p) : ∀ {vs : List (Key × V)} {ps : List (PyData × PyData)}, DnKV K F vs ps → DnKV K F (vs.map fun q => if q.1 = k then (q.1, v) else q) (ps.map fun q => if PyData.eqv q.1 x = true then (q.1, p) else q)
  | _, _, .nil => .nil
  | _, _, .cons (k := j) hq h0 t => by
    rw [List.map_cons, List.map_cons]
    simp only [keyP_eqv hq hx]
    by_cases e : j = k
    · rw [if_pos e, if_pos (decide_eq_true e)]; exact .cons hq h (dkv_repl hx h t)
    · rw [if_neg e, if_neg (by rw [decide_eq_false e]; exact Bool.false_ne_true)]; exact .cons hq h0 (dkv_repl hx h t)
theorem dkv_snoc {x : PyData} {k : Key} (hx : keyP x = some k) {v : V} {p : PyData} (h : Dn K F v p) : ∀ {vs : List (Key × V)} {ps : List (PyData × PyData)}, DnKV K F vs ps → DnKV K F (vs ++ [(k, v)]) (ps ++ [(x, p)])
  | _, _, .nil => .cons hx h .nil
  | _, _, .cons hq h0 t => .cons hq h0 (dkv_snoc hx h t)
theorem dkv_put {x : PyData} {k : Key} (hx : keyP x = some k) {v : V} {p : PyData} (h : Dn K F v p) {vs : List (Key × V)} {ps : List (PyData × PyData)} (t : DnKV K F vs ps) : DnKV K F (putK vs k v) (putKd ps x p) := by
  unfold putK putKd
  rw [dkv_any hx t]
  split
  · exact dkv_repl hx h t
  · exact dkv_snoc hx h t
/-- a key's value -/
theorem dn_key {v : V} {p : PyData} {k : Key} (h : Dn K F v p) (e : keyP p = some k) : v = kV k := by
  cases h with
  | int i => cases e; rfl
  | str x => cases e; rfl
  | _ => cases e
theorem okKey_ok {kvs : List (PyData × PyData)} {x : PyData} (h : okKey kvs x = true) : ∃ k, keyP x = some k := by
  unfold okKey at h
  cases e : keyP x with
  | none => rw [e] at h; cases h
  | some k => exact ⟨k, rfl⟩
end
/-- the frozen value -/
def Den (K : PySem.W.Frag) (F : Hp) (v : V) : D → Prop
  | .py p => Dn K F v p
  | .dct kvs => ∃ a vs, v = .ref a ∧ F a = some (.dK vs) ∧ DnKV K F vs kvs
  | .set _ => False
  | .scr ns => ∃ a, v = .ref a ∧ SqL K F a (ns.map V.int)
/-- what stands at an address in one hand alone -/
def OwnAt (K : PySem.W.Frag) (F H : Hp) (a : Addr) : D → Prop
  | .py (.list ds) => ∃ vs, H a = some (.lst vs) ∧ DnAll K F vs ds
  | .dct kvs => ∃ vs, H a = some (.dK vs) ∧ DnKV K F vs kvs
  | _ => False
def Sl.owned : Sl → Bool
  | .ow _ => true
  | .bo _ => true
  | _ => false
def SlR (K : PySem.W.Frag) (F H : Hp) (σ : St) (i : Nat) : Sl → Prop
  | .no => True
  | .fr d => ∃ v, σ[i]? = some (some v) ∧ Den K F v d
  | .ow d => ∃ a, σ[i]? = some (some (V.ref a)) ∧ F a = none ∧ OwnAt K F H a d
  | .bo d => ∃ a, σ[i]? = some (some (V.ref a)) ∧ F a = none ∧ OwnAt K F H a d
/-- the addresses that this frame may change -/
def Owns (st : En) (σ : St) (a : Addr) : Prop := ∃ (i : Nat) (s : Sl), st[i]? = some s ∧ s.owned = true ∧ σ[i]? = some (some (V.ref a))
structure Rel (K : PySem.W.Frag) (F : Hp) (st : En) (σ : St) (H : Hp) : Prop where
  le : Same F H
  len : σ.length = st.length
  sl : ∀ (i : Nat) (s : Sl), st[i]? = some s → SlR K F H σ i s
  inj : ∀ (i j : Nat) (s t : Sl) (a : Addr), st[i]? = some s → st[j]? = some t → s.owned = true → t.owned = true → σ[i]? = some (some (V.ref a)) → σ[j]? = some (some (V.ref a)) → i = j
/-- from one heap to a later one: O may be changed -/
structure Stp (O : Addr → Prop) (F H F' H' : Hp) (O' : Addr → Prop) : Prop where
  fr : Same F F'
  keep : ∀ a o, H a = some o → ¬ O a → H' a = some o
  live : ∀ a, H a ≠ none → H' a ≠ none
  own : ∀ a, O' a → O a ∨ H a = none
  frz : ∀ a, F' a ≠ none → F a ≠ none ∨ O a ∨ H a = none
theorem Stp.refl (O : Addr → Prop) (F H : Hp) : Stp O F H F H O := ⟨Same.refl F, fun _ _ h _ => h, fun _ h => h, fun _ h => .inl h, fun _ h => .inl h⟩
theorem Stp.trans {O O1 O2 : Addr → Prop} {F H F1 H1 F2 H2 : Hp} (a : Stp O F H F1 H1 O1) (b : Stp O1 F1 H1 F2 H2 O2) : Stp O F H F2 H2 O2 where
  fr := a.fr.trans b.fr
  keep := fun x o h n => b.keep x o (a.keep x o h n) fun q => (a.own x q).elim n fun z => by rw [z] at h; cases h
  live := fun x h => b.live x (a.live x h)
  own := fun x h => (b.own x h).elim (a.own x) fun z => .inr (by
    cases q : H x with
    | none => rfl
    | some o => exact absurd z (a.live x (by rw [q]; simp)))
  frz := fun x h => (b.frz x h).elim (a.frz x) fun z => z.elim (fun z => .inr (a.own x z)) fun z => .inr (.inr (by
    cases q : H x with
    | none => rfl
    | some o => exact absurd z (a.live x (by rw [q]; simp))))
/-- what is lent stays lent, at its place -/
def Bos (st : En) (σ : St) (st' : En) (σ' : St) : Prop := ∀ (i : Nat) (d : D), st'[i]? = some (Sl.bo d) → σ'[i]? = σ[i]? ∧ ∃ d0 : D, st[i]? = some (Sl.bo d0)
theorem Bos.refl (st : En) (σ : St) : Bos st σ st σ := fun i d h => ⟨rfl, d, h⟩
theorem Bos.trans {st st1 st2 : En} {σ σ1 σ2 : St} (a : Bos st σ st1 σ1) (b : Bos st1 σ1 st2 σ2) : Bos st σ st2 σ2 := fun i d h => by
  obtain ⟨e, d1, h1⟩ := b i d h
  obtain ⟨e0, d0, h0⟩ := a i d1 h1
  exact ⟨e.trans e0, d0, h0⟩
structure Go (K : PySem.W.Frag) (st : En) (σ : St) (F H : Hp) (st' : En) (σ' : St) (F' H' : Hp) : Prop where
  stp : Stp (Owns st σ) F H F' H' (Owns st' σ')
  rel : Rel K F' st' σ' H'
  bos : Bos st σ st' σ'
theorem Go.refl {K : PySem.W.Frag} {st : En} {σ : St} {F H : Hp} (r : Rel K F st σ H) : Go K st σ F H st σ F H := ⟨Stp.refl _ _ _, r, Bos.refl _ _⟩
theorem Go.trans {K : PySem.W.Frag} {st st1 st2 : En} {σ σ1 σ2 : St} {F H F1 H1 F2 H2 : Hp} (a : Go K st σ F H st1 σ1 F1 H1) (b : Go K st1 σ1 F1 H1 st2 σ2 F2 H2) : Go K st σ F H st2 σ2 F2 H2 :=
  ⟨a.stp.trans b.stp, b.rel, a.bos.trans b.bos⟩
/-- how a value stands for an operand -/
def ORel (K : PySem.W.Frag) (F H : Hp) (st : En) (σ : St) (v : V) : Od → Prop
  | .va d => Den K F v d
  | .fe d => ∃ a, v = .ref a ∧ F a = none ∧ OwnAt K F H a d ∧ ¬ Owns st σ a
  | .pk i => σ[i]? = some (some v)
section
variable {K : PySem.W.Frag} {F H F' H' : Hp} {st st' : En} {σ σ' : St} {v : V} {od : Od} {d : D} {a : Addr}
theorem Den.same (e : Same F F') : ∀ {d : D}, Den K F v d → Den K F' v d
  | .py p, h => dp_same e p v h
  | .dct _, h => by
    obtain ⟨a, vs, h1, h2, h3⟩ := h
    exact ⟨a, vs, h1, e _ _ h2, dkv_same e h3⟩
  | .set _, h => h.elim
  | .scr _, h => by
    obtain ⟨a, h1, h2⟩ := h
    exact ⟨a, h1, e.seq h2⟩
theorem OwnAt.same (e : Same F F') (h2 : ∀ o, H a = some o → H' a = some o) : ∀ {d : D}, OwnAt K F H a d → OwnAt K F' H' a d
  | .py (.list ds), h => by
    obtain ⟨vs, h1, h3⟩ := h
    exact ⟨vs, h2 _ h1, dpAll_same e ds _ h3⟩
  | .dct kvs, h => by
    obtain ⟨vs, h1, h3⟩ := h
    exact ⟨vs, h2 _ h1, dkv_same e h3⟩
theorem OwnAt.live : ∀ {d : D}, OwnAt K F H a d → H a ≠ none
  | .py (.list ds), h => by
    obtain ⟨vs, h1, _⟩ := h
    rw [h1]; simp
  | .dct kvs, h => by
    obtain ⟨vs, h1, _⟩ := h
    rw [h1]; simp
theorem Rel.ownsAt (r : Rel K F st σ H) {i : Nat} {s : Sl} (h : st[i]? = some s) (o : s.owned = true) : ∃ a d, σ[i]? = some (some (V.ref a)) ∧ F a = none ∧ OwnAt K F H a d ∧ s.con = some d := by
  have q := r.sl i s h
  cases s with
  | no => cases o
  | fr d => cases o
  | ow d => obtain ⟨a, h1, h2, h3⟩ := q; exact ⟨a, d, h1, h2, h3, rfl⟩
  | bo d => obtain ⟨a, h1, h2, h3⟩ := q; exact ⟨a, d, h1, h2, h3, rfl⟩
theorem Rel.owns (r : Rel K F st σ H) (h : Owns st σ a) : F a = none ∧ H a ≠ none := by
  obtain ⟨i, s, h1, h2, h3⟩ := h
  obtain ⟨b, d, e1, e2, e3, _⟩ := r.ownsAt h1 h2
  rw [h3] at e1
  cases e1
  exact ⟨e2, e3.live⟩
theorem ORel.step (g : Go K st σ F H st' σ F' H') (h : ORel K F H st σ v od) : ORel K F' H' st' σ v od := by
  cases od with
  | va d => exact Den.same g.stp.fr h
  | fe d =>
    obtain ⟨a, e, n, o, w⟩ := h
    refine ⟨a, e, ?_, o.same g.stp.fr fun u q => g.stp.keep a u q w, fun z => (g.stp.own a z).elim w fun z => o.live z⟩
    cases q : F' a with
    | none => rfl
    | some u => exact ((g.stp.frz a (by rw [q]; simp)).elim (fun z => absurd n z) fun z => z.elim (fun z => absurd z w) fun z => absurd z o.live)
  | pk i => exact h
/-- a value that may be read as d now -/
def RdR (K : PySem.W.Frag) (F H : Hp) (v : V) (d : D) : Prop := Den K F v d ∨ ∃ a, v = .ref a ∧ OwnAt K F H a d
theorem ORel.rd (r : Rel K F st σ H) (h : ORel K F H st σ v od) (e : rd st od = some d) : RdR K F H v d := by
  cases od with
  | va d' => cases e; exact .inl h
  | fe d' =>
    cases e
    obtain ⟨a, e, _, o, _⟩ := h
    exact .inr ⟨a, e, o⟩
  | pk i =>
    have h : σ[i]? = some (some v) := h
    cases q : st[i]? with
    | none => simp only [Mi.rd, q, Option.bind_none] at e; cases e
    | some s =>
      simp only [Mi.rd, q, Option.bind_some] at e
      have z := r.sl i s q
      cases s with
      | no => cases e
      | fr d' =>
        cases e
        obtain ⟨u, h1, h2⟩ := z
        rw [h] at h1; cases h1
        exact .inl h2
      | ow d' =>
        cases e
        obtain ⟨u, h1, _, h2⟩ := z
        rw [h] at h1; cases h1
        exact .inr ⟨u, rfl, h2⟩
      | bo d' =>
        cases e
        obtain ⟨u, h1, _, h2⟩ := z
        rw [h] at h1; cases h1
        exact .inr ⟨u, rfl, h2⟩
/-- read as data -/
theorem RdR.dn (le : Same F H) : ∀ {p : PyData}, RdR K F H v (.py p) → Dn K H v p
  | p, .inl h => dp_same le p v h
  | .list ds, .inr ⟨a, e, h⟩ => by
    obtain ⟨vs, h1, h2⟩ := h
    subst e
    exact .lst h1 (dpAll_same le ds _ h2)
  | .none, .inr ⟨a, e, h⟩ => h.elim
  | .bool _, .inr ⟨a, e, h⟩ => h.elim
  | .int _, .inr ⟨a, e, h⟩ => h.elim
  | .str _, .inr ⟨a, e, h⟩ => h.elim
  | .tuple _, .inr ⟨a, e, h⟩ => h.elim
  | .dict _, .inr ⟨a, e, h⟩ => h.elim
theorem RdR.dp (le : Same F H) {p : PyData} (h : RdR K F H v (.py p)) : Dp K H v p := dn_dp p v (h.dn le)
/-- a list that is read, with its items -/
theorem RdR.list {ds : List PyData} (le : Same F H) (h : RdR K F H v (.py (.list ds))) : ∃ a vs, v = .ref a ∧ H a = some (.lst vs) ∧ DnAll K F vs ds := by
  rcases h with h | ⟨a, e, vs, h1, h2⟩
  · cases h with
    | lst h1 h2 => exact ⟨_, _, rfl, le _ _ h1, h2⟩
  · exact ⟨a, vs, e, h1, h2⟩
theorem RdR.tup {ds : List PyData} (le : Same F H) (h : RdR K F H v (.py (.tuple ds))) : ∃ a vs, v = .ref a ∧ Tp K H a vs ∧ DnAll K F vs ds := by
  rcases h with h | ⟨a, e, h⟩
  · cases h with
    | tup h1 h2 => exact ⟨_, _, rfl, h1.same le, h2⟩
  · exact h.elim
theorem RdR.scr {ns : List Int} (le : Same F H) (h : RdR K F H v (.scr ns)) : ∃ a, v = .ref a ∧ SqL K H a (ns.map V.int) := by
  rcases h with ⟨a, e, h⟩ | ⟨a, e, h⟩
  · exact ⟨a, e, le.seq h⟩
  · exact h.elim
theorem RdR.dct {kvs : List (PyData × PyData)} (le : Same F H) (h : RdR K F H v (.dct kvs)) : ∃ a vs, v = .ref a ∧ H a = some (.dK vs) ∧ DnKV K F vs kvs := by
  rcases h with ⟨a, vs, e, h1, h2⟩ | ⟨a, e, vs, h1, h2⟩
  · exact ⟨a, vs, e, le _ _ h1, h2⟩
  · exact ⟨a, vs, e, h1, h2⟩
theorem RdR.int {i : Int} (h : RdR K F H v (.py (.int i))) : v = .int i := by
  rcases h with h | ⟨a, e, h⟩
  · cases h; rfl
  · exact h.elim
theorem RdR.bl {i : Bool} (h : RdR K F H v (.py (.bool i))) : v = .bl i := by
  rcases h with h | ⟨a, e, h⟩
  · cases h; rfl
  · exact h.elim
theorem RdR.non (h : RdR K F H v (.py .none)) : v = .non := by
  rcases h with h | ⟨a, e, h⟩
  · cases h; rfl
  · exact h.elim
theorem RdR.str {x : Str} (h : RdR K F H v (.py (.str x))) : v = .str x := by
  rcases h with h | ⟨a, e, h⟩
  · cases h; rfl
  · exact h.elim
theorem RdR.plain {p : PyData} (h : RdR K F H v (.py p)) : p.plain = true := by
  rcases h with h | ⟨a, e, h⟩
  · exact dp_plain p v h
  · cases p with
    | list ds =>
      obtain ⟨vs, _, h2⟩ := h
      exact dpl_plain ds vs h2
    | _ => exact h.elim
/-- what an operation hands back: nothing that stood is changed -/
structure New (F H F' H' : Hp) : Prop where
  fr : Same F F'
  hp : Same H H'
  le : Same F' H'
  frz : ∀ a, F' a ≠ none → F a ≠ none ∨ H a = none
def NewR (K : PySem.W.Frag) (H F' H' : Hp) (v : V) : Od → Prop
  | .va d => Den K F' v d
  | .fe d => ∃ a, v = .ref a ∧ H a = none ∧ F' a = none ∧ OwnAt K F' H' a d
  | .pk _ => False
theorem New.refl (le : Same F H) : New F H F H := ⟨Same.refl F, Same.refl H, le, fun _ h => .inl h⟩
theorem New.trans {F1 H1 F2 H2 : Hp} (a : New F H F1 H1) (b : New F1 H1 F2 H2) : New F H F2 H2 :=
  ⟨a.fr.trans b.fr, a.hp.trans b.hp, b.le, fun x h => (b.frz x h).elim (a.frz x) fun z => .inr (a.hp.free z)⟩
theorem New.go (r : Rel K F st σ H) (n : New F H F' H') : Go K st σ F H st σ F' H' := by
  have fn : ∀ a, Owns st σ a → F' a = none := fun a h => by
    obtain ⟨h1, h2⟩ := r.owns h
    cases q : F' a with
    | none => rfl
    | some u => exact ((n.frz a (by rw [q]; simp)).elim (fun z => absurd h1 z) fun z => absurd z h2)
  refine ⟨⟨n.fr, fun a o h _ => n.hp a o h, fun a h => ?_, fun _ h => .inl h, fun a h => (n.frz a h).elim .inl fun z => .inr (.inr z)⟩, ⟨n.le, r.len, fun i s h => ?_, r.inj⟩, Bos.refl _ _⟩
  · cases q : H a with
    | none => exact absurd q h
    | some o => rw [n.hp a o q]; simp
  · have z := r.sl i s h
    cases s with
    | no => trivial
    | fr d => obtain ⟨v, h1, h2⟩ := z; exact ⟨v, h1, h2.same n.fr⟩
    | ow d => obtain ⟨a, h1, h2, h3⟩ := z; exact ⟨a, h1, fn a ⟨i, _, h, rfl, h1⟩, h3.same n.fr fun o q => n.hp a o q⟩
    | bo d => obtain ⟨a, h1, h2, h3⟩ := z; exact ⟨a, h1, fn a ⟨i, _, h, rfl, h1⟩, h3.same n.fr fun o q => n.hp a o q⟩
theorem NewR.orel (r : Rel K F st σ H) (n : New F H F' H') (h : NewR K H F' H' v od) : ORel K F' H' st σ v od := by
  cases od with
  | va d => exact h
  | fe d =>
    obtain ⟨a, e, h1, h2, h3⟩ := h
    exact ⟨a, e, h2, h3, fun z => (r.owns z).2 h1⟩
  | pk i => exact h.elim
theorem NewR.bl (b : Bool) : NewR K H F' H' (.bl b) (ofB b) := Dn.bl b
theorem NewR.int (i : Int) : NewR K H F' H' (.int i) (ofI i) := Dn.int i
/-- a new object, frozen at once -/
theorem New.put {p : Addr} {u : HO} (le : Same F H) (hp : H p = none) : New F H (upd F p u) (upd H p u) := by
  have hF : F p = none := le.free hp
  refine ⟨fun a o h => ?_, fun a o h => ?_, fun a o h => ?_, fun a h => ?_⟩
  · rw [upd_ne (ne_of_none h hF)]; exact h
  · rw [upd_ne (ne_of_none h hp)]; exact h
  · by_cases e : a = p
    · subst e; rw [upd_same] at h ⊢; exact h
    · rw [upd_ne e] at h ⊢; exact le _ _ h
  · by_cases e : a = p
    · subst e; exact .inr hp
    · rw [upd_ne e] at h; exact .inl h
theorem NewR.tup {p : Addr} {vs : List V} {ds : List PyData} {ob : Obj} (le : Same F H) (hp : H p = none) (hd : ob.dict = none) (h : DnAll K F vs ds) : NewR K H (upd F p (.frz ob (.tup vs))) (upd H p (.frz ob (.tup vs))) (.ref p) (.va (.py (.tuple ds))) :=
  Dn.tup (.inl ⟨ob, hd, upd_same⟩) (dpAll_same (New.put le hp).fr ds vs h)
/-- a new list, in this hand alone -/
theorem New.lst {p : Addr} {vs : List V} (le : Same F H) (hp : H p = none) : New F H F (upd H p (.lst vs)) := by
  refine ⟨Same.refl F, fun a o h => ?_, fun a o h => ?_, fun a h => .inl h⟩
  · rw [upd_ne (ne_of_none h hp)]; exact h
  · rw [upd_ne (ne_of_none (le a o h) hp)]; exact le a o h
theorem NewR.lst {p : Addr} {vs : List V} {ds : List PyData} (le : Same F H) (hp : H p = none) (h : DnAll K F vs ds) : NewR K H F (upd H p (.lst vs)) (.ref p) (.fe (.py (.list ds))) :=
  ⟨p, rfl, hp, le.free hp, vs, upd_same, h⟩
/-- a new dict, in this hand alone -/
theorem New.dct {p : Addr} {vs : List (Key × V)} (le : Same F H) (hp : H p = none) : New F H F (upd H p (.dK vs)) := by
  refine ⟨Same.refl F, fun a o h => ?_, fun a o h => ?_, fun a h => .inl h⟩
  · rw [upd_ne (ne_of_none h hp)]; exact h
  · rw [upd_ne (ne_of_none (le a o h) hp)]; exact le a o h
theorem NewR.dct {p : Addr} (le : Same F H) (hp : H p = none) : NewR K H F (upd H p (.dK [])) (.ref p) (.fe (.dct [])) :=
  ⟨p, rfl, hp, le.free hp, [], upd_same, .nil⟩
end
end Mi
end
section
/-! MiT: a tuple taken once, or not at all. -/
namespace L2
open PySem PySem.Spec PyProof.Rows
theorem tuple_mul0 (l : Addr) (items : Array Value) (n : Nat) (dd : Option Addr) (sl : Array (Option Value)) (x : Int) (u : Tok) (c0 : (decide (x < -(2 ^ 63)) || decide (x ≥ 2 ^ 63)) = false) (c1 : (items.isEmpty || x == 1) = false) (c2 : (decide (x ≤ 0) || items.isEmpty) = true) :
    Meets (Builtin.«tuple.__mul__» ⟨[.ref l, .int x u], []⟩) (fun _ R s => s.heap.get? l = some { cls := .type "tuple", dict := dd, data := .seq items n, slots := sl } ∧
      R (.ok (.ret (Value.ref s.heap.objs.size))) { s with heap := s.heap.push { cls := Value.type "tuple", data := Data.seq #[] }, toks := s.toks }) :=
  .of_wp fun prog w A R s h => by
    obtain ⟨hp, g, d, tk, os⟩ := s
    obtain ⟨hl, h⟩ := h
    have f1 := AutoSeq1.idx_int
    wp_walk using wpAny_loadPart' hl
    repeat (first
      | (refine wpAny_ite_false (decide_eq_false (by rw [c0]; exact Bool.false_ne_true)) ?_; wp_walk using wpAny_loadPart' hl)
      | (refine wpAny_ite_false (decide_eq_false (by rw [c1]; exact Bool.false_ne_true)) ?_; wp_walk using wpAny_loadPart' hl)
      | (refine wpAny_ite_true (decide_eq_true c2) ?_; wp_walk using wpAny_loadPart' hl))
    exact ⟨_, rfl, h⟩
theorem tuple_mul1 (l : Addr) (items : Array Value) (n : Nat) (dd : Option Addr) (sl : Array (Option Value)) (x : Int) (u : Tok) (c0 : (decide (x < -(2 ^ 63)) || decide (x ≥ 2 ^ 63)) = false) (c1 : (items.isEmpty || x == 1) = true) :
    Meets (Builtin.«tuple.__mul__» ⟨[.ref l, .int x u], []⟩) (fun _ R s => s.heap.get? l = some { cls := .type "tuple", dict := dd, data := .seq items n, slots := sl } ∧ R (.ok (.ret (.ref l))) s) :=
  .of_wp fun prog w A R s h => by
    obtain ⟨hp, g, d, tk, os⟩ := s
    obtain ⟨hl, h⟩ := h
    have f1 := AutoSeq1.idx_int
    have hTI : Shared.TypeIs ⟨hp, g, d, tk, os⟩ (.ref l) "tuple" := ⟨_, hl, rfl⟩
    wp_walk using wpAny_loadPart' hl, wpAny_typeOf hTI
    repeat (first
      | (refine wpAny_ite_false (decide_eq_false (by rw [c0]; exact Bool.false_ne_true)) ?_; wp_walk using wpAny_loadPart' hl, wpAny_typeOf hTI)
      | (refine wpAny_ite_true (decide_eq_true c1) ?_; wp_walk using wpAny_loadPart' hl, wpAny_typeOf hTI))
    exact ⟨_, rfl, h⟩
/-- tuple * int: the rule at all small counts -/
def rMulT (K : PySem.W.Frag) : R2 := fun x y H Q => ∃ l k xs, x = .ref l ∧ y = .int k ∧ SqT K H l xs ∧ -1000 ≤ k ∧ k ≤ 1000 ∧ xs.length ≤ 1000 ∧
  ((xs = [] ∨ k = 1) → Q (.ref l) H) ∧ (¬ (xs = [] ∨ k = 1) → ∀ p ob, ob.dict = none → H p = none → Q (.ref p) (upd H p (.frz ob (.tup (List.replicate k.toNat xs).flatten))))
end L2
end
section
/-! Mi3: the operations. -/
namespace Mi
open PySem PySem.Spec
open PyProof.Rows hiding St Fr
open L2

theorem lim_line {n : Nat} (h : n ≤ lim) : n ≤ sizeLine := Nat.le_trans h (by rw [sizeLine_eq]; decide)
theorem lim_lt {n : Nat} (h : n ≤ lim) : n < sizeLine := Nat.lt_of_le_of_lt h (by rw [sizeLine_eq]; decide)
section
variable {X : Cx} {pins : List (Addr × Obj)} {σ : L2.St} {H F : Hp} {s : Shared} {Q : VK}
/-- a tuple just laid -/
theorem lay_tup {us : List Value} {vs : List V} {t' : Nat} (I : Inv X pins σ H s) (r : Vals vs us) (z : vs.length ≤ sizeLine) :
    Inv X pins σ (upd H s.heap.objs.size (.frz { cls := .type "tuple", data := .seq us.toArray } (.tup vs))) { s with heap := s.heap.push { cls := .type "tuple", data := .seq us.toArray }, toks := t' } :=
  I.laid (fun b u e => Heap.get?_push_of_some _ e) (Nat.le_refl _) ⟨Heap.get?_push_size _ rfl, z, us, r, ⟨_, Heap.get?_push_size _ rfl, rfl, _, rfl⟩⟩
theorem lay_lst {us : List Value} {vs : List V} {t' : Nat} (I : Inv X pins σ H s) (r : Vals vs us) (z : vs.length ≤ sizeLine) :
    Inv X pins σ (upd H s.heap.objs.size (.lst vs)) { s with heap := s.heap.push { cls := .type "list", data := .seq us.toArray }, toks := t' } :=
  I.laid (fun b u e => Heap.get?_push_of_some _ e) (Nat.le_refl _) ⟨z, us, 0, r, Heap.get?_push_size _ rfl⟩
theorem ep_of {v : V} {u : Value} (I : Inv X pins σ H s) (r : RelV v u) (q : Q v H) : EP X pins σ Q u s := ⟨v, H, I, r, q⟩
/-- the result is a new tuple -/
theorem ep_tup {us : List Value} {vs : List V} {ds : List PyData} {t' : Nat} (I : Inv X pins σ H s) (le : Same F H) (r : Vals vs us) (z : vs.length ≤ sizeLine) (h : DnAll X.K F vs ds)
    (q : ∀ v F' H', New F H F' H' → NewR X.K H F' H' v (.va (.py (.tuple ds))) → Q v H') : EP X pins σ Q (.ref s.heap.objs.size) { s with heap := s.heap.push { cls := .type "tuple", data := .seq us.toArray }, toks := t' } :=
  ⟨.ref s.heap.objs.size, _, lay_tup I r z, rfl, q _ _ _ (New.put le (I.hok.fresh (Nat.le_refl _))) (NewR.tup le (I.hok.fresh (Nat.le_refl _)) rfl h)⟩
theorem ep_lst {us : List Value} {vs : List V} {ds : List PyData} {t' : Nat} (I : Inv X pins σ H s) (le : Same F H) (r : Vals vs us) (z : vs.length ≤ sizeLine) (h : DnAll X.K F vs ds)
    (q : ∀ v F' H', New F H F' H' → NewR X.K H F' H' v (.fe (.py (.list ds))) → Q v H') : EP X pins σ Q (.ref s.heap.objs.size) { s with heap := s.heap.push { cls := .type "list", data := .seq us.toArray }, toks := t' } :=
  ⟨.ref s.heap.objs.size, _, lay_lst I r z, rfl, q _ _ _ (New.lst le (I.hok.fresh (Nat.le_refl _))) (NewR.lst le (I.hok.fresh (Nat.le_refl _)) h)⟩
theorem tp_vals (I : Inv X pins σ H s) {a : Addr} {vs : List V} (h : Tp X.K H a vs) : ∃ its : List Value, Vals vs its ∧ IsTup s.heap a its.toArray ∧ vs.length ≤ sizeLine := I.tuple h.sq
theorem okMul_ok {i j : Int} (h : okMul i j = true) : CMul i j := by
  unfold okMul at h
  rw [Bool.or_eq_true, decide_eq_true_eq, decide_eq_true_eq] at h
  rcases h with h | h
  · exact .inl ⟨by omega, by omega⟩
  · exact .inr ⟨by omega, by omega⟩
end

theorem op_mulT {X : Cx} : OpR X (binaryOp .Mult) (rMulT X.K) := by
  intro pins s σ H x y v u Q I rx ry h
  obtain ⟨l, k, xs, rfl, rfl, hT, h1, h2, hz, qa, qb⟩ := h
  cases rx
  obtain ⟨t, rfl⟩ := ry
  obtain ⟨its, r, ⟨⟨cls, dd, data, sl⟩, ho, hc, n, hd⟩, hs⟩ := I.tuple hT
  simp only at hc hd
  subst hc hd
  have hle : its.length = xs.length := r.length.symm
  have hi : its.toArray.isEmpty = decide (xs = []) := by
    cases r with
    | nil => rfl
    | cons _ _ => rfl
  have c0 : (decide (k < -(2 ^ 63)) || decide (k ≥ 2 ^ 63)) = false := by
    rw [decide_eq_false (by omega), decide_eq_false (by omega)] <;> rfl
  by_cases hsame : xs = [] ∨ k = 1
  · have c1 : (its.toArray.isEmpty || k == 1) = true := by
      rw [hi, Bool.or_eq_true, decide_eq_true_eq, beq_iff_eq]
      exact hsame
    exact wpAny_binaryOp_repeat_ref (T := "tuple") (U := "int") (by decide) ⟨_, ho, rfl⟩ (fun s' => typeIs_int s' k t) noFill_tuple_mul F.fills_int_mul F.slot_int_rmul repeat_tuple F.slot_int_index.lookup
      (call_meets F.slot_int_rmul (typeIs_int s k t) F.entry_int_rmul (F.args_int_rmul_2 _ _) (int_rmul_tuple k t l its.toArray n dd sl)
        ⟨ho, rfl, ⟨_, ho, rfl⟩, call_meets F.slot_tuple_mul ⟨_, ho, rfl⟩ F.entry_tuple_mul (F.args_tuple_mul_2 _ _) (tuple_mul1 l its.toArray n dd sl k t c0 c1) ⟨ho, ep_of (v := .ref l) I rfl (qa hsame)⟩⟩)
  · have hne : ¬ xs = [] := fun e => hsame (.inl e)
    have hk1 : ¬ k = 1 := fun e => hsame (.inr e)
    have c1 : (its.toArray.isEmpty || k == 1) = false := by
      rw [hi, decide_eq_false hne, Bool.false_or]
      exact beq_eq_false_iff_ne.mpr hk1
    have zl : (List.replicate k.toNat xs).flatten.length ≤ sizeLine := by
      rw [PyProof.Rows.lm_len_rep_flat, sizeLine_eq]
      have a1 : k.toNat * xs.length ≤ 1000 * 1000 := Nat.mul_le_mul (by omega) hz
      omega
    by_cases hk : k ≤ 0
    · have c2 : (decide (k ≤ 0) || its.toArray.isEmpty) = true := by rw [decide_eq_true hk] <;> rfl
      have e0 : k.toNat = 0 := by omega
      refine wpAny_binaryOp_repeat_ref (T := "tuple") (U := "int") (by decide) ⟨_, ho, rfl⟩ (fun s' => typeIs_int s' k t) noFill_tuple_mul F.fills_int_mul F.slot_int_rmul repeat_tuple F.slot_int_index.lookup
        (call_meets F.slot_int_rmul (typeIs_int s k t) F.entry_int_rmul (F.args_int_rmul_2 _ _) (int_rmul_tuple k t l its.toArray n dd sl)
          ⟨ho, rfl, ⟨_, ho, rfl⟩, call_meets F.slot_tuple_mul ⟨_, ho, rfl⟩ F.entry_tuple_mul (F.args_tuple_mul_2 _ _) (tuple_mul0 l its.toArray n dd sl k t c0 c1 c2) ⟨ho, ?_⟩⟩)
      have lay := lay_tup (t' := s.toks) I (us := []) (vs := []) .nil (Nat.zero_le _)
      have q := qb hsame s.heap.objs.size { cls := .type "tuple", data := .seq #[] } rfl (I.hok.fresh (Nat.le_refl _))
      rw [e0] at q
      exact ⟨.ref s.heap.objs.size, _, lay, rfl, q⟩
    · have c2 : (decide (k ≤ 0) || its.toArray.isEmpty) = false := by
        rw [hi, decide_eq_false hne, decide_eq_false hk] <;> rfl
      have hsz0 : its.toArray.size = xs.length := by rw [List.size_toArray, hle]
      have hm : ((its.toArray.size : Nat) : Int) * k ≤ 1000000 := by
        rw [hsz0]
        have a1 : ((xs.length : Nat) : Int) * k ≤ 1000 * k := Int.mul_le_mul_of_nonneg_right (by omega) (by omega)
        omega
      have flen : (List.replicate k.toNat its).flatten.length ≤ sizeLine := by
        rw [PyProof.Rows.lm_len_rep_flat, hle, sizeLine_eq]
        have a1 : k.toNat * xs.length ≤ 1000 * 1000 := Nat.mul_le_mul (by omega) hz
        omega
      have c4 : Builtin.Tuple.tupleTooMany (((its.toArray.size : Nat) : Int) * k) = false := by
        unfold Builtin.Tuple.tupleTooMany
        rw [sizeLine_eq]
        exact decide_eq_false (by omega)
      refine wpAny_binaryOp_repeat_ref (T := "tuple") (U := "int") (by decide) ⟨_, ho, rfl⟩ (fun s' => typeIs_int s' k t) noFill_tuple_mul F.fills_int_mul F.slot_int_rmul repeat_tuple F.slot_int_index.lookup
        (call_meets F.slot_int_rmul (typeIs_int s k t) F.entry_int_rmul (F.args_int_rmul_2 _ _) (int_rmul_tuple k t l its.toArray n dd sl)
          ⟨ho, rfl, ⟨_, ho, rfl⟩, call_meets F.slot_tuple_mul ⟨_, ho, rfl⟩ F.entry_tuple_mul (F.args_tuple_mul_2 _ _) (tuple_mulW l its.toArray n dd sl k t c0 c1 c2 (by omega) c4 (by rw [size_rep, List.size_toArray]; exact flen)) ⟨ho, ?_⟩⟩)
      rw [size_rep]
      have lay := lay_tup (t' := s.toks) I (r.rep k.toNat) zl
      exact ⟨.ref s.heap.objs.size, _, lay, rfl, qb hsame _ _ rfl (I.hok.fresh (Nat.le_refl _))⟩
def O2.op : O2 → Operator
  | .add => .Add
  | .sub => .Sub
  | .mul => .Mult
  | .fdiv => .FloorDiv
  | .mod => .Mod
  | .pow => .Pow
def rOp2 (K : PySem.W.Frag) (o : O2) : R2 := fun x y H Q => ∃ F dx dy od, Same F H ∧ RdR K F H x dx ∧ RdR K F H y dy ∧ op2 o dx dy = some od ∧ ∀ v F' H', New F H F' H' → NewR K H F' H' v od → Q v H'
theorem op2_ok {X : Cx} (o : O2) : OpR X (binaryOp o.op) (rOp2 X.K o) := by
  intro pins s σ H x y v u Q I rx ry h
  obtain ⟨F, dx, dy, od, le, hx, hy, e, q⟩ := h
  unfold op2 at e
  split at e
  · cases e; obtain rfl := hx.int; obtain rfl := hy.int
    exact op_add pins s σ H _ _ v u Q I rx ry ⟨_, _, rfl, rfl, q _ F H (New.refl le) (NewR.int _)⟩
  · rename_i xs ys
    split at e
    · rename_i hl
      cases e
      obtain ⟨a, vs, rfl, ha, h1⟩ := hx.list le
      obtain ⟨b, ws, rfl, hb, h2⟩ := hy.list le
      have z : vs.length + ws.length ≤ sizeLine := by rw [dpl_len h1, dpl_len h2]; exact lim_line hl
      exact op_cat pins s σ H _ _ v u Q I rx ry ⟨a, b, vs, ws, rfl, rfl, ha, hb, z, fun p hp => q _ _ _ (New.lst le hp) (NewR.lst le hp (dpl_app h1 h2))⟩
    · cases e
  · rename_i xs ys
    split at e
    · rename_i hl
      cases e
      obtain ⟨a, vs, rfl, ha, h1⟩ := hx.tup le
      obtain ⟨b, ws, rfl, hb, h2⟩ := hy.tup le
      have z : vs.length + ws.length ≤ sizeLine := by rw [dpl_len h1, dpl_len h2]; exact lim_line hl
      obtain ⟨its, r1, p1, _⟩ := tp_vals I ha
      obtain ⟨jts, r2, p2, _⟩ := tp_vals I hb
      cases rx; cases ry
      by_cases hv : its = []
      · subst hv
        cases r1
        cases h1
        refine cat_tup0 p1 p2 (ep_of (v := .ref b) I rfl (q _ F H (New.refl le) ?_))
        rw [List.nil_append]
        rcases hy with hy | ⟨_, _, hy⟩
        · exact hy
        · exact hy.elim
      · refine HT.cat_tup p1 p2 hv (fun hw => ?_) (fun hw => ?_) (by rw [← r1.length, ← r2.length]; exact z)
        · subst hw
          cases r2
          cases h2
          refine ep_of (v := .ref a) I rfl (q _ F H (New.refl le) ?_)
          rw [List.append_nil]
          rcases hx with hx | ⟨_, _, hx⟩
          · exact hx
          · exact hx.elim
        · exact ep_tup I le (r1.append r2) (by rw [List.length_append]; exact z) (dpl_app h1 h2) q
    · cases e
  · cases e; obtain rfl := hx.int; obtain rfl := hy.int
    exact op_sub pins s σ H _ _ v u Q I rx ry ⟨_, _, rfl, rfl, q _ F H (New.refl le) (NewR.int _)⟩
  · split at e
    · rename_i hc
      cases e; obtain rfl := hx.int; obtain rfl := hy.int
      exact op_mul pins s σ H _ _ v u Q I rx ry ⟨_, _, rfl, rfl, okMul_ok hc, q _ F H (New.refl le) (NewR.int _)⟩
    · cases e
  · rename_i xs j
    split at e
    · rename_i hc
      cases e; obtain rfl := hy.int
      obtain ⟨a, vs, rfl, ha, h1⟩ := hx.list le
      refine op_rep pins s σ H _ _ v u Q I rx ry ⟨a, j, vs, rfl, rfl, ha, by omega, by omega, ?_, fun p hp => q _ _ _ (New.lst le hp) (NewR.lst le hp (dpl_rep _ h1))⟩
      rw [dpl_len h1]
      have a1 : xs.length * j.toNat ≤ 1000 * 1000 := Nat.mul_le_mul hc.2.2 (by omega)
      exact lim_line (Nat.le_trans a1 (by decide))
    · cases e
  · rename_i xs j
    split at e
    · rename_i hc
      cases e; obtain rfl := hy.int
      obtain ⟨a, vs, rfl, ha, h1⟩ := hx.tup le
      refine op_mulT pins s σ H _ _ v u Q I rx ry ⟨a, j, vs, rfl, rfl, ha.sq, by omega, by omega, by rw [dpl_len h1]; exact hc.2.2, fun hs => q _ F H (New.refl le) ?_, fun _ p ob ho hp => q _ _ _ (New.put le hp) (NewR.tup le hp ho (dpl_rep _ h1))⟩
      have e1 : (List.replicate j.toNat xs).flatten = xs := by
        rcases hs with hs | hs
        · subst hs
          cases h1
          simp
        · subst hs
          simp
      rw [e1]
      rcases hx with hx | ⟨_, _, hx⟩
      · exact hx
      · exact hx.elim
    · cases e
  · split at e
    · rename_i hc
      cases e; obtain rfl := hx.int; obtain rfl := hy.int
      exact op_fdiv pins s σ H _ _ v u Q I rx ry ⟨_, _, rfl, rfl, hc, q _ F H (New.refl le) (NewR.int _)⟩
    · cases e
  · split at e
    · rename_i hc
      cases e; obtain rfl := hx.int; obtain rfl := hy.int
      exact op_mod pins s σ H _ _ v u Q I rx ry ⟨_, _, rfl, rfl, hc, q _ F H (New.refl le) (NewR.int _)⟩
    · cases e
  · split at e
    · rename_i hc
      cases e; obtain rfl := hx.int; obtain rfl := hy.int
      exact op_pow pins s σ H _ _ v u Q I rx ry ⟨_, _, rfl, rfl, ⟨hc.1, by omega, by omega⟩, q _ F H (New.refl le) (NewR.int _)⟩
    · cases e
  · cases e

/-! ### comparisons -/
def Cm.op : Cm → CmpOp
  | .eq => .Eq
  | .ne => .NotEq
  | .lt => .Lt
  | .le => .LtE
  | .gt => .Gt
  | .ge => .GtE
  | .isin => .In
  | .notin => .NotIn
  | .is => .Is
  | .isnot => .IsNot
def rCm (K : PySem.W.Frag) (o : Cm) : R2 := fun x y H Q => ∃ F dx dy b, Same F H ∧ RdR K F H x dx ∧ RdR K F H y dy ∧ cmp o dx dy = some b ∧ Q (.bl b) H
theorem room_dp {k : Nat} {A : Around} (hr : Room k A) {n m : Nat} (h : n ≤ dp) : A.units + min n m < cLine := by
  have := hr.units
  have h2 : n ≤ 30 := h
  have h3 := Nat.min_le_left n m
  omega
theorem room_dp1 {k : Nat} {A : Around} (hr : Room k A) {n m : Nat} (h : n ≤ dp) : A.units + 1 + min n m < cLine := by
  have := hr.units
  have h2 : n ≤ 30 := h
  have h3 := Nat.min_le_left n m
  omega
theorem okDp_ok {p : PyData} (h : okDp p = true) : p.depth ≤ dp := of_decide_eq_true h
theorem cm_ok {X : Cx} {k : Nat} (hr : Room k X.A) (o : Cm) : OpR X (compareOp o.op) (rCm X.K o) := by
  intro pins s σ H x y v u Q I rx ry h
  obtain ⟨F, dx, dy, b, le, hx, hy, e, q⟩ := h
  have fin : EP X pins σ Q (.bool b) s := ep_of (v := .bl b) I rfl q
  have hu : X.A.units + 1 < cLine := by
    have := hr.units
    omega
  unfold cmp at e
  split at e
  · split at e
    · rename_i hd
      rw [Bool.and_eq_true] at hd
      cases e
      obtain ⟨as, r1⟩ := Dp.reads I _ _ _ (hx.dp le) rx
      obtain ⟨bs, r2⟩ := Dp.reads I _ _ _ (hy.dp le) ry
      exact PySem.SeqAt.eq_plain r1 r2 hx.plain hy.plain (room_dp hr (okDp_ok hd.1)) fin
    · cases e
  · split at e
    · rename_i hd
      rw [Bool.and_eq_true] at hd
      cases e
      obtain ⟨as, r1⟩ := Dp.reads I _ _ _ (hx.dp le) rx
      obtain ⟨bs, r2⟩ := Dp.reads I _ _ _ (hy.dp le) ry
      exact PySem.SeqAt.ne_plain r1 r2 hx.plain hy.plain (room_dp hr (okDp_ok hd.1)) fin
    · cases e
  · cases e; obtain rfl := hx.int; obtain rfl := hy.int
    exact op_lt pins s σ H _ _ v u Q I rx ry ⟨_, _, rfl, rfl, q⟩
  · cases e; obtain rfl := hx.int; obtain rfl := hy.int
    exact op_le pins s σ H _ _ v u Q I rx ry ⟨_, _, rfl, rfl, q⟩
  · cases e; obtain rfl := hx.int; obtain rfl := hy.int
    exact op_gt pins s σ H _ _ v u Q I rx ry ⟨_, _, rfl, rfl, q⟩
  · cases e; obtain rfl := hx.int; obtain rfl := hy.int
    exact op_ge pins s σ H _ _ v u Q I rx ry ⟨_, _, rfl, rfl, q⟩
  · split at e
    · rename_i hd
      cases e
      obtain ⟨as, r1⟩ := Dp.reads I _ _ _ (hx.dp le) rx
      obtain ⟨bs, r2⟩ := Dp.reads I _ _ _ (hy.dp le) ry
      refine PySem.SeqAt.in_list_data r2 r1 hy.plain hx.plain ?_ fin
      rw [Nat.min_comm]
      exact room_dp1 hr (okDp_ok hd)
    · cases e
  · split at e
    · rename_i hd
      cases e
      obtain ⟨as, r1⟩ := Dp.reads I _ _ _ (hx.dp le) rx
      obtain ⟨bs, r2⟩ := Dp.reads I _ _ _ (hy.dp le) ry
      refine PySem.SeqAt.in_tuple_data r2 r1 hy.plain hx.plain ?_ fin
      rw [Nat.min_comm]
      exact room_dp1 hr (okDp_ok hd)
    · cases e
  · split at e
    · rename_i hd
      cases e
      obtain ⟨as, r1⟩ := Dp.reads I _ _ _ (hx.dp le) rx
      obtain ⟨bs, r2⟩ := Dp.reads I _ _ _ (hy.dp le) ry
      refine PySem.SeqAt.notIn_list_data r2 r1 hy.plain hx.plain ?_ fin
      rw [Nat.min_comm]
      exact room_dp1 hr (okDp_ok hd)
    · cases e
  · split at e
    · rename_i hd
      cases e
      obtain ⟨as, r1⟩ := Dp.reads I _ _ _ (hx.dp le) rx
      obtain ⟨bs, r2⟩ := Dp.reads I _ _ _ (hy.dp le) ry
      refine PySem.SeqAt.notIn_tuple_data r2 r1 hy.plain hx.plain ?_ fin
      rw [Nat.min_comm]
      exact room_dp1 hr (okDp_ok hd)
    · cases e
  · rename_i p
    cases e
    obtain rfl := hy.non
    refine op_isN pins s σ H _ _ v u Q I rx ry ⟨rfl, ?_⟩
    have e2 : decide (x = V.non) = isNn p := by
      have z := hx.dn le
      cases z <;> simp [isNn]
    rw [e2]; exact q
  · rename_i p
    cases e
    obtain rfl := hy.non
    refine op_notN pins s σ H _ _ v u Q I rx ry ⟨rfl, ?_⟩
    have e2 : (!decide (x = V.non)) = !isNn p := by
      have z := hx.dn le
      cases z <;> simp [isNn]
    rw [e2]; exact q
  · cases e; obtain rfl := hx.bl; obtain rfl := hy.bl
    exact op_is_bl pins s σ H _ _ v u Q I rx ry ⟨_, _, rfl, rfl, q⟩
  · cases e; obtain rfl := hx.bl; obtain rfl := hy.bl
    exact op_isnot_bl pins s σ H _ _ v u Q I rx ry ⟨_, _, rfl, rfl, q⟩
  · rename_i p kvs
    split at e
    case isFalse => cases e
    rename_i okk
    cases e
    obtain ⟨kk, ek⟩ := okKey_ok okk
    obtain ⟨a, vs, rfl, ha, h2⟩ := hy.dct le
    obtain rfl := dn_key (hx.dn le) ek
    cases ry
    refine d_in (o := valV vs kk) hu I (DGet.k ha) rx fun s' I' => ?_
    rw [dkv_some ek h2]
    exact ep_of (v := .bl _) I' rfl q
  · rename_i p kvs
    split at e
    case isFalse => cases e
    rename_i okk
    cases e
    obtain ⟨kk, ek⟩ := okKey_ok okk
    obtain ⟨a, vs, rfl, ha, h2⟩ := hy.dct le
    obtain rfl := dn_key (hx.dn le) ek
    cases ry
    refine d_notIn (o := valV vs kk) hu I (DGet.k ha) rx fun s' I' => ?_
    rw [dkv_some ek h2]
    exact ep_of (v := .bl _) I' rfl q
  · cases e
end Mi
end
section
/-! Mi4: the built-in functions. -/
namespace Mi
open PySem PySem.Spec
open PyProof.Rows hiding St Fr
open L2

inductive RdRs (K : PySem.W.Frag) (F H : Hp) : List V → List D → Prop
  | nil : RdRs K F H [] []
  | cons {v : V} {vs : List V} {d : D} {ds : List D} : RdR K F H v d → RdRs K F H vs ds → RdRs K F H (v :: vs) (d :: ds)
def Bi.f : Bi → Value
  | .len => .builtin "len"
  | .tuple => .type "tuple"
  | .list => .type "list"
  | .sorted => .builtin "sorted"
  | .min => .builtin "min"
  | .max => .builtin "max"
  | .sum => .builtin "sum"
  | .any => .builtin "any"
  | .all => .builtin "all"
  | .abs => .builtin "abs"
  | .int => .type "int"
  | .bool => .type "bool"
  | .str => .type "str"
  | .repr => .builtin "repr"
  | .divmod => .builtin "divmod"
  | .dict => .type "dict"
  | .set => .type "set"
  | .lrange => .type "list"
  | .trange => .type "tuple"
def rBi (K : PySem.W.Frag) (f : Bi) : List V → Hp → VK → Prop := fun vs H Q => ∃ F ds od, Same F H ∧ RdRs K F H vs ds ∧ biD f ds = some od ∧ ∀ v F' H', New F H F' H' → NewR K H F' H' v od → Q v H'
theorem bools_ok : ∀ {xs : List PyData} {bs : List Bool}, bools xs = some bs → xs = bs.map PyData.bool
  | [], bs, h => by cases h; rfl
  | .bool b :: r, bs, h => by
    simp only [bools, Option.map_eq_some_iff] at h
    obtain ⟨c, h1, rfl⟩ := h
    rw [bools_ok h1]; rfl
  | .none :: _, _, h => by cases h
  | .int _ :: _, _, h => by cases h
  | .str _ :: _, _, h => by cases h
  | .list _ :: _, _, h => by cases h
  | .tuple _ :: _, _, h => by cases h
  | .dict _ :: _, _, h => by cases h
theorem dn_bools {K : PySem.W.Frag} {F : Hp} : ∀ {bs : List Bool} {vs : List V}, DnAll K F vs (bs.map PyData.bool) → vs = bs.map V.bl
  | [], _, h => by cases h; rfl
  | b :: bs, _, h => by
    cases h with
    | cons h1 h2 => cases h1; rw [dn_bools h2]; rfl
/-- pairs of a value and its datum -/
abbrev VD := V × PyData
theorem each_vd {K : PySem.W.Frag} {H : Hp} {X : Cx} {pins : List (Addr × Obj)} {σ : L2.St} {s : Shared} (I : Inv X pins σ H s) : ∀ {vs : List V} {ds : List PyData} {us : List Value}, DnAll X.K H vs ds → Vals vs us →
    PySem.W.EachIs (fun u (b : VD) => RelV b.1 u) us (vs.zip ds) ∧ PySem.W.EachIs (fun u (b : VD) => ∃ as, Reads s.heap u b.2 as) us (vs.zip ds) ∧ (vs.zip ds).map (·.2) = ds ∧ (vs.zip ds).map (·.1) = vs
  | _, _, _, .nil, .nil => ⟨.nil, .nil, rfl, rfl⟩
  | _, _, _, .cons h1 h2, .cons r1 r2 => by
    obtain ⟨a, b, c, d⟩ := each_vd (K := K) I h2 r2
    refine ⟨.cons r1 a, .cons (Dp.reads I _ _ _ (dn_dp _ _ h1) r1) b, ?_, ?_⟩
    · rw [List.zip_cons_cons, List.map_cons, c]
    · rw [List.zip_cons_cons, List.map_cons, d]
theorem each_vals : ∀ {us : List Value} {bs : List VD}, PySem.W.EachIs (fun u (b : VD) => RelV b.1 u) us bs → Vals (bs.map (·.1)) us
  | _, _, .nil => .nil
  | _, _, .cons h t => .cons h (each_vals t)
theorem dn_zip {K : PySem.W.Frag} {F : Hp} : ∀ {vs : List V} {ds : List PyData}, DnAll K F vs ds → ∀ b ∈ vs.zip ds, Dn K F b.1 b.2
  | _, _, .nil, b, h => by simp at h
  | _, _, .cons h1 h2, b, h => by
    rw [List.zip_cons_cons] at h
    rcases List.mem_cons.mp h with e | h
    · subst e; exact h1
    · exact dn_zip h2 b h
theorem dn_of_mem {K : PySem.W.Frag} {F : Hp} : ∀ {bs : List VD}, (∀ b ∈ bs, Dn K F b.1 b.2) → DnAll K F (bs.map (·.1)) (bs.map (·.2))
  | [], _ => .nil
  | b :: bs, h => .cons (h b (List.mem_cons_self ..)) (dn_of_mem fun c hc => h c (List.mem_cons_of_mem _ hc))
theorem alikeB_ok {xs : List PyData} (h : alikeB xs = true) : PySem.W.AllAlike xs := fun d hd d' hd' => List.all_eq_true.mp (List.all_eq_true.mp h d hd) d' hd'
theorem noNn_ok {xs : List PyData} (h : (xs.all fun z => !isNn z) = true) : ∀ x ∈ xs, x ≠ PyData.none := fun x hx e => by
  have z := List.all_eq_true.mp h x hx
  subst e
  cases z
theorem sortB_ok {xs : List PyData} (h : sortB xs = true) : PySem.W.Sortable xs := by
  unfold sortB at h
  rw [Bool.or_eq_true, List.all_eq_true, List.all_eq_true] at h
  rcases h with h | h
  · refine .inl fun d hd => ?_
    have z := h d hd
    split at z
    · exact ⟨_, _, rfl⟩
    · cases z
  · refine .inr fun d hd => ?_
    have z := h d hd
    split at z
    · cases z
    · cases z
    · rename_i h1 h2
      exact ⟨h2, fun xs e => h1 xs e⟩
theorem map_mergeSort {α β : Type} (f : α → β) (le : β → β → Bool) (l : List α) : (l.mergeSort fun a b => le (f a) (f b)).map f = (l.map f).mergeSort le := by
  exact List.map_mergeSort (fun a _ b _ => rfl)
theorem depthAll_mem : ∀ {xs : List PyData} {x : PyData}, x ∈ xs → x.depth ≤ PyData.depthAll xs
  | y :: ys, x, h => by
    rw [PyData.depthAll]
    rcases List.mem_cons.mp h with e | h
    · subst e; omega
    · have := depthAll_mem h
      omega
theorem dataLe_vd (a b : VD) : PySem.W.dataLe false (fun z : VD => z.2) a b = leD a.2 b.2 := by
  unfold PySem.W.dataLe leD PySem.W.dataLt
  rfl
theorem callT_1 {K : PySem.W.Frag} {F H : Hp} {vs : List V} {d : D} (h : RdRs K F H vs [d]) : ∃ v, vs = [v] ∧ RdR K F H v d := by
  cases h with
  | cons h1 h2 => cases h2; exact ⟨_, rfl, h1⟩
theorem callT_2 {K : PySem.W.Frag} {F H : Hp} {vs : List V} {d e : D} (h : RdRs K F H vs [d, e]) : ∃ v w, vs = [v, w] ∧ RdR K F H v d ∧ RdR K F H w e := by
  cases h with
  | cons h1 h2 =>
    obtain ⟨w, rfl, h3⟩ := callT_1 h2
    exact ⟨_, _, rfl, h1, h3⟩
mutual
theorem noDict_plain : ∀ d : PyData, d.plain = true → d.hasDict = false
  | .none, _ => rfl
  | .bool _, _ => rfl
  | .int _, _ => rfl
  | .str _, _ => rfl
  | .list xs, h => noDictAll_plain xs h
  | .tuple xs, h => noDictAll_plain xs h
  | .dict _, h => by cases h
theorem noDictAll_plain : ∀ ds : List PyData, PyData.plainAll ds = true → PyData.hasDictAll ds = false
  | [], _ => rfl
  | d :: ds, h => by
    have h' : d.plain = true ∧ PyData.plainAll ds = true := by simpa [PyData.plainAll] using h
    show (d.hasDict || PyData.hasDictAll ds) = false
    rw [noDict_plain d h'.1, noDictAll_plain ds h'.2] <;> rfl
end
section
variable {X : Cx} {k : Nat}
theorem sorted_run {pins : List (Addr × Obj)} {s : Shared} {σ : L2.St} {H F : Hp} {Q : VK} {a : Addr} {vs : List V} {xs : List PyData} (hr : Room k X.A) (I : Inv X pins σ H s) (le : Same F H) (ha : H a = some (.lst vs)) (h1 : DnAll X.K F vs xs)
    (c1 : PySem.W.AllAlike xs) (c2 : PySem.W.Sortable xs) (c3 : (PyData.list xs).depth ≤ dp) (c4 : xs.length ≤ lim) (q : ∀ v F' H', New F H F' H' → NewR X.K H F' H' v (.fe (.py (.list (xs.mergeSort leD)))) → Q v H') :
    wpAny (model X.prog X.w) X.A (call (.builtin "sorted") [.ref a]) (EP X pins σ Q) X.xe s := by
  obtain ⟨zl, its, n, r, e⟩ := I.hok a _ ha
  obtain ⟨e1, e2, e3, e4⟩ := each_vd (K := X.K) I (dpAll_same le xs vs h1) r
  have hzl : (vs.zip xs).length = xs.length := by rw [List.length_zip, dpl_len h1, Nat.min_self]
  refine PySem.W.sorted_data (vs := its) (bs := vs.zip xs) (enc := fun z : VD => z.2) (R := fun u (b : VD) => RelV b.1 u ∧ b ∈ vs.zip xs) ⟨_, e, rfl, n, rfl⟩ ?_ e2 (by rw [e3]; exact c1) (by rw [e3]; exact c2) (by rw [hzl]; exact lim_line c4) (fun b hb => ?_) (fun out ho hR => ?_)
  · have : ∀ {us : List Value} {bs : List VD}, PySem.W.EachIs (fun u (b : VD) => RelV b.1 u) us bs → (∀ b ∈ bs, b ∈ vs.zip xs) → PySem.W.EachIs (fun u (b : VD) => RelV b.1 u ∧ b ∈ vs.zip xs) us bs := by
      intro us bs h
      induction h with
      | nil => intro _; exact .nil
      | cons h t ih => intro m; exact .cons ⟨h, m _ (List.mem_cons_self ..)⟩ (ih fun b hb => m b (List.mem_cons_of_mem _ hb))
    exact this e1 fun b hb => hb
  · have z : b.2 ∈ xs := by rw [← e3]; exact List.mem_map_of_mem hb
    have z2 := depthAll_mem z
    have z3 : PyData.depthAll xs + 1 ≤ 30 := c3
    have := hr.units
    omega
  · have hv : Vals (((vs.zip xs).mergeSort (PySem.W.dataLe false fun z : VD => z.2)).map (·.1)) out := each_vals (hR.mono fun _ _ h => h.1)
    have hd : DnAll X.K F (((vs.zip xs).mergeSort (PySem.W.dataLe false fun z : VD => z.2)).map (·.1)) (((vs.zip xs).mergeSort (PySem.W.dataLe false fun z : VD => z.2)).map (·.2)) := by
      refine dn_of_mem fun b hb => dn_zip h1 b ?_
      exact (List.mergeSort_perm _ _).mem_iff.mp hb
    have hs : ((vs.zip xs).mergeSort (PySem.W.dataLe false fun z : VD => z.2)).map (·.2) = xs.mergeSort leD := by
      have z : PySem.W.dataLe false (fun z : VD => z.2) = fun a b : VD => leD a.2 b.2 := by funext a b; exact dataLe_vd a b
      rw [z, map_mergeSort (fun z : VD => z.2) leD, e3]
    rw [hs] at hd
    obtain ⟨c, hc⟩ := PyProof.Rows.sortedAll_at s.heap its out.toArray
    have hn : H (s.heap.objs.size + 1) = none := I.hok.fresh (Nat.le_succ _)
    have hl : (((vs.zip xs).mergeSort (PySem.W.dataLe false fun z : VD => z.2)).map (·.1)).length ≤ sizeLine := by
      rw [List.length_map, List.length_mergeSort, hzl]
      exact lim_line c4
    exact ⟨.ref (s.heap.objs.size + 1), _, I.laid (t' := s.toks) (a := s.heap.objs.size + 1) (o := .lst (((vs.zip xs).mergeSort (PySem.W.dataLe false fun z : VD => z.2)).map (·.1))) (fun b o e => PyProof.Rows.sortedAll_old e) (Nat.le_succ _) ⟨hl, out, c, hv, hc⟩, rfl,
      q _ _ _ (New.lst le hn) (NewR.lst le hn hd)⟩
theorem best_of {pins : List (Addr × Obj)} {s : Shared} {σ : L2.St} {H F : Hp} {Q : VK} {vs : List V} {xs : List PyData} {its : List Value} {p : PyData} {i : Nat} {v : Value} {h' : Heap} {tk : Nat} {bs : List Addr} (I : Inv X pins σ H s) (le : Same F H)
    (h1 : DnAll X.K F vs xs) (r : Vals vs its) (hi : its[i]? = some v) (rb : Reads h' v p bs) (kp : ∀ b o, s.heap.get? b = some o → h'.get? b = some o) (q : ∀ v F' H', New F H F' H' → NewR X.K H F' H' v (.va (.py p)) → Q v H') : EP X pins σ Q v { s with heap := h', toks := tk } := by
  have I' : Inv X pins σ H { s with heap := h', toks := tk } := I.kept kp
  have hv : ∃ z, vs[i]? = some z := by
    cases e : vs[i]? with
    | none => rw [r.none_of e] at hi; cases hi
    | some z => exact ⟨z, rfl⟩
  obtain ⟨z, hz⟩ := hv
  obtain ⟨u, hu, ru⟩ := r.get hz
  rw [hi] at hu; cases hu
  obtain ⟨p', _, hp'⟩ := dpl_get' h1 hz
  obtain ⟨as, ra⟩ := Dp.reads I' _ _ _ (dn_dp _ _ (dp_same le _ _ hp')) ru
  have e := PySem.SeqAt.plain_unique p' p v _ _ (dp_plain p' z hp') ra rb
  subst e
  exact ⟨z, H, I', ru, q z F H (New.refl le) hp'⟩
theorem bi_ok (hr : Room k X.A) (hc : X.calm = true) (hg : X.A.guards = some []) (f : Bi) (hf : f ≠ .lrange) (hf' : f ≠ .trange) : CallR X f.f (rBi X.K f) := by
  intro pins s σ H xs us Q I r h
  obtain ⟨F, ds, od, le, hx, e, q⟩ := h
  have hh : X.A.handled = none := I.ok.hd hc
  unfold biD at e
  split at e
  · cases e
    obtain ⟨v, rfl, h1⟩ := callT_1 hx
    obtain ⟨a, vs, rfl, ha, h2⟩ := h1.list le
    exact call_len_seq pins s σ H _ us Q I r ⟨a, vs, rfl, .inl (.inl (.inl ha)), by rw [dpl_len h2]; exact q _ F H (New.refl le) (NewR.int _)⟩
  · cases e
    obtain ⟨v, rfl, h1⟩ := callT_1 hx
    obtain ⟨a, vs, rfl, ha, h2⟩ := h1.tup le
    exact call_len_seq pins s σ H _ us Q I r ⟨a, vs, rfl, .inr ha.sq, by rw [dpl_len h2]; exact q _ F H (New.refl le) (NewR.int _)⟩
  · cases e
    obtain ⟨v, rfl, h1⟩ := callT_1 hx
    obtain ⟨a, rfl, ha⟩ := h1.scr le
    exact call_len_seq pins s σ H _ us Q I r ⟨a, _, rfl, .inl ha, by rw [List.length_map]; exact q _ F H (New.refl le) (NewR.int _)⟩
  · cases e
    obtain ⟨v, rfl, h1⟩ := callT_1 hx
    obtain ⟨a, vs, rfl, ha, h2⟩ := h1.dct le
    obtain ⟨u, rfl, rx⟩ := vals1 r
    cases rx
    refine d_len I (.inl ha) fun t s' I' => ?_
    rw [dkv_len h2]
    exact ⟨.int _, H, I', ⟨t, rfl⟩, q _ F H (New.refl le) (NewR.int _)⟩
  · split at e
    · rename_i hl
      cases e
      obtain ⟨v, rfl, h1⟩ := callT_1 hx
      obtain rfl := h1.str
      exact call_len_str pins s σ H _ us Q I r ⟨_, rfl, lim_line hl, q _ F H (New.refl le) (NewR.int _)⟩
    · cases e
  · cases e
    obtain ⟨v, rfl, h1⟩ := callT_1 hx
    obtain ⟨a, vs, rfl, ha, h2⟩ := h1.list le
    obtain ⟨u, rfl, rx⟩ := vals1 r
    cases rx
    obtain ⟨its, r', pl, hz⟩ := I.list (.inl (.inl ha))
    have hlen := r'.length
    refine call_tuple_list pl.isList (fun h' kp => ?_) (by simp only [List.size_toArray] <;> omega)
    have I1 : Inv X pins σ H { s with heap := h' } := I.kept (t' := s.toks) kp
    exact ep_tup (s := { s with heap := h' }) I1 le r' hz h2 q
  · cases e
    obtain ⟨v, rfl, h1⟩ := callT_1 hx
    obtain ⟨a, vs, rfl, ha, h2⟩ := h1.tup le
    refine call_tuple_of pins s σ H _ us Q I r ⟨a, vs, rfl, .inr ⟨ha.sq, q _ F H (New.refl le) ?_⟩⟩
    rcases h1 with h1 | ⟨_, _, h1⟩
    · exact h1
    · exact h1.elim
  · cases e
    obtain ⟨v, rfl, h1⟩ := callT_1 hx
    obtain ⟨a, vs, rfl, ha, h2⟩ := h1.list le
    exact call_list_of pins s σ H _ us Q I r ⟨a, vs, rfl, .inl (.inl (.inl ha)), fun p hp => q _ _ _ (New.lst le hp) (NewR.lst le hp h2)⟩
  · cases e
    obtain ⟨v, rfl, h1⟩ := callT_1 hx
    obtain ⟨a, vs, rfl, ha, h2⟩ := h1.tup le
    exact call_list_of pins s σ H _ us Q I r ⟨a, vs, rfl, .inr ha.sq, fun p hp => q _ _ _ (New.lst le hp) (NewR.lst le hp h2)⟩
  · split at e
    · rename_i c
      simp only [Bool.and_eq_true, decide_eq_true_eq] at c
      cases e
      obtain ⟨v, rfl, h1⟩ := callT_1 hx
      obtain ⟨a, vs, rfl, ha, h2⟩ := h1.list le
      obtain ⟨u, rfl, rx⟩ := vals1 r
      cases rx
      exact sorted_run hr I le ha h2 (alikeB_ok c.1.1.1) (sortB_ok c.1.1.2) (okDp_ok c.1.2) c.2 q
    · cases e
  · split at e
    · rename_i c
      rw [Bool.and_eq_true, Bool.and_eq_true] at c
      cases e
      obtain ⟨v, rfl, h1⟩ := callT_1 hx
      obtain ⟨a, vs, rfl, ha, h2⟩ := h1.list le
      obtain ⟨u, rfl, rx⟩ := vals1 r
      cases rx
      obtain ⟨zl, its, n, r', e'⟩ := I.hok a _ ha
      obtain ⟨as, ra⟩ := Dp.readsAll I _ _ _ (dnAll_dp _ _ (dpAll_same le _ _ h2)) r'
      refine PySem.W.min_list_data hh ⟨_, e', rfl, n, rfl⟩ ra ⟨alikeB_ok c.1.1, noNn_ok c.1.2⟩ ?_ (fun i v h' tk bs hi rb kp => best_of I le h2 r' (by simpa using hi) rb kp q)
      have z3 := okDp_ok c.2
      have z4 : PyData.depthAll (_ :: _) + 1 ≤ 30 := z3
      have := hr.units
      omega
    · cases e
  · split at e
    · rename_i c
      rw [Bool.and_eq_true, Bool.and_eq_true] at c
      cases e
      obtain ⟨v, rfl, h1⟩ := callT_1 hx
      obtain ⟨a, vs, rfl, ha, h2⟩ := h1.list le
      obtain ⟨u, rfl, rx⟩ := vals1 r
      cases rx
      obtain ⟨zl, its, n, r', e'⟩ := I.hok a _ ha
      obtain ⟨as, ra⟩ := Dp.readsAll I _ _ _ (dnAll_dp _ _ (dpAll_same le _ _ h2)) r'
      refine PySem.W.max_list_data hh ⟨_, e', rfl, n, rfl⟩ ra ⟨alikeB_ok c.1.1, noNn_ok c.1.2⟩ ?_ (fun i v h' tk bs hi rb kp => best_of I le h2 r' (by simpa using hi) rb kp q)
      have z3 := okDp_ok c.2
      have z4 : PyData.depthAll (_ :: _) + 1 ≤ 30 := z3
      have := hr.units
      omega
    · cases e
  · cases e
    obtain ⟨v, w, rfl, h1, h2⟩ := callT_2 hx
    obtain rfl := h1.int; obtain rfl := h2.int
    exact call_min2 hc pins s σ H _ us Q I r ⟨_, _, rfl, q _ F H (New.refl le) (NewR.int _)⟩
  · cases e
    obtain ⟨v, w, rfl, h1, h2⟩ := callT_2 hx
    obtain rfl := h1.int; obtain rfl := h2.int
    exact call_max2 hc pins s σ H _ us Q I r ⟨_, _, rfl, q _ F H (New.refl le) (NewR.int _)⟩
  · rename_i xs
    rw [Option.map_eq_some_iff] at e
    obtain ⟨bs, e1, rfl⟩ := e
    obtain rfl := bools_ok e1
    obtain ⟨v, rfl, h1⟩ := callT_1 hx
    obtain ⟨a, vs, rfl, ha, h2⟩ := h1.list le
    obtain rfl := dn_bools h2
    exact cr_all hc pins s σ H _ us Q I r ⟨a, bs, rfl, .inl (.inl ha), q _ F H (New.refl le) (NewR.bl _)⟩
  · rename_i xs
    rw [Option.map_eq_some_iff] at e
    obtain ⟨bs, e1, rfl⟩ := e
    obtain rfl := bools_ok e1
    obtain ⟨v, rfl, h1⟩ := callT_1 hx
    obtain ⟨a, vs, rfl, ha, h2⟩ := h1.list le
    obtain rfl := dn_bools h2
    exact cr_any hc pins s σ H _ us Q I r ⟨a, bs, rfl, .inl (.inl ha), q _ F H (New.refl le) (NewR.bl _)⟩
  · cases e
    obtain ⟨v, rfl, h1⟩ := callT_1 hx
    obtain rfl := h1.int
    exact call_abs pins s σ H _ us Q I r ⟨_, rfl, q _ F H (New.refl le) (NewR.int _)⟩
  · cases e
    obtain ⟨v, rfl, h1⟩ := callT_1 hx
    obtain rfl := h1.int
    exact call_int1 pins s σ H _ us Q I r (.inl ⟨_, rfl, q _ F H (New.refl le) (NewR.int _)⟩)
  · cases e
    obtain ⟨v, rfl, h1⟩ := callT_1 hx
    obtain rfl := h1.bl
    exact call_int1 pins s σ H _ us Q I r (.inr ⟨_, rfl, q _ F H (New.refl le) (NewR.int _)⟩)
  · split at e
    · rename_i hj
      cases e
      obtain ⟨v, w, rfl, h1, h2⟩ := callT_2 hx
      obtain rfl := h1.int; obtain rfl := h2.int
      rename_i i j
      obtain ⟨u, w', rfl, ⟨t, rfl⟩, ⟨t', rfl⟩⟩ := vals2 r
      refine divmod_int (by omega) ?_ (.inl (PyProof.noPylong_small (by omega)))
      rw [Int.fdiv_eq_ediv_of_nonneg i (by omega), Int.fmod_eq_emod_of_nonneg i (by omega)]
      exact ep_tup (us := [Value.int (i / j) s.toks, Value.int (i % j) (s.toks + 1)]) (vs := [.int (i / j), .int (i % j)]) I le (.cons ⟨_, rfl⟩ (.cons ⟨_, rfl⟩ .nil)) (show 2 ≤ sizeLine by rw [sizeLine_eq]; decide) (.cons (.int _) (.cons (.int _) .nil)) q
    · cases e
  · rename_i b
    cases e
    obtain ⟨v, rfl, h1⟩ := callT_1 hx
    obtain rfl := h1.bl
    obtain ⟨u, rfl, rx⟩ := vals1 r
    cases rx
    exact P.repr_of_bool ⟨.str _, H, I.tok _, ⟨_, rfl⟩, q _ F H (New.refl le) (Dn.str _)⟩
  · split at e
    · rename_i c
      simp only [Bool.and_eq_true, decide_eq_true_eq] at c
      cases e
      obtain ⟨v, rfl, h1⟩ := callT_1 hx
      obtain ⟨u, rfl, rx⟩ := vals1 r
      have hp := h1.plain
      have hd := h1.dn le
      obtain ⟨as, ra⟩ := Dp.reads I _ _ _ (dn_dp _ _ hd) rx
      cases hd
      cases rx
      refine repr_of_reads' ra c.1.2 (PyData.noDict_hsm (noDict_plain _ hp)) hg ?_ (fun _ _ e => e) (fun h' u tk kp => ⟨.str _, H, I.kept kp, ⟨_, rfl⟩, q _ F H (New.refl le) (Dn.str _)⟩) (lim_line c.2)
      have z3 := okDp_ok c.1.1
      have z4 : PyData.depth _ ≤ 30 := z3
      have := hr.units
      omega
    · cases e
  · split at e
    · rename_i c
      simp only [Bool.and_eq_true, decide_eq_true_eq] at c
      cases e
      obtain ⟨v, rfl, h1⟩ := callT_1 hx
      obtain ⟨u, rfl, rx⟩ := vals1 r
      have hp := h1.plain
      have hd := h1.dn le
      obtain ⟨as, ra⟩ := Dp.reads I _ _ _ (dn_dp _ _ hd) rx
      cases hd
      cases rx
      refine repr_of_reads' ra c.1.2 (PyData.noDict_hsm (noDict_plain _ hp)) hg ?_ (fun _ _ e => e) (fun h' u tk kp => ⟨.str _, H, I.kept kp, ⟨_, rfl⟩, q _ F H (New.refl le) (Dn.str _)⟩) (lim_line c.2)
      have z3 := okDp_ok c.1.1
      have z4 : PyData.depth _ ≤ 30 := z3
      have := hr.units
      omega
    · cases e
  · exact absurd rfl hf
  · exact absurd rfl hf'
  · cases e
end
end Mi
end
section
/-! Mi5: subscripts, methods; how the slots change; what an expression's reading is. -/
namespace Mi
open PySem PySem.Spec
open PyProof.Rows hiding St Fr
open L2

section
variable {X : Cx} {k : Nat}
def rIxM (K : PySem.W.Frag) : R2 := fun x y H Q => ∃ F dx dy d, Same F H ∧ RdR K F H x dx ∧ RdR K F H y dy ∧ item dx dy = some d ∧ ∀ v, Den K F v d → Q v H
theorem ix_ok (hr : Room k X.A) : IxR X (rIxM X.K) := by
  intro value slice pins s σ H x y v u Q I rx ry h hs
  obtain ⟨F, dx, dy, d, le, hx, hy, e, q⟩ := h
  unfold item at e
  split at e
  · obtain rfl := hy.int
    obtain ⟨a, vs, rfl, ha, h2⟩ := hx.list le
    rw [Option.bind_eq_some_iff] at e
    obtain ⟨j, e1, e2⟩ := e
    rw [Option.map_eq_some_iff] at e2
    obtain ⟨p, e3, rfl⟩ := e2
    obtain ⟨z, hz, dz⟩ := dpl_get h2 e3
    refine ix_list value slice pins s σ H _ _ v u Q I rx ry ⟨a, vs, _, z, rfl, rfl, .inl (.inl ha), ?_, q z dz⟩ hs
    unfold atI
    rw [dpl_len h2, e1]
    exact hz
  · obtain rfl := hy.int
    obtain ⟨a, vs, rfl, ha, h2⟩ := hx.tup le
    rw [Option.bind_eq_some_iff] at e
    obtain ⟨j, e1, e2⟩ := e
    rw [Option.map_eq_some_iff] at e2
    obtain ⟨p, e3, rfl⟩ := e2
    obtain ⟨z, hz, dz⟩ := dpl_get h2 e3
    refine ix_tup value slice pins s σ H _ _ v u Q I rx ry ⟨a, vs, _, z, rfl, rfl, ha.sq, ?_, q z dz⟩ hs
    unfold atI
    rw [dpl_len h2, e1]
    exact hz
  · obtain rfl := hy.int
    obtain ⟨a, rfl, ha⟩ := hx.scr le
    rw [Option.bind_eq_some_iff] at e
    obtain ⟨j, e1, e2⟩ := e
    rw [Option.map_eq_some_iff] at e2
    obtain ⟨p, e3, rfl⟩ := e2
    refine ix_list value slice pins s σ H _ _ v u Q I rx ry ⟨a, _, _, .int p, rfl, rfl, ha, ?_, q _ (Dn.int _)⟩ hs
    unfold atI
    rw [List.length_map, e1]
    show (List.map V.int _)[j]? = _
    rw [List.getElem?_map, e3] <;> rfl
  · rename_i kvs p
    split at e
    case isFalse => cases e
    rename_i okk
    obtain ⟨kk, ek⟩ := okKey_ok okk
    rw [Option.map_eq_some_iff] at e
    obtain ⟨p2, e3, rfl⟩ := e
    obtain ⟨a, vs, rfl, ha, h2⟩ := hx.dct le
    obtain rfl := dn_key (hy.dn le) ek
    obtain ⟨z, hz, dz⟩ := (dkv_get ek h2).1 p2 e3
    cases rx
    have g : DGet H a (kV kk) (some z) := by rw [← hz]; exact DGet.k ha
    have hu : X.A.units + 1 < cLine := by
      have := hr.units
      omega
    exact tail_any (ops := [.ref a, u]) (dict_typeIs I g) PySem.F.slot_dict_getitem.lookup (d_getItem hu I g ry fun w' s' I' rw' => ⟨z, H, I', rw', q z dz⟩) hs
  · cases e
theorem cut_dn {K : PySem.W.Frag} {F : Hp} {vs : List V} {ds : List PyData} (h : DnAll K F vs ds) (lo hi : Option Int) : DnAll K F (cutV vs lo hi) (cutP ds lo hi) := by
  unfold cutV cutP
  rw [dpl_len h]
  exact dpl_take _ (dpl_drop _ h)
def rSlM (K : PySem.W.Frag) : V → Option Int → Option Int → Hp → VK → Prop := fun x lo hi H Q => ∃ F d od, Same F H ∧ RdR K F H x d ∧ sliceD d lo hi = some od ∧ ∀ v F' H', New F H F' H' → NewR K H F' H' v od → Q v H'
theorem sl_ok : L2.SlR X (rSlM X.K) := by
  intro pins s σ H x v vl vu lo hi sl Q I rx hs pl pu h
  obtain ⟨F, d, od, le, hx, e, q⟩ := h
  unfold sliceD at e
  split at e
  · cases e
    obtain ⟨a, vs, rfl, ha, h2⟩ := hx.tup le
    cases rx
    obtain ⟨its, r, ht, hz⟩ := tp_vals I ha
    have hlen : its.toArray.size = vs.length := by rw [List.size_toArray]; exact r.length.symm
    have hl := dpl_len h2
    refine ⟨"tuple", _, PyProof.Rows.slot_tuple_getitem.lookup, ht.typeIs, ?_⟩
    by_cases hw : HT.sIx vs.length 0 lo = 0 ∧ HT.sIx vs.length vs.length hi = vs.length
    · refine getItem_tuple_whole ht hs pl pu (by rw [hlen]; exact hw) (ep_of (v := .ref a) I rfl (q _ F H (New.refl le) ?_))
      have e2 : cutP _ lo hi = _ := show cutP _ lo hi = _ from by
        unfold cutP
        rw [← hl, hw.1, hw.2, List.drop_zero, Nat.sub_zero, List.take_of_length_le (by omega)]
      rw [e2]
      rcases hx with hx | ⟨_, _, hx⟩
      · exact hx
      · exact hx.elim
    · refine HT.getItem_tuple_cut ht hs pl pu (by rw [hlen]; exact hw) ?_ (by rw [hlen]; exact hz)
      rw [hlen]
      have rc : Vals (cutV vs lo hi) (((its.toArray).toList.drop (HT.sIx vs.length 0 lo)).take (HT.sIx vs.length vs.length hi - HT.sIx vs.length 0 lo)) := by
        unfold cutV
        exact (r.drop _).take _
      exact ep_tup I le rc (Nat.le_trans (cutV_length _ _ _) hz) (cut_dn h2 lo hi) q
  · cases e
    obtain ⟨a, vs, rfl, ha, h2⟩ := hx.list le
    exact sl_list pins s σ H _ v vl vu lo hi sl Q I rx hs pl pu ⟨a, vs, rfl, .inl (.inl ha), fun p hp => q _ _ _ (New.lst le hp) (NewR.lst le hp (cut_dn h2 lo hi))⟩
  · cases e

/-! ### methods -/
def rMe (K : PySem.W.Frag) (m : Me) (T : PyData → Bool) : V → List V → Hp → VK → Prop := fun x vs H Q => ∃ F p ds od, T p = true ∧ Same F H ∧ RdR K F H x (.py p) ∧ RdRs K F H vs ds ∧ meD m (.py p) ds = some od ∧ ∀ v F' H', New F H F' H' → NewR K H F' H' v od → Q v H'
def isTup : PyData → Bool
  | .tuple _ => true
  | _ => false
def isLst : PyData → Bool
  | .list _ => true
  | _ => false
theorem isTup_ok {p : PyData} (h : isTup p = true) : ∃ ps, p = .tuple ps := by
  cases p with
  | tuple ps => exact ⟨ps, rfl⟩
  | _ => cases h
theorem isLst_ok {p : PyData} (h : isLst p = true) : ∃ ps, p = .list ps := by
  cases p with
  | list ps => exact ⟨ps, rfl⟩
  | _ => cases h
end
section
open PySem.SeqAt
theorem items_ix {A : Around} {s : Shared} {its : Array Value} {xs : List PyData} {as bs : List Addr} {x : Value} {d : PyData} (rs : ReadsAll s.heap its.toList xs as) (rx : Reads s.heap x d bs) (hxs : PyData.plainAll xs = true) (hd : d.plain = true)
    (hu : A.units + 1 + min (PyData.depthAll xs) d.depth < cLine) : ∀ j (hj : j < its.size), EqAt A.in1 s its[j] x (PyData.eqv (xs.getD j .none) d) := fun j hj => by
  obtain ⟨h2, e⟩ := readOf_at rs hxs j hj
  have z := items_plain rs rx hxs hd hu its[j] (Array.getElem_mem hj)
  rw [e] at z
  rw [List.getD_eq_getElem?_getD, List.getElem?_eq_getElem h2]
  exact z
theorem find_hit {xs : List PyData} {f : PyData → Bool} {j : Nat} (h : xs.findIdx? f = some j) : j < xs.length ∧ f (xs.getD j .none) = true ∧ ∀ m, m < j → f (xs.getD m .none) = false := by
  obtain ⟨h1, h2, h3⟩ := List.findIdx?_eq_some_iff_getElem.mp h
  refine ⟨h1, ?_, fun m hm => ?_⟩
  · rw [List.getD_eq_getElem?_getD, List.getElem?_eq_getElem h1]; exact h2
  · have hm' : m < xs.length := by omega
    rw [List.getD_eq_getElem?_getD, List.getElem?_eq_getElem hm']
    have := h3 m hm
    simpa using this
variable {X : Cx} {k : Nat}
theorem room_in {A : Around} (hr : Room k A) {n : Nat} {p : PyData} (h : okDp p = true) : A.units + 1 + min n p.depth < cLine := by
  have := hr.units
  have h2 : p.depth ≤ 30 := okDp_ok h
  have h3 := Nat.min_le_right n p.depth
  omega
theorem mt_tup_count (hr : Room k X.A) : MtR X "tuple.count" (rMe X.K .count isTup) := by
  intro pins s σ H x xs v us Q I rx rs h
  obtain ⟨F, p, ds, od, ht, le, hx, hs, e, q⟩ := h
  obtain ⟨ps, rfl⟩ := isTup_ok ht
  replace e : countD ps ds = some od := e
  unfold countD at e
  split at e <;> try cases e
  rename_i c
  split at e
  · rename_i hd
    cases e
    obtain ⟨y, rfl, h1⟩ := callT_1 hs
    obtain ⟨u, rfl, ry⟩ := vals1 rs
    obtain ⟨a, vs, rfl, ha, h2⟩ := hx.tup le
    cases rx
    obtain ⟨its, r, pl, hz⟩ := tp_vals I ha
    obtain ⟨as, ra⟩ := Dp.readsAll I _ _ _ (dnAll_dp _ _ (dpAll_same le _ _ h2)) r
    obtain ⟨bs, rb⟩ := Dp.reads I _ _ _ (h1.dp le) ry
    exact count_tuple_data pl (by simpa using ra) rb (dpl_plain _ _ h2) h1.plain (room_in hr hd) ⟨.int _, H, I.tok _, ⟨_, rfl⟩, q _ F H (New.refl le) (NewR.int _)⟩
  · cases e
theorem mt_lst_count (hr : Room k X.A) : MtR X "list.count" (rMe X.K .count isLst) := by
  intro pins s σ H x xs v us Q I rx rs h
  obtain ⟨F, p, ds, od, ht, le, hx, hs, e, q⟩ := h
  obtain ⟨ps, rfl⟩ := isLst_ok ht
  replace e : countD ps ds = some od := e
  unfold countD at e
  split at e <;> try cases e
  rename_i c
  split at e
  · rename_i hd
    cases e
    obtain ⟨y, rfl, h1⟩ := callT_1 hs
    obtain ⟨u, rfl, ry⟩ := vals1 rs
    obtain ⟨a, vs, rfl, ha, h2⟩ := hx.list le
    cases rx
    obtain ⟨its, r, pl, hz⟩ := I.list (.inl (.inl ha))
    obtain ⟨as, ra⟩ := Dp.readsAll I _ _ _ (dnAll_dp _ _ (dpAll_same le _ _ h2)) r
    obtain ⟨bs, rb⟩ := Dp.reads I _ _ _ (h1.dp le) ry
    exact count_list_data pl.isList (by simpa using ra) rb (dpl_plain _ _ h2) h1.plain (room_in hr hd) ⟨.int _, H, I.tok _, ⟨_, rfl⟩, q _ F H (New.refl le) (NewR.int _)⟩
  · cases e
theorem mt_tup_ix (hr : Room k X.A) : MtR X "tuple.index" (rMe X.K .index isTup) := by
  intro pins s σ H x xs v us Q I rx rs h
  obtain ⟨F, p, ds, od, ht, le, hx, hs, e, q⟩ := h
  obtain ⟨ps, rfl⟩ := isTup_ok ht
  replace e : indexD ps ds = some od := e
  unfold indexD at e
  split at e <;> try cases e
  · rename_i c
    split at e
    · rename_i hd
      rw [Option.map_eq_some_iff] at e
      obtain ⟨j, ej, rfl⟩ := e
      obtain ⟨f1, f2, f3⟩ := find_hit ej
      obtain ⟨y, rfl, h1⟩ := callT_1 hs
      obtain ⟨u, rfl, ry⟩ := vals1 rs
      obtain ⟨a, vs, rfl, ha, h2⟩ := hx.tup le
      cases rx
      obtain ⟨its, r, pl, hz⟩ := tp_vals I ha
      obtain ⟨as, ra⟩ := Dp.readsAll I _ _ _ (dnAll_dp _ _ (dpAll_same le _ _ h2)) r
      obtain ⟨bs, rb⟩ := Dp.reads I _ _ _ (h1.dp le) ry
      have hl : its.toArray.size = ps.length := by rw [List.size_toArray, ← r.length, dpl_len h2]
      obtain ⟨⟨cls, dd, data, sl⟩, ho, hc, n, hd'⟩ := id pl
      simp only at hc hd'
      subst hc hd'
      exact call_meets PySem.F.slot_tuple_index ⟨_, ho, rfl⟩ PySem.F.entry_tuple_index (PySem.F.args_tuple_index_2 _ _)
        (tuple_index2_found a its.toArray n dd sl _ (fun j => PyData.eqv (ps.getD j .none) c) j (by omega) (Nat.zero_le _) (by omega) f2 fun m hm _ hlt => f3 m hlt)
        ⟨ho, items_ix (by simpa using ra) rb (dpl_plain _ _ h2) h1.plain (room_in hr hd), ⟨.int _, H, I.tok _, ⟨_, rfl⟩, q _ F H (New.refl le) (NewR.int _)⟩⟩
    · cases e
  · rename_i c i
    split at e
    · rename_i hd
      simp only [Bool.and_eq_true, decide_eq_true_eq] at hd
      rw [Option.map_eq_some_iff] at e
      obtain ⟨j, ej, rfl⟩ := e
      obtain ⟨f1, f2, f3⟩ := find_hit ej
      obtain ⟨y, z, rfl, h1, h3⟩ := callT_2 hs
      obtain rfl := h3.int
      obtain ⟨u, u2, rfl, ry, ⟨t, rfl⟩⟩ := vals2 rs
      obtain ⟨a, vs, rfl, ha, h2⟩ := hx.tup le
      cases rx
      obtain ⟨its, r, pl, hz⟩ := tp_vals I ha
      obtain ⟨as, ra⟩ := Dp.readsAll I _ _ _ (dnAll_dp _ _ (dpAll_same le _ _ h2)) r
      obtain ⟨bs, rb⟩ := Dp.reads I _ _ _ (h1.dp le) ry
      have hl : its.toArray.size = ps.length := by rw [List.size_toArray, ← r.length, dpl_len h2]
      rw [List.length_drop] at f1
      have hf : searchFrom i its.toArray.size = i.toNat := searchFrom_nonneg hd.1.2 _
      have hj : ((i.toNat + j : Nat) : Int) = i + (j : Int) := by omega
      have gd : ∀ m, (ps.drop i.toNat).getD m .none = ps.getD (i.toNat + m) .none := fun m => by
        rw [List.getD_eq_getElem?_getD, List.getD_eq_getElem?_getD, List.getElem?_drop]
      obtain ⟨⟨cls, dd, data, sl⟩, ho, hc, n, hd'⟩ := id pl
      simp only at hc hd'
      subst hc hd'
      refine call_meets PySem.F.slot_tuple_index ⟨_, ho, rfl⟩ PySem.F.entry_tuple_index (PySem.F.args_tuple_index_3 _ _ _)
        (tuple_index3_found a its.toArray n dd sl _ (fun j => PyData.eqv (ps.getD j .none) c) i t (i.toNat + j) (by omega) (by omega) (by omega) ?_ fun m hm hlo hlt => ?_)
        ⟨ho, items_ix (by simpa using ra) rb (dpl_plain _ _ h2) h1.plain (room_in hr hd.1.1), ?_⟩
      · have := f2; rw [gd] at this; exact this
      · have := f3 (m - i.toNat) (by omega)
        rw [gd] at this
        rwa [show i.toNat + (m - i.toNat) = m by omega] at this
      · rw [hj]
        exact ⟨.int _, H, I.tok _, ⟨_, rfl⟩, q _ F H (New.refl le) (NewR.int _)⟩
    · cases e
theorem mt_lst_ix (hr : Room k X.A) : MtR X "list.index" (rMe X.K .index isLst) := by
  intro pins s σ H x xs v us Q I rx rs h
  obtain ⟨F, p, ds, od, ht, le, hx, hs, e, q⟩ := h
  obtain ⟨ps, rfl⟩ := isLst_ok ht
  replace e : index1 ps ds = some od := e
  unfold index1 at e
  split at e <;> try cases e
  · rename_i c
    split at e
    · rename_i hd
      rw [Option.map_eq_some_iff] at e
      obtain ⟨j, ej, rfl⟩ := e
      obtain ⟨f1, f2, f3⟩ := find_hit ej
      obtain ⟨y, rfl, h1⟩ := callT_1 hs
      obtain ⟨u, rfl, ry⟩ := vals1 rs
      obtain ⟨a, vs, rfl, ha, h2⟩ := hx.list le
      cases rx
      obtain ⟨its, r, pl, hz⟩ := I.list (.inl (.inl ha))
      obtain ⟨as, ra⟩ := Dp.readsAll I _ _ _ (dnAll_dp _ _ (dpAll_same le _ _ h2)) r
      obtain ⟨bs, rb⟩ := Dp.reads I _ _ _ (h1.dp le) ry
      have hl : its.toArray.size = ps.length := by rw [List.size_toArray, ← r.length, dpl_len h2]
      rw [sizeLine_eq] at hz
      have hv := r.length
      have hw : its.toArray.size = its.length := by simp
      obtain ⟨⟨cls, dd, data, sl⟩, ho, hc, n, hd'⟩ := id pl.isList
      simp only at hc hd'
      subst hc hd'
      exact call_meets PySem.F.slot_list_index ⟨_, ho, rfl⟩ PySem.F.entry_list_index (PySem.F.args_list_index_2 _ _)
        (list_index2_found a its.toArray n dd sl _ (fun j => PyData.eqv (ps.getD j .none) c) j (by omega) (Nat.zero_le _) (by omega) f2 fun m hm _ hlt => f3 m hlt)
        ⟨ho, items_ix (by simpa using ra) rb (dpl_plain _ _ h2) h1.plain (room_in hr hd), ⟨.int _, H, I.tok _, ⟨_, rfl⟩, q _ F H (New.refl le) (NewR.int _)⟩⟩
    · cases e
end
end Mi
end
section
/-! Mi6: how the slots change; readings of expressions, tests, argument lists. -/
namespace Mi
open PySem PySem.Spec
open PyProof.Rows hiding St Fr
open L2

section
variable {K : PySem.W.Frag} {F H F1 H1 F2 H2 : Hp} {st st1 st2 : En} {σ : L2.St} {v : V} {od : Od} {d : D} {a : Addr} {i : Nat}
theorem get_set {α : Type} {l : List α} {i j : Nat} {x y : α} (h : (l.set i x)[j]? = some y) : (j = i ∧ y = x ∧ i < l.length) ∨ (j ≠ i ∧ l[j]? = some y) := by
  by_cases e : j = i
  · subst e
    have hl : j < l.length := by
      have := (List.getElem?_eq_some_iff.mp h).1
      simpa using this
    rw [List.getElem?_set_self hl] at h
    cases h
    exact .inl ⟨rfl, rfl, hl⟩
  · rw [List.getElem?_set_ne (Ne.symm e)] at h
    exact .inr ⟨e, h⟩
theorem get_lt {α : Type} {l : List α} {i : Nat} {x : α} (h : l[i]? = some x) : i < l.length := (List.getElem?_eq_some_iff.mp h).1
/-- what is owned comes to hold other things -/
theorem Rel.putO {s t : Sl} {o' : HO} {d' : D} (r : Rel K F st σ H) (hi : st[i]? = some s) (ho : s.owned = true) (ht : (t = .ow d' ∧ ∃ d, s = .ow d) ∨ (t = .bo d' ∧ ∃ d, s = .bo d)) (ha : σ[i]? = some (some (V.ref a))) (hd : OwnAt K F (upd H a o') a d') :
    Go K st σ F H (st.set i t) σ F (upd H a o') := by
  obtain ⟨a', d0, ea, en, eo, _⟩ := r.ownsAt hi ho
  rw [ha] at ea; cases ea
  have to : t.owned = true := by rcases ht with ⟨rfl, _⟩ | ⟨rfl, _⟩ <;> rfl
  have own : Owns st σ a := ⟨i, s, hi, ho, ha⟩
  have live : H a ≠ none := eo.live
  have back : ∀ b, Owns (st.set i t) σ b → Owns st σ b := fun b ⟨j, u, h1, h2, h3⟩ => by
    rcases get_set h1 with ⟨e, e2, _⟩ | ⟨_, h1⟩
    · subst e; exact ⟨j, s, hi, ho, h3⟩
    · exact ⟨j, u, h1, h2, h3⟩
  refine ⟨⟨Same.refl F, fun b o h n => ?_, fun b h => ?_, fun b h => .inl (back b h), fun b h => .inl h⟩, ⟨fun b o h => ?_, by rw [List.length_set]; exact r.len, fun j u h => ?_, fun j j' u u' b h1 h2 h3 h4 h5 h6 => ?_⟩, fun j d h => ⟨rfl, ?_⟩⟩
  · rw [upd_ne (fun e : b = a => n (by rw [e]; exact own))]; exact h
  · by_cases e : b = a
    · subst e; rw [upd_same]; simp
    · rw [upd_ne e]; exact h
  · rw [upd_ne (fun e => by subst e; rw [en] at h; cases h)]; exact r.le b o h
  · rcases get_set h with ⟨e, e2, _⟩ | ⟨e, h⟩
    · subst e e2
      rcases ht with ⟨rfl, _⟩ | ⟨rfl, _⟩
      · exact ⟨a, ha, en, hd⟩
      · exact ⟨a, ha, en, hd⟩
    · have z := r.sl j u h
      have keep : ∀ b, σ[j]? = some (some (V.ref b)) → u.owned = true → ∀ o, H b = some o → (upd H a o') b = some o := fun b hb hu o q => by
        rw [upd_ne (fun e2 : b = a => e (r.inj j i u s b h hi hu ho hb (by rw [e2]; exact ha)))]; exact q
      cases u with
      | no => trivial
      | fr d => exact z
      | ow d => obtain ⟨b, h1, h2, h3⟩ := z; exact ⟨b, h1, h2, h3.same (Same.refl F) (keep b h1 rfl)⟩
      | bo d => obtain ⟨b, h1, h2, h3⟩ := z; exact ⟨b, h1, h2, h3.same (Same.refl F) (keep b h1 rfl)⟩
  · have e1 : ∃ w : Sl, st[j]? = some w ∧ w.owned = true := by
      rcases get_set h1 with ⟨e, e2, _⟩ | ⟨_, h1⟩
      · subst e; exact ⟨s, hi, ho⟩
      · exact ⟨u, h1, h3⟩
    have e2 : ∃ w : Sl, st[j']? = some w ∧ w.owned = true := by
      rcases get_set h2 with ⟨e, e2, _⟩ | ⟨_, h2⟩
      · subst e; exact ⟨s, hi, ho⟩
      · exact ⟨u', h2, h4⟩
    obtain ⟨w, q1, q2⟩ := e1
    obtain ⟨w', q3, q4⟩ := e2
    exact r.inj j j' w w' b q1 q3 q2 q4 h5 h6
  · rcases get_set h with ⟨e, e2, _⟩ | ⟨e, h⟩
    · subst e
      rcases ht with ⟨rfl, _⟩ | ⟨rfl, d1, rfl⟩
      · cases e2
      · exact ⟨d1, hi⟩
    · exact ⟨d, h⟩
/-- an owned list comes to hold other items -/
theorem Rel.put {s t : Sl} {vs : List V} {ds : List PyData} (r : Rel K F st σ H) (hi : st[i]? = some s) (ho : s.owned = true) (ht : (t = .ow (.py (.list ds)) ∧ ∃ d, s = .ow d) ∨ (t = .bo (.py (.list ds)) ∧ ∃ d, s = .bo d)) (ha : σ[i]? = some (some (V.ref a))) (hd : DnAll K F vs ds) :
    Go K st σ F H (st.set i t) σ F (upd H a (.lst vs)) := r.putO hi ho ht ha ⟨vs, upd_same, hd⟩
/-- what is owned is frozen: its slot is read as a value -/
theorem Rel.frzO {o : HO} (r : Rel K F st σ H) (hi : st[i]? = some (.ow d)) (ha : σ[i]? = some (some (V.ref a))) (en : F a = none) (h1 : H a = some o) (hd : Same F (upd F a o) → Den K (upd F a o) (.ref a) d) :
    Den K (upd F a o) (.ref a) d ∧ Go K st σ F H (st.set i (.fr d)) σ (upd F a o) H := by
  have own : Owns st σ a := ⟨i, _, hi, rfl, ha⟩
  have sF : Same F (upd F a o) := fun b o h => by rw [upd_ne (fun e => by subst e; rw [en] at h; cases h)]; exact h
  have hden := hd sF
  have back : ∀ b, Owns (st.set i (.fr d)) σ b → Owns st σ b ∧ b ≠ a := fun b ⟨j, u, g1, g2, g3⟩ => by
    rcases get_set g1 with ⟨e, e2, _⟩ | ⟨e, g1⟩
    · subst e2; cases g2
    · exact ⟨⟨j, u, g1, g2, g3⟩, fun q : b = a => e (r.inj j i u _ b g1 hi g2 rfl g3 (by rw [q]; exact ha))⟩
  refine ⟨hden, ⟨sF, fun b o h _ => h, fun b h => h, fun b h => .inl (back b h).1, fun b h => ?_⟩, ⟨fun b o h => ?_, by rw [List.length_set]; exact r.len, fun j u h => ?_, fun j j' u u' b g1 g2 g3 g4 g5 g6 => ?_⟩, fun j d h => ⟨rfl, ?_⟩⟩
  · by_cases e : b = a
    · subst e; exact .inr (.inl own)
    · rw [upd_ne e] at h; exact .inl h
  · by_cases e : b = a
    · subst e; rw [upd_same] at h; cases h; exact h1
    · rw [upd_ne e] at h; exact r.le b o h
  · rcases get_set h with ⟨e, e2, _⟩ | ⟨e, h⟩
    · subst e e2; exact ⟨.ref a, ha, hden⟩
    · have z := r.sl j u h
      have nf : ∀ b, σ[j]? = some (some (V.ref b)) → u.owned = true → F b = none → (upd F a o) b = none := fun b hb hu q => by
        rw [upd_ne (fun e2 : b = a => e (r.inj j i u _ b h hi hu rfl hb (by rw [e2]; exact ha)))]; exact q
      cases u with
      | no => trivial
      | fr d => obtain ⟨w, g1, g2⟩ := z; exact ⟨w, g1, g2.same sF⟩
      | ow d => obtain ⟨b, g1, g2, g3⟩ := z; exact ⟨b, g1, nf b g1 rfl g2, g3.same sF fun _ q => q⟩
      | bo d => obtain ⟨b, g1, g2, g3⟩ := z; exact ⟨b, g1, nf b g1 rfl g2, g3.same sF fun _ q => q⟩
  · rcases get_set g1 with ⟨_, e2, _⟩ | ⟨_, g1⟩
    · subst e2; cases g3
    · rcases get_set g2 with ⟨_, e2, _⟩ | ⟨_, g2⟩
      · subst e2; cases g4
      · exact r.inj j j' u u' b g1 g2 g3 g4 g5 g6
  · rcases get_set h with ⟨_, e2, _⟩ | ⟨_, h⟩
    · cases e2
    · exact ⟨d, h⟩
theorem Rel.freeze (r : Rel K F st σ H) (hi : st[i]? = some (.ow d)) : ∃ (a : Addr) (o : HO), σ[i]? = some (some (V.ref a)) ∧ Den K (upd F a o) (.ref a) d ∧ Go K st σ F H (st.set i (.fr d)) σ (upd F a o) H := by
  obtain ⟨a, ha, en, eo⟩ := r.sl i _ hi
  cases d with
  | dct kvs =>
    obtain ⟨vs, h1, h2⟩ := eo
    exact ⟨a, .dK vs, ha, r.frzO hi ha en h1 fun sF => ⟨a, vs, rfl, upd_same, dkv_same sF h2⟩⟩
  | set _ => exact eo.elim
  | scr _ => exact eo.elim
  | py p =>
    cases p with
    | list ds =>
      obtain ⟨vs, h1, h2⟩ := eo
      exact ⟨a, .lst vs, ha, r.frzO hi ha en h1 fun sF => Dn.lst upd_same (dpAll_same sF ds vs h2)⟩
    | _ => exact eo.elim
/-- where a fresh value comes from -/
def Fro (st : En) (σ : L2.St) (H : Hp) (v : V) : Od → Prop
  | .fe _ => ∃ a, v = .ref a ∧ (Owns st σ a ∨ H a = none)
  | _ => True
theorem Fro.back (g : Go K st σ F H st1 σ F1 H1) (h : Fro st1 σ H1 v od) : Fro st σ H v od := by
  cases od with
  | va _ => trivial
  | pk _ => trivial
  | fe _ =>
    obtain ⟨a, e, h⟩ := h
    rcases h with h | h
    · exact ⟨a, e, g.stp.own a h⟩
    · refine ⟨a, e, .inr ?_⟩
      cases q : H a with
      | none => rfl
      | some o => exact absurd h (g.stp.live a (by rw [q]; simp))
structure Res (K : PySem.W.Frag) (st : En) (σ : L2.St) (F H : Hp) (st' : En) (F' H' : Hp) (v : V) (od : Od) : Prop where
  go : Go K st σ F H st' σ F' H'
  rel : ORel K F' H' st' σ v od
  fro : Fro st σ H v od
theorem NewR.res (g : Go K st σ F H st1 σ F1 H1) (n : New F1 H1 F2 H2) (nr : NewR K H1 F2 H2 v od) : Res K st σ F H st1 F2 H2 v od := by
  refine ⟨g.trans (n.go g.rel), nr.orel g.rel n, Fro.back g ?_⟩
  cases od with
  | va _ => trivial
  | pk _ => trivial
  | fe _ => obtain ⟨a, e, h, _⟩ := nr; exact ⟨a, e, .inr h⟩
theorem Res.den (g : Go K st σ F H st1 σ F1 H1) (h : Den K F1 v d) : Res K st σ F H st1 F1 H1 v (.va d) := ⟨g, h, trivial⟩
theorem Res.back (g : Go K st σ F H st1 σ F1 H1) (r : Res K st1 σ F1 H1 st2 F2 H2 v od) : Res K st σ F H st2 F2 H2 v od := ⟨g.trans r.go, r.rel, Fro.back g r.fro⟩
end

/-! ### readings -/
def tE (K : PySem.W.Frag) (C : Ct) (m : Ex) : TE := fun σ H Q => ∃ F st od st', Rel K F st σ H ∧ evE C m st = some (od, st') ∧ ∀ v F' H', Res K st σ F H st' F' H' v od → Q v H'
def tT (K : PySem.W.Frag) (C : Ct) (m : T) : TT := fun σ H Q => ∃ F st b st', Rel K F st σ H ∧ evT C m st = some (b, st') ∧ ∀ F' H', Go K st σ F H st' σ F' H' → Q b H'
inductive ORs (K : PySem.W.Frag) (st0 : En) (H0 : Hp) (F H : Hp) (st : En) (σ : L2.St) : List V → List Od → Prop
  | nil : ORs K st0 H0 F H st σ [] []
  | cons {v : V} {vs : List V} {o : Od} {os : List Od} : ORel K F H st σ v o → Fro st0 σ H0 v o → ORs K st0 H0 F H st σ vs os → ORs K st0 H0 F H st σ (v :: vs) (o :: os)
def tA (K : PySem.W.Frag) (C : Ct) (m : Exs) : TA := fun σ H Q => ∃ F st os st', Rel K F st σ H ∧ evs C m st = some (os, st') ∧ ∀ vs F' H', Go K st σ F H st' σ F' H' → ORs K st H F' H' st' σ vs os → Q vs H'
section
variable {X : Cx} {e a b c : Expr} {es : List Expr} {t t' : TE} {tt tt' : TT} {ta ta' : TA} {pos : Pos}
theorem pe_mono (h : PE X e t) (w : ∀ σ H Q, t' σ H Q → t σ H Q) : PE X e t' := ⟨fun pins s σ H Q I q => h.run pins s σ H Q I (w σ H Q q)⟩
theorem pt_mono (h : PT X e tt) (w : ∀ σ H Q, tt' σ H Q → tt σ H Q) : PT X e tt' := ⟨fun pins s σ H Q I q => h.run pins s σ H Q I (w σ H Q q)⟩
theorem pa_mono (h : PA X es ta) (w : ∀ σ H Q, ta' σ H Q → ta σ H Q) : PA X es ta' := ⟨fun pos pins s σ H Q I q => h.run pos pins s σ H Q I (w σ H Q q)⟩
variable {C : Ct} {ma mb mc : Ex} {k : Nat} {K : PySem.W.Frag}
theorem tE_two {st : En} {F H : Hp} {σ : L2.St} {qa qb : Od × En} {R : V → V → Hp → Prop} (r : Rel K F st σ H) (ea : evE C ma st = some qa) (eb : evE C mb qa.2 = some qb)
    (k : ∀ x y F' H', Go K st σ F H qb.2 σ F' H' → ORel K F' H' qb.2 σ x qa.1 → ORel K F' H' qb.2 σ y qb.1 → R x y H') : tE K C ma σ H fun x H1 => tE K C mb σ H1 fun y H2 => R x y H2 :=
  ⟨F, st, qa.1, qa.2, r, ea, fun x F1 H1 ra => ⟨F1, qa.2, qb.1, qb.2, ra.go.rel, eb, fun y F2 H2 rb => k x y F2 H2 (ra.go.trans rb.go) (ra.rel.step rb.go) rb.rel⟩⟩
theorem me_op {o : O2} (ha : PE X a (tE X.K C ma)) (hb : PE X b (tE X.K C mb)) : PE X (.BinOp a o.op b pos) (tE X.K C (.op o ma mb)) := pe_mono (pe_op (op2_ok o) ha hb) fun σ H Q ⟨F, st, od, st', r, e, q⟩ => by
  simp only [evE, Option.bind_eq_some_iff, Option.map_eq_some_iff] at e
  obtain ⟨qa, ea, qb, eb, x, ex, y, ey, z, ez, e⟩ := e
  cases e
  exact tE_two r ea eb fun u v F' H' g ra rb => ⟨F', x, y, _, g.rel.le, ra.rd g.rel ex, rb.rd g.rel ey, ez, fun w F2 H2 n nr => q w F2 H2 (nr.res g n)⟩
theorem me_neg (ha : PE X a (tE X.K C ma)) : PE X (.UnaryOp .USub a pos) (tE X.K C (.neg ma)) := pe_mono (pe_un un_neg ha) fun σ H Q ⟨F, st, od, st', r, e, q⟩ => by
  simp only [evE, Option.bind_eq_some_iff] at e
  obtain ⟨qa, ea, e⟩ := e
  split at e
  · rename_i i hi
    cases e
    refine ⟨F, st, qa.1, qa.2, r, ea, fun x F' H' ra => ?_⟩
    obtain rfl := (ra.rel.rd ra.go.rel hi).int
    exact ⟨i, rfl, q _ _ _ (Res.den ra.go (Dn.int _))⟩
  · cases e
theorem me_cm {o : Cm} (hr : Room k X.A) (ha : PE X a (tE X.K C ma)) (hb : PE X b (tE X.K C mb)) (hm : behindInMarks o.op b = false) : PE X (.Compare a [o.op] [b] pos) (tE X.K C (.cm o ma mb)) := pe_mono (pe_cmpR (cm_ok hr o) ha hb hm) fun σ H Q ⟨F, st, od, st', r, e, q⟩ => by
  simp only [evE, Option.bind_eq_some_iff, Option.map_eq_some_iff] at e
  obtain ⟨qa, ea, qb, eb, x, ex, y, ey, z, ez, e⟩ := e
  cases e
  exact tE_two r ea eb fun u v F' H' g ra rb => ⟨F', x, y, z, g.rel.le, ra.rd g.rel ex, rb.rd g.rel ey, ez, q _ _ _ (Res.den g (Dn.bl _))⟩
theorem me_cm2 {o o' : Cm} (hr : Room k X.A) (ha : PE X a (tE X.K C ma)) (hb : PE X b (tE X.K C mb)) (hc : PE X c (tE X.K C mc)) (hm : lastMarks [o.op, o'.op] [b, c] = false) :
    PE X (.Compare a [o.op, o'.op] [b, c] pos) (tE X.K C (.cm2 o o' ma mb mc)) := pe_mono (pe_chain (cm_ok hr o) (cm_ok hr o') ha hb hc hm) fun σ H Q ⟨F, st, od, st', r, e, q⟩ => by
  simp only [evE, Option.bind_eq_some_iff] at e
  obtain ⟨qa, ea, qb, eb, x, ex, y, ey, z, ez, e⟩ := e
  refine tE_two r ea eb fun u v F' H' g ra rb => ⟨F', x, y, z, g.rel.le, ra.rd g.rel ex, rb.rd g.rel ey, ez, z, rfl, ?_⟩
  cases z with
  | false =>
    cases e
    exact iteF (q _ _ _ (Res.den g (Dn.bl _)))
  | true =>
    rw [if_pos rfl, Option.bind_eq_some_iff] at e
    obtain ⟨qc, ec, e⟩ := e
    rw [Option.bind_eq_some_iff] at e
    obtain ⟨y', ey', e⟩ := e
    rw [Option.bind_eq_some_iff] at e
    obtain ⟨u', eu', e⟩ := e
    rw [Option.map_eq_some_iff] at e
    obtain ⟨z', ez', e⟩ := e
    cases e
    refine iteT ⟨F', qb.2, qc.1, qc.2, g.rel, ec, fun w F2 H2 rc => ?_⟩
    exact ⟨F2, y', u', z', rc.go.rel.le, (rb.step rc.go).rd rc.go.rel ey', rc.rel.rd rc.go.rel eu', ez', q _ _ _ (Res.den (g.trans rc.go) (Dn.bl _))⟩
end
end Mi
end
section
/-! Mi7: expressions. -/
namespace Mi
open PySem PySem.Spec
open PyProof.Rows hiding St Fr
open L2

/-- no star, no slice stands there -/
def noStar : Expr → Bool
  | .Starred .. => false
  | _ => true
def noSlice : Expr → Bool
  | .Slice .. => false
  | _ => true
def noSet : Expr → Bool
  | .Set .. => false
  | _ => true
theorem star_cons {e : Expr} {es : List Expr} {env : Env} (h : noStar e = true) : starEach (e :: es) env = (false, eval e env) :: starEach es env := by
  cases e <;> first | rfl | cases h
theorem plainIx {b : Expr} (h : noSlice b = true) : PlainIx b := fun o i => by
  cases b <;> first | rfl | cases h
theorem nomarks {o : CmpOp} {b : Expr} (h : noSet b = true) : behindInMarks o b = false := by
  cases b <;> first | rfl | cases h
section
variable {X : Cx} {e a b c : Expr} {es : List Expr} {pos : Pos} {C : Ct} {ma mb mc : Ex} {k : Nat}
/-- a literal -/
def litC : Const → Option PyData
  | .none => some .none
  | .bool b => some (.bool b)
  | .int i => some (.int i)
  | .str x => some (.str x)
  | _ => none
theorem me_lit {v : Const} {j : Nat} {p : PyData} (h : litC v = some p) : PE X (.Constant v j pos) (tE X.K C (.lit p)) := by
  cases v with
  | none => cases h; exact pe_mono pe_non fun σ H Q ⟨F, st, od, st', r, e, q⟩ => by cases e; exact q _ _ _ (Res.den (Go.refl r) Dn.non)
  | bool b => cases h; exact pe_mono pe_bl fun σ H Q ⟨F, st, od, st', r, e, q⟩ => by cases e; exact q _ _ _ (Res.den (Go.refl r) (Dn.bl _))
  | int b => cases h; exact pe_mono pe_int fun σ H Q ⟨F, st, od, st', r, e, q⟩ => by cases e; exact q _ _ _ (Res.den (Go.refl r) (Dn.int _))
  | str b => cases h; exact pe_mono pe_str fun σ H Q ⟨F, st, od, st', r, e, q⟩ => by cases e; exact q _ _ _ (Res.den (Go.refl r) (Dn.str _))
  | _ => cases h
/-- a name of the frame -/
structure NameOk (N : List Str) (sc : Scope) (x : Str) (i : Nat) : Prop where
  ix : N[i]? = some x
  vis : Vis sc x
  d1 : (x == ("__debug__" : Str)) = false
  d2 : (x == ("__classdict__" : Str)) = false
theorem me_var {x : Str} {i : Nat} (h : NameOk X.N X.env.scope x i) : PE X (.Name x pos) (tE X.K C (.var i)) := pe_mono (pe_var h.ix h.vis h.d1 h.d2) fun σ H Q ⟨F, st, od, st', r, e, q⟩ => by
  simp only [evE] at e
  split at e
  · rename_i d hd
    cases e
    obtain ⟨v, h1, h2⟩ := r.sl i _ hd
    exact ⟨v, h1, q _ _ _ (Res.den (Go.refl r) h2)⟩
  · rename_i d hd
    cases e
    obtain ⟨a, o, h1, h2, g⟩ := r.freeze hd
    exact ⟨_, h1, q _ _ _ (Res.den g h2)⟩
  · cases e
theorem me_pk {x : Str} {i : Nat} (h : NameOk X.N X.env.scope x i) : PE X (.Name x pos) (tE X.K C (.pk i)) := pe_mono (pe_var h.ix h.vis h.d1 h.d2) fun σ H Q ⟨F, st, od, st', r, e, q⟩ => by
  simp only [evE] at e
  split at e
  · cases e
  · rename_i s hn hd
    cases e
    have z := r.sl i _ hd
    have : ∃ v, σ[i]? = some (some v) := by
      cases s with
      | no => exact absurd rfl (hn ·)
      | fr d => obtain ⟨v, h1, _⟩ := z; exact ⟨v, h1⟩
      | ow d => obtain ⟨v, h1, _⟩ := z; exact ⟨_, h1⟩
      | bo d => obtain ⟨v, h1, _⟩ := z; exact ⟨_, h1⟩
    obtain ⟨v, h1⟩ := this
    exact ⟨v, h1, q v _ _ ⟨Go.refl r, h1, trivial⟩⟩
  · cases e
/-- and, or, not of bools -/
theorem me_and {rest : List Expr} (ha : PE X a (tE X.K C ma)) (hb : PE X (.BoolOp .And (b :: rest) pos) (tE X.K C mb)) : PE X (.BoolOp .And (a :: b :: rest) pos) (tE X.K C (.and ma mb)) := pe_mono (pe_and ha hb) fun σ H Q ⟨F, st, od, st', r, e, q⟩ => by
  simp only [evE, Option.bind_eq_some_iff] at e
  obtain ⟨qa, ea, e⟩ := e
  refine ⟨F, st, qa.1, qa.2, r, ea, fun x F' H' ra => ?_⟩
  split at e
  · rename_i c hc
    obtain rfl := (ra.rel.rd ra.go.rel hc).bl
    refine ⟨c, rfl, ?_⟩
    cases c with
    | false => cases e; exact iteF (q _ _ _ (Res.den ra.go (Dn.bl _)))
    | true => exact iteT ⟨F', qa.2, od, st', ra.go.rel, e, fun v F2 H2 rb => q _ _ _ (Res.back ra.go rb)⟩
  · cases e
theorem me_or {rest : List Expr} (ha : PE X a (tE X.K C ma)) (hb : PE X (.BoolOp .Or (b :: rest) pos) (tE X.K C mb)) : PE X (.BoolOp .Or (a :: b :: rest) pos) (tE X.K C (.or ma mb)) := pe_mono (pe_or ha hb) fun σ H Q ⟨F, st, od, st', r, e, q⟩ => by
  simp only [evE, Option.bind_eq_some_iff] at e
  obtain ⟨qa, ea, e⟩ := e
  refine ⟨F, st, qa.1, qa.2, r, ea, fun x F' H' ra => ?_⟩
  split at e
  · rename_i c hc
    obtain rfl := (ra.rel.rd ra.go.rel hc).bl
    refine ⟨c, rfl, ?_⟩
    cases c with
    | true => cases e; exact iteT (q _ _ _ (Res.den ra.go (Dn.bl _)))
    | false => exact iteF ⟨F', qa.2, od, st', ra.go.rel, e, fun v F2 H2 rb => q _ _ _ (Res.back ra.go rb)⟩
  · cases e
theorem me_not (ha : PE X a (tE X.K C ma)) : PE X (.UnaryOp .Not a pos) (tE X.K C (.nt ma)) := pe_mono (pe_not ha) fun σ H Q ⟨F, st, od, st', r, e, q⟩ => by
  simp only [evE, Option.bind_eq_some_iff] at e
  obtain ⟨qa, ea, e⟩ := e
  refine ⟨F, st, qa.1, qa.2, r, ea, fun x F' H' ra => ?_⟩
  split at e
  · rename_i c hc
    obtain rfl := (ra.rel.rd ra.go.rel hc).bl
    cases e
    exact ⟨c, rfl, q _ _ _ (Res.den ra.go (Dn.bl _))⟩
  · cases e
theorem me_ite {m : T} (hc : PT X c (tT X.K C m)) (ha : PE X a (tE X.K C ma)) (hb : PE X b (tE X.K C mb)) : PE X (.IfExp c a b pos) (tE X.K C (.ite m ma mb)) := pe_mono (pe_ifExp hc ha hb) fun σ H Q ⟨F, st, od, st', r, e, q⟩ => by
  simp only [evE, Option.bind_eq_some_iff] at e
  obtain ⟨qa, ea, e⟩ := e
  refine ⟨F, st, qa.1, qa.2, r, ea, fun F' H' g => ?_⟩
  cases h : qa.1 with
  | true =>
    rw [h, if_pos rfl] at e
    exact iteT ⟨F', qa.2, od, st', g.rel, e, fun v F2 H2 rb => q _ _ _ (Res.back g rb)⟩
  | false =>
    rw [h, if_neg Bool.false_ne_true] at e
    exact iteF ⟨F', qa.2, od, st', g.rel, e, fun v F2 H2 rb => q _ _ _ (Res.back g rb)⟩
/-- subscripts -/
theorem me_ix (hr : Room k X.A) (hs : noSlice b = true) (ha : PE X a (tE X.K C ma)) (hb : PE X b (tE X.K C mb)) : PE X (.Subscript a b pos) (tE X.K C (.ix ma mb)) := pe_mono (pe_ix (ix_ok hr) ha hb (plainIx hs)) fun σ H Q ⟨F, st, od, st', r, e, q⟩ => by
  simp only [evE, Option.bind_eq_some_iff, Option.map_eq_some_iff] at e
  obtain ⟨qa, ea, qb, eb, x, ex, y, ey, z, ez, e⟩ := e
  cases e
  exact tE_two r ea eb fun u v F' H' g ra rb => ⟨F', x, y, z, g.rel.le, ra.rd g.rel ex, rb.rd g.rel ey, ez, fun w hw => q w _ _ (Res.den g hw)⟩
/-- a part of a slice -/
def tO (K : PySem.W.Frag) (C : Ct) (m : Pt) : TO := fun σ H Q => ∃ F st o st', Rel K F st σ H ∧ evP C m st = some (o, st') ∧ ∀ F' H', Go K st σ F H st' σ F' H' → Q o H'
theorem mo_none : PO X none (tO X.K C .no) := ⟨fun pins s σ H Q I ⟨F, st, o, st', r, e, q⟩ => by
  cases e
  exact po_none.run pins s σ H Q I (q F H (Go.refl r))⟩
theorem mo_some (he : PE X e (tE X.K C ma)) : PO X (some e) (tO X.K C (.so ma)) := ⟨fun pins s σ H Q I ⟨F, st, o, st', r, e, q⟩ => by
  simp only [evP, Option.bind_eq_some_iff] at e
  obtain ⟨qa, ea, e⟩ := e
  refine (po_some he).run pins s σ H Q I ⟨F, st, qa.1, qa.2, r, ea, fun v F' H' ra => ?_⟩
  split at e
  · rename_i i hi
    cases e
    obtain rfl := (ra.rel.rd ra.go.rel hi).int
    exact ⟨_, rfl, q _ _ ra.go⟩
  · cases e⟩
theorem me_sl {lo hi : Option Expr} {ml mh : Pt} {p2 : Pos} (ha : PE X a (tE X.K C ma)) (hl : PO X lo (tO X.K C ml)) (hh : PO X hi (tO X.K C mh)) : PE X (.Subscript a (.Slice lo hi none p2) pos) (tE X.K C (.sl ma ml mh)) := pe_mono (pe_slice sl_ok ha hl hh) fun σ H Q ⟨F, st, od, st', r, e, q⟩ => by
  simp only [evE, Option.bind_eq_some_iff, Option.map_eq_some_iff] at e
  obtain ⟨qa, ea, ql, el, qh, eh, x, ex, z, ez, e⟩ := e
  cases e
  exact ⟨F, st, qa.1, qa.2, r, ea, fun v F1 H1 ra => ⟨F1, qa.2, ql.1, ql.2, ra.go.rel, el, fun F2 H2 g2 => ⟨F2, ql.2, qh.1, qh.2, g2.rel, eh, fun F3 H3 g3 =>
    ⟨F3, x, _, g3.rel.le, ((ra.rel.step g2).step g3).rd g3.rel ex, ez, fun w F4 H4 n nr => q w F4 H4 (nr.res ((ra.go.trans g2).trans g3) n)⟩⟩⟩⟩
/-! ### argument lists, displays, calls of built-ins -/
theorem ma_nil : PA X [] (tA X.K C .nil) := pa_mono pa_nil fun σ H Q ⟨F, st, os, st', r, e, q⟩ => by
  cases e
  exact q _ _ _ (Go.refl r) .nil
end
section
variable {K : PySem.W.Frag} {F H F1 H1 : Hp} {st0 st st1 : En} {H0 : Hp} {σ : L2.St} {vs : List V} {os : List Od}
theorem ORs.step (g : Go K st σ F H st1 σ F1 H1) : ∀ {vs : List V} {os : List Od}, ORs K st0 H0 F H st σ vs os → ORs K st0 H0 F1 H1 st1 σ vs os
  | _, _, .nil => .nil
  | _, _, .cons h f t => .cons (h.step g) f (t.step g)
theorem ORs.back (g : Go K st σ F H st1 σ F1 H1) {F2 H2 : Hp} {st2 : En} : ∀ {vs : List V} {os : List Od}, ORs K st1 H1 F2 H2 st2 σ vs os → ORs K st H F2 H2 st2 σ vs os
  | _, _, .nil => .nil
  | _, _, .cons h f t => .cons h (Fro.back g f) (t.back g)
theorem ORs.rds (r : Rel K F st σ H) : ∀ {vs : List V} {os : List Od} {ds : List D}, ORs K st0 H0 F H st σ vs os → Mi.rds st os = some ds → RdRs K F H vs ds
  | _, _, ds, .nil, e => by cases e; exact .nil
  | _, _, ds, .cons h f t, e => by
    simp only [Mi.rds, Option.bind_eq_some_iff, Option.map_eq_some_iff] at e
    obtain ⟨d, e1, ds', e2, rfl⟩ := e
    exact .cons (h.rd r e1) (t.rds r e2)
end
section
variable {X : Cx} {e a b c : Expr} {es : List Expr} {pos : Pos} {C : Ct} {ma mb mc : Ex} {ms : Exs} {k : Nat}
theorem ma_cons (hs : noStar e = true) (ha : PE X e (tE X.K C ma)) (hr : PA X es (tA X.K C ms)) : PA X (e :: es) (tA X.K C (.cons ma ms)) := pa_mono (pa_cons ha hr (star_cons hs)) fun σ H Q ⟨F, st, os, st', r, e, q⟩ => by
  simp only [evs, Option.bind_eq_some_iff, Option.map_eq_some_iff] at e
  obtain ⟨qa, ea, qr, er, e⟩ := e
  cases e
  exact ⟨F, st, qa.1, qa.2, r, ea, fun v F1 H1 ra => ⟨F1, qa.2, qr.1, qr.2, ra.go.rel, er, fun vs F2 H2 g2 rr => q _ _ _ (ra.go.trans g2) (.cons (ra.rel.step g2) ra.fro (rr.back ra.go))⟩⟩
end
end Mi
end
section
/-! Mi8: displays, built-ins, methods. -/
namespace Mi
open PySem PySem.Spec
open PyProof.Rows hiding St Fr
open L2

inductive Dens (K : PySem.W.Frag) (F : Hp) : List V → List D → Prop
  | nil : Dens K F [] []
  | cons {v : V} {vs : List V} {d : D} {ds : List D} : Den K F v d → Dens K F vs ds → Dens K F (v :: vs) (d :: ds)
section
variable {K : PySem.W.Frag} {F H F1 H1 F2 : Hp} {st0 st st1 : En} {H0 : Hp} {σ : L2.St} {vs : List V} {os : List Od} {a : Addr} {d : D} {v : V}
theorem Go.frz (g : Go K st σ F H st1 σ F1 H1) (hn : ¬ Owns st1 σ a) (fro : Owns st σ a ∨ H a = none) (s1 : Same F1 F2) (s2 : Same F2 H1) (hF : ∀ b, F2 b ≠ none → F1 b ≠ none ∨ b = a) : Go K st σ F H st1 σ F2 H1 := by
  refine ⟨⟨g.stp.fr.trans s1, g.stp.keep, g.stp.live, g.stp.own, fun b h => ?_⟩, ⟨s2, g.rel.len, fun i s h => ?_, g.rel.inj⟩, g.bos⟩
  · rcases hF b h with q | q
    · exact g.stp.frz b q
    · subst q; exact .inr fro
  · have z := g.rel.sl i s h
    have nf : ∀ b, σ[i]? = some (some (V.ref b)) → s.owned = true → F1 b = none → F2 b = none := fun b hb hs q => by
      cases e : F2 b with
      | none => rfl
      | some u =>
        rcases hF b (by rw [e]; simp) with z | z
        · exact absurd q z
        · subst z; exact absurd ⟨i, s, h, hs, hb⟩ hn
    cases s with
    | no => trivial
    | fr d => obtain ⟨w, g1, g2⟩ := z; exact ⟨w, g1, g2.same s1⟩
    | ow d => obtain ⟨b, g1, g2, g3⟩ := z; exact ⟨b, g1, nf b g1 rfl g2, g3.same s1 fun _ q => q⟩
    | bo d => obtain ⟨b, g1, g2, g3⟩ := z; exact ⟨b, g1, nf b g1 rfl g2, g3.same s1 fun _ q => q⟩
/-- an operand is kept: what was just made is frozen -/
theorem keep_one {od : Od} (g : Go K st σ F H st1 σ F1 H1) {F0 : Hp} (s0 : Same F0 F1) (h : ORel K F0 H1 st1 σ v od) (fro : Fro st σ H v od) (e : od.val = some d) : ∃ F2, Same F1 F2 ∧ Go K st σ F H st1 σ F2 H1 ∧ Den K F2 v d := by
  cases od with
  | va d' => cases e; exact ⟨F1, Same.refl _, g, h.same s0⟩
  | pk i => cases e
  | fe d' =>
    cases e
    obtain ⟨a, rfl, _, ho, hn⟩ := h
    obtain ⟨a', e1, fr⟩ := fro
    cases e1
    cases d with
    | dct kvs =>
        obtain ⟨us, h1, h2⟩ := ho
        cases hf : F1 a with
        | some o =>
          have := g.rel.le a o hf
          rw [h1] at this
          cases this
          exact ⟨F1, Same.refl _, g, a, us, rfl, hf, dkv_same s0 h2⟩
        | none =>
          have s1 : Same F1 (upd F1 a (.dK us)) := fun b o q => by rw [upd_ne (fun z : b = a => by subst z; rw [hf] at q; cases q)]; exact q
          refine ⟨upd F1 a (.dK us), s1, g.frz hn fr s1 (fun b o q => ?_) (fun b q => ?_), a, us, rfl, upd_same, dkv_same (s0.trans s1) h2⟩
          · by_cases z : b = a
            · subst z; rw [upd_same] at q; cases q; exact h1
            · rw [upd_ne z] at q; exact g.rel.le b o q
          · by_cases z : b = a
            · exact .inr z
            · rw [upd_ne z] at q; exact .inl q
    | set _ => exact ho.elim
    | scr _ => exact ho.elim
    | py p =>
      cases p with
      | list ds =>
        obtain ⟨us, h1, h2⟩ := ho
        cases hf : F1 a with
        | some o =>
          have := g.rel.le a o hf
          rw [h1] at this
          cases this
          exact ⟨F1, Same.refl _, g, Dn.lst hf (dpAll_same s0 _ _ h2)⟩
        | none =>
          have s1 : Same F1 (upd F1 a (.lst us)) := fun b o q => by rw [upd_ne (fun z : b = a => by subst z; rw [hf] at q; cases q)]; exact q
          refine ⟨upd F1 a (.lst us), s1, g.frz hn fr s1 (fun b o q => ?_) (fun b q => ?_), Dn.lst upd_same (dpAll_same (s0.trans s1) _ _ h2)⟩
          · by_cases z : b = a
            · subst z; rw [upd_same] at q; cases q; exact h1
            · rw [upd_ne z] at q; exact g.rel.le b o q
          · by_cases z : b = a
            · exact .inr z
            · rw [upd_ne z] at q; exact .inl q
      | _ => exact ho.elim
theorem keep_all {F0 : Hp} (h : ∀ {vs : List V} {os : List Od} {ds : List D}, True) : ∀ {vs : List V} {os : List Od} {ds : List D} {F1 : Hp}, ORs K st H F0 H1 st1 σ vs os → vals os = some ds → Same F0 F1 → Go K st σ F H st1 σ F1 H1 →
    ∃ F2, Same F1 F2 ∧ Go K st σ F H st1 σ F2 H1 ∧ Dens K F2 vs ds
  | _, _, _, F1, .nil, e, s0, g => by cases e; exact ⟨F1, Same.refl _, g, .nil⟩
  | _, _, _, F1, .cons h1 h2 t, e, s0, g => by
    simp only [vals, Option.bind_eq_some_iff, Option.map_eq_some_iff] at e
    obtain ⟨d, e1, ds', e2, rfl⟩ := e
    obtain ⟨F2, s1, g1, q1⟩ := keep_one g s0 h1 h2 e1
    obtain ⟨F3, s2, g2, q2⟩ := keep_all (F0 := F0) (fun {_ _ _} => trivial) t e2 (s0.trans s1) g1
    exact ⟨F3, s1.trans s2, g2, .cons (q1.same s2) q2⟩
theorem dens_py : ∀ {vs : List V} {ds : List D} {ps : List PyData}, Dens K F vs ds → pyds ds = some ps → DnAll K F vs ps
  | _, _, _, .nil, e => by cases e; exact .nil
  | _, _, _, .cons (d := d) h t, e => by
    simp only [pyds, Option.bind_eq_some_iff, Option.map_eq_some_iff] at e
    obtain ⟨p, e1, ps', e2, rfl⟩ := e
    cases d <;> cases e1
    exact .cons h (dens_py t e2)
end
section
variable {X : Cx} {e a b c : Expr} {es : List Expr} {pos : Pos} {C : Ct} {ma mb mc : Ex} {ms : Exs} {k : Nat} {t : TA}
theorem pe_tupF {x1 : Nat} (h : PA X es t) : PE X (.Tuple es x1 pos) (fun σ H Q => t σ H fun xs H1 => xs.length ≤ sizeLine ∧ ∀ p ob, ob.dict = none → H1 p = none → Q (.ref p) (upd H1 p (.frz ob (.tup xs)))) := by
  refine ⟨fun pins s σ H Q I hq => wpAny_Tuple_spliced (thn (h.run pos pins s σ H _ I hq) fun us s1 ⟨xs, H1, I1, r, z, q⟩ => ⟨by rw [← r.length]; exact z, ?_⟩)⟩
  exact ⟨.ref s1.heap.objs.size, _, lay_tup I1 r z, rfl, q _ _ rfl (I1.hok.fresh (Nat.le_refl _))⟩
theorem me_tup {x1 : Nat} (h : PA X es (tA X.K C ms)) : PE X (.Tuple es x1 pos) (tE X.K C (.tup ms)) := pe_mono (pe_tupF h) fun σ H Q ⟨F, st, od, st', r, e, q⟩ => by
  simp only [evE, Option.bind_eq_some_iff] at e
  obtain ⟨qa, ea, ds, ed, ps, ep, e⟩ := e
  split at e
  · rename_i hl
    cases e
    refine ⟨F, st, qa.1, qa.2, r, ea, fun vs F1 H1 g rr => ?_⟩
    obtain ⟨F2, s1, g2, hd⟩ := keep_all (fun {_ _ _} => trivial) rr ed (Same.refl _) g
    have hp := dens_py hd ep
    refine ⟨by rw [dpl_len hp]; exact lim_line hl, fun p ob ho hn => q _ _ _ (NewR.res g2 (New.put g2.rel.le hn) (NewR.tup g2.rel.le hn ho hp))⟩
  · cases e
theorem me_lst (h : PA X es (tA X.K C ms)) : PE X (.List es pos) (tE X.K C (.lst ms)) := pe_mono (pe_lst h) fun σ H Q ⟨F, st, od, st', r, e, q⟩ => by
  simp only [evE, Option.bind_eq_some_iff] at e
  obtain ⟨qa, ea, ds, ed, ps, ep, e⟩ := e
  split at e
  · rename_i hl
    cases e
    refine ⟨F, st, qa.1, qa.2, r, ea, fun vs F1 H1 g rr => ?_⟩
    obtain ⟨F2, s1, g2, hd⟩ := keep_all (fun {_ _ _} => trivial) rr ed (Same.refl _) g
    have hp := dens_py hd ep
    refine ⟨by rw [dpl_len hp]; exact lim_line hl, fun p hn => q _ _ _ (NewR.res g2 (New.lst g2.rel.le hn) (NewR.lst g2.rel.le hn hp))⟩
  · cases e
/-! ### built-ins -/
def Bi.nm : Bi → Str
  | .len => "len"
  | .tuple => "tuple"
  | .list => "list"
  | .sorted => "sorted"
  | .min => "min"
  | .max => "max"
  | .sum => "sum"
  | .any => "any"
  | .all => "all"
  | .abs => "abs"
  | .int => "int"
  | .bool => "bool"
  | .str => "str"
  | .repr => "repr"
  | .divmod => "divmod"
  | .dict => "dict"
  | .set => "set"
  | .lrange => "list"
  | .trange => "tuple"
def noStars (es : List Expr) : Bool := es.all noStar
theorem stars_any {env : Env} {pos : Pos} : ∀ {es : List Expr}, noStars es = true → (backTo pos (starEach es env)).any (·.1) = false
  | [], _ => rfl
  | e :: es, h => by
    have h' : noStar e = true ∧ noStars es = true := by simpa [noStars] using h
    rw [star_cons h'.1]
    show (false || (backTo pos (starEach es env)).any (·.1)) = false
    rw [stars_any h'.2] <;> rfl
theorem boot_bi (f : Bi) : bootBuiltins f.nm = some f.f := by cases f <;> decide +kernel
theorem pe_bi (hr : Room k X.A) (hc : X.calm = true) (hg : X.A.guards = some []) (f : Bi) (hf : f ≠ .lrange) (hf' : f ≠ .trange) {p : Pos} (gl : Gl X f.nm) (mg : X.mg f.nm = none) (hs : noStars (e :: es) = true) (ha : PA X (e :: es) t) :
    PE X (.Call (.Name f.nm p) (e :: es) [] pos) (tCB (rBi X.K f) t) := by
  have h' : noStar e = true ∧ noStars es = true := by simpa [noStars] using hs
  have ok := bi_ok hr hc hg f hf hf'
  have bt := boot_bi f
  have n1 : f.nm ≠ "__name__" := by cases f <;> decide
  have n2 : (f.nm == ("__debug__" : Str)) = false := by cases f <;> decide
  have tl := stars_any (env := X.env) (pos := pos) h'.2
  cases f <;> first | exact absurd rfl hf | exact absurd rfl hf' | exact pe_callB ok gl mg bt ha n1 n2 (star_cons h'.1) tl | exact pe_callTy ok gl mg bt ha n1 n2 (star_cons h'.1) tl
theorem me_bi (hr : Room k X.A) (hc : X.calm = true) (hg : X.A.guards = some []) (f : Bi) (hf : f ≠ .lrange) (hf' : f ≠ .trange) {p : Pos} (gl : Gl X f.nm) (mg : X.mg f.nm = none) (hs : noStars (e :: es) = true) (ha : PA X (e :: es) (tA X.K C ms)) :
    PE X (.Call (.Name f.nm p) (e :: es) [] pos) (tE X.K C (.bi f ms)) := pe_mono (pe_bi hr hc hg f hf hf' gl mg hs ha) fun σ H Q ⟨F, st, od, st', r, e, q⟩ => by
  simp only [evE, Option.bind_eq_some_iff, Option.map_eq_some_iff] at e
  obtain ⟨qa, ea, ds, ed, o, eo, e⟩ := e
  cases e
  exact ⟨F, st, qa.1, qa.2, r, ea, fun vs F1 H1 g rr => ⟨F1, ds, _, g.rel.le, rr.rds g.rel ed, eo, fun w F2 H2 n nr => q _ _ _ (nr.res g n)⟩⟩
end
end Mi
end
section
/-! Mi9: ranges as lists, isinstance, methods, tests. -/
namespace Mi
open PySem PySem.Spec
open PyProof.Rows hiding St Fr
open L2

section
variable {X : Cx} {e a b c : Expr} {es : List Expr} {pos : Pos} {C : Ct} {ma mb mc : Ex} {ms : Exs} {k : Nat} {t : TA}
/-! ### list(range(..)), tuple(range(..)) -/
def PRc (X : Cx) (e : Expr) (t : L2.St → Hp → (Int → Int → Int → Hp → Prop) → Prop) : Prop :=
  ∀ (pins : List (Addr × Obj)) (s : Shared) (σ : L2.St) (H : Hp) (Q : Int → Int → Int → Hp → Prop), Inv X pins σ H s → t σ H Q →
    wpAny (model X.prog X.w) X.A (eval e X.env) (fun x s' => ∃ r a b c t u v H', x = .ref r ∧ IsRange s'.heap r a b c t u v ∧ Inv X pins σ H' s' ∧ Q a b c H') X.xe s
theorem prc_of {te : L2.St → Hp → (Int → Int → Hp → Prop) → Prop} (h : PRg X e te) : PRc X e (fun σ H Q => te σ H fun a b H1 => Q a b 1 H1) := fun pins s σ H Q I q =>
  thn (h pins s σ H _ I q) fun x s1 ⟨r, a, b, t, u, v, H1, ex, hr, I1, q⟩ => ⟨r, a, b, 1, t, u, v, H1, ex, hr, I1, q⟩
theorem prc_3 {ta : TA} {p : Pos} (hg : Gl X "range") (hm : X.mg "range" = none) (ha : PA X [a, b, c] ta)
    (hs : starEach [a, b, c] X.env = (false, eval a X.env) :: starEach [b, c] X.env) (hpl : (backTo pos (starEach [b, c] X.env)).any (·.1) = false) :
    PRc X (.Call (.Name "range" p) [a, b, c] [] pos) (fun σ H Q => ta σ H fun vs H1 => ∃ (i j k : Int), vs = [.int i, .int j, .int k] ∧ k ≠ 0 ∧ k.natAbs < 1073741824 ∧ Q i j k H1) := by
  intro pins s σ H Q I h
  refine Call_ (ld_blt I hg hm boot_range (PyProof.Rows.callWith_type1 (thn (ha.run pos pins s σ H _ I h) fun us s1 ⟨vs, H1, I1, r1, q1⟩ => ?_) hs hpl))
  obtain ⟨i, j, k, e, c0, c1, q⟩ := q1
  subst e
  cases r1 with
  | cons r rr =>
    cases rr with
    | cons r' rr =>
      cases rr with
      | cons r'' rr =>
        cases rr
        obtain ⟨t, rfl⟩ := r
        obtain ⟨t', rfl⟩ := r'
        obtain ⟨t'', rfl⟩ := r''
        refine call_range_3 c0 ?_ (.inl (PyProof.noPylong_small c1))
        exact ⟨_, i, j, k, _, _, _, H1, rfl, IsRange.new _ _ _ _ _ _ _, I1.kept (t' := s1.toks) fun b u e => Heap.get?_push_of_some _ e, q⟩
/-- a range of n items -/
def RgN (i j c : Int) (n : Nat) : Prop := PySem.Builtin.Range.small i j c = true ∧ PySem.Builtin.Range.rangeSize i j c = n ∧ n ≤ 2 ^ 24
theorem RgOk.n {i j : Int} (h : RgOk i j) : RgN i j 1 (j - i).toNat := by
  obtain ⟨b1, b2, b3, b4, b5⟩ := h
  exact ⟨small_one b1 b2 b3 b4, rangeSize_nat i j, b5⟩
def rgVc (a c : Int) (n : Nat) : List V := (List.range n).map fun i => V.int (a + (i : Nat) * c)
theorem vals_rgc {a c : Int} {n : Nat} {acc : Array Value} (h : ItemsOf (fun i v => ∃ t, v = .int (a + i * c) t) acc n) : Vals (rgVc a c n) acc.toList := by
  have e : acc.toList.length = n := by rw [Array.length_toList]; exact h.1
  unfold rgVc
  rw [← e]
  refine vals_of_get acc.toList _ fun j u hj => ?_
  obtain ⟨t, rfl⟩ := h.2 j u (by rw [← hj, Array.getElem?_toList])
  exact ⟨t, rfl⟩
theorem rgVc_len (a c : Int) (n : Nat) : (rgVc a c n).length = n := by unfold rgVc; rw [List.length_map, List.length_range]
def tRg (K : PySem.W.Frag) (C : Ct) (ms : Exs) : L2.St → Hp → (Int → Int → Int → Hp → Prop) → Prop := fun σ H Q => ∃ F st os st' ds xs, Rel K F st σ H ∧ evs C ms st = some (os, st') ∧ rds st' os = some ds ∧ rngD ds = some xs ∧
  ∀ F' H' i j c n, Go K st σ F H st' σ F' H' → RgN i j c n → xs = rngC i c n → Q i j c H'
theorem rngL_C (i : Int) (n : Nat) : rngL i n = rngC i 1 n := by
  unfold rngL rngC
  simp only [Int.mul_one]
theorem rng_one {ds : List D} {xs : List PyData} (h : rngD ds = some xs) : (∃ b, ds = [.py (.int b)] ∧ okR b = true ∧ xs = rngL 0 b.toNat) ∨ (∃ a b, ds = [.py (.int a), .py (.int b)] ∧ okR a = true ∧ okR b = true ∧ xs = rngL a (b - a).toNat) ∨
    ∃ a b c, ds = [.py (.int a), .py (.int b), .py (.int c)] ∧ okR a = true ∧ okR b = true ∧ okR c = true ∧ c ≠ 0 ∧ PySem.Builtin.Range.small a b c = true ∧ xs = rngC a c (PySem.Builtin.Range.rangeSize a b c).toNat := by
  unfold rngD at h
  split at h
  · rename_i b
    split at h
    · rename_i hb
      cases h
      exact .inl ⟨b, rfl, hb, rfl⟩
    · cases h
  · rename_i a b
    split at h
    · rename_i hb
      rw [Bool.and_eq_true] at hb
      cases h
      exact .inr (.inl ⟨a, b, rfl, hb.1, hb.2, rfl⟩)
    · cases h
  · rename_i a b c
    split at h
    · rename_i hb
      simp only [Bool.and_eq_true, decide_eq_true_eq] at hb
      cases h
      exact .inr (.inr ⟨a, b, c, rfl, hb.1.1.1, hb.1.1.2, hb.1.2.1, hb.1.2.2, hb.2, rfl⟩)
    · cases h
  · cases h
theorem okR_ok {i : Int} (h : okR i = true) : -1000000 ≤ i ∧ i ≤ 1000000 := by
  unfold okR at h
  rw [Bool.and_eq_true, decide_eq_true_eq, decide_eq_true_eq] at h
  exact h
theorem mrg_1 {p : Pos} (hg : Gl X "range") (hm : X.mg "range" = none) (hs : noStar a = true) (ha : PE X a (tE X.K C ma)) : PRc X (.Call (.Name "range" p) [a] [] pos) (tRg X.K C (.cons ma .nil)) := by
  intro pins s σ H Q I ⟨F, st, os, st', ds, xs, r, e, e2, e3, q⟩
  simp only [evs, Option.bind_eq_some_iff, Option.map_eq_some_iff] at e
  obtain ⟨qa, ea, qn, en, e⟩ := e
  cases en; cases e
  refine prc_of (prg_1 hg hm ha (star_cons hs)) pins s σ H Q I ⟨F, st, qa.1, qa.2, r, ea, fun v F1 H1 ra => ?_⟩
  simp only [rds, Option.bind_eq_some_iff, Option.map_eq_some_iff] at e2
  obtain ⟨d, ed, ds', e4, rfl⟩ := e2
  cases e4
  rcases rng_one e3 with ⟨n, h1, h2, h3⟩ | ⟨_, _, h1, _⟩ | ⟨_, _, _, h1, _⟩
  · cases h1
    obtain rfl := (ra.rel.rd ra.go.rel ed).int
    have hb := okR_ok h2
    exact ⟨n, rfl, q _ _ _ _ _ _ ra.go (RgOk.n ⟨by omega, by omega, by omega, by omega, by omega⟩) (by rw [h3, Int.sub_zero]; exact rngL_C _ _)⟩
  · cases h1
  · cases h1
theorem mrg_2 {p : Pos} (hg : Gl X "range") (hm : X.mg "range" = none) (hs : noStar a = true) (hs2 : noStar b = true) (ha : PE X a (tE X.K C ma)) (hb : PE X b (tE X.K C mb)) :
    PRc X (.Call (.Name "range" p) [a, b] [] pos) (tRg X.K C (.cons ma (.cons mb .nil))) := by
  intro pins s σ H Q I ⟨F, st, os, st', ds, xs, r, e, e2, e3, q⟩
  simp only [evs, Option.bind_eq_some_iff, Option.map_eq_some_iff] at e
  obtain ⟨qa, ea, qn, ⟨qb, eb, qn2, en, en2⟩, e⟩ := e
  cases en; cases en2; cases e
  refine prc_of (prg_2 hg hm ha hb (star_cons hs) (star_cons hs2) (stars_any (by show (noStar b && true) = true; rw [hs2] <;> rfl))) pins s σ H Q I (tE_two r ea eb fun x y F1 H1 g ra rb => ?_)
  simp only [rds, Option.bind_eq_some_iff, Option.map_eq_some_iff] at e2
  obtain ⟨d, ed, ds', ⟨d2, ed2, ds2, e4, rfl⟩, rfl⟩ := e2
  cases e4
  rcases rng_one e3 with ⟨n, h1, _⟩ | ⟨i, j, h1, h2, h3, h4⟩ | ⟨_, _, _, h1, _⟩
  · cases h1
  · cases h1
    obtain rfl := (ra.rd g.rel ed).int
    obtain rfl := (rb.rd g.rel ed2).int
    have h5 := okR_ok h2
    have h6 := okR_ok h3
    exact ⟨i, j, rfl, rfl, q _ _ _ _ _ _ g (RgOk.n ⟨by omega, by omega, by omega, by omega, by omega⟩) (by rw [h4]; exact rngL_C _ _)⟩
  · cases h1
theorem RgN.of {a b c : Int} (h1 : okR a = true) (h2 : okR b = true) (h5 : PySem.Builtin.Range.small a b c = true) : RgN a b c (PySem.Builtin.Range.rangeSize a b c).toNat := by
  have h1 := okR_ok h1
  have h2 := okR_ok h2
  have := rangeSize_toNat_le a b c
  exact ⟨h5, rangeSize_toNat a b c, by omega⟩
theorem rds_len {st : En} : ∀ {os : List Od} {ds : List D}, rds st os = some ds → ds.length = os.length
  | [], ds, e => by cases e; rfl
  | o :: os, ds, e => by
    simp only [rds, Option.bind_eq_some_iff, Option.map_eq_some_iff] at e
    obtain ⟨d, _, ds', e2, rfl⟩ := e
    exact congrArg Nat.succ (rds_len e2)
theorem mrg_3 {p : Pos} (hg : Gl X "range") (hm : X.mg "range" = none) (hs : noStar a = true) (hs2 : noStar b = true) (hs3 : noStar c = true) (ha : PA X [a, b, c] (tA X.K C ms)) (hl : ∀ st os st', evs C ms st = some (os, st') → os.length = 3) :
    PRc X (.Call (.Name "range" p) [a, b, c] [] pos) (tRg X.K C ms) := by
  intro pins s σ H Q I ⟨F, st, os, st', ds, xs, r, e, e2, e3, q⟩
  refine prc_3 hg hm ha (star_cons hs) (stars_any (by show (noStar b && (noStar c && true)) = true; rw [hs2, hs3] <;> rfl)) pins s σ H Q I ⟨F, st, os, st', r, e, fun vs F1 H1 g rr => ?_⟩
  have rd := rr.rds g.rel e2
  rcases rng_one e3 with ⟨n, h1, _⟩ | ⟨_, _, h1, _⟩ | ⟨i, j, k, h1, h2, h3, h4, h5, h6, h7⟩
  · subst h1
    have hl := hl _ _ _ e
    exact absurd hl (fun hl => by have := rds_len e2; rw [hl] at this; cases this)
  · subst h1
    have hl := hl _ _ _ e
    exact absurd hl (fun hl => by have := rds_len e2; rw [hl] at this; cases this)
  · subst h1
    match vs, rd with
    | [v, w, u], .cons k1 (.cons k2 (.cons k3 .nil)) =>
      obtain rfl := k1.int
      obtain rfl := k2.int
      obtain rfl := k3.int
      have hk := okR_ok h4
      exact ⟨i, j, k, rfl, h5, by omega, q _ _ _ _ _ _ g (RgN.of h2 h3 h6) h7⟩
theorem dn_rgc {K : PySem.W.Frag} {F : Hp} (i c : Int) : ∀ (l : List Nat), DnAll K F (l.map fun (k : Nat) => V.int (i + (k : Int) * c)) (l.map fun (k : Nat) => PyData.int (i + (k : Int) * c))
  | [] => .nil
  | _ :: l => .cons (.int _) (dn_rgc i c l)
theorem pe_listRgC {p : Pos} {te : L2.St → Hp → (Int → Int → Int → Hp → Prop) → Prop} (hc : X.calm = true) (hg : Gl X "list") (hm : X.mg "list" = none) (he : PRc X e te) (na : starEach [e] X.env = (false, eval e X.env) :: starEach [] X.env) :
    PE X (.Call (.Name "list" p) [e] [] pos) (fun σ H Q => te σ H fun a b c H1 => ∃ n, RgN a b c n ∧ ∀ q, H1 q = none → Q (.ref q) (upd H1 q (.lst (rgVc a c n)))) := by
  refine ⟨fun pins s σ H Q I h => ?_⟩
  refine Call_ (ld_blt I hg hm boot_list (PyProof.Rows.callWith_type1 (args_cons (thn (he pins s σ H _ I h) fun x s1 ⟨r, a, b, c, t, u, v, H1, ex, hr, I1, n, ok, q⟩ => args_nil ?_) na) na))
  subst ex
  obtain ⟨b1, b2, b3⟩ := ok
  refine call_list_range (n := n) (I1.ok.hd hc) hr b1 b2 b3 fun h' tk acc c' hk e' hi => ?_
  refine ⟨.ref s1.heap.objs.size, upd H1 s1.heap.objs.size (.lst (rgVc a c n)), I1.laid hk (Nat.le_refl _) (show ObjOk X.prog X.w _ _ _ (.lst (rgVc a c n)) from ⟨?_, acc.toList, c', vals_rgc hi, ?_⟩), rfl, q _ (I1.hok.fresh (Nat.le_refl _))⟩
  · rw [rgVc_len, sizeLine_eq]; omega
  · rw [Array.toArray_toList]; exact e'
theorem pe_tupRgC {p : Pos} {te : L2.St → Hp → (Int → Int → Int → Hp → Prop) → Prop} (hc : X.calm = true) (hg : Gl X "tuple") (hm : X.mg "tuple" = none) (he : PRc X e te) (na : starEach [e] X.env = (false, eval e X.env) :: starEach [] X.env) :
    PE X (.Call (.Name "tuple" p) [e] [] pos) (fun σ H Q => te σ H fun a b c H1 => ∃ n, RgN a b c n ∧ ∀ q ob, ob.dict = none → H1 q = none → Q (.ref q) (upd H1 q (.frz ob (.tup (rgVc a c n))))) := by
  refine ⟨fun pins s σ H Q I h => Call_ (ld_blt I hg hm boot_tuple (PyProof.Rows.callWith_type1 (args_cons (thn (he pins s σ H _ I h) fun x s1 ⟨r, a, b, c, t, u, v, H1, ex, hr, I1, n, ok, q⟩ => args_nil ?_) na) na))⟩
  subst ex
  obtain ⟨b1, b2, b3⟩ := ok
  refine call_tuple_range (n := n) (I1.ok.hd hc) hr b1 b2 b3 fun h' tk acc hk hi => ?_
  have I2 : Inv X pins σ H1 { s1 with heap := h', toks := tk } := I1.kept hk
  have z : (rgVc a c n).length ≤ sizeLine := by rw [rgVc_len, sizeLine_eq]; omega
  have lay := lay_tup (t' := tk) I2 (vals_rgc hi) z
  rw [Array.toArray_toList] at lay
  exact ⟨.ref h'.objs.size, _, lay, rfl, q _ _ rfl (I2.hok.fresh (Nat.le_refl _))⟩
theorem me_lrange {p : Pos} (hc : X.calm = true) (hg : Gl X "list") (hm : X.mg "list" = none) (hs : noStar e = true) (he : PRc X e (tRg X.K C ms)) : PE X (.Call (.Name "list" p) [e] [] pos) (tE X.K C (.bi .lrange ms)) :=
  pe_mono (pe_listRgC hc hg hm he (star_cons hs)) fun σ H Q ⟨F, st, od, st', r, e, q⟩ => by
    simp only [evE, Option.bind_eq_some_iff, Option.map_eq_some_iff, biD] at e
    obtain ⟨qa, ea, ds, ed, o, ⟨xs, ex, eo⟩, e⟩ := e
    cases eo; cases e
    refine ⟨F, st, qa.1, qa.2, ds, xs, r, ea, ed, ex, fun F1 H1 i j c n g ok ex => ⟨n, ok, fun p hp => ?_⟩⟩
    subst ex
    exact q _ _ _ (NewR.res g (New.lst g.rel.le hp) (NewR.lst g.rel.le hp (dn_rgc i c _)))
theorem me_trange {p : Pos} (hc : X.calm = true) (hg : Gl X "tuple") (hm : X.mg "tuple" = none) (hs : noStar e = true) (he : PRc X e (tRg X.K C ms)) : PE X (.Call (.Name "tuple" p) [e] [] pos) (tE X.K C (.bi .trange ms)) :=
  pe_mono (pe_tupRgC hc hg hm he (star_cons hs)) fun σ H Q ⟨F, st, od, st', r, e, q⟩ => by
    simp only [evE, Option.bind_eq_some_iff, Option.map_eq_some_iff, biD] at e
    obtain ⟨qa, ea, ds, ed, o, ⟨xs, ex, eo⟩, e⟩ := e
    cases eo; cases e
    refine ⟨F, st, qa.1, qa.2, ds, xs, r, ea, ed, ex, fun F1 H1 i j c n g ok ex => ⟨n, ok, fun p ob ho hp => ?_⟩⟩
    subst ex
    exact q _ _ _ (NewR.res g (New.put g.rel.le hp) (NewR.tup g.rel.le hp ho (dn_rgc i c _)))

/-! ### isinstance -/
def Ty.nm : Ty → String
  | .int => "int"
  | .bool => "bool"
  | .str => "str"
  | .list => "list"
  | .tuple => "tuple"
def kdN : Kd → String
  | .non => "NoneType"
  | .bl => "bool"
  | .int => "int"
  | .str => "str"
  | .lst => "list"
  | .tup => "tuple"
  | .dct => "dict"
abbrev tyN (p : PyData) : String := kdN (kd p)
theorem tyX_of {K : PySem.W.Frag} {F H : Hp} {v : V} {p : PyData} (le : Same F H) (h : RdR K F H v (.py p)) : TyX K H v (.type (tyN p)) := by
  have z := h.dn le
  cases z with
  | non => exact .base .non
  | bl b => exact .base (.bl b)
  | int i => exact .base (.int i)
  | str x => exact .base (.str x)
  | lst h1 _ => exact .base (.lst h1)
  | tup h1 _ =>
    rcases h1 with ⟨ob, _, h2⟩ | ⟨o, vs, n, h2, h3, _⟩
    · exact .fTuple h2
    · exact .kTuple h2 h3
theorem kit_kd (k : Kd) (t : Ty) (h : k ≠ .dct) : kitB (kdN k) t.nm = some (kdTy k t) := by
  cases k <;> first | exact absurd rfl h | (cases t <;> decide +kernel)
theorem kit_py {K : PySem.W.Frag} (p : PyData) (hp : p.plain = true) (t : Ty) : PySem.W.kitOne K (.type (tyN p)) (.type t.nm) = some (isTy p t) :=
  kit_kd (kd p) t (by
    cases p with
    | dict _ => cases hp
    | _ => (intro h; cases h))
theorem kits_py {K : PySem.W.Frag} (p : PyData) (hp : p.plain = true) : ∀ (ts : List Ty), PySem.W.kitAny K (.type (tyN p)) (ts.map fun t => Value.type t.nm) = some (ts.any (isTy p))
  | [] => rfl
  | t :: ts => by
    rw [List.map_cons, PySem.W.kitAny, kit_py p hp t, List.any_cons]
    cases isTy p t with
    | true => rfl
    | false => exact kits_py p hp ts
def Ty.s : Ty → Str
  | .int => "int"
  | .bool => "bool"
  | .str => "str"
  | .list => "list"
  | .tuple => "tuple"
theorem boot_ty (t : Ty) : bootBuiltins t.s = some (.type t.nm) := by cases t <;> decide +kernel
theorem pe_ty {t : Ty} {p : Pos} (gl : Gl X t.s) (mg : X.mg t.s = none) : PE X (.Name t.s p) (tC (.ty t.nm)) :=
  pe_bltn gl mg (boot_ty t) rfl (by cases t <;> decide) (by cases t <;> decide)
theorem boot_isi : bootBuiltins "isinstance" = some (.builtin "isinstance") := by decide +kernel
theorem me_isa {t : Ty} {p p2 : Pos} (hs : noStar a = true) (gi : Gl X "isinstance") (mi : X.mg "isinstance" = none) (gl : Gl X t.s) (mg : X.mg t.s = none) (ha : PE X a (tE X.K C ma)) :
    PE X (.Call (.Name "isinstance" p) [a, .Name t.s p2] [] pos) (tE X.K C (.isa ma [t])) :=
  pe_mono (pe_callB call_isi gi mi boot_isi (pa_cons ha (pa_cons (pe_ty gl mg) pa_nil) (star_cons hs)) (by decide) (by decide) (star_cons hs)) fun σ H Q ⟨F, st, od, st', r, e, q⟩ => by
    simp only [evE, Option.bind_eq_some_iff, Option.map_eq_some_iff] at e
    obtain ⟨qa, ea, d, ed, p, ep, e⟩ := e
    cases e
    cases d <;> cases ep
    refine ⟨F, st, qa.1, qa.2, r, ea, fun v F1 H1 ra => ?_⟩
    have z := ra.rel.rd ra.go.rel ed
    refine ⟨v, .ty t.nm, _, _, isTy p t, rfl, .ty _, tyX_of ra.go.rel.le z, kit_py p z.plain t, ?_⟩
    have e1 : ([t].any (isTy p)) = isTy p t := by simp
    rw [← e1]
    exact q _ _ _ (Res.den ra.go (Dn.bl _))
theorem pa_tys : ∀ {ts : List Ty} {es : List Expr}, (∀ t ∈ ts, Gl X t.s ∧ X.mg t.s = none) → Paired (fun (t : Ty) (e : Expr) => ∃ p, e = Expr.Name t.s p) ts es → PA X es (fun σ H Q => Q (ts.map fun t => V.ty t.nm) H)
  | [], _, _, .nil => pa_nil
  | t :: ts, _, h, .cons h1 h2 => by
    obtain ⟨p, rfl⟩ := h1
    obtain ⟨g1, g2⟩ := h t (List.mem_cons_self ..)
    exact pa_mono (pa_cons (pe_ty g1 g2) (pa_tys (fun t ht => h t (List.mem_cons_of_mem _ ht)) h2) (star_cons rfl)) fun σ H Q q => q
theorem pair_cls : ∀ (ts : List Ty), Paired ClsV (ts.map fun t => V.ty t.nm) (ts.map fun t => Value.type t.nm)
  | [] => .nil
  | t :: ts => .cons (.ty _) (pair_cls ts)
theorem noStars_tys : ∀ {ts : List Ty} {es : List Expr}, Paired (fun (t : Ty) (e : Expr) => ∃ p, e = Expr.Name t.s p) ts es → noStars es = true
  | _, _, .nil => rfl
  | _, _, .cons h t => by
    obtain ⟨p, rfl⟩ := h
    simpa [noStars, noStar] using noStars_tys t
theorem me_isaT {ts : List Ty} {p p2 : Pos} {x1 : Nat} (hl : ts.length ≤ 100) (hs : noStar a = true) (gi : Gl X "isinstance") (mi : X.mg "isinstance" = none) (hts : ∀ t ∈ ts, Gl X t.s ∧ X.mg t.s = none)
    (hes : Paired (fun (t : Ty) (e : Expr) => ∃ p, e = Expr.Name t.s p) ts es) (ha : PE X a (tE X.K C ma)) :
    PE X (.Call (.Name "isinstance" p) [a, .Tuple es x1 p2] [] pos) (tE X.K C (.isa ma ts)) :=
  pe_mono (pe_callB call_isiT gi mi boot_isi (pa_cons ha (pa_cons (pe_tup (pa_tys hts hes)) pa_nil (star_cons rfl)) (star_cons hs)) (by decide) (by decide) (star_cons hs) (by rfl)) fun σ H Q ⟨F, st, od, st', r, e, q⟩ => by
    simp only [evE, Option.bind_eq_some_iff, Option.map_eq_some_iff] at e
    obtain ⟨qa, ea, d, ed, p, ep, e⟩ := e
    cases e
    cases d <;> cases ep
    refine ⟨F, st, qa.1, qa.2, r, ea, fun v F1 H1 ra => ⟨by rw [List.length_map, sizeLine_eq]; omega, fun T hT => ?_⟩⟩
    have z := ra.rel.rd ra.go.rel ed
    have nw : New F1 H1 (upd F1 T (.tup (ts.map fun t => V.ty t.nm))) (upd H1 T (.tup (ts.map fun t => V.ty t.nm))) := New.put ra.go.rel.le hT
    have z2 : RdR X.K (upd F1 T (.tup (ts.map fun t => V.ty t.nm))) (upd H1 T (.tup (ts.map fun t => V.ty t.nm))) v (.py p) := by
      rcases z with z | ⟨a, e1, z⟩
      · exact .inl (z.same nw.fr)
      · exact .inr ⟨a, e1, z.same nw.fr fun o q => nw.hp a o q⟩
    refine ⟨v, T, _, _, _, ts.any (isTy p), rfl, upd_same, pair_cls ts, tyX_of nw.le z2, kits_py p z.plain ts, q _ _ _ (Res.den (ra.go.trans (nw.go ra.go.rel)) (Dn.bl _))⟩

/-! ### methods -/
/-- a list or a tuple, without a dict -/
def TyG (K : PySem.W.Frag) (T : String) (x : V) (H : Hp) : Prop := ∃ a, x = .ref a ∧ ((T = "list" ∧ ∃ vs, H a = some (.lst vs)) ∨ (T = "tuple" ∧ ∃ vs, Tp K H a vs))
theorem tyG_is {pins : List (Addr × Obj)} {σ : L2.St} {H : Hp} {s : Shared} {T : String} {x : V} {v : Value} (I : Inv X pins σ H s) (r : RelV x v) (ty : TyG X.K T x H) :
    s.TypeIs v T ∧ ∀ a, v = .ref a → ∃ ob, s.heap.get? a = some ob ∧ ob.dict = none := by
  obtain ⟨p, rfl, ty⟩ := ty
  cases r
  rcases ty with ⟨rfl, vs, hq⟩ | ⟨rfl, vs, hq⟩
  · exact tyV_is (x := V.ref p) I rfl (Or.inl ⟨rfl, vs, .inl (.inl hq)⟩)
  · rcases hq with ⟨ob, h1, h2⟩ | ⟨o, us, n, h1, h2, h3, _⟩
    · obtain ⟨g1, _, its, _, o, g2, g3, _⟩ := I.hok p _ h2
      rw [g1] at g2
      cases g2
      exact ⟨⟨ob, g1, g3⟩, fun a e => by cases e; exact ⟨ob, g1, h1⟩⟩
    · exact ⟨⟨o, I.kIn p o h1, h2⟩, fun a e => by cases e; exact ⟨o, I.kIn _ o h1, h3⟩⟩
theorem few_ok {es : List Expr} {env : Env} {pos : Pos} (h : noStars es = true) (hl : es.length < 29) : ((backTo pos (starEach es env)).all (fun x => !x.1) && (backToKw pos (keywordEach [] env)).all (fun x => x.1.isSome)
      && decide (es.length + ([] : List Keyword).length + (if ([] : List Keyword).isEmpty then 0 else 1) < 30)) = true := by
  have z : (backTo pos (starEach es env)).all (fun x => !x.1) = true := by
    have := stars_any (env := env) (pos := pos) h
    rw [List.all_eq_not_any_not]
    simp only [Bool.not_not]
    rw [this] <;> rfl
  rw [z]
  show (true && true && decide (es.length + 0 + 0 < 30)) = true
  simp
  omega
theorem pe_bmG {o : Expr} {T id : String} {name : Str} {apos cpos : Pos} {r : V → List V → Hp → VK → Prop} {to : TE} (pa : PlainAttrs T) (slot : Slot T name id) (hty : typeOf (.builtin id) = pure (.type "method_descriptor")) (hm : MtR X id r) (ho : PE X o to) (ha : PA X (e :: es) t)
    (hbase : attributeBase o name X.env (eval o X.env) = eval o X.env) (hs : noStars (e :: es) = true) (hl : (e :: es).length < 29) (hline : (apos.endLine == cpos.line) = true) :
    PE X (.Call (.Attribute o name apos) (e :: es) [] cpos) (fun σ H Q => to σ H fun x H1 => TyG X.K T x H1 ∧ t σ H1 fun xs H2 => r x xs H2 Q) := by
  have h' : noStar e = true ∧ noStars es = true := by simpa [noStars] using hs
  refine ⟨fun pins s σ H Q I h => wpAny_Call_method_late hbase (few_ok hs hl) hline rfl (thn (ho.run pins s σ H _ I h) fun v s1 ⟨x, H1, I1, r1, ty, q1⟩ => ?_)⟩
  obtain ⟨h1, h2⟩ := tyG_is I1 r1 ty
  refine ⟨T, id, pa, slot, hty, h1, h2, ?_⟩
  have hA := ha.run cpos pins s1 σ H1 _ I1 q1
  rw [star_cons h'.1] at hA ⊢
  refine Calls.callWith_builtin (by show (false || (backTo cpos (starEach es X.env)).any (·.1)) = false; rw [stars_any h'.2] <;> rfl) (Calls.evalArgs_plain ?_)
  exact thn hA fun us s2 ⟨vs, H2, I2, r2, q2⟩ => hm pins s2 σ H2 x vs v us Q I2 r1 r2 q2
/-- the receiver is a name -/
theorem base_name {x name : Str} {p : Pos} : attributeBase (.Name x p) name X.env (eval (.Name x p) X.env) = eval (.Name x p) X.env := rfl
def Me.nm : Me → Str
  | .count => "count"
  | .index => "index"
  | .get => "get"
theorem meD_py {m : Me} {x : D} {ds : List D} {od : Od} (h : meD m x ds = some od) : (∃ ps, x = .py (.tuple ps)) ∨ ∃ ps, x = .py (.list ps) := by
  unfold meD at h
  split at h
  · exact .inl ⟨_, rfl⟩
  · exact .inr ⟨_, rfl⟩
  · exact .inl ⟨_, rfl⟩
  · exact .inr ⟨_, rfl⟩
  · cases h
theorem tupD_ok {x : D} (h : x.tupD = true) : ∃ ps, x = .py (.tuple ps) := by
  unfold D.tupD at h
  split at h
  · exact ⟨_, rfl⟩
  · cases h
theorem lstD_ok {x : D} (h : x.lstD = true) : ∃ ps, x = .py (.list ps) := by
  unfold D.lstD at h
  split at h
  · exact ⟨_, rfl⟩
  · cases h
theorem me_me {o : Expr} {m : Me} {apos cpos : Pos} (hr : Room k X.A) (hm : m ≠ .get) (ho : PE X o (tE X.K C ma)) (hbase : attributeBase o m.nm X.env (eval o X.env) = eval o X.env) (ha : PA X (e :: es) (tA X.K C ms)) (hs : noStars (e :: es) = true) (hl : (e :: es).length < 29)
    (hline : (apos.endLine == cpos.line) = true) : PE X (.Call (.Attribute o m.nm apos) (e :: es) [] cpos) (tE X.K C (.me m ma ms)) := by
  refine ⟨fun pins s σ H Q I ⟨F, st, od, st', r, e0, q⟩ => ?_⟩
  simp only [evE, Option.bind_eq_some_iff] at e0
  obtain ⟨qa, ea, x0, ex0, qs, es', x, ex, e1⟩ := e0
  split at e1
  · rename_i hk
    simp only [Option.bind_eq_some_iff, Option.map_eq_some_iff] at e1
    obtain ⟨ds, ed, od', eo, e2⟩ := e1
    cases e2
    rw [Bool.and_eq_true, beq_iff_eq, beq_iff_eq] at hk
    have run : ∀ (T : String) (Tp : PyData → Bool) (p : PyData), x = .py p → Tp p = true →
        PE X (.Call (.Attribute o m.nm apos) (e :: es) [] cpos) (fun σ H Q => tE X.K C ma σ H fun x H1 => TyG X.K T x H1 ∧ tA X.K C ms σ H1 fun xs H2 => rMe X.K m Tp x xs H2 Q) →
        (∀ v F1 H1, Rel X.K F1 qa.2 σ H1 → ORel X.K F1 H1 qa.2 σ v qa.1 → TyG X.K T v H1) → wpAny (model X.prog X.w) X.A (eval (.Call (.Attribute o m.nm apos) (e :: es) [] cpos) X.env) (EP X pins σ Q) X.xe s :=
      fun T Tp p ep hT hp ht => hp.run pins s σ H Q I ⟨F, st, qa.1, qa.2, r, ea, fun v F1 H1 ra => ⟨ht v F1 H1 ra.go.rel ra.rel, F1, qa.2, qs.1, qs.2, ra.go.rel, es', fun vs F2 H2 g rr =>
        ⟨F2, p, ds, _, hT, g.rel.le, by rw [← ep]; exact (ra.rel.step g).rd g.rel ex, rr.rds g.rel ed, by rw [← ep]; exact eo, fun w F3 H3 n nr => q _ _ _ (nr.res (ra.go.trans g) n)⟩⟩⟩
    rcases meD_py eo with ⟨ps, ep⟩ | ⟨ps, ep⟩
    · subst ep
      obtain ⟨ps0, e3⟩ := tupD_ok (show x0.tupD = true from hk.1)
      subst e3
      have ty : ∀ v F1 H1, Rel X.K F1 qa.2 σ H1 → ORel X.K F1 H1 qa.2 σ v qa.1 → TyG X.K "tuple" v H1 := fun v F1 H1 r1 ho => by
        obtain ⟨a, vs, e4, h1, _⟩ := (ho.rd r1 ex0).tup r1.le
        exact ⟨a, e4, .inr ⟨rfl, vs, h1⟩⟩
      cases m with
      | count => exact run "tuple" isTup _ rfl rfl (pe_bmG PySem.F.plainAttrs_tuple PySem.F.slot_tuple_count PySem.F.type_tuple_count (mt_tup_count hr) ho ha hbase hs hl hline) ty
      | index => exact run "tuple" isTup _ rfl rfl (pe_bmG PySem.F.plainAttrs_tuple PySem.F.slot_tuple_index PySem.F.type_tuple_index (mt_tup_ix hr) ho ha hbase hs hl hline) ty
      | get => exact absurd rfl hm
    · subst ep
      obtain ⟨ps0, e3⟩ := lstD_ok (show x0.lstD = true from hk.2)
      subst e3
      have ty : ∀ v F1 H1, Rel X.K F1 qa.2 σ H1 → ORel X.K F1 H1 qa.2 σ v qa.1 → TyG X.K "list" v H1 := fun v F1 H1 r1 ho => by
        obtain ⟨a, vs, e4, h1, _⟩ := (ho.rd r1 ex0).list r1.le
        exact ⟨a, e4, .inl ⟨rfl, vs, h1⟩⟩
      cases m with
      | count => exact run "list" isLst _ rfl rfl (pe_bmG PySem.F.plainAttrs_list PySem.F.slot_list_count PySem.F.type_list_count (mt_lst_count hr) ho ha hbase hs hl hline) ty
      | index => exact run "list" isLst _ rfl rfl (pe_bmG PySem.F.plainAttrs_list PySem.F.slot_list_index PySem.F.type_list_index (mt_lst_ix hr) ho ha hbase hs hl hline) ty
      | get => exact absurd rfl hm
  · cases e1
end
end Mi
end
section
/-! Mi10: how arguments bind; calls of the text's defs. -/
namespace Mi
open PySem PySem.Spec
open PyProof.Rows hiding St Fr
open L2

/-! ### binding -/
def simpleArgs (as : List Arg) : Arguments := { posonlyargs := [], args := as, vararg := none, kwonlyargs := [], kw_defaults := [], kwarg := none, defaults := [] }
theorem kw_loop {ps : List Str} (f : Str × Value → List (Str × Value) × List (Str × Value) → Sem (ForInStep (List (Str × Value) × List (Str × Value))))
    (hf : ∀ x s, ps.contains x.1 = true → (List.lookup x.1 s.1).isSome = false → f x s = pure (.yield (s.1 ++ [(x.1, x.2)], s.2))) :
    ∀ (kw slots : List (Str × Value)), (∀ x ∈ kw, x.1 ∈ ps) → (slots.map (·.1) ++ kw.map (·.1)).Nodup → forIn kw (slots, []) f = pure (slots ++ kw, [])
  | [], slots, _, _ => by rw [List.forIn_nil, List.append_nil]
  | x :: kw, slots, h1, h2 => by
    have nl : (List.lookup x.1 slots).isSome = false := by
      cases e : List.lookup x.1 slots with
      | none => rfl
      | some v =>
        have m := PySem.mem_of_lookup e
        rw [List.nodup_append] at h2
        exact absurd rfl (h2.2.2 x.1 (List.mem_map.mpr ⟨_, m, rfl⟩) x.1 (by simp))
    rw [List.forIn_cons, hf x (slots, []) (by simpa using h1 x (List.mem_cons_self ..)) nl]
    have ih := kw_loop f hf kw (slots ++ [(x.1, x.2)]) (fun y hy => h1 y (List.mem_cons_of_mem _ hy)) (by simpa using h2)
    rw [List.append_assoc] at ih
    exact ih
theorem lookup_zip_idx {names : List Str} {vals : List Value} : ∀ {p : Str}, names.length = vals.length → p ∈ names → (names.zip vals).lookup p = vals[names.idxOf p]? := by
  induction names generalizing vals with
  | nil => intro p _ h; cases h
  | cons n ns ih =>
    intro p hl hp
    cases vals with
    | nil => cases hl
    | cons v vs =>
      rw [List.zip_cons_cons, List.lookup_cons, List.idxOf_cons]
      by_cases e : p = n
      · subst e; simp
      · have e1 : (p == n) = false := by simpa using e
        have e2 : (n == p) = false := by simpa using fun h => e h.symm
        rw [e1, e2]
        simp only [cond_false, List.getElem?_cons_succ]
        exact ih (by simpa using hl) ((List.mem_cons.mp hp).resolve_left e)
theorem filterMap_some {α β : Type} {f : α → Option β} {g : α → β} : ∀ {l : List α}, (∀ x ∈ l, f x = some (g x)) → l.filterMap f = l.map g
  | [], _ => rfl
  | x :: l, h => by rw [List.filterMap_cons, h x (List.mem_cons_self ..), List.map_cons, filterMap_some fun y hy => h y (List.mem_cons_of_mem _ hy)]
theorem map_pair {α β : Type} (g : α → β) : ∀ l : List α, (l.map fun p => (p, g p)) = l.zip (l.map g)
  | [] => rfl
  | x :: l => by rw [List.map_cons, List.map_cons, List.zip_cons_cons, map_pair g l]
/-- which of the values each parameter takes: the names of the values are the first parameters, then the keywords -/
def permOf (ps : List Str) (n : Nat) (ks : List Str) : List Nat := ps.map fun p => (ps.take n ++ ks).idxOf p
theorem bind_ok {x qual : Str} {as : List Arg} {body : List Stmt} {scope : Scope} {kV doc pm : Value} {an : Option Addr} {cdv ct : Value} {us ws : List Value} {ks : List Str} (hn : (as.map (·.arg)).Nodup)
    (hks : ks.Nodup) (hd : ∀ k ∈ ks, k ∈ (as.map (·.arg)).drop us.length) (hl : us.length + ks.length = as.length) (all : ∀ p ∈ as.map (·.arg), p ∈ (as.map (·.arg)).take us.length ++ ks) (hw : ws.length = ks.length) :
    bindArgs (PySem.W.fnOf x qual (simpleArgs as) body scope .none kV doc pm an cdv ct) ⟨us, ks.zip ws⟩ =
      pure ((as.map (·.arg)).zip ((permOf (as.map (·.arg)) us.length ks).map fun j => (us ++ ws).getD j .none)) := by
  generalize hps : as.map (·.arg) = ps at hn hd all
  have hpl : ps.length = as.length := by rw [← hps, List.length_map]
  have z1 : ps.zip us = (ps.take us.length).zip us := by
    rw [List.zip_eq_zip_take_min (l₁ := ps) (l₂ := us)]
    have e : min ps.length us.length = us.length := by omega
    rw [e, List.take_of_length_le (Nat.le_refl us.length)]
  have tl : (ps.take us.length).length = us.length := by rw [List.length_take]; omega
  have m1 : (ps.zip us).map (·.1) = ps.take us.length := by rw [z1, List.map_fst_zip (by omega)]
  have m2 : (ks.zip ws).map (·.1) = ks := by rw [List.map_fst_zip (by omega)]
  have nd : (ps.take us.length ++ ks).Nodup := by
    rw [List.nodup_append]
    refine ⟨hn.sublist (List.take_sublist _ _), hks, fun a ha b hb e => ?_⟩
    subst e
    have := hd a hb
    rw [← List.take_append_drop us.length ps, List.nodup_append] at hn
    exact hn.2.2 a ha a this rfl
  have zz : ps.zip us ++ ks.zip ws = (ps.take us.length ++ ks).zip (us ++ ws) := by rw [z1, List.zip_append tl]
  have lk : ∀ p ∈ ps, (ps.zip us ++ ks.zip ws).lookup p = some ((us ++ ws).getD ((ps.take us.length ++ ks).idxOf p) .none) := fun p hp => by
    rw [zz, lookup_zip_idx (by rw [List.length_append, List.length_append, tl, hw]) (all p hp)]
    have lt : (ps.take us.length ++ ks).idxOf p < (us ++ ws).length := by
      have := List.idxOf_lt_length_iff.mpr (all p hp)
      rw [List.length_append, tl] at this
      rw [List.length_append]; omega
    rw [List.getD_eq_getElem?_getD, List.getElem?_eq_getElem lt] <;> rfl
  unfold bindArgs PySem.W.fnOf simpleArgs
  simp only [List.map_nil, List.nil_append, hps]
  rw [kw_loop (ps := ps) _ ?hf (ks.zip ws) (ps.zip us) ?h1 ?h2]
  case hf =>
    intro y s h1 h2
    simp only [h1, h2, Bool.true_or, if_true, Bool.false_eq_true, if_false]
  case h1 =>
    intro y hy
    have : y.1 ∈ ks := by rw [← m2]; exact List.mem_map_of_mem hy
    exact List.mem_of_mem_drop (hd _ this)
  case h2 => rw [m1, m2]; exact nd
  have e0 : seqItems? Value.none = pure none := rfl
  have e1 : ¬ (us.length > ps.length) := by omega
  have e2 : (ps.filter fun n => (List.lookup n (ps.zip us ++ ks.zip ws)).isNone) = [] := by
    rw [List.filter_eq_nil_iff]
    intro p hp
    rw [lk p hp]
    simp
  have e3 : (ps.filterMap fun n => Option.map (fun x => (n, x)) (List.lookup n (ps.zip us ++ ks.zip ws))) = ps.zip ((permOf ps us.length ks).map fun j => (us ++ ws).getD j .none) := by
    rw [filterMap_some (g := fun p => (p, (us ++ ws).getD ((ps.take us.length ++ ks).idxOf p) .none)) (fun p hp => by rw [lk p hp] <;> rfl)]
    unfold permOf
    rw [List.map_map]
    exact map_pair _ ps
  simp [e0, e1, e2, e3]
end Mi
end
section
/-! Mi11: what a def of the text promises, and its calls. -/
namespace Mi
open PySem PySem.Spec
open PyProof.Rows hiding St Fr
open L2

/-- a def whose frames bear no guard (repr asks that) -/
structure FnG (P : Program) (w : World) (K : PySem.W.Frag) (mg : Str → Option Value) (base : Heap) (k : Nat) (f : Addr) (fd : FuncData) (ps : List Str) (sp : Sp) : Prop where
  len : ∀ vs H Q E, sp vs H Q E → vs.length = ps.length
  run : ∀ (A : Around) (outer : List Env) (s : Shared) (H : Hp) (args : Args) (us : List Value) (vs : List V) (Q : VK), Room k A → A.guards = some [] → Env0 P w K mg base A outer s H → BindsTo s fd args (ps.zip us) → Vals vs us → sp vs H Q E0 →
    codeAny (model P w) A (.call (.ref f) args) (CR CX0 outer P w H s Q E0) s
theorem fnG_of {P : Program} {w : World} {K : PySem.W.Frag} {mg : Str → Option Value} {base : Heap} {x qual : Str} {params : Arguments} {body : List Stmt} {scope : Scope} {dvs : List V} {kws : List (Str × V)} {f : Addr} {fd : FuncData} {N ps : List Str} {k : Nat} {sp : Sp}
    (F : FunD K x qual params body scope dvs kws f fd) (S : FnScope N ps scope) (len : ∀ vs H Q E, sp vs H Q E → vs.length = ps.length)
    (hbody : ∀ (cdv : Value) (A : Around) (outer : List Env) (s : Shared) (H : Hp) (vs : List V) (Q : VK), Room k (A.deeper (envOfC qual scope s.heap.objs.size f cdv)) → A.guards = some [] → sp vs H Q E0 →
      ∃ t, PSs (cxOf CX0 P w K mg base N qual scope f cdv A outer s H E0).nox body t ∧ t { nx := fun _ H' => Q .non H', rt := Q } (start N vs) H) : FnG P w K mg base (k + 1) f fd ps sp := by
  obtain ⟨oc, od, dV, kV, doc, pm, an, cdv, ct, osl, rfl, lk, hcd, _, _⟩ := F.ex
  refine ⟨len, fun A outer s H args us vs Q hr hg e0 hb r hsp => ?_⟩
  have hl := len _ _ _ _ hsp
  have KX : K.In s.heap := e0.mod.kin.keeps fun b o e => (e0.bs b o e).1
  have lim : s.heap.NoLimit := e0.mod.nolimit.keeps fun b o e => (e0.bs b o e).1
  have hkind : ∀ y ∈ ps.zip us, scope.names.lookup y.1 = some .local ∨ (scope.names.lookup y.1 = some .cell ∧ ((cellsFrom (s.heap.objs.size + 1) scope.names []).lookup y.1).isSome = true) := fun ⟨n, v⟩ hy =>
    (S.par n (List.of_mem_zip hy).1).elim .inl fun q => .inr ⟨q, PySem.W.cellsFrom_some _ _ _ (.inl q)⟩
  refine codeAny_call_function hr.depth (KX _ _ lk) rfl S.co S.gen rfl (PySem.W.codeRec_of KX hcd) (hb _ _ _ _ (wpAny_newFunctionEnv_cells S.kind hkind fun env he s1 x => ?_))
  subst he
  obtain ⟨t, ht, hq⟩ := hbody cdv A outer s H vs Q (hr.deeper _) hg hsp
  have I : Inv (cxOf CX0 P w K mg base N qual scope f cdv A outer s H E0) [] (start N vs) H s1 := inv_start S hr.hd e0 hl r x
  refine ⟨lim.keeps x.toInCall.keep, codeAny_func (wpAny_mono (ht.nox.run [] s1 (start N vs) H _ I hq) (fun fl s' hs => ?_) fun e s' hs => hs)⟩
  have fin : ∀ {σ' : L2.St} {H' : Hp} {v : V} {u : Value}, Inv (cxOf CX0 P w K mg base N qual scope f cdv A outer s H E0) [] σ' H' s' → RelV v u → Q v H' → CE outer P w H s Q u s' :=
    fun {σ' H' v u} J rv q => ⟨v, H', J.os, J.bare, J.base, J.hok, rv, q⟩
  cases fl with
  | ret u => obtain ⟨v, σ', H', J, rv, q⟩ := hs; exact fin J rv q
  | next => obtain ⟨σ', H', J, q⟩ := hs; exact fin (v := V.non) (u := Value.none) J rfl q
  | brk => obtain ⟨_, _, _, q⟩ := hs; exact q.elim
  | cont => obtain ⟨_, _, _, q⟩ := hs; exact q.elim

/-! ### keywords by name -/
theorem kw_names {env : Env} {pos : Pos} : ∀ {kws : List Keyword} {ks : List Str}, kws.map (·.arg) = ks.map some →
    (backToKw pos (keywordEach kws env)).all (·.1.isSome) = true ∧ (backToKw pos (keywordEach kws env)).filterMap (·.1) = ks ∧ (backToKw pos (keywordEach kws env)).any (·.1.isNone) = false
  | [], [], _ => ⟨rfl, rfl, rfl⟩
  | [], _ :: _, h => by cases h
  | _ :: _, [], h => by cases h
  | ⟨nm, e, kp⟩ :: kws, k :: ks, h => by
    simp only [List.map_cons, List.cons.injEq] at h
    obtain ⟨rfl, h⟩ := h
    obtain ⟨h1, h2, h3⟩ := kw_names (env := env) (pos := pos) h
    refine ⟨?_, ?_, ?_⟩
    · show (true && (backToKw pos (keywordEach kws env)).all (·.1.isSome)) = true
      rw [h1] <;> rfl
    · show k :: (backToKw pos (keywordEach kws env)).filterMap (·.1) = _
      rw [h2]
    · show (false || (backToKw pos (keywordEach kws env)).any (·.1.isNone)) = false
      rw [h3] <;> rfl
section
variable {X : Cx} {e a b c : Expr} {es : List Expr} {pos : Pos} {C : Ct} {ma mb mc : Ex} {ms ms2 : Exs} {k : Nat} {t tk : TA} {kws : List Keyword} {ks : List Str}
theorem vals_perm {vs : List V} {us : List Value} (r : Vals vs us) : ∀ (perm : List Nat), (∀ j ∈ perm, j < vs.length) → Vals (perm.map fun j => vs.getD j .non) (perm.map fun j => us.getD j .none)
  | [], _ => .nil
  | j :: perm, h => by
    have hj := h j (List.mem_cons_self ..)
    have e : vs[j]? = some vs[j] := List.getElem?_eq_getElem hj
    obtain ⟨u, h1, h2⟩ := r.get e
    refine .cons ?_ (vals_perm r perm fun i hi => h i (List.mem_cons_of_mem _ hi))
    show RelV (vs.getD j .non) (us.getD j .none)
    rw [List.getD_eq_getElem?_getD, List.getD_eq_getElem?_getD, e, h1]
    exact h2
/-- the call of a def, once its arguments stand -/
theorem callG_run {f : Addr} {fd : FuncData} {x qual : Str} {as : List Arg} {body : List Stmt} {scope : Scope} {sp : Sp} {n : Nat} (FD : FunD X.K x qual (simpleArgs as) body scope [] [] f fd)
    (F : FnG X.prog X.w X.K X.mg X.base k f fd (as.map (·.arg)) sp) (hr : Room k X.A) (hg : X.A.guards = some [])
    (hn : (as.map (·.arg)).Nodup) (hks : ks.Nodup) (hd : ∀ k ∈ ks, k ∈ (as.map (·.arg)).drop n) (hl : n + ks.length = as.length) (all : ∀ p ∈ as.map (·.arg), p ∈ (as.map (·.arg)).take n ++ ks)
    {pins : List (Addr × Obj)} {s2 : Shared} {σ : L2.St} {H2 : Hp} {vs zs : List V} {us ws : List Value} {Q : VK} (I : Inv X pins σ H2 s2) (r : Vals vs us) (rz : Vals zs ws) (l1 : vs.length = n) (l2 : zs.length = ks.length)
    (h : sp ((permOf (as.map (·.arg)) n ks).map fun j => (vs ++ zs).getD j .non) H2 Q E0) : wpAny (model X.prog X.w) X.A (call (.ref f) us (ks.zip ws)) (EP X pins σ Q) X.xe s2 := by
  obtain ⟨oc, od, dV, kV, doc, pm, an, cdv, ct, osl, rfl, lk, hcd, hD, _⟩ := FD.ex
  rcases hD with ⟨_, rfl⟩ | ⟨z, _⟩
  · have e1 : us.length = n := r.length.symm.trans l1
    have e2 : ws.length = ks.length := rz.length.symm.trans l2
    subst e1
    have bd := bind_ok (x := x) (qual := qual) (body := body) (scope := scope) (kV := kV) (doc := doc) (pm := pm) (an := an) (cdv := cdv) (ct := ct) (us := us) (ws := ws) hn hks hd hl all e2
    have pm : ∀ j ∈ permOf (as.map (·.arg)) us.length ks, j < (vs ++ zs).length := fun j hj => by
      unfold permOf at hj
      obtain ⟨q, hq, rfl⟩ := List.mem_map.mp hj
      have := List.idxOf_lt_length_iff.mpr (all q hq)
      rw [List.length_append, List.length_take, List.length_map] at this
      rw [List.length_append, l1, l2]
      omega
    refine wpAny_call (codeAny_mono (F.run X.A X.stack s2 H2 ⟨us, ks.zip ws⟩ _ _ Q hr hg I.env0 (.of_eq bd) (vals_perm (r.append rz) _ pm) h) fun r s' hq => ?_)
    cases r with
    | error e => exact hq.elim
    | ok fl =>
      cases fl with
      | ret u => exact I.after hq
      | next => exact hq.elim
      | brk => exact hq.elim
      | cont => exact hq.elim
  · exact absurd rfl z
theorem pe_callG0 {f : Addr} {fd : FuncData} {x qual : Str} {as : List Arg} {body : List Stmt} {scope : Scope} {sp : Sp} {p : Pos} (FD : FunD X.K x qual (simpleArgs as) body scope [] [] f fd)
    (F : FnG X.prog X.w X.K X.mg X.base k f fd (as.map (·.arg)) sp) (hr : Room k X.A) (hg : X.A.guards = some []) (gl : Gl X x) (hm : X.mg x = some (.ref f)) (hdb : (x == ("__debug__" : Str)) = false)
    (hn : (as.map (·.arg)).Nodup) (hks : ks.Nodup) (hd : ∀ k ∈ ks, k ∈ (as.map (·.arg)).drop 0) (hl : 0 + ks.length = as.length) (all : ∀ p ∈ as.map (·.arg), p ∈ (as.map (·.arg)).take 0 ++ ks)
    (hkn : kws.map (·.arg) = ks.map some) (hk : PK X kws tk) :
    PE X (.Call (.Name x p) [] kws pos) (fun σ H Q => tk σ H fun zs H2 => zs.length = ks.length ∧ sp ((permOf (as.map (·.arg)) 0 ks).map fun j => zs.getD j .non) H2 Q E0) := by
  obtain ⟨k1, k2, k3⟩ := kw_names (env := X.env) (pos := pos) hkn
  refine ⟨fun pins s σ H Q I h => wpAny_Call_Name_kw (ld_glob I gl hm ?_ hdb)⟩
  refine PySem.W.callWith_KW0 (h₀ := X.base) I.ok.mod.kin FD.kp k1 ?_ (by rw [k3] <;> rfl)
  refine thn (hk.run pos pins s σ H _ I h) fun ws s2 ⟨zs, H2, I2, rz, l2, q2⟩ => ⟨I2.kIn, ?_⟩
  rw [k2]
  exact callG_run FD F hr hg hn hks hd hl all I2 .nil rz rfl l2 q2
theorem pe_callG {f : Addr} {fd : FuncData} {x qual : Str} {as : List Arg} {body : List Stmt} {scope : Scope} {sp : Sp} {p : Pos} (FD : FunD X.K x qual (simpleArgs as) body scope [] [] f fd)
    (F : FnG X.prog X.w X.K X.mg X.base k f fd (as.map (·.arg)) sp) (hr : Room k X.A) (hg : X.A.guards = some []) (gl : Gl X x) (hm : X.mg x = some (.ref f)) (hdb : (x == ("__debug__" : Str)) = false)
    (hn : (as.map (·.arg)).Nodup) (hks : ks.Nodup) (hd : ∀ k ∈ ks, k ∈ (as.map (·.arg)).drop (es.length + 1)) (hl : (es.length + 1) + ks.length = as.length) (all : ∀ p ∈ as.map (·.arg), p ∈ (as.map (·.arg)).take (es.length + 1) ++ ks)
    (hs : noStars (e :: es) = true) (hkn : kws.map (·.arg) = ks.map some) (ha : PA X (e :: es) t) (hk : PK X kws tk) :
    PE X (.Call (.Name x p) (e :: es) kws pos) (fun σ H Q => t σ H fun vs H1 => tk σ H1 fun zs H2 => vs.length = es.length + 1 ∧ zs.length = ks.length ∧ sp ((permOf (as.map (·.arg)) (es.length + 1) ks).map fun j => (vs ++ zs).getD j .non) H2 Q E0) := by
  obtain ⟨k1, k2, k3⟩ := kw_names (env := X.env) (pos := pos) hkn
  have st := stars_any (env := X.env) (pos := pos) hs
  have h' : noStar e = true ∧ noStars es = true := by simpa [noStars] using hs
  have hplain : ((backTo pos (starEach (e :: es) X.env)).any (·.1) || (backToKw pos (keywordEach kws X.env)).any (·.1.isNone)) = false := by rw [st, k3] <;> rfl
  refine ⟨fun pins s σ H Q I h => wpAny_Call_Name_kw (ld_glob I gl hm ?_ hdb)⟩
  refine PySem.W.callWith_KW (h₀ := X.base) I.ok.mod.kin FD.kp k1 (thn (ha.run pos pins s σ H _ I h) fun us s1 ⟨vs, H1, I1, r1, q1⟩ => ?_) hplain (star_cons h'.1)
  refine thn (hk.run pos pins s1 σ H1 _ I1 q1) fun ws s2 ⟨zs, H2, I2, rz, l1, l2, q2⟩ => ⟨I2.kIn, ?_⟩
  rw [k2]
  exact callG_run FD F hr hg hn hks hd hl all I2 r1 rz l1 l2 q2
end
end Mi
end
section
/-! Mi12: calls of the text's defs. -/
namespace Mi
open PySem PySem.Spec
open PyProof.Rows hiding St Fr
open L2

/-- the arguments that a def is handed -/
def ArgR (K : PySem.W.Frag) (F H : Hp) : Bool → List V → List D → Prop
  | true, v :: vr, d :: dr => (∃ a, v = .ref a ∧ F a = none ∧ OwnAt K F H a d) ∧ Dens K F vr dr
  | true, _, _ => False
  | false, vs, ds => Dens K F vs ds
def LentAt (io : Bool) (vs : List V) (a : Addr) : Prop := io = true ∧ vs.head? = some (.ref a)
/-- what a def's call leaves -/
structure RetR (K : PySem.W.Frag) (F H : Hp) (io : Bool) (vs : List V) (d : D) (b : Bool) (fin : D) (v : V) (F' H' : Hp) : Prop where
  stp : Stp (LentAt io vs) F H F' H' (LentAt io vs)
  le : Same F' H'
  lent : ∀ a, LentAt io vs a → F' a = none ∧ OwnAt K F' H' a fin
  va : b = false → Den K F' v d
  fe : b = true → ∃ a, v = .ref a ∧ H a = none ∧ F' a = none ∧ OwnAt K F' H' a d
/-- what a def promises: it answers as the evaluator says -/
def spC (K : PySem.W.Frag) (call : List D → Option (D × Bool × D)) (io : Bool) (n : Nat) : Sp := fun vs H Q _ => vs.length = n ∧ ∃ F ds d b fin, Same F H ∧ call ds = some (d, b, fin) ∧ ArgR K F H io vs ds ∧ ∀ v F' H', RetR K F H io vs d b fin v F' H' → Q v H'
section
variable {K : PySem.W.Frag} {F H F0 H0 F1 H1 F2 H2 F' H' : Hp} {st st0 st1 st2 : En} {σ : L2.St} {v : V} {od : Od} {d d' fin : D} {a : Addr} {i : Nat} {vs : List V} {os : List Od} {ds : List D} {b : Bool} {O : Addr → Prop}
/-- a call that may change what was just made, and nothing of this frame -/
theorem goFree (g : Go K st0 σ F0 H0 st σ F1 H1) (s : Stp O F1 H1 F' H' O) (le : Same F' H') (hO : ∀ b, O b → ¬ Owns st σ b ∧ (Owns st0 σ b ∨ H0 b = none)) : Go K st0 σ F0 H0 st σ F' H' := by
  have nf : ∀ b, Owns st σ b → F' b = none := fun b hb => by
    cases e : F' b with
    | none => rfl
    | some o =>
      rcases s.frz b (by rw [e]; simp) with z | z | z
      · exact absurd (g.rel.owns hb).1 z
      · exact absurd hb (hO b z).1
      · exact absurd z (g.rel.owns hb).2
  have kp : ∀ b, Owns st σ b → ∀ o, H1 b = some o → H' b = some o := fun b hb o q => s.keep b o q fun z => (hO b z).1 hb
  refine ⟨⟨g.stp.fr.trans s.fr, fun b o h n => ?_, fun b h => s.live b (g.stp.live b h), g.stp.own, fun b h => ?_⟩, ⟨le, g.rel.len, fun i u h => ?_, g.rel.inj⟩, g.bos⟩
  · refine s.keep b o (g.stp.keep b o h n) fun z => ?_
    rcases (hO b z).2 with z | z
    · exact n z
    · rw [h] at z; cases z
  · rcases s.frz b h with z | z | z
    · exact g.stp.frz b z
    · rcases (hO b z).2 with z | z
      · exact .inr (.inl z)
      · exact .inr (.inr z)
    · refine .inr (.inr ?_)
      cases e : H0 b with
      | none => rfl
      | some o => exact absurd z (g.stp.live b (by rw [e]; simp))
  · have z := g.rel.sl i u h
    cases u with
    | no => trivial
    | fr d => obtain ⟨w, g1, g2⟩ := z; exact ⟨w, g1, g2.same s.fr⟩
    | ow d => obtain ⟨c, g1, g2, g3⟩ := z; have ow : Owns st σ c := ⟨i, _, h, rfl, g1⟩; exact ⟨c, g1, nf c ow, g3.same s.fr (kp c ow)⟩
    | bo d => obtain ⟨c, g1, g2, g3⟩ := z; have ow : Owns st σ c := ⟨i, _, h, rfl, g1⟩; exact ⟨c, g1, nf c ow, g3.same s.fr (kp c ow)⟩
/-- a call that is lent a list of this frame -/
theorem goLent {s t : Sl} (r : Rel K F st σ H) (hi : st[i]? = some s) (ho : s.owned = true) (ht : (t = .ow fin ∧ ∃ d, s = .ow d) ∨ (t = .bo fin ∧ ∃ d, s = .bo d)) (ha : σ[i]? = some (some (V.ref a))) (le : Same F' H')
    (s1 : Stp (· = a) F H F' H' (· = a)) (hf : F' a = none) (hw : OwnAt K F' H' a fin) : Go K st σ F H (st.set i t) σ F' H' := by
  have to : t.owned = true := by rcases ht with ⟨rfl, _⟩ | ⟨rfl, _⟩ <;> rfl
  have own : Owns st σ a := ⟨i, s, hi, ho, ha⟩
  have back : ∀ b, Owns (st.set i t) σ b → Owns st σ b := fun b ⟨j, u, h1, h2, h3⟩ => by
    rcases get_set h1 with ⟨e, e2, _⟩ | ⟨_, h1⟩
    · subst e; exact ⟨j, s, hi, ho, h3⟩
    · exact ⟨j, u, h1, h2, h3⟩
  have nf : ∀ b, Owns st σ b → b ≠ a → F' b = none := fun b hb ne => by
    cases e : F' b with
    | none => rfl
    | some o =>
      rcases s1.frz b (by rw [e]; simp) with z | z | z
      · exact absurd (r.owns hb).1 z
      · exact absurd z ne
      · exact absurd z (r.owns hb).2
  refine ⟨⟨s1.fr, fun b o h n => s1.keep b o h fun e => n (e ▸ own), s1.live, fun b h => .inl (back b h), fun b h => (s1.frz b h).elim .inl fun z => z.elim (fun e => .inr (.inl (e ▸ own))) fun z => .inr (.inr z)⟩, ⟨le, by rw [List.length_set]; exact r.len, fun j u h => ?_, fun j j' u u' b h1 h2 h3 h4 h5 h6 => ?_⟩, fun j d h => ⟨rfl, ?_⟩⟩
  · rcases get_set h with ⟨e, e2, _⟩ | ⟨e, h⟩
    · subst e e2
      rcases ht with ⟨rfl, _⟩ | ⟨rfl, _⟩
      · exact ⟨a, ha, hf, hw⟩
      · exact ⟨a, ha, hf, hw⟩
    · have z := r.sl j u h
      have ne : ∀ b, σ[j]? = some (some (V.ref b)) → u.owned = true → b ≠ a := fun b hb hu e2 => e (r.inj j i u s b h hi hu ho hb (by rw [e2]; exact ha))
      cases u with
      | no => trivial
      | fr d => obtain ⟨w, g1, g2⟩ := z; exact ⟨w, g1, g2.same s1.fr⟩
      | ow d => obtain ⟨c, g1, g2, g3⟩ := z; exact ⟨c, g1, nf c ⟨j, _, h, rfl, g1⟩ (ne c g1 rfl), g3.same s1.fr fun o q => s1.keep c o q (ne c g1 rfl)⟩
      | bo d => obtain ⟨c, g1, g2, g3⟩ := z; exact ⟨c, g1, nf c ⟨j, _, h, rfl, g1⟩ (ne c g1 rfl), g3.same s1.fr fun o q => s1.keep c o q (ne c g1 rfl)⟩
  · have e1 : ∃ w : Sl, st[j]? = some w ∧ w.owned = true := by
      rcases get_set h1 with ⟨e, e2, _⟩ | ⟨_, h1⟩
      · subst e; exact ⟨s, hi, ho⟩
      · exact ⟨u, h1, h3⟩
    have e2 : ∃ w : Sl, st[j']? = some w ∧ w.owned = true := by
      rcases get_set h2 with ⟨e, e2, _⟩ | ⟨_, h2⟩
      · subst e; exact ⟨s, hi, ho⟩
      · exact ⟨u', h2, h4⟩
    obtain ⟨w, q1, q2⟩ := e1
    obtain ⟨w', q3, q4⟩ := e2
    exact r.inj j j' w w' b q1 q3 q2 q4 h5 h6
  · rcases get_set h with ⟨e, e2, _⟩ | ⟨e, h⟩
    · subst e
      rcases ht with ⟨rfl, _⟩ | ⟨rfl, d1, rfl⟩
      · cases e2
      · exact ⟨d1, hi⟩
    · exact ⟨d, h⟩
/-! ### argument lists behind one another, in another order -/
theorem evs_app {C : Ct} {b : Exs} : ∀ (a : Exs) (st : En), evs C (a.app b) st = (evs C a st).bind fun q => (evs C b q.2).map fun r => (q.1 ++ r.1, r.2)
  | .nil, st => by
    show evs C b st = (some ([], st)).bind fun q => (evs C b q.2).map fun r => (q.1 ++ r.1, r.2)
    rw [Option.bind_some]
    cases evs C b st <;> rfl
  | .cons e es, st => by
    show ((evE C e st).bind fun q => (evs C (es.app b) q.2).map fun r => (q.1 :: r.1, r.2)) = ((evE C e st).bind fun q => (evs C es q.2).map fun r => (q.1 :: r.1, r.2)).bind fun q => (evs C b q.2).map fun r => (q.1 ++ r.1, r.2)
    cases h : evE C e st with
    | none => rfl
    | some q =>
      simp only [Option.bind_some]
      rw [evs_app es q.2]
      cases h2 : evs C es q.2 with
      | none => rfl
      | some q2 =>
        simp only [Option.bind_some, Option.map_some]
        cases h3 : evs C b q2.2 <;> rfl
theorem ORs.len : ∀ {vs : List V} {os : List Od}, ORs K st0 H0 F H st σ vs os → vs.length = os.length
  | _, _, .nil => rfl
  | _, _, .cons _ _ t => congrArg Nat.succ t.len
theorem ORs.app {ws : List V} {os2 : List Od} (s : ORs K st0 H0 F H st σ ws os2) : ∀ {vs : List V} {os : List Od}, ORs K st0 H0 F H st σ vs os → ORs K st0 H0 F H st σ (vs ++ ws) (os ++ os2)
  | _, _, .nil => s
  | _, _, .cons h f t => .cons h f (s.app t)
theorem ORs.at (dv : V) (dod : Od) : ∀ {vs : List V} {os : List Od} {j : Nat}, ORs K st0 H0 F H st σ vs os → j < vs.length → ORel K F H st σ (vs.getD j dv) (os.getD j dod) ∧ Fro st0 σ H0 (vs.getD j dv) (os.getD j dod)
  | _, _, _, .nil, h => by cases h
  | _, _, 0, .cons h f t, _ => ⟨h, f⟩
  | _, _, j + 1, .cons h f t, l => ORs.at dv dod (j := j) t (Nat.lt_of_succ_lt_succ l)
theorem ORs.perm (r : ORs K st0 H0 F H st σ vs os) : ∀ (perm : List Nat), (∀ j ∈ perm, j < vs.length) → ORs K st0 H0 F H st σ (perm.map fun j => vs.getD j .non) (perm.map fun j => os.getD j (.pk 0))
  | [], _ => .nil
  | j :: perm, h => .cons (r.at _ _ (h j (List.mem_cons_self ..))).1 (r.at _ _ (h j (List.mem_cons_self ..))).2 (r.perm perm fun i hi => h i (List.mem_cons_of_mem _ hi))
theorem vas_dens : ∀ {vs : List V} {os : List Od} {ds : List D}, ORs K st0 H0 F H st σ vs os → vas os = some ds → Dens K F vs ds
  | _, _, _, .nil, e => by cases e; exact .nil
  | _, _, _, .cons (o := o) h f t, e => by
    cases o with
    | va d =>
      simp only [vas, Option.map_eq_some_iff] at e
      obtain ⟨ds', e2, rfl⟩ := e
      exact .cons h (vas_dens t e2)
    | fe d => cases e
    | pk i => cases e
/-- the call's answer as an operand -/
theorem retRes {g : Go K st0 σ F0 H0 st1 σ F' H'} {io : Bool} (hr : RetR K F1 H1 io vs d b fin v F' H') (fr : ∀ a, H1 a = none → H0 a = none) (nw : ∀ a, Owns st1 σ a → H1 a ≠ none) : Res K st0 σ F0 H0 st1 F' H' v (if b then .fe d else .va d) := by
  cases b with
  | false => exact ⟨g, hr.va rfl, trivial⟩
  | true =>
    obtain ⟨a, e, h1, h2, h3⟩ := hr.fe rfl
    exact ⟨g, ⟨a, e, h2, h3, fun z => nw a z h1⟩, ⟨a, e, .inr (fr a h1)⟩⟩
theorem call_ok {C : Ct} {f : Str} {perm : List Nat} {st' : En} {od : Od} {Q : VK} {n : Nat} (g : Go K st0 σ F0 H0 st σ F1 H1) (rr : ORs K st0 H0 F1 H1 st σ vs os) (hp : ∀ j ∈ perm, j < vs.length) (e : callE C f perm os st = some (od, st'))
    (hn : perm.length = n) (q : ∀ v F' H', Res K st0 σ F0 H0 st' F' H' v od → Q v H') : spC K (C.call f) (C.io f) n (perm.map fun j => vs.getD j .non) H1 Q E0 := by
  have rp := rr.perm perm hp
  have ln : (perm.map fun j => vs.getD j .non).length = n := by rw [List.length_map]; exact hn
  have fr1 : ∀ {F2 : Hp}, Go K st0 σ F0 H0 st σ F2 H1 → ∀ a, H1 a = none → H0 a = none := fun g2 a h => by
    cases z : H0 a with
    | none => rfl
    | some o => exact absurd h (g2.stp.live a (by rw [z]; simp))
  refine ⟨ln, ?_⟩
  clear hn rr hp
  revert e rp ln
  unfold callE
  generalize (perm.map fun j => os.getD j (.pk 0)) = os'
  generalize (perm.map fun j => vs.getD j .non) = vs'
  intro e rp ln
  dsimp only at e
  split at e
  · rename_i hio
    rw [hio]
    split at e
    · rename_i i r
      cases rp with
      | @cons v vr _ _ h1 h2 h3 =>
        have hv : σ[i]? = some (some v) := h1
        have lent : ∀ (s : Sl) (d0 : D) (mk : D → Sl), st[i]? = some s → s.owned = true → s.con = some d0 → (∀ fin, (mk fin = .ow fin ∧ ∃ d, s = .ow d) ∨ (mk fin = .bo fin ∧ ∃ d, s = .bo d)) →
            ((vals r).bind fun ds => (C.call f (d0 :: ds)).map fun q => (if q.2.1 then Od.fe q.1 else Od.va q.1, st.set i (mk q.2.2))) = some (od, st') →
            ∃ F ds d b fin, Same F H1 ∧ C.call f ds = some (d, b, fin) ∧ ArgR K F H1 true (v :: vr) ds ∧ ∀ v' F' H', RetR K F H1 true (v :: vr) d b fin v' F' H' → Q v' H' := by
          intro s d0 mk hs ho hc hmk e
          simp only [Option.bind_eq_some_iff, Option.map_eq_some_iff] at e
          obtain ⟨ds, ed, ⟨d, b, fin⟩, ec, e⟩ := e
          cases e
          obtain ⟨F2, s1, g2, hd⟩ := keep_all (fun {_ _ _} => trivial) h3 ed (Same.refl _) g
          obtain ⟨a, d1, q1, q2, q3, q4⟩ := g2.rel.ownsAt hs ho
          rw [hv] at q1; cases q1
          rw [hc] at q4; cases q4
          refine ⟨F2, d0 :: ds, d, b, fin, g2.rel.le, ec, ⟨⟨a, rfl, q2, q3⟩, hd⟩, fun v' F' H' hr => ?_⟩
          have isA : ∀ b, LentAt true (V.ref a :: vr) b ↔ b = a := fun b => ⟨fun z => by have := z.2; simp at this; exact this.symm, fun z => ⟨rfl, by rw [z]; rfl⟩⟩
          have sA : Stp (· = a) F2 H1 F' H' (· = a) := ⟨hr.stp.fr, fun b o h n => hr.stp.keep b o h fun z => n ((isA b).mp z), hr.stp.live, fun b h => .inl h, fun b h => (hr.stp.frz b h).elim .inl fun z => z.elim (fun z => .inr (.inl ((isA b).mp z))) fun z => .inr (.inr z)⟩
          have l := hr.lent a ⟨rfl, rfl⟩
          have g3 := goLent g2.rel hs ho (hmk fin) hv hr.le sA l.1 l.2
          refine q _ _ _ (retRes (g := g2.trans g3) hr (fr1 g2) fun b hb => ?_)
          obtain ⟨j, u, k1, k2, k3⟩ := hb
          refine (g2.rel.owns (a := b) ?_).2
          rcases get_set k1 with ⟨e, e2, _⟩ | ⟨_, k1⟩
          · subst e; exact ⟨j, s, hs, ho, k3⟩
          · exact ⟨j, u, k1, k2, k3⟩
        split at e
        · rename_i d0 hs
          exact lent _ d0 .ow hs rfl rfl (fun fin => .inl ⟨rfl, d0, rfl⟩) e
        · rename_i d0 hs
          exact lent _ d0 .bo hs rfl rfl (fun fin => .inr ⟨rfl, d0, rfl⟩) e
        · cases e
    · rename_i d0 r
      cases rp with
      | @cons v vr _ _ h1 h2 h3 =>
        simp only [Option.bind_eq_some_iff, Option.map_eq_some_iff] at e
        obtain ⟨ds, ed, ⟨d, b, fin⟩, ec, e⟩ := e
        cases e
        obtain ⟨a, rfl, n1, n2, n3⟩ := h1
        obtain ⟨a', e1, fro⟩ := h2
        cases e1
        have hd := vas_dens h3 ed
        refine ⟨F1, d0 :: ds, d, b, fin, g.rel.le, ec, ⟨⟨a, rfl, n1, n2⟩, hd⟩, fun v' F' H' hr => ?_⟩
        have isA : ∀ b, LentAt true (V.ref a :: vr) b → b = a := fun b z => by have := z.2; simp at this; exact this.symm
        have g3 := goFree g hr.stp hr.le fun b hb => by rw [isA b hb]; exact ⟨n3, fro⟩
        exact q _ _ _ (retRes (g := g3) hr (fr1 g) fun b hb => (g.rel.owns hb).2)
    · cases e
  · rename_i hio
    have hio : C.io f = false := by simpa using hio
    rw [hio]
    simp only [Option.bind_eq_some_iff, Option.map_eq_some_iff] at e
    obtain ⟨ds, ed, ⟨d, b, fin⟩, ec, e⟩ := e
    cases e
    obtain ⟨F2, s1, g2, hd⟩ := keep_all (fun {_ _ _} => trivial) rp ed (Same.refl _) g
    refine ⟨F2, ds, d, b, fin, g2.rel.le, ec, hd, fun v' F' H' hr => ?_⟩
    have g3 := goFree g2 hr.stp hr.le fun b hb => by cases hb.1
    exact q _ _ _ (retRes (g := g3) hr (fr1 g2) fun b hb => (g2.rel.owns hb).2)
end
section
variable {X : Cx} {e a b c : Expr} {es : List Expr} {pos : Pos} {C : Ct} {ma mb mc : Ex} {ms ms2 : Exs} {k : Nat} {kws : List Keyword} {ks : List Str}
theorem mk_nil : PK X [] (tA X.K C .nil) := ⟨fun pos pins s σ H Q I ⟨F, st, os, st', r, e, q⟩ => by
  cases e
  exact pk_nil.run pos pins s σ H Q I (q _ _ _ (Go.refl r) .nil)⟩
theorem mk_cons {nm : Option Str} {kp : Pos} (ha : PE X e (tE X.K C ma)) (hr : PK X kws (tA X.K C ms)) : PK X (⟨nm, e, kp⟩ :: kws) (tA X.K C (.cons ma ms)) := ⟨fun pos pins s σ H Q I ⟨F, st, os, st', r, e, q⟩ => by
  simp only [evs, Option.bind_eq_some_iff, Option.map_eq_some_iff] at e
  obtain ⟨qa, ea, qr, er, e⟩ := e
  cases e
  exact (pk_cons ha hr).run pos pins s σ H Q I ⟨F, st, qa.1, qa.2, r, ea, fun v F1 H1 ra => ⟨F1, qa.2, qr.1, qr.2, ra.go.rel, er, fun vs F2 H2 g2 rr => q _ _ _ (ra.go.trans g2) (.cons (ra.rel.step g2) ra.fro (rr.back ra.go))⟩⟩⟩
end
end Mi
end
section
/-! Mi13: calls, tests, names of the module, pop. -/
namespace Mi
open PySem PySem.Spec
open PyProof.Rows hiding St Fr
open L2

/-- which keywords go with n arguments -/
def callOk (ps : List Str) (n : Nat) (ks : List Str) : Bool := decide ps.Nodup && decide ks.Nodup && (ks.all fun k => decide (k ∈ ps.drop n)) && decide (n + ks.length = ps.length) && (ps.all fun p => decide (p ∈ ps.take n ++ ks))
theorem callOk_ok {ps : List Str} {n : Nat} {ks : List Str} (h : callOk ps n ks = true) : ps.Nodup ∧ ks.Nodup ∧ (∀ k ∈ ks, k ∈ ps.drop n) ∧ n + ks.length = ps.length ∧ ∀ p ∈ ps, p ∈ ps.take n ++ ks := by
  unfold callOk at h
  simp only [Bool.and_eq_true, List.all_eq_true, decide_eq_true_eq] at h
  obtain ⟨⟨⟨⟨h1, h2⟩, h3⟩, h4⟩, h5⟩ := h
  exact ⟨h1, h2, h3, h4, h5⟩
/-- a def of the text, as it is called -/
structure CallX (X : Cx) (k : Nat) (C : Ct) (x : Str) (ps : List Str) (f : Addr) (fd : FuncData) (qual : Str) (as : List Arg) (body : List Stmt) (scope : Scope) : Prop where
  ar : as.map (·.arg) = ps
  hf : FunD X.K x qual (simpleArgs as) body scope [] [] f fd
  fg : FnG X.prog X.w X.K X.mg X.base k f fd ps (spC X.K (C.call x) (C.io x) ps.length)
  mg : X.mg x = some (.ref f)
  db : (x == ("__debug__" : Str)) = false
def CallOk (X : Cx) (k : Nat) (C : Ct) (x : Str) (ps : List Str) : Prop := ∃ f fd qual as body scope, CallX X k C x ps f fd qual as body scope
section
variable {X : Cx} {e a b c : Expr} {es : List Expr} {pos : Pos} {C : Ct} {ma mb mc : Ex} {ms ms2 : Exs} {k : Nat} {kws : List Keyword} {ks : List Str} {ps : List Str}
theorem perm_lt {n : Nat} (h : ∀ p ∈ ps, p ∈ ps.take n ++ ks) (hl : n + ks.length = ps.length) {m : Nat} (hm : m = n + ks.length) : ∀ j ∈ permOf ps n ks, j < m := fun j hj => by
  unfold permOf at hj
  obtain ⟨q, hq, rfl⟩ := List.mem_map.mp hj
  have := List.idxOf_lt_length_iff.mpr (h q hq)
  rw [List.length_append, List.length_take] at this
  omega
theorem me_call {x : Str} {p : Pos} (hx : CallOk X k C x ps) (hr : Room k X.A) (hg : X.A.guards = some []) (gl : Gl X x) (hk : callOk ps (es.length + 1) ks = true) (hs : noStars (e :: es) = true) (hkn : kws.map (·.arg) = ks.map some)
    (ha : PA X (e :: es) (tA X.K C ms)) (hkw : PK X kws (tA X.K C ms2)) (l1 : ∀ st os st', evs C ms st = some (os, st') → os.length = es.length + 1) (l2 : ∀ st os st', evs C ms2 st = some (os, st') → os.length = ks.length) :
    PE X (.Call (.Name x p) (e :: es) kws pos) (tE X.K C (.cal x (permOf ps (es.length + 1) ks) (ms.app ms2))) := by
  obtain ⟨f, fd, qual, as, body, scope, rfl, FD, F, hm, hdb⟩ := hx
  obtain ⟨c1, c2, c3, c4, c5⟩ := callOk_ok hk
  refine pe_mono (pe_callG FD F hr hg gl hm hdb c1 c2 c3 (by rw [c4, List.length_map]) c5 hs hkn ha hkw) fun σ H Q ⟨F0, st, od, st', r, e0, q⟩ => ?_
  simp only [evE, evs_app, Option.bind_eq_some_iff, Option.map_eq_some_iff] at e0
  obtain ⟨qs, ⟨q1, e1, q2, e2, rfl⟩, e3⟩ := e0
  refine ⟨F0, st, q1.1, q1.2, r, e1, fun vs F1 H1 g1 r1 => ⟨F1, q1.2, q2.1, q2.2, g1.rel, e2, fun zs F2 H2 g2 r2 => ?_⟩⟩
  have n1 : vs.length = es.length + 1 := r1.len.trans (l1 _ _ _ e1)
  have n2 : zs.length = ks.length := r2.len.trans (l2 _ _ _ e2)
  refine ⟨n1, n2, ?_⟩
  exact call_ok (g1.trans g2) (ORs.app (r2.back g1) (r1.step g2)) (perm_lt c5 c4 (by rw [List.length_append, n1, n2])) e3 (by unfold permOf; rw [List.length_map]) q
theorem me_call0 {x : Str} {p : Pos} (hx : CallOk X k C x ps) (hr : Room k X.A) (hg : X.A.guards = some []) (gl : Gl X x) (hk : callOk ps 0 ks = true) (hkn : kws.map (·.arg) = ks.map some)
    (hkw : PK X kws (tA X.K C ms2)) (l2 : ∀ st os st', evs C ms2 st = some (os, st') → os.length = ks.length) :
    PE X (.Call (.Name x p) [] kws pos) (tE X.K C (.cal x (permOf ps 0 ks) ms2)) := by
  obtain ⟨f, fd, qual, as, body, scope, rfl, FD, F, hm, hdb⟩ := hx
  obtain ⟨c1, c2, c3, c4, c5⟩ := callOk_ok hk
  refine pe_mono (pe_callG0 FD F hr hg gl hm hdb c1 c2 c3 (by rw [c4, List.length_map]) c5 hkn hkw) fun σ H Q ⟨F0, st, od, st', r, e0, q⟩ => ?_
  simp only [evE, Option.bind_eq_some_iff] at e0
  obtain ⟨q2, e2, e3⟩ := e0
  refine ⟨F0, st, q2.1, q2.2, r, e2, fun zs F2 H2 g2 r2 => ?_⟩
  have n2 : zs.length = ks.length := r2.len.trans (l2 _ _ _ e2)
  refine ⟨n2, ?_⟩
  exact call_ok g2 r2 (perm_lt c5 c4 (by rw [n2, Nat.zero_add])) e3 (by unfold permOf; rw [List.length_map]) q
/-- a constant of the module -/
def GloOk (X : Cx) (C : Ct) (x : Str) : Prop := ∀ p, C.glo x = some p → ∃ v u, X.mg x = some u ∧ RelV v u ∧ ∀ F, Dn X.K F v p
theorem me_glo {x : Str} (gl : Gl X x) (hx : GloOk X C x) (hd : (x == ("__debug__" : Str)) = false) : PE X (.Name x pos) (tE X.K C (.glo x)) := ⟨fun pins s σ H Q I ⟨F, st, od, st', r, e, q⟩ => by
  simp only [evE, Option.map_eq_some_iff] at e
  obtain ⟨p, ep, e⟩ := e
  cases e
  obtain ⟨v, u, h1, h2, h3⟩ := hx p ep
  exact (pe_glob gl h1 h2 hd).run pins s σ H Q I (q _ _ _ (Res.den (Go.refl r) (h3 F)))⟩
/-- the list turned round -/
theorem me_rev {j : Nat} {p1 p2 p3 : Pos} (ha : PE X a (tE X.K C ma)) : PE X (.Subscript a (.Slice none none (some (.UnaryOp .USub (.Constant (.int 1) j p1) p2)) p3) pos) (tE X.K C (.rev ma)) := pe_mono (pe_revA ha) fun σ H Q ⟨F, st, od, st', r, e, q⟩ => by
  simp only [evE, Option.bind_eq_some_iff, Option.map_eq_some_iff] at e
  obtain ⟨qa, ea, x, ex, z, ez, e⟩ := e
  cases e
  refine ⟨F, st, qa.1, qa.2, r, ea, fun v F1 H1 ra => ?_⟩
  unfold revD at ez
  split at ez
  · rename_i xs
    cases ez
    obtain ⟨p, vs, rfl, h1, h2⟩ := (ra.rel.rd ra.go.rel ex).list ra.go.rel.le
    exact ⟨p, vs, rfl, .inl ⟨.inl (.inl h1), fun n hn => q _ F1 _ (NewR.res ra.go (New.lst ra.go.rel.le hn) (NewR.lst ra.go.rel.le hn (dpl_rev h2)))⟩⟩
  · rename_i xs
    cases ez
    obtain ⟨p, vs, rfl, h1, h2⟩ := (ra.rel.rd ra.go.rel ex).tup ra.go.rel.le
    exact ⟨p, vs, rfl, .inr ⟨h1.sq, fun n us hn => q _ _ _ (NewR.res ra.go (New.put ra.go.rel.le hn) (NewR.tup ra.go.rel.le hn rfl (dpl_rev h2)))⟩⟩
  · cases ez
/-! ### a list of the frame is changed -/
end
section
variable {K : PySem.W.Frag} {F H : Hp} {st : En} {σ : L2.St} {i : Nat} {xs : List PyData} {mk : D → Sl}
theorem lstAt_ok (r : Rel K F st σ H) (h : lstAt st i = some (xs, mk)) : ∃ (s : Sl) (a : Addr) (vs : List V), st[i]? = some s ∧ s.owned = true ∧ (∀ ds, (mk (.py (.list ds)) = .ow (.py (.list ds)) ∧ ∃ d, s = .ow d) ∨ (mk (.py (.list ds)) = .bo (.py (.list ds)) ∧ ∃ d, s = .bo d)) ∧
    σ[i]? = some (some (V.ref a)) ∧ H a = some (.lst vs) ∧ DnAll K F vs xs := by
  unfold lstAt at h
  split at h
  · rename_i ys hs
    cases h
    obtain ⟨a, h1, h2, vs, h3, h4⟩ := r.sl i _ hs
    exact ⟨_, a, vs, hs, rfl, fun ds => .inl ⟨rfl, _, rfl⟩, h1, h3, h4⟩
  · rename_i ys hs
    cases h
    obtain ⟨a, h1, h2, vs, h3, h4⟩ := r.sl i _ hs
    exact ⟨_, a, vs, hs, rfl, fun ds => .inr ⟨rfl, _, rfl⟩, h1, h3, h4⟩
  · cases h
theorem objAt_ok {d : D} (r : Rel K F st σ H) (h : objAt st i = some (d, mk)) : ∃ (s : Sl) (a : Addr), st[i]? = some s ∧ s.owned = true ∧ (∀ d' : D, (mk d' = .ow d' ∧ ∃ d, s = .ow d) ∨ (mk d' = .bo d' ∧ ∃ d, s = .bo d)) ∧
    σ[i]? = some (some (V.ref a)) ∧ OwnAt K F H a d := by
  unfold objAt at h
  split at h
  · rename_i d0 hs
    cases h
    obtain ⟨a, h1, h2, h3⟩ := r.sl i _ hs
    exact ⟨_, a, hs, rfl, fun ds => .inl ⟨rfl, _, rfl⟩, h1, h3⟩
  · rename_i d0 hs
    cases h
    obtain ⟨a, h1, h2, h3⟩ := r.sl i _ hs
    exact ⟨_, a, hs, rfl, fun ds => .inr ⟨rfl, _, rfl⟩, h1, h3⟩
  · cases h
theorem lstAt_tyG {v : V} (r : Rel K F st σ H) (h : lstAt st i = some (xs, mk)) : ∃ a, σ[i]? = some (some (V.ref a)) ∧ TyG K "list" (.ref a) H := by
  obtain ⟨s, a, vs, _, _, _, h1, h2, _⟩ := lstAt_ok r h
  exact ⟨a, h1, a, rfl, .inl ⟨rfl, vs, h2⟩⟩
end
section
variable {X : Cx} {e a b c : Expr} {es : List Expr} {pos : Pos} {C : Ct} {ma mb mc : Ex} {k : Nat}
/-- {} -/
theorem me_dct0 : PE X (.Dict [] [] pos) (tE X.K C .dct0) := pe_mono pe_dnewK fun σ H Q ⟨F, st, od, st', r, e, q⟩ => by
  cases e
  exact fun p hp => q _ F _ (NewR.res (Go.refl r) (New.dct r.le hp) (NewR.dct r.le hp))
theorem me_pop {x : Str} {i : Nat} {p apos cpos : Pos} (h : NameOk X.N X.env.scope x i) (ha : PE X a (tE X.K C ma)) (hs : noStar a = true) (hline : (apos.endLine == cpos.line) = true) :
    PE X (.Call (.Attribute (.Name x p) "pop" apos) [a] [] cpos) (tE X.K C (.pop i ma)) := by
  refine pe_mono (pe_bmG PySem.F.plainAttrs_list PySem.F.slot_list_pop PySem.F.type_list_pop mt_popAt (pe_var h.ix h.vis h.d1 h.d2) (pa_cons ha pa_nil (star_cons hs)) base_name (by simp [noStars, hs]) (by simp) hline) fun σ H Q ⟨F, st, od, st', r, e, q⟩ => ?_
  simp only [evE, Option.bind_eq_some_iff] at e
  obtain ⟨m0, em0, qa, ea, kk, ek, m, em, e⟩ := e
  obtain ⟨a0, h1, h2⟩ := lstAt_tyG (v := .non) r em0
  refine ⟨_, h1, h2, F, st, qa.1, qa.2, r, ea, fun v F1 H1 ra => ?_⟩
  split at e
  · split at e
    · rename_i kn hok
      simp only [Option.bind_eq_some_iff, Option.map_eq_some_iff] at e
      obtain ⟨j, ej, p, ep, e⟩ := e
      cases e
      obtain rfl := (ra.rel.rd ra.go.rel ek).int
      obtain ⟨s, a1, vs, g1, g2, g3, g4, g5, g6⟩ := lstAt_ok ra.go.rel em
      rw [h1] at g4; cases g4
      unfold okR at hok
      simp only [Bool.and_eq_true, decide_eq_true_eq] at hok
      obtain ⟨pv, hp1, hp2⟩ := dpl_get g6 ep
      have hj : seqIndex? kn vs.length = some j := by rw [dpl_len g6]; exact (L2.ixN_seq ej).1
      refine ⟨a0, vs, kn, j, pv, rfl, rfl, g5, by omega, by omega, hj, hp1, ?_⟩
      have gp := ra.go.rel.put g1 g2 (g3 _) h1 (dpl_erase j g6)
      exact q _ F1 _ (Res.den (ra.go.trans gp) hp2)
    · cases e
  · cases e
/-! ### tests -/
def plainT : Expr → Bool
  | .Name .. => true
  | .Call .. => true
  | .Subscript .. => true
  | .Constant .. => true
  | .Tuple .. => true
  | .List .. => true
  | .BinOp .. => true
  | _ => false
theorem plainT_ok {env : Env} (h : plainT e = true) : ∀ whole, isTrue e env whole = (do let v ← whole; standAt e.pos; holding [v] (truthy v)) := by
  cases e <;> first | (intro _; rfl) | cases h
theorem tru_rd {K : PySem.W.Frag} {F H : Hp} {v : V} {d : D} {b : Bool} (le : Same F H) (h : RdR K F H v d) (e : d.tru = some b) : TruV K v H b := by
  unfold D.tru at e
  split at e
  · cases e; rw [h.bl]; exact rfl
  · cases e; rw [h.int]; exact rfl
  · cases e
    obtain ⟨a, vs, rfl, h1, h2⟩ := h.list le
    refine .inl ⟨vs, .inl (.inl h1), ?_⟩
    have := dpl_len h2
    rename_i xs
    cases vs <;> cases xs <;> first | rfl | cases this
  · cases e
    obtain ⟨a, vs, rfl, h1, h2⟩ := h.tup le
    refine .inr (.inl ⟨vs, h1.sq, ?_⟩)
    have := dpl_len h2
    rename_i xs
    cases vs <;> cases xs <;> first | rfl | cases this
  · cases e; rw [h.non]; exact rfl
  · split at e
    · rename_i x hl
      cases e
      rw [h.str]
      have hs : sizeLine = 16777216 := sizeLine_eq
      have hl : x.length ≤ lim := hl
      exact ⟨by unfold lim at hl; omega, rfl⟩
    · cases e
  · rename_i ns
    cases e
    obtain ⟨a, rfl, h1⟩ := h.scr le
    refine .inl ⟨_, h1, ?_⟩
    cases ns <;> rfl
  · cases e
theorem mt_v (hp : plainT a = true) (ha : PE X a (tE X.K C ma)) : PT X a (tT X.K C (.v ma)) := pt_mono (pt_truth ha (plainT_ok hp)) fun σ H Q ⟨F, st, b, st', r, e, q⟩ => by
  simp only [evT, Option.bind_eq_some_iff, Option.map_eq_some_iff] at e
  obtain ⟨qa, ea, t, ⟨d, ed, et⟩, e⟩ := e
  cases e
  exact ⟨F, st, qa.1, qa.2, r, ea, fun v F1 H1 ra => ⟨_, tru_rd ra.go.rel.le (ra.rel.rd ra.go.rel ed) et, q _ _ ra.go⟩⟩
/-- a reading that answers with a bool, as a test -/
theorem tE_test {te : TE} {σ : L2.St} {H : Hp} {Q : Bool → Hp → Prop} (h : PT X a (tTest te)) (hm : ∀ σ H Q, tE X.K C ma σ H Q → te σ H Q) (hb : ∀ st od st' d b, evE C ma st = some (od, st') → rd st' od = some d → d.tru = some b → ∃ c, od = ofB c) : PT X a (tT X.K C (.v ma)) :=
  pt_mono h fun σ H Q ⟨F, st, b, st', r, e, q⟩ => by
    simp only [evT, Option.bind_eq_some_iff, Option.map_eq_some_iff] at e
    obtain ⟨qa, ea, t, ⟨d, ed, et⟩, e⟩ := e
    cases e
    obtain ⟨c, hc⟩ := hb _ _ _ _ _ ea ed et
    refine hm σ H _ ⟨F, st, qa.1, qa.2, r, ea, fun v F1 H1 ra => ?_⟩
    have h1 : ORel X.K F1 H1 qa.2 σ v (ofB c) := by rw [← hc]; exact ra.rel
    have h2 : ed = ed := rfl
    rw [hc] at ed
    cases ed
    cases et
    cases h1
    exact ⟨_, rfl, q _ _ ra.go⟩
theorem cm_ofB {o : Cm} {st st' : En} {od : Od} (h : evE C (.cm o ma mb) st = some (od, st')) : ∃ c, od = ofB c := by
  simp only [evE, Option.bind_eq_some_iff, Option.map_eq_some_iff] at h
  obtain ⟨qa, ea, qb, eb, x, ex, y, ey, z, ez, e⟩ := h
  cases e
  exact ⟨_, rfl⟩
theorem cm2_ofB {o o' : Cm} {st st' : En} {od : Od} (h : evE C (.cm2 o o' ma mb mc) st = some (od, st')) : ∃ c, od = ofB c := by
  simp only [evE, Option.bind_eq_some_iff] at h
  obtain ⟨qa, ea, qb, eb, x, ex, y, ey, z, ez, e⟩ := h
  cases z with
  | false => cases e; exact ⟨_, rfl⟩
  | true =>
    rw [if_pos rfl] at e
    simp only [Option.bind_eq_some_iff, Option.map_eq_some_iff] at e
    obtain ⟨qc, ec, y, ey, u, eu, z, ez, e⟩ := e
    cases e
    exact ⟨_, rfl⟩
theorem mt_cm {o : Cm} (hr : Room k X.A) (ha : PE X a (tE X.K C ma)) (hb : PE X b (tE X.K C mb)) (hm : behindInMarks o.op b = false) : PT X (.Compare a [o.op] [b] pos) (tT X.K C (.v (.cm o ma mb))) :=
  tE_test (σ := []) (H := fun _ => none) (Q := fun _ _ => True) (pt_cmpR (cm_ok hr o) ha hb hm) (fun σ H Q h => by
    obtain ⟨F, st, od, st', r, e, q⟩ := h
    simp only [evE, Option.bind_eq_some_iff, Option.map_eq_some_iff] at e
    obtain ⟨qa, ea, qb, eb, x, ex, y, ey, z, ez, e⟩ := e
    cases e
    exact tE_two r ea eb fun u v F' H' g ra rb => ⟨F', x, y, z, g.rel.le, ra.rd g.rel ex, rb.rd g.rel ey, ez, q _ _ _ (Res.den g (Dn.bl _))⟩) fun _ _ _ _ _ h _ _ => cm_ofB h
theorem mt_and {rest : List Expr} {m m2 : T} (ha : PT X a (tT X.K C m)) (hb : PW X (.BoolOp .And (b :: rest) pos) (tT X.K C m2)) : PW X (.BoolOp .And (a :: b :: rest) pos) (tT X.K C (.and m m2)) :=
  ⟨fun wh pins s σ H Q I ⟨F, st, od, st', r, e, q⟩ => by
    simp only [evT, Option.bind_eq_some_iff] at e
    obtain ⟨qa, ea, e⟩ := e
    refine (pw_and ha hb).run wh pins s σ H Q I ⟨F, st, qa.1, qa.2, r, ea, fun F' H' g => ?_⟩
    cases h : qa.1 with
    | true =>
      rw [h, if_pos rfl] at e
      exact iteT ⟨F', qa.2, od, st', g.rel, e, fun F2 H2 g2 => q _ _ (g.trans g2)⟩
    | false =>
      rw [h, if_neg Bool.false_ne_true] at e
      cases e
      exact iteF (q _ _ g)⟩
theorem mt_or {rest : List Expr} {m m2 : T} (ha : PT X a (tT X.K C m)) (hb : PW X (.BoolOp .Or (b :: rest) pos) (tT X.K C m2)) : PW X (.BoolOp .Or (a :: b :: rest) pos) (tT X.K C (.or m m2)) :=
  ⟨fun wh pins s σ H Q I ⟨F, st, od, st', r, e, q⟩ => by
    simp only [evT, Option.bind_eq_some_iff] at e
    obtain ⟨qa, ea, e⟩ := e
    refine (pw_or ha hb).run wh pins s σ H Q I ⟨F, st, qa.1, qa.2, r, ea, fun F' H' g => ?_⟩
    cases h : qa.1 with
    | false =>
      rw [h, if_neg Bool.false_ne_true] at e
      exact iteF ⟨F', qa.2, od, st', g.rel, e, fun F2 H2 g2 => q _ _ (g.trans g2)⟩
    | true =>
      rw [h, if_pos rfl] at e
      cases e
      exact iteT (q _ _ g)⟩
theorem mt_not {m : T} (ha : PT X a (tT X.K C m)) : PT X (.UnaryOp .Not a pos) (tT X.K C (.nt m)) := pt_mono (pt_not ha) fun σ H Q ⟨F, st, b, st', r, e, q⟩ => by
  simp only [evT, Option.map_eq_some_iff] at e
  obtain ⟨qa, ea, e⟩ := e
  cases e
  exact ⟨F, st, qa.1, qa.2, r, ea, q⟩
end
end Mi
end
section
/-! Mi14: statements without loops. -/
namespace Mi
open PySem PySem.Spec
open PyProof.Rows hiding St Fr
open L2

section
variable {K : PySem.W.Frag} {F H F0 H0 F1 H1 F2 H2 F' H' : Hp} {st st0 st1 st2 st' : En} {σ σ0 σ1 σ2 σ' : L2.St} {v : V} {od : Od} {d : D} {a : Addr} {i : Nat}
theorem Fro.back' (g : Go K st σ F H st1 σ1 F1 H1) (h : Fro st1 σ1 H1 v od) : Fro st σ H v od := by
  cases od with
  | va _ => trivial
  | pk _ => trivial
  | fe _ =>
    obtain ⟨a, e, h⟩ := h
    rcases h with h | h
    · exact ⟨a, e, g.stp.own a h⟩
    · refine ⟨a, e, .inr ?_⟩
      cases q : H a with
      | none => rfl
      | some o => exact absurd h (g.stp.live a (by rw [q]; simp))
/-- a slot takes a value that nobody changes, or nothing -/
theorem Rel.fr {s : Sl} (r : Rel K F st σ H) (hs : (s = .no) ∨ ∃ d, s = .fr d ∧ Den K F v d) : Go K st σ F H (st.set i s) (σ.set i (some v)) F H := by
  have no : s.owned = false := by rcases hs with rfl | ⟨d, rfl, _⟩ <;> rfl
  have ge : ∀ {j : Nat}, j ≠ i → (σ.set i (some v))[j]? = σ[j]? := fun h => List.getElem?_set_ne (Ne.symm h)
  have back : ∀ b, Owns (st.set i s) (σ.set i (some v)) b → Owns st σ b := fun b ⟨j, u, h1, h2, h3⟩ => by
    rcases get_set h1 with ⟨e, e2, _⟩ | ⟨e, h1⟩
    · subst e2; rw [no] at h2; cases h2
    · exact ⟨j, u, h1, h2, by rw [← ge e]; exact h3⟩
  refine ⟨⟨Same.refl F, fun b o h _ => h, fun b h => h, fun b h => .inl (back b h), fun b h => .inl h⟩, ⟨r.le, by rw [List.length_set, List.length_set]; exact r.len, fun j u h => ?_, fun j j' u u' b h1 h2 h3 h4 h5 h6 => ?_⟩, fun j d h => ?_⟩
  · rcases get_set h with ⟨e, e2, hl⟩ | ⟨e, h⟩
    · subst e2
      rcases hs with rfl | ⟨d, rfl, hd⟩
      · trivial
      · exact ⟨v, by rw [e, List.getElem?_set_self (by rw [r.len]; exact hl)], hd⟩
    · have z := r.sl j u h
      cases u with
      | no => trivial
      | fr d => obtain ⟨w, g1, g2⟩ := z; exact ⟨w, by rw [ge e]; exact g1, g2⟩
      | ow d => obtain ⟨w, g1, g2⟩ := z; exact ⟨w, by rw [ge e]; exact g1, g2⟩
      | bo d => obtain ⟨w, g1, g2⟩ := z; exact ⟨w, by rw [ge e]; exact g1, g2⟩
  · rcases get_set h1 with ⟨e, e2, _⟩ | ⟨e, h1⟩
    · subst e2; rw [no] at h3; cases h3
    · rcases get_set h2 with ⟨e', e2, _⟩ | ⟨e', h2⟩
      · subst e2; rw [no] at h4; cases h4
      · rw [ge e] at h5
        rw [ge e'] at h6
        exact r.inj j j' u u' b h1 h2 h3 h4 h5 h6
  · rcases get_set h with ⟨e, e2, _⟩ | ⟨e, h⟩
    · rw [← e2] at no; cases no
    · exact ⟨ge e, d, h⟩
/-- a slot takes a list in one hand -/
theorem Rel.ow (g : Go K st0 σ0 F0 H0 st σ F H) (hf : F a = none) (ho : OwnAt K F H a d) (hn : ¬ Owns st σ a) (fro : Owns st0 σ0 a ∨ H0 a = none) : Go K st0 σ0 F0 H0 (st.set i (.ow d)) (σ.set i (some (.ref a))) F H := by
  have r := g.rel
  have ge : ∀ {j : Nat}, j ≠ i → (σ.set i (some (V.ref a)))[j]? = σ[j]? := fun h => List.getElem?_set_ne (Ne.symm h)
  refine ⟨⟨g.stp.fr, g.stp.keep, g.stp.live, fun b hb => ?_, g.stp.frz⟩, ⟨r.le, by rw [List.length_set, List.length_set]; exact r.len, fun j u h => ?_, fun j j' u u' b h1 h2 h3 h4 h5 h6 => ?_⟩, fun j d h => ?_⟩
  · obtain ⟨j, u, h1, h2, h3⟩ := hb
    rcases get_set h1 with ⟨e, e2, hl⟩ | ⟨e, h1⟩
    · subst e
      rw [List.getElem?_set_self (by rw [r.len]; exact hl)] at h3
      cases h3
      exact fro
    · rw [ge e] at h3
      exact g.stp.own b ⟨j, u, h1, h2, h3⟩
  · rcases get_set h with ⟨e, e2, hl⟩ | ⟨e, h⟩
    · subst e2
      exact ⟨a, by rw [e, List.getElem?_set_self (by rw [r.len]; exact hl)], hf, ho⟩
    · have z := r.sl j u h
      cases u with
      | no => trivial
      | fr d => obtain ⟨w, g1, g2⟩ := z; exact ⟨w, by rw [ge e]; exact g1, g2⟩
      | ow d => obtain ⟨w, g1, g2⟩ := z; exact ⟨w, by rw [ge e]; exact g1, g2⟩
      | bo d => obtain ⟨w, g1, g2⟩ := z; exact ⟨w, by rw [ge e]; exact g1, g2⟩
  · rcases get_set h1 with ⟨e, e2, hl⟩ | ⟨e, k1⟩
    · rcases get_set h2 with ⟨e', _, _⟩ | ⟨e', k2⟩
      · rw [e, e']
      · subst e
        rw [List.getElem?_set_self (by rw [r.len]; exact hl)] at h5
        cases h5
        rw [ge e'] at h6
        exact absurd ⟨j', u', k2, h4, h6⟩ hn
    · rw [ge e] at h5
      rcases get_set h2 with ⟨e', _, hl⟩ | ⟨e', k2⟩
      · subst e'
        rw [List.getElem?_set_self (by rw [r.len]; exact hl)] at h6
        cases h6
        exact absurd ⟨j, u, k1, h3, h5⟩ hn
      · rw [ge e'] at h6
        exact r.inj j j' u u' b k1 k2 h3 h4 h5 h6
  · rcases get_set h with ⟨e, e2, _⟩ | ⟨e, h⟩
    · cases e2
    · obtain ⟨e1, d0, h0⟩ := g.bos j d h
      exact ⟨by rw [ge e]; exact e1, d0, h0⟩
/-- a value is stored -/
theorem Res.store {s : Sl} (r : Res K st σ F H st1 F1 H1 v od) (e : od.slot = some s) : Go K st σ F H (st1.set i s) (σ.set i (some v)) F1 H1 := by
  cases od with
  | va d =>
    cases e
    exact r.go.trans (r.go.rel.fr (.inr ⟨d, rfl, r.rel⟩))
  | fe d =>
    cases e
    obtain ⟨a, rfl, h1, h2, h3⟩ := r.rel
    obtain ⟨a', e', h4⟩ := r.fro
    cases e'
    exact Rel.ow r.go h1 h2 h3 h4
  | pk i => cases e
end

/-! ### the reading of statements -/
def EndR (K : PySem.W.Frag) (D : Ends) (st : En) (σ : L2.St) (H : Hp) (st' : En) (σ' : L2.St) (F' H' : Hp) : Out → Prop
  | .nx => D.nx σ' H'
  | .brk => D.bk σ' H'
  | .cont => D.ct σ' H'
  | .rt d b => ∀ v, ORel K F' H' st' σ' v (if b then .fe d else .va d) → Fro st σ H v (if b then .fe d else .va d) → D.rt v H'
def tS (K : PySem.W.Frag) (C : Ct) (m : S) : TS := fun D σ H => ∃ F st o st', Rel K F st σ H ∧ exS C m st = some (o, st') ∧ ∀ σ' F' H', Go K st σ F H st' σ' F' H' → EndR K D st σ H st' σ' F' H' o
def tSs (K : PySem.W.Frag) (C : Ct) (m : Ss) : TS := fun D σ H => ∃ F st o st', Rel K F st σ H ∧ exs C m st = some (o, st') ∧ ∀ σ' F' H', Go K st σ F H st' σ' F' H' → EndR K D st σ H st' σ' F' H' o
theorem EndR.back {K : PySem.W.Frag} {D : Ends} {st st1 st' : En} {σ σ1 σ' : L2.St} {F H F1 H1 F' H' : Hp} (g : Go K st σ F H st1 σ1 F1 H1) {o : Out} (h : EndR K D st σ H st' σ' F' H' o) : EndR K D st1 σ1 H1 st' σ' F' H' o := by
  cases o with
  | rt d b => exact fun v h1 h2 => h v h1 (Fro.back' g h2)
  | nx => exact h
  | brk => exact h
  | cont => exact h
section
variable {X : Cx} {st : Stmt} {t t' : TS}
theorem ps_mono (h : PS X st t) (w : ∀ D σ H, t' D σ H → t D σ H) : PS X st t' := ⟨fun pins s σ H D I q => h.run pins s σ H D I (w D σ H q)⟩
theorem pss_mono {sts : List Stmt} (h : PSs X sts t) (w : ∀ D σ H, t' D σ H → t D σ H) : PSs X sts t' := ⟨fun pins s σ H D I q => h.run pins s σ H D I (w D σ H q)⟩
end
section
variable {X : Cx} {e a b c : Expr} {es : List Expr} {pos : Pos} {C : Ct} {ma mb mc : Ex} {ms ms2 : Exs} {k : Nat} {st : Stmt} {rest sts sts2 : List Stmt} {s : S} {ss ss2 : Ss} {m : T}
theorem ms_nil : PSs X [] (tSs X.K C .nil) := pss_mono pss_nil fun D σ H ⟨F, st, o, st', r, e, q⟩ => by
  cases e
  exact q _ _ _ (Go.refl r)
theorem ms_cons (h1 : PS X st (tS X.K C s)) (h2 : PSs X rest (tSs X.K C ss)) : PSs X (st :: rest) (tSs X.K C (.cons s ss)) := pss_mono (pss_cons h1 h2) fun D σ H ⟨F, en, o, en', r, e, q⟩ => by
  simp only [exs, Option.bind_eq_some_iff] at e
  obtain ⟨⟨o1, st1⟩, e1, e⟩ := e
  refine ⟨F, en, o1, st1, r, e1, fun σ1 F1 H1 g1 => ?_⟩
  cases o1 with
  | nx => exact ⟨F1, st1, o, en', g1.rel, e, fun σ2 F2 H2 g2 => EndR.back g1 (q _ _ _ (g1.trans g2))⟩
  | brk => cases e; exact q _ _ _ g1
  | cont => cases e; exact q _ _ _ g1
  | rt d b => cases e; exact q _ _ _ g1
theorem ms_raise : PS X st (tS X.K C .raise) := ps_mono ps_never fun D σ H ⟨F, st, o, st', r, e, q⟩ => by cases e
theorem ms_pass : PS X (.Pass pos) (tS X.K C .pass) := ps_mono ps_pass fun D σ H ⟨F, st, o, st', r, e, q⟩ => by cases e; exact q _ _ _ (Go.refl r)
theorem ms_doc {x : Str} {j : Nat} {p2 : Pos} : PS X (.Expr (.Constant (.str x) j p2) pos) (tS X.K C .pass) := ps_mono ps_doc fun D σ H ⟨F, st, o, st', r, e, q⟩ => by cases e; exact q _ _ _ (Go.refl r)
theorem ms_brk : PS X (.Break pos) (tS X.K C .brk) := ps_mono ps_break fun D σ H ⟨F, st, o, st', r, e, q⟩ => by cases e; exact q _ _ _ (Go.refl r)
theorem ms_cont : PS X (.Continue pos) (tS X.K C .cont) := ps_mono ps_continue fun D σ H ⟨F, st, o, st', r, e, q⟩ => by cases e; exact q _ _ _ (Go.refl r)
theorem ms_retN : PS X (.Return none pos) (tS X.K C .retN) := ps_mono ps_retN fun D σ H ⟨F, st, o, st', r, e, q⟩ => by
  cases e
  exact q _ _ _ (Go.refl r) .non Dn.non trivial
/-- what swaps nothing: no comprehension -/
def noComp : Expr → Bool
  | .ListComp .. => false
  | .SetComp .. => false
  | .DictComp .. => false
  | _ => true
theorem sw_no {e : Expr} {t : Option Expr} {l : Nat} {env : Env} (h : noComp e = true) : swapsWith e t l env = pure false := by
  cases e <;> first | rfl | cases h
theorem ms_ex (hn : noComp e = true) (he : PE X e (tE X.K C ma)) : PS X (.Expr e pos) (tS X.K C (.ex ma)) := ps_mono (ps_expr he (sw_no hn)) fun D σ H ⟨F, st, o, st', r, e, q⟩ => by
  simp only [exS, Option.map_eq_some_iff] at e
  obtain ⟨qa, ea, e⟩ := e
  cases e
  exact ⟨F, st, qa.1, qa.2, r, ea, fun v F1 H1 ra => q _ _ _ ra.go⟩
theorem ms_ret (he : PE X e (tE X.K C ma)) : PS X (.Return (some e) pos) (tS X.K C (.ret ma)) := ps_mono (ps_ret he) fun D σ H ⟨F, st, o, st', r, e, q⟩ => by
  simp only [exS, Option.bind_eq_some_iff, Option.map_eq_some_iff] at e
  obtain ⟨qa, ea, o', eo, e⟩ := e
  cases e
  refine ⟨F, st, qa.1, qa.2, r, ea, fun v F1 H1 ra => ?_⟩
  unfold retE at eo
  have z := q _ _ _ ra.go
  split at eo
  · rename_i d hd
    cases eo
    exact z v (by have := ra.rel; rw [hd] at this; exact this) trivial
  · rename_i d hd
    cases eo
    exact z v (by have := ra.rel; rw [hd] at this; exact this) (by have := ra.fro; rw [hd] at this; exact this)
  · cases eo
theorem ms_retv {x : Str} {i : Nat} {p : Pos} (h : NameOk X.N X.env.scope x i) : PS X (.Return (some (.Name x p)) pos) (tS X.K C (.retv i)) := ps_mono (ps_ret (pe_var h.ix h.vis h.d1 h.d2)) fun D σ H ⟨F, st, o, st', r, e, q⟩ => by
  simp only [exS] at e
  split at e
  · rename_i d hd
    cases e
    obtain ⟨v, h1, h2⟩ := r.sl i _ hd
    exact ⟨v, h1, q _ _ _ (Go.refl r) v h2 trivial⟩
  · rename_i d hd
    cases e
    obtain ⟨a, h1, h2, h3⟩ := r.sl i _ hd
    refine ⟨_, h1, ?_⟩
    have g := r.fr (v := .ref a) (i := i) (s := .no) (.inl rfl)
    have hs : σ.set i (some (V.ref a)) = σ := by
      apply List.ext_getElem?
      intro j
      by_cases e : j = i
      · subst e
        rw [List.getElem?_set_self (get_lt h1), h1]
      · rw [List.getElem?_set_ne (Ne.symm e)]
    rw [hs] at g
    refine q _ _ _ g _ ⟨a, rfl, h2, h3, fun ⟨j, u, k1, k2, k3⟩ => ?_⟩ ⟨a, rfl, .inl ⟨i, _, hd, rfl, h1⟩⟩
    rcases get_set k1 with ⟨_, e2, _⟩ | ⟨e, k1⟩
    · subst e2; cases k2
    · exact e (r.inj j i u _ a k1 hd k2 rfl k3 h1)
  · cases e
theorem ms_if (hc : PT X c (tT X.K C m)) (ha : PSs X sts (tSs X.K C ss)) (hb : PSs X sts2 (tSs X.K C ss2)) : PS X (.If c sts sts2 pos) (tS X.K C (.ifs m ss ss2)) := ps_mono (ps_if hc ha hb) fun D σ H ⟨F, st, o, st', r, e, q⟩ => by
  simp only [exS, Option.bind_eq_some_iff] at e
  obtain ⟨qa, ea, e⟩ := e
  refine ⟨F, st, qa.1, qa.2, r, ea, fun F1 H1 g => ?_⟩
  cases h : qa.1 with
  | true =>
    rw [h, if_pos rfl] at e
    exact iteT ⟨F1, qa.2, o, st', g.rel, e, fun σ2 F2 H2 g2 => EndR.back g (q _ _ _ (g.trans g2))⟩
  | false =>
    rw [h, if_neg Bool.false_ne_true] at e
    exact iteF ⟨F1, qa.2, o, st', g.rel, e, fun σ2 F2 H2 g2 => EndR.back g (q _ _ _ (g.trans g2))⟩
/-- a name that is stored -/
structure StOk (X : Cx) (x : Str) (i : Nat) : Prop where
  ix : X.N[i]? = some x
  loc : Loc X.env.scope x
  fn : X.fn x = true ∨ X.env.scope.names.lookup x = some .local
theorem ms_asg {x : Str} {i : Nat} {p : Pos} (hN : X.N.Nodup) (h : StOk X x i) (hn : noComp e = true) (he : PE X e (tE X.K C ma)) : PS X (.Assign [.Name x p] e pos) (tS X.K C (.asg i ma)) := ps_mono (ps_set hN h.ix h.loc he (sw_no hn) h.fn) fun D σ H ⟨F, st, o, st', r, e, q⟩ => by
  simp only [exS, Option.bind_eq_some_iff, Option.map_eq_some_iff] at e
  obtain ⟨qa, ea, s, es, e⟩ := e
  cases e
  exact ⟨F, st, qa.1, qa.2, r, ea, fun v F1 H1 ra => q _ _ _ (ra.store es)⟩
theorem ms_aug {x : Str} {i : Nat} {p : Pos} {o : O2} (ho : o = .add ∨ o = .sub) (hN : X.N.Nodup) (h : StOk X x i) (he : PE X e (tE X.K C ma)) : PS X (.AugAssign (.Name x p) o.op e pos) (tS X.K C (.aug i o ma)) := by
  have key : ∀ (op : Operator) (f : Int → Int → Int), PIp X op (ipI f) → (∀ st q, exS C (.aug i o ma) st = some q → ∃ x qa y, st[i]? = some (.fr (.py (.int x))) ∧ evE C ma st = some qa ∧ rd qa.2 qa.1 = some (.py (.int y)) ∧ q = (.nx, qa.2.set i (.fr (.py (.int (f x y)))))) →
      PS X (.AugAssign (.Name x p) op e pos) (tS X.K C (.aug i o ma)) := fun op f hp hk => ps_mono (ps_aug hN h.ix h.loc he hp h.fn) fun D σ H ⟨F, st, o, st', r, e, q⟩ => by
    obtain ⟨x0, qa, y, h1, ea, ey, e⟩ := hk _ _ e
    cases e
    obtain ⟨v, g1, g2⟩ := r.sl i _ h1
    cases g2
    refine ⟨_, g1, F, st, qa.1, qa.2, r, ea, fun w F1 H1 ra => ?_⟩
    obtain rfl := (ra.rel.rd ra.go.rel ey).int
    exact ⟨x0, y, rfl, rfl, q _ _ _ (ra.go.trans (ra.go.rel.fr (.inr ⟨_, rfl, Dn.int _⟩)))⟩
  rcases ho with rfl | rfl
  · refine key .Add _ ip_add fun st q e => ?_
    simp only [exS] at e
    split at e
    · rename_i x0 hx
      simp only [Option.bind_eq_some_iff] at e
      obtain ⟨qa, ea, d, ed, e⟩ := e
      split at e
      · rename_i z y; cases e; exact ⟨x0, qa, _, hx, ea, ed, rfl⟩
      · rename_i z y h0; cases h0
      · cases e
    · cases e
  · refine key .Sub _ ip_sub fun st q e => ?_
    simp only [exS] at e
    split at e
    · rename_i x0 hx
      simp only [Option.bind_eq_some_iff] at e
      obtain ⟨qa, ea, d, ed, e⟩ := e
      split at e
      · rename_i z y h0; cases h0
      · rename_i z y; cases e; exact ⟨x0, qa, _, hx, ea, ed, rfl⟩
      · cases e
    · cases e
/-! ### several names -/
def gNs : List Nat → TGs
  | [] => gNil
  | i :: is => gCons (gName i) (gNs is)
inductive StsOk (X : Cx) : List Expr → List Nat → Prop
  | nil : StsOk X [] []
  | cons {x : Str} {p : Pos} {i : Nat} {es : List Expr} {is : List Nat} : StOk X x i → StsOk X es is → StsOk X (.Name x p :: es) (i :: is)
theorem pgs_ns (hN : X.N.Nodup) : ∀ {es : List Expr} {is : List Nat}, StsOk X es is → PGs X es (gNs is)
  | _, _, .nil => pgs_nil
  | _, _, .cons h t => pgs_cons (pg_name hN h.ix h.loc h.fn) (pgs_ns hN t)
theorem sts_each {env : Env} : ∀ {es : List Expr} {is : List Nat}, StsOk X es is → (assignEach es env).length = is.length ∧ (assignEach es env).findIdx? (·.1) = none
  | _, _, .nil => ⟨rfl, rfl⟩
  | _, _, .cons (x := x) (p := p) (es := es) h t => by
    obtain ⟨h1, h2⟩ := sts_each (env := env) t
    have e : assignEach (.Name x p :: es) env = (false, assign (.Name x p) env) :: assignEach es env := rfl
    rw [e]
    refine ⟨by rw [List.length_cons, List.length_cons, h1], ?_⟩
    rw [List.findIdx?_cons]
    simp [h2]
def setAll (st : En) : List Nat → List PyData → En
  | i :: is, p :: ps => setAll (st.set i (.fr (.py p))) is ps
  | _, _ => st
theorem bind_setAll : ∀ (tg : List Nat) (xs : List PyData) (st : En), (tg.zip xs).foldl (fun s q => s.set q.1 (.fr (.py q.2))) st = setAll st tg xs
  | [], _, _ => by simp [setAll]
  | _ :: _, [], _ => by simp [setAll]
  | i :: is, p :: ps, st => by rw [List.zip_cons_cons, List.foldl_cons, bind_setAll is ps]; rfl
theorem gNs_ok {K : PySem.W.Frag} {F H : Hp} {Q : L2.St → Hp → Prop} : ∀ {is : List Nat} {vs : List V} {ps : List PyData} {st : En} {σ : L2.St}, Rel K F st σ H → DnAll K F vs ps → vs.length = is.length → (∀ σ', Go K st σ F H (setAll st is ps) σ' F H → (∀ j, j ∉ is → σ'[j]? = σ[j]?) → Q σ' H) → gNs is vs σ H Q
  | [], [], _, st, σ, r, .nil, _, q => ⟨rfl, q _ (Go.refl r) fun _ _ => rfl⟩
  | i :: is, _, _, st, σ, r, .cons (v := v) (d := p) h t, hl, q => by
    have g := r.fr (v := v) (i := i) (s := .fr (.py p)) (.inr ⟨_, rfl, h⟩)
    exact ⟨v, _, rfl, gNs_ok g.rel t (Nat.succ.inj hl) fun σ' g2 n => q σ' (g.trans g2) fun j hj => by
      rw [n j fun z => hj (List.mem_cons_of_mem _ z), List.getElem?_set_ne fun z => hj (by rw [z]; exact List.mem_cons_self ..)]⟩
/-- the target of a loop, of an assignment -/
inductive TgOk (X : Cx) : Expr → List Nat → Bool → Prop
  | one {x : Str} {p : Pos} {i : Nat} : StOk X x i → TgOk X (.Name x p) [i] true
  | tup {es : List Expr} {k : Nat} {p : Pos} {is : List Nat} : StsOk X es is → TgOk X (.Tuple es k p) is false
/-- a value that is handed to a target: frozen, or a pair just made -/
def DnW (K : PySem.W.Frag) (F H : Hp) (one : Bool) (v : V) (p : PyData) : Prop := Dn K F v p ∨ (one = false ∧ ∃ a vs ps, v = .ref a ∧ ((p = .tuple ps ∧ H a = some (.tup vs)) ∨ (p = .list ps ∧ H a = some (.lst vs))) ∧ DnAll K F vs ps)
def gT (K : PySem.W.Frag) (is : List Nat) (one : Bool) : TG := fun v σ H Q => ∃ F st p st', Rel K F st σ H ∧ DnW K F H one v p ∧ bindT is one p st = some st' ∧ ∀ σ', Go K st σ F H st' σ' F H → (∀ j, j ∉ is → σ'[j]? = σ[j]?) → Q σ' H
theorem pg_mono {tg : Expr} {g g' : TG} (h : PG X tg g) (w : ∀ v σ H Q, g' v σ H Q → g v σ H Q) : PG X tg g' := ⟨fun pins s σ H v u Q I r q => h.run pins s σ H v u Q I r (w v σ H Q q)⟩
theorem pg_T {tg : Expr} {is : List Nat} {one : Bool} (hc : X.calm = true) (hN : X.N.Nodup) (h : TgOk X tg is one) : PG X tg (gT X.K is one) := by
  cases h with
  | one h =>
    refine pg_mono (pg_name hN h.ix h.loc h.fn) fun v σ H Q ⟨F, st, p, st', r, hd, e, q⟩ => ?_
    cases e
    rcases hd with hd | ⟨z, _⟩
    · exact q _ (r.fr (.inr ⟨_, rfl, hd⟩)) fun j hj => List.getElem?_set_ne fun z => hj (by rw [z]; exact List.mem_cons_self ..)
    · cases z
  | tup h =>
    obtain ⟨h1, h2⟩ := sts_each (env := X.env) h
    refine ⟨fun pins s σ H v u Q I rv ⟨F, st, p, st', r, hd, e, q⟩ => ?_⟩
    unfold bindT at e
    rw [if_neg Bool.false_ne_true] at e
    split at e
    · rename_i xs
      split at e
      · rename_i hl
        rw [bind_setAll] at e
        cases e
        refine (pg_tup hc (pgs_ns hN h) h1 h2).run pins s σ H v u Q I rv ?_
        rcases hd with hd | ⟨_, a, vs, ps, e1, (⟨e2, e3⟩ | ⟨e2, e3⟩), t2⟩
        · cases hd with
          | tup t1 t2 => exact ⟨_, _, rfl, (t1.same r.le).sq, (dpl_len t2).trans hl, gNs_ok r t2 ((dpl_len t2).trans hl) q⟩
        · cases e2
          exact ⟨a, vs, e1, .inl (.inl e3), (dpl_len t2).trans hl, gNs_ok r t2 ((dpl_len t2).trans hl) q⟩
        · cases e2
      · cases e
    · rename_i xs
      split at e
      · rename_i hl
        rw [bind_setAll] at e
        cases e
        refine (pg_lst hc (pgs_ns hN h) h1 h2).run pins s σ H v u Q I rv ?_
        rcases hd with hd | ⟨_, a, vs, ps, e1, (⟨e2, e3⟩ | ⟨e2, e3⟩), t2⟩
        · cases hd with
          | lst t1 t2 => exact ⟨_, _, rfl, .inl (.inl (r.le _ _ t1)), (dpl_len t2).trans hl, gNs_ok r t2 ((dpl_len t2).trans hl) q⟩
        · cases e2
        · cases e2
          exact ⟨a, vs, e1, .inl (.inl e3), (dpl_len t2).trans hl, gNs_ok r t2 ((dpl_len t2).trans hl) q⟩
      · cases e
    · cases e
theorem ms_asgT {tg : Expr} {is : List Nat} (hc : X.calm = true) (hN : X.N.Nodup) (h : TgOk X tg is false) (hn : noComp e = true) (hw : swappedStores [tg] e X.env = pure none) (he : PE X e (tE X.K C ma)) : PS X (.Assign [tg] e pos) (tS X.K C (.asgT is ma)) := by
  have h1 : (assignEach [tg] X.env).map (·.2) = [assign tg X.env] := by cases h; rfl
  refine ps_mono (ps_asg he (pg_T hc hN h) (sw_no hn) hw h1) fun D σ H ⟨F, st, o, st', r, e, q⟩ => ?_
  simp only [exS, Option.bind_eq_some_iff, Option.map_eq_some_iff] at e
  obtain ⟨qa, ea, d, ed, p, ep, s, es, e⟩ := e
  cases e
  refine ⟨F, st, qa.1, qa.2, r, ea, fun v F1 H1 ra => ?_⟩
  cases d with
  | py p' =>
    cases ep
    have hd : DnW X.K F1 H1 false v p := by
      have z := ra.rel.rd ra.go.rel ed
      cases p with
      | tuple xs =>
        rcases z with z | ⟨_, _, z⟩
        · exact .inl z
        · exact z.elim
      | list xs =>
        rcases z with z | ⟨a, e, vs, k1, k2⟩
        · exact .inl z
        · exact .inr ⟨rfl, a, vs, xs, e, .inr ⟨rfl, k1⟩, k2⟩
      | _ => unfold bindT at es; cases es
    exact ⟨F1, qa.2, p, _, ra.go.rel, hd, es, fun σ' g _ => q _ _ _ (ra.go.trans g)⟩
  | _ => cases ep
end
end Mi
end
section
/-! Mi15: lists that are changed, several names at once, loops. -/
namespace Mi
open PySem PySem.Spec
open PyProof.Rows hiding St Fr
open L2

section
variable {X : Cx} {e a b c : Expr} {es : List Expr} {pos : Pos} {C : Ct} {ma mb mc : Ex} {ms ms2 : Exs} {k : Nat} {st : Stmt} {rest sts sts2 : List Stmt} {s : S} {ss ss2 : Ss} {m : T}
theorem ms_app {x : Str} {i : Nat} {p apos cpos : Pos} (h : NameOk X.N X.env.scope x i) (ha : PE X a (tE X.K C ma)) (hs : noStar a = true) (hline : (apos.endLine == cpos.line) = true) :
    PS X (.Expr (.Call (.Attribute (.Name x p) "append" apos) [a] [] cpos) pos) (tS X.K C (.app i ma)) := by
  have pe := pe_bmG (X := X) PySem.F.plainAttrs_list PySem.F.slot_list_append PySem.F.type_list_append mt_append (pe_var (pos := p) h.ix h.vis h.d1 h.d2) (pa_cons ha pa_nil (star_cons hs)) base_name (by simp [noStars, hs]) (by simp) hline
  refine ps_mono (ps_expr pe (sw_no rfl)) fun D σ H ⟨F, st, o, st', r, e, q⟩ => ?_
  simp only [exS, Option.bind_eq_some_iff] at e
  obtain ⟨m0, em0, qa, ea, d, ed, p0, ep, m, em, e⟩ := e
  obtain ⟨a0, h1, h2⟩ := lstAt_tyG (v := .non) r em0
  refine ⟨_, h1, h2, F, st, qa.1, qa.2, r, ea, fun v F1 H1 ra => ?_⟩
  split at e
  · rename_i hl
    cases e
    obtain ⟨F2, s1, g2, hd⟩ := keep_one ra.go (Same.refl _) ra.rel ra.fro ed
    obtain ⟨s, a1, vs, g1, g2', g3, g4, g5, g6⟩ := lstAt_ok g2.rel em
    rw [h1] at g4; cases g4
    cases d <;> cases ep
    have gp := g2.rel.put g1 g2' (g3 _) h1 (dpl_app g6 (.cons hd .nil))
    have hz : vs.length < sizeLine := by
      have hs : sizeLine = 16777216 := sizeLine_eq
      have := dpl_len g6
      unfold lim at hl
      omega
    exact ⟨a0, vs, v, rfl, rfl, g5, hz, q _ _ _ (g2.trans gp)⟩
  · cases e
theorem ms_ext {x : Str} {i : Nat} {p apos cpos : Pos} (h : NameOk X.N X.env.scope x i) (ha : PE X a (tE X.K C ma)) (hs : noStar a = true) (hline : (apos.endLine == cpos.line) = true) :
    PS X (.Expr (.Call (.Attribute (.Name x p) "extend" apos) [a] [] cpos) pos) (tS X.K C (.ext i ma)) := by
  have pe := pe_bmG (X := X) PySem.F.plainAttrs_list PySem.F.slot_list_extend PySem.F.type_list_extend mt_extend (pe_var (pos := p) h.ix h.vis h.d1 h.d2) (pa_cons ha pa_nil (star_cons hs)) base_name (by simp [noStars, hs]) (by simp) hline
  refine ps_mono (ps_expr pe (sw_no rfl)) fun D σ H ⟨F, st, o, st', r, e, q⟩ => ?_
  simp only [exS, Option.bind_eq_some_iff] at e
  obtain ⟨m0, em0, qa, ea, d, ed, m, em, e⟩ := e
  obtain ⟨a0, h1, h2⟩ := lstAt_tyG (v := .non) r em0
  refine ⟨_, h1, h2, F, st, qa.1, qa.2, r, ea, fun v F1 H1 ra => ?_⟩
  split at e
  · rename_i ys
    split at e
    · rename_i hl
      cases e
      obtain ⟨b0, us, rfl, hb1, hb2⟩ := (ra.rel.rd ra.go.rel ed).list ra.go.rel.le
      obtain ⟨s, a1, vs, g1, g2', g3, g4, g5, g6⟩ := lstAt_ok ra.go.rel em
      rw [h1] at g4; cases g4
      have gp := ra.go.rel.put g1 g2' (g3 _) h1 (dpl_app g6 hb2)
      have hz : vs.length + us.length ≤ sizeLine := by
        have hs : sizeLine = 16777216 := sizeLine_eq
        have := dpl_len g6
        have := dpl_len hb2
        unfold lim at hl
        omega
      exact ⟨a0, b0, vs, us, rfl, rfl, g5, hb1, hz, q _ _ _ (ra.go.trans gp)⟩
    · cases e
  · cases e
theorem swS_no {e t : Expr} {l : Nat} {env : Env} (h : noComp e = true) : swapsWithSole [t] e l env = pure false := by
  unfold swapsWithSole
  exact sw_no h
theorem asg_sub {o i : Expr} {p : Pos} {env : Env} (hs : noSlice i = true) : ∀ v, assign (.Subscript o i p) env v = (do
      let ov ← holding [v] (eval o env)
      let iv ← holding [v, ov] (eval i env)
      standAt p
      holding [v, ov, iv] (setItem ov iv v)
      release [v, ov, iv] []) := by
  intro v
  cases i <;> first | rfl | cases hs
/-- o[i] = v: a list or a dict that is owned -/
def rSetO (K : PySem.W.Frag) : TSet := fun o i v H Q => ∃ F a d dk p d', o = .ref a ∧ Same F H ∧ OwnAt K F H a d ∧ RdR K F H i dk ∧ Dn K F v p ∧ putO d dk p = some d' ∧ ∀ o', OwnAt K F (upd H a o') a d' → Q (upd H a o')
theorem set_ok (hr : Room k X.A) : PSet X (rSetO X.K) := by
  intro pins s σ H o i v ov iv u Q I ro ri rv h
  obtain ⟨F, a, d, dk, p, d', rfl, le, ho, hk, hp, e, q⟩ := h
  unfold putO at e
  split at e
  · rename_i xs kn
    rw [Option.map_eq_some_iff] at e
    obtain ⟨j, ej, rfl⟩ := e
    obtain ⟨vs, h1, h2⟩ := ho
    obtain rfl := hk.int
    exact set_list pins s σ H _ _ v ov iv u Q I ro ri rv ⟨a, vs, kn, j, rfl, rfl, h1, by rw [dpl_len h2]; exact ej, q _ ⟨_, upd_same, dpl_set hp j h2⟩⟩
  · rename_i kvs x
    split at e
    · rename_i hl
      rw [Bool.and_eq_true, decide_eq_true_eq] at hl
      obtain ⟨okk, hl⟩ := hl
      obtain ⟨kk, ek⟩ := okKey_ok okk
      cases e
      obtain ⟨vs, h1, h2⟩ := ho
      obtain rfl := dn_key (hk.dn le) ek
      cases ro
      have hu : X.A.units + 1 < cLine := by
        have := hr.units
        omega
      have hz : vs.length < sizeLine := by
        have hs : sizeLine = 16777216 := sizeLine_eq
        have := dkv_len h2
        unfold lim at hl
        omega
      exact d_setItem hu I (DPut.k (v := v) h1 hz) ri rv fun s' I' => ⟨_, I', q _ ⟨_, upd_same, dkv_put ek hp h2⟩⟩
    · cases e
  · cases e
theorem ms_setI {x : Str} {i : Nat} {p sp : Pos} (hr : Room k X.A) (h : NameOk X.N X.env.scope x i) (hs : noSlice b = true) (hn : noComp a = true) (ha : PE X a (tE X.K C ma)) (hb : PE X b (tE X.K C mb)) :
    PS X (.Assign [.Subscript (.Name x p) b sp] a pos) (tS X.K C (.setI i mb ma)) := by
  refine ps_mono (ps_asg ha (pg_sub (pe_var h.ix h.vis h.d1 h.d2) hb (set_ok hr) (asg_sub hs)) (swS_no hn) rfl rfl) fun D σ H ⟨F, st, o, st', r, e, q⟩ => ?_
  simp only [exS, Option.bind_eq_some_iff, Option.map_eq_some_iff] at e
  obtain ⟨qa, ea, d, ed, p0, ep, m0, em0, qk, ek, kd, ekd, m, em, d', ed', e⟩ := e
  cases e
  refine ⟨F, st, qa.1, qa.2, r, ea, fun v F1 H1 ra => ?_⟩
  obtain ⟨F2, s1, g2, hd⟩ := keep_one ra.go (Same.refl _) ra.rel ra.fro ed
  obtain ⟨s0, a0, k1, k2, k3, k4, k5⟩ := objAt_ok g2.rel em0
  refine ⟨_, k4, F2, qa.2, qk.1, qk.2, g2.rel, ek, fun w F3 H3 rk => ?_⟩
  obtain ⟨s, a1, g1, g2', g3, g4, g5⟩ := objAt_ok rk.go.rel em
  rw [k4] at g4; cases g4
  cases d <;> cases ep
  exact ⟨F3, a0, _, kd, _, d', rfl, rk.go.rel.le, g5, rk.rel.rd rk.go.rel ekd, dp_same rk.go.stp.fr _ _ hd, ed', fun o' ho => q _ _ _ ((g2.trans rk.go).trans (rk.go.rel.putO g1 g2' (g3 _) k4 ho))⟩
theorem item_lst {m r : D} {ds : List PyData} (h : item m (.py (.list ds)) = some r) : False := by
  cases m with
  | py p => cases p <;> cases h
  | dct kvs =>
    have h : (if okKey kvs (.list ds) then (getK kvs (.list ds)).map D.py else none) = some r := h
    split at h
    · rename_i okk
      obtain ⟨kk, ek⟩ := okKey_ok okk
      cases ek
    · cases h
  | _ => cases h
/-- o[i]: a list or a dict that is owned -/
def rGetO (K : PySem.W.Frag) : V → V → Hp → VK → Prop := fun o i H Q => ∃ F a d dk r, o = .ref a ∧ Same F H ∧ OwnAt K F H a d ∧ RdR K F H i dk ∧ item d dk = some r ∧ ∀ v, Den K F v r → Q v H
theorem get_ok (hr : Room k X.A) : PGet X (rGetO X.K) := by
  intro pins s σ H o i ov iv Q I ro ri h
  obtain ⟨F, a, d, dk, r, rfl, le, ho, hk, e, q⟩ := h
  cases ro
  unfold item at e
  split at e
  · rename_i xs0 kn
    obtain ⟨vs, ha, h2⟩ := ho
    obtain rfl := hk.int
    rw [Option.bind_eq_some_iff] at e
    obtain ⟨j, e1, e2⟩ := e
    rw [Option.map_eq_some_iff] at e2
    obtain ⟨p, e3, rfl⟩ := e2
    obtain ⟨z, hz, dz⟩ := dpl_get h2 e3
    obtain ⟨t, rfl⟩ := ri
    have hsq : SqL X.K H a vs := .inl (.inl ha)
    obtain ⟨its, r, pl, hzz⟩ := I.list hsq
    obtain ⟨j, h1, h2', h3, h4, h5⟩ := atI_get (xs := vs) (v := z) (by unfold atI; rw [dpl_len h2, e1]; exact hz)
    obtain ⟨w, ew, rw'⟩ := r.get h2'
    have hl := r.length
    have hn := line63
    have fin : EP X pins σ Q w s := ⟨z, H, I, rw', q z dz⟩
    by_cases h0 : 0 ≤ kn
    · have hj : kn.toNat = j := by
        rw [seqIndex_of h0 h5] at h1
        exact Option.some.inj h1
      exact getItem_listL pl.isList h0 (by omega) (by rw [hj]; exact ew) fin
    · have hj : (kn + (its.toArray.size : Int)).toNat = j := by
        rw [seqIndex_neg (by omega) h4] at h1
        rw [List.size_toArray, ← hl]
        exact Option.some.inj h1
      exact wpAny_getItem_list_neg pl.isList (by omega) (by rw [List.size_toArray] <;> omega) (by omega) (by rw [hj]; simpa using ew) fin
  · exact ho.elim
  · exact ho.elim
  · rename_i kvs p
    split at e
    case isFalse => cases e
    rename_i okk
    obtain ⟨kk, ek⟩ := okKey_ok okk
    rw [Option.map_eq_some_iff] at e
    obtain ⟨p2, e3, rfl⟩ := e
    obtain ⟨vs, ha, h2⟩ := ho
    obtain rfl := dn_key (hk.dn le) ek
    obtain ⟨z, hz, dz⟩ := (dkv_get ek h2).1 p2 e3
    have g : DGet H a (kV kk) (some z) := by rw [← hz]; exact DGet.k ha
    have hu : X.A.units + 1 < cLine := by
      have := hr.units
      omega
    exact d_getItem hu I g ri fun w' s' I' rw' => ⟨z, H, I', rw', q z dz⟩
  · cases e
theorem aug_sub {i : Expr} (hs : noSlice i = true) : ∀ ov iv new, augStore i ov iv new = (do holding [new, ov, iv] (setItem ov iv new); release [new, ov, iv] []; pure .next) := by
  intro ov iv new
  cases i <;> first | rfl | cases hs
theorem ms_augI {x : Str} {i : Nat} {p sp : Pos} (hr : Room k X.A) (h : NameOk X.N X.env.scope x i) (hs : noSlice b = true) (hb : PE X b (tE X.K C mb)) (ha : PE X a (tE X.K C ma)) :
    PS X (.AugAssign (.Subscript (.Name x p) b sp) .Add a pos) (tS X.K C (.augI i mb ma)) := by
  refine ps_mono (ps_augS (pe_var h.ix h.vis h.d1 h.d2) hb (get_ok hr) ha ip_add (set_ok hr) (aug_sub hs)) fun D σ H ⟨F, st, o, st', r, e, q⟩ => ?_
  simp only [exS, Option.bind_eq_some_iff] at e
  obtain ⟨m0, em0, qk, ek, kd, ekd, m, em, e⟩ := e
  split at e
  · rename_i xx hit
    simp only [Option.bind_eq_some_iff] at e
    obtain ⟨qa, ea, d, ed, m2, em2, e⟩ := e
    split at e
    · rename_i kp y
      rw [Option.map_eq_some_iff] at e
      obtain ⟨d', ed', e⟩ := e
      cases e
      obtain ⟨s0, a0, k1, k2, k3, k4, k5⟩ := objAt_ok r em0
      refine ⟨_, k4, F, st, qk.1, qk.2, r, ek, fun w F1 H1 rk => ?_⟩
      obtain ⟨s, a1, g1, g2', g3, g4, g5⟩ := objAt_ok rk.go.rel em
      rw [k4] at g4; cases g4
      have hw := rk.rel.rd rk.go.rel ekd
      have hkd : Dn X.K F1 w kp := by
        rcases hw with hw | ⟨b0, _, hw⟩
        · exact hw
        · exfalso
          cases kp <;> first
            | exact hw.elim
            | exact item_lst hit
      refine ⟨F1, a0, m.1, _, _, rfl, rk.go.rel.le, g5, hw, hit, fun v0 hv0 => ?_⟩
      obtain rfl := RdR.int (H := H1) (.inl hv0)
      refine ⟨F1, qk.2, qa.1, qa.2, rk.go.rel, ea, fun u F2 H2 ra => ?_⟩
      obtain rfl := (ra.rel.rd ra.go.rel ed).int
      obtain ⟨s2, a2, l1, l2, l3, l4, l5⟩ := objAt_ok ra.go.rel em2
      rw [k4] at l4; cases l4
      exact ⟨_, _, rfl, rfl, F2, a0, _, Mi.D.py kp, _, d', rfl, ra.go.rel.le, l5, .inl (dp_same ra.go.stp.fr _ _ hkd), Dn.int _, ed', fun o' ho => q _ _ _ ((rk.go.trans ra.go).trans (ra.go.rel.putO l1 l2 (l3 _) k4 ho))⟩
    · cases e
  · cases e
/-- two tuples of names take a pair of tuples -/
theorem ms_asgTT {tg1 tg2 : Expr} {is js : List Nat} {tk : Nat} {tp : Pos} (hc : X.calm = true) (hN : X.N.Nodup) (h1 : TgOk X tg1 is false) (h2 : TgOk X tg2 js false) (hn : noComp a = true) (hw : swappedStores [.Tuple [tg1, tg2] tk tp] a X.env = pure none) (ha : PE X a (tE X.K C ma)) :
    PS X (.Assign [.Tuple [tg1, tg2] tk tp] a pos) (tS X.K C (.asgTT is js ma)) := by
  have w1 : ∃ es k p, tg1 = .Tuple es k p := by cases h1; exact ⟨_, _, _, rfl⟩
  have w2 : ∃ es k p, tg2 = .Tuple es k p := by cases h2; exact ⟨_, _, _, rfl⟩
  obtain ⟨es1, k1, p1, rfl⟩ := w1
  obtain ⟨es2, k2, p2, rfl⟩ := w2
  have pgs := pgs_cons (pg_T hc hN h1) (pgs_cons (pg_T hc hN h2) pgs_nil)
  refine ps_mono (ps_asg ha (pg_tup hc pgs) (swS_no hn) hw rfl) fun D σ H ⟨F, st, o, st', r, e, q⟩ => ?_
  simp only [exS, Option.bind_eq_some_iff] at e
  obtain ⟨qa, ea, d, ed, e⟩ := e
  refine ⟨F, st, qa.1, qa.2, r, ea, fun v F1 H1 ra => ?_⟩
  split at e
  · rename_i da db
    simp only [Option.bind_eq_some_iff, Option.map_eq_some_iff] at e
    obtain ⟨s1, e1, s2, e2, e⟩ := e
    cases e
    have z := ra.rel.rd ra.go.rel ed
    rcases z with z | ⟨_, _, z⟩
    · cases z with
      | tup g1 g2 =>
        cases g2 with
        | cons z1 g2 =>
          cases g2 with
          | cons z2 g2 =>
            cases g2
            exact ⟨_, _, rfl, (g1.same ra.go.rel.le).sq, rfl, _, _, rfl, F1, qa.2, da, s1, ra.go.rel, .inl z1, e1, fun σ1 ga _ => ⟨_, _, rfl, F1, s1, db, _, ga.rel, .inl z2, e2, fun σ2 gb _ => ⟨rfl, q _ _ _ ((ra.go.trans ga).trans gb)⟩⟩⟩
    · exact z.elim
  · cases e
/-- x[k], y[l] = a pair -/
theorem ms_asgSS {x y : Str} {i j : Nat} {l : Expr} {ml : Ex} {p sp yp yp2 tp : Pos} {tk : Nat} (hr : Room k X.A) (hc : X.calm = true) (h : NameOk X.N X.env.scope x i) (hy : NameOk X.N X.env.scope y j) (hs : noSlice b = true) (hs2 : noSlice l = true) (hn : noComp a = true) (hw : swappedStores [.Tuple [.Subscript (.Name x p) b sp, .Subscript (.Name y yp) l yp2] tk tp] a X.env = pure none)
    (ha : PE X a (tE X.K C ma)) (hb : PE X b (tE X.K C mb)) (hl : PE X l (tE X.K C ml)) :
    PS X (.Assign [.Tuple [.Subscript (.Name x p) b sp, .Subscript (.Name y yp) l yp2] tk tp] a pos) (tS X.K C (.asgSS i mb j ml ma)) := by
  have pgs := pgs_cons (X := X) (pg_sub (pos := sp) (pe_var (pos := p) h.ix h.vis h.d1 h.d2) hb (set_ok hr) (asg_sub hs)) (pgs_cons (pg_sub (pos := yp2) (pe_var (pos := yp) hy.ix hy.vis hy.d1 hy.d2) hl (set_ok hr) (asg_sub hs2)) pgs_nil)
  refine ps_mono (ps_asg ha (pg_tup hc pgs) (swS_no hn) hw rfl) fun D σ H ⟨F, st, o, st', r, e, q⟩ => ?_
  simp only [exS, Option.bind_eq_some_iff] at e
  obtain ⟨qa, ea, d, ed, e⟩ := e
  refine ⟨F, st, qa.1, qa.2, r, ea, fun v F1 H1 ra => ?_⟩
  split at e
  · rename_i da db
    simp only [Option.bind_eq_some_iff, Option.map_eq_some_iff] at e
    obtain ⟨m0, em0, qk, ek, kd, ekd, m, em, d1, ed1, n0, en0, ql, el, ld, eld, m2, em2, d2, ed2, e⟩ := e
    cases e
    have z := ra.rel.rd ra.go.rel ed
    rcases z with z | ⟨_, _, z⟩
    · cases z with
      | tup g1 g2 =>
        cases g2 with
        | cons z1 g2 =>
          cases g2 with
          | cons z2 g2 =>
            cases g2
            obtain ⟨s0, a0, c1, c2, c3, c4, c5⟩ := objAt_ok ra.go.rel em0
            refine ⟨_, _, rfl, (g1.same ra.go.rel.le).sq, rfl, _, _, rfl, _, c4, F1, qa.2, qk.1, qk.2, ra.go.rel, ek, fun w F3 H3 rk => ?_⟩
            obtain ⟨s, a1, t1, t2, t3, t4, t5⟩ := objAt_ok rk.go.rel em
            rw [c4] at t4; cases t4
            refine ⟨F3, a0, _, kd, da, d1, rfl, rk.go.rel.le, t5, rk.rel.rd rk.go.rel ekd, dp_same rk.go.stp.fr _ _ z1, ed1, fun o' ho => ?_⟩
            have gp := rk.go.rel.putO t1 t2 (t3 _) c4 ho
            obtain ⟨s5, a5, v1, v2, v3, v4, v5⟩ := objAt_ok gp.rel en0
            refine ⟨_, _, rfl, _, v4, F3, _, ql.1, ql.2, gp.rel, el, fun w2 F4 H4 rl => ?_⟩
            obtain ⟨s6, a6, u1, u2, u3, u4, u5⟩ := objAt_ok rl.go.rel em2
            rw [v4] at u4; cases u4
            exact ⟨F4, a5, _, ld, db, d2, rfl, rl.go.rel.le, u5, rl.rel.rd rl.go.rel eld, dp_same (rk.go.stp.fr.trans rl.go.stp.fr) _ _ z2, ed2, fun o2 ho2 => ⟨rfl, q _ _ _ ((((ra.go.trans rk.go).trans gp).trans rl.go).trans (rl.go.rel.putO u1 u2 (u3 _) v4 ho2))⟩⟩
    · exact z.elim
  · cases e
/-- x.setdefault(k, e), a statement -/
theorem ms_sdf {x : Str} {i : Nat} {p apos cpos : Pos} (h : NameOk X.N X.env.scope x i) (ha : PE X a (tE X.K C ma)) (hb : PE X b (tE X.K C mb)) (hs : noStar a = true) (hs2 : noStar b = true) (hline : (apos.endLine == cpos.line) = true) :
    PS X (.Expr (.Call (.Attribute (.Name x p) "setdefault" apos) [a, b] [] cpos) pos) (tS X.K C (.sdf i ma mb)) := by
  have m2 : M2 X (.Name x p) "setdefault" apos a b cpos := ⟨base_name, by rw [star_cons hs, star_cons hs2]; simp [starEach, keywordEach, backTo, backToKw], hline, by rw [star_cons hs, star_cons hs2]; rfl⟩
  have pe := pe_dsetd (X := X) (pe_var (pos := p) h.ix h.vis h.d1 h.d2) ha hb m2
  refine ps_mono (ps_expr pe (sw_no rfl)) fun D σ H ⟨F, st, o, st', r, e, q⟩ => ?_
  simp only [exS, Option.bind_eq_some_iff] at e
  obtain ⟨m0, em0, e⟩ := e
  split at e
  · rename_i hm
    simp only [Option.bind_eq_some_iff, Option.map_eq_some_iff] at e
    obtain ⟨qk, ek, kd, ekd, qe, ee, d, ed, p0, ep, m, em, d', ed', e⟩ := e
    cases e
    obtain ⟨s0, a0, k1, k2, k3, k4, k5⟩ := objAt_ok r em0
    have isd : IsD H a0 := by
      obtain ⟨d0, mk⟩ := m0
      cases d0 with
      | dct kvs =>
        obtain ⟨vs, h1, _⟩ := k5
        exact .inl ⟨vs, .inl h1⟩
      | _ => cases hm
    refine ⟨_, k4, a0, rfl, isd, F, st, qk.1, qk.2, r, ek, fun y F1 H1 rk => ⟨F1, qk.2, qe.1, qe.2, rk.go.rel, ee, fun v F2 H2 re => ?_⟩⟩
    obtain ⟨F3, s1, g2, hd⟩ := keep_one re.go (Same.refl _) re.rel re.fro ed
    obtain ⟨s, a1, g1, g2', g3, g4, g5⟩ := objAt_ok g2.rel em
    rw [k4] at g4; cases g4
    cases d <;> cases ep
    have hkey := (rk.rel.rd rk.go.rel ekd)
    obtain ⟨dm, mk⟩ := m
    change OwnAt X.K F3 H2 a0 dm at g5
    change sdfO dm kd _ = some d' at ed'
    unfold sdfO at ed'
    split at ed'
    · rename_i kvs x
      split at ed'
      · rename_i hl
        rw [Bool.and_eq_true, decide_eq_true_eq] at hl
        obtain ⟨okk, hl⟩ := hl
        obtain ⟨kk, ekk⟩ := okKey_ok okk
        cases ed'
        obtain ⟨vs, h1, h2⟩ := g5
        obtain rfl := dn_key (hkey.dn rk.go.rel.le) ekk
        have hz : vs.length < sizeLine := by
          have hs : sizeLine = 16777216 := sizeLine_eq
          have := dkv_len h2
          unfold lim at hl
          omega
        have gg := rk.go.trans g2
        refine ⟨vs, kk, h1, rfl, hz, fun v' hv' => ?_, fun hn => ?_⟩
        · have is := dkv_some ekk h2
          rw [hv'] at is
          have is' : (getK kvs x).isSome = true := is.symm
          have same : upd H2 a0 (.dK vs) = H2 := by
            funext b
            by_cases e : b = a0
            · subst e; rw [upd_same]; exact h1.symm
            · rw [upd_ne e]
          have gp := g2.rel.putO (o' := .dK vs) (d' := .dct kvs) g1 g2' (g3 _) k4 ⟨vs, upd_same, h2⟩
          rw [same] at gp
          rw [if_pos is'] at q
          exact q _ _ _ (gg.trans gp)
        · have is := dkv_some ekk h2
          rw [hn] at is
          have is' : ¬ (getK kvs x).isSome = true := by rw [← is]; exact Bool.false_ne_true
          have gp := g2.rel.putO (o' := .dK (putK vs kk v)) (d' := .dct (putKd kvs x _)) g1 g2' (g3 _) k4 ⟨_, upd_same, dkv_put ekk hd h2⟩
          rw [if_neg is'] at q
          exact q _ _ _ (gg.trans gp)
      · cases ed'
    · cases ed'
  · cases e
/-- x[k], y = a pair -/
theorem ms_divI {x y : Str} {i j : Nat} {kn : Int} {kk tk : Nat} {p sp tp kp yp : Pos} (hc : X.calm = true) (hN : X.N.Nodup) (h : NameOk X.N X.env.scope x i) (hy : StOk X y j) (hn : noComp a = true) (hw : swappedStores [.Tuple [.Subscript (.Name x p) (.Constant (.int kn) kk kp) sp, .Name y yp] tk tp] a X.env = pure none) (ha : PE X a (tE X.K C ma)) :
    PS X (.Assign [.Tuple [.Subscript (.Name x p) (.Constant (.int kn) kk kp) sp, .Name y yp] tk tp] a pos) (tS X.K C (.divI i kn j ma)) := by
  have pgs := pgs_cons (X := X) (pg_sub (pos := sp) (pe_var (pos := p) h.ix h.vis h.d1 h.d2) (pe_int (i := kn) (j := kk) (pos := kp)) set_list (asg_sub rfl)) (pgs_cons (pg_name (pos := yp) hN hy.ix hy.loc hy.fn) pgs_nil)
  refine ps_mono (ps_asg ha (pg_tup hc pgs) (swS_no hn) hw rfl) fun D σ H ⟨F, st, o, st', r, e, q⟩ => ?_
  simp only [exS, Option.bind_eq_some_iff] at e
  obtain ⟨qa, ea, d, ed, m, em, e⟩ := e
  refine ⟨F, st, qa.1, qa.2, r, ea, fun v F1 H1 ra => ?_⟩
  split at e
  · rename_i da db
    simp only [Option.map_eq_some_iff] at e
    obtain ⟨n, en, e⟩ := e
    cases e
    have z := ra.rel.rd ra.go.rel ed
    rcases z with z | ⟨_, _, z⟩
    · cases z with
      | tup h1 h2 =>
        cases h2 with
        | cons z1 h2 =>
          cases h2 with
          | cons z2 h2 =>
            cases h2
            obtain ⟨s, a1, vs, g1, g2', g3, g4, g5, g6⟩ := lstAt_ok ra.go.rel em
            have gp := ra.go.rel.put g1 g2' (g3 _) g4 (dpl_set z1 n g6)
            have gs := gp.rel.fr (v := _) (i := j) (s := .fr (.py db)) (.inr ⟨_, rfl, z2⟩)
            exact ⟨_, _, rfl, (h1.same ra.go.rel.le).sq, rfl, _, _, rfl, ⟨_, g4, a1, vs, kn, n, rfl, rfl, g5, by rw [dpl_len g6]; exact en, _, _, rfl, rfl, q _ _ _ ((ra.go.trans gp).trans gs)⟩⟩
    · exact z.elim
  · cases e
end

/-! ### several names at once -/
def isFe : Od → Bool
  | .fe _ => true
  | _ => false
/-- what was just made is made apart -/
def FeNd : List V → List Od → Prop
  | v :: vs, o :: os => (isFe o = true → ∀ q ∈ vs.zip os, isFe q.2 = true → q.1 ≠ v) ∧ FeNd vs os
  | _, _ => True
def tN (K : PySem.W.Frag) (C : Ct) (m : Exs) : TA := fun σ H Q => ∃ F st os st', Rel K F st σ H ∧ evs C m st = some (os, st') ∧ ∀ vs F' H', Go K st σ F H st' σ F' H' → ORs K st H F' H' st' σ vs os → FeNd vs os → Q vs H'
section
variable {K : PySem.W.Frag} {F H F0 H0 F1 H1 F2 H2 F' H' : Hp} {st st0 st1 st2 st' : En} {σ σ0 σ1 σ2 σ' : L2.St} {v : V} {od : Od} {d : D} {a : Addr} {i : Nat}
theorem ors_fro : ∀ {vs : List V} {os : List Od}, ORs K st0 H0 F H st σ vs os → ∀ q ∈ vs.zip os, ORel K F H st σ q.1 q.2 ∧ Fro st0 σ H0 q.1 q.2
  | _, _, .nil, q, h => by cases h
  | _, _, .cons h f t, q, hq => by
    rw [List.zip_cons_cons] at hq
    rcases List.mem_cons.mp hq with rfl | hq
    · exact ⟨h, f⟩
    · exact ors_fro t q hq
theorem storeOne {s : Sl} (g : Go K st0 σ0 F0 H0 st σ F H) (h : ORel K F H st σ v od) (f : Fro st0 σ0 H0 v od) (e : od.slot = some s) :
    Go K st0 σ0 F0 H0 (st.set i s) (σ.set i (some v)) F H ∧ ∀ b, Owns (st.set i s) (σ.set i (some v)) b → Owns st σ b ∨ (isFe od = true ∧ v = .ref b) := by
  have r := g.rel
  have own : ∀ b, Owns (st.set i s) (σ.set i (some v)) b → Owns st σ b ∨ (s.owned = true ∧ v = .ref b) := fun b ⟨j, u, h1, h2, h3⟩ => by
    rcases get_set h1 with ⟨e1, e2, hl⟩ | ⟨ne, h1⟩
    · subst e2
      rw [e1, List.getElem?_set_self (by rw [r.len]; exact hl)] at h3
      cases h3
      exact .inr ⟨h2, rfl⟩
    · rw [List.getElem?_set_ne (Ne.symm ne)] at h3
      exact .inl ⟨j, u, h1, h2, h3⟩
  cases od with
  | va d =>
    cases e
    refine ⟨g.trans (r.fr (.inr ⟨d, rfl, h⟩)), fun b hb => (own b hb).elim .inl fun z => ?_⟩
    cases z.1
  | fe d =>
    cases e
    obtain ⟨a, rfl, h1, h2, h3⟩ := h
    obtain ⟨a', e', h4⟩ := f
    cases e'
    exact ⟨Rel.ow g h1 h2 h3 h4, fun b hb => (own b hb).elim .inl fun z => .inr ⟨rfl, z.2⟩⟩
  | pk i => cases e
def setV (σ : L2.St) : List Nat → List V → L2.St
  | i :: is, v :: vs => setV (σ.set i (some v)) is vs
  | _, _ => σ
theorem storeAll : ∀ {is : List Nat} {vs : List V} {os : List Od} {ss : List Sl} {st : En} {σ : L2.St}, Go K st0 σ0 F0 H0 st σ F H → vs.length = os.length → (∀ q ∈ vs.zip os, ORel K F H st σ q.1 q.2 ∧ Fro st0 σ0 H0 q.1 q.2) → FeNd vs os → slots os = some ss → is.length = vs.length →
    Go K st0 σ0 F0 H0 (setSl st is ss) (setV σ is vs) F H
  | [], [], [], _, st, σ, g, _, _, _, e, _ => by cases e; exact g
  | i :: is, v :: vs, o :: os, ss, st, σ, g, hl, h, nd, e, hi => by
    simp only [slots, Option.bind_eq_some_iff, Option.map_eq_some_iff] at e
    obtain ⟨s, es, ss', es', rfl⟩ := e
    obtain ⟨h1, h2⟩ := h (v, o) (by rw [List.zip_cons_cons]; exact List.mem_cons_self ..)
    obtain ⟨g1, own⟩ := storeOne (i := i) g h1 h2 es
    refine storeAll (is := is) g1 (Nat.succ.inj hl) (fun q hq => ?_) nd.2 es' (Nat.succ.inj hi)
    obtain ⟨k1, k2⟩ := h q (by rw [List.zip_cons_cons]; exact List.mem_cons_of_mem _ hq)
    refine ⟨?_, k2⟩
    obtain ⟨w, o2⟩ := q
    cases o2 with
    | va d => exact k1
    | fe d =>
      obtain ⟨a, e, n1, n2, n3⟩ := k1
      refine ⟨a, e, n1, n2, fun z => (own a z).elim n3 fun z => ?_⟩
      exact nd.1 z.1 _ hq rfl (e.trans z.2.symm)
    | pk j =>
      exfalso
      have key : ∀ {vs : List V} {os : List Od} {ss : List Sl} {w : V}, slots os = some ss → (w, Od.pk j) ∈ vs.zip os → False := fun {vs} => by
        induction vs with
        | nil => intro os ss w _ h; simp at h
        | cons v vs ih =>
          intro os ss w e h
          cases os with
          | nil => simp at h
          | cons o os =>
            simp only [slots, Option.bind_eq_some_iff, Option.map_eq_some_iff] at e
            obtain ⟨s, es, ss', es', rfl⟩ := e
            rw [List.zip_cons_cons] at h
            rcases List.mem_cons.mp h with h | h
            · cases h; cases es
            · exact ih es' h
      exact key es' hq
end
section
variable {X : Cx} {e a b c : Expr} {es : List Expr} {pos : Pos} {C : Ct} {ma mb mc : Ex} {ms ms2 : Exs} {k : Nat}
theorem mn_nil : PA X [] (tN X.K C .nil) := pa_mono pa_nil fun σ H Q ⟨F, st, os, st', r, e, q⟩ => by
  cases e
  exact q _ _ _ (Go.refl r) .nil trivial
theorem mn_cons (hs : noStar e = true) (ha : PE X e (tE X.K C ma)) (hr : PA X es (tN X.K C ms)) : PA X (e :: es) (tN X.K C (.cons ma ms)) := pa_mono (pa_cons ha hr (star_cons hs)) fun σ H Q ⟨F, st, os, st', r, e, q⟩ => by
  simp only [evs, Option.bind_eq_some_iff, Option.map_eq_some_iff] at e
  obtain ⟨qa, ea, qr, er, e⟩ := e
  cases e
  refine ⟨F, st, qa.1, qa.2, r, ea, fun v F1 H1 ra => ⟨F1, qa.2, qr.1, qr.2, ra.go.rel, er, fun vs F2 H2 g2 rr nd => q _ _ _ (ra.go.trans g2) (.cons (ra.rel.step g2) ra.fro (rr.back ra.go)) ⟨fun hf p hp hp2 ep => ?_, nd⟩⟩⟩
  obtain ⟨w, o2⟩ := p
  obtain ⟨_, k2⟩ := ors_fro rr _ hp
  have ep : w = v := ep
  subst ep
  have r1 := ra.rel
  cases hq : qa.1 with
  | fe d =>
    rw [hq] at r1
    obtain ⟨a, e1, n1, n2, n3⟩ := r1
    cases o2 with
    | fe d2 =>
      obtain ⟨a', e2, k⟩ := k2
      rw [show w = V.ref a from e1] at e2
      cases e2
      rcases k with k | k
      · exact n3 k
      · exact n2.live k
    | _ => cases hp2
  | _ => rw [hq] at hf; cases hf
theorem ma_of_mn (h : PA X es (tN X.K C ms)) : PA X es (tA X.K C ms) := pa_mono h fun σ H Q ⟨F, st, os, st', r, e, q⟩ => ⟨F, st, os, st', r, e, fun vs F' H' g rr _ => q vs F' H' g rr⟩
theorem mset {D : Ends} {σ : L2.St} {H : Hp} {is : List Nat} (h : tS X.K C (.par is ms) D σ H) : tN X.K C ms σ H fun vs H1 => vs.length = is.length ∧ D.nx (setV σ is vs) H1 := by
  obtain ⟨F, st, o, st', r, e, q⟩ := h
  simp only [exS, Option.bind_eq_some_iff] at e
  obtain ⟨qa, ea, ss, es, e⟩ := e
  refine ⟨F, st, qa.1, qa.2, r, ea, fun vs F1 H1 g rr nd => ?_⟩
  split at e
  · rename_i hl
    cases e
    have sl : ∀ {os : List Od} {ss : List Sl}, slots os = some ss → ss.length = os.length := fun {os} => by
      induction os with
      | nil => intro ss e; cases e; rfl
      | cons o os ih =>
        intro ss e
        simp only [slots, Option.bind_eq_some_iff, Option.map_eq_some_iff] at e
        obtain ⟨s, _, ss', es', rfl⟩ := e
        exact congrArg Nat.succ (ih es')
    have l1 : vs.length = is.length := by rw [rr.len, ← sl es, hl]
    exact ⟨l1, q _ _ _ (storeAll g rr.len (ors_fro rr) nd es l1.symm)⟩
  · cases e
theorem ms_par2 {i j : Nat} {x y : Str} {px py pt pt2 : Pos} {kt k2 : Nat} (hc : X.calm = true) (hN : X.N.Nodup) (hi : X.N[i]? = some x) (hj : X.N[j]? = some y) (hij : i ≠ j) (hx : X.env.scope.names.lookup x = some .local) (hy : X.env.scope.names.lookup y = some .local)
    (ha : PA X [a, b] (tN X.K C ms)) (hw : swappedStores [.Tuple [.Name x px, .Name y py] kt pt] (.Tuple [a, b] k2 pt2) X.env = pure (some [x, y])) :
    PS X (.Assign [.Tuple [.Name x px, .Name y py] kt pt] (.Tuple [a, b] k2 pt2) pos) (tS X.K C (.par [i, j] ms)) := by
  refine ps_mono (ps_par hc hN hi hj hij hx hy ha hw) fun D σ H h => ?_
  obtain ⟨F, st, os, st', r, e, q⟩ := mset h
  refine ⟨F, st, os, st', r, e, fun vs F1 H1 g rr nd => ?_⟩
  obtain ⟨l, q⟩ := q vs F1 H1 g rr nd
  match vs, l, q with
  | [v, w], _, q => exact ⟨v, w, rfl, q⟩
theorem ms_par3 {i j l : Nat} {x y z : Str} {px py pz pt pt2 : Pos} {kt k2 : Nat} (hc : X.calm = true) (hN : X.N.Nodup) (hi : X.N[i]? = some x) (hj : X.N[j]? = some y) (hl : X.N[l]? = some z) (hij : i ≠ j) (hil : i ≠ l) (hjl : j ≠ l)
    (hx : X.env.scope.names.lookup x = some .local) (hy : X.env.scope.names.lookup y = some .local) (hz : X.env.scope.names.lookup z = some .local)
    (ha : PA X [a, b, c] (tN X.K C ms)) (hw : swappedStores [.Tuple [.Name x px, .Name y py, .Name z pz] kt pt] (.Tuple [a, b, c] k2 pt2) X.env = pure (some [x, y, z])) :
    PS X (.Assign [.Tuple [.Name x px, .Name y py, .Name z pz] kt pt] (.Tuple [a, b, c] k2 pt2) pos) (tS X.K C (.par [i, j, l] ms)) := by
  refine ps_mono (ps_par3 hc hN hi hj hl hij hil hjl hx hy hz ha hw) fun D σ H h => ?_
  obtain ⟨F, st, os, st', r, e, q⟩ := mset h
  refine ⟨F, st, os, st', r, e, fun vs F1 H1 g rr nd => ?_⟩
  obtain ⟨l, q⟩ := q vs F1 H1 g rr nd
  match vs, l, q with
  | [v, w, u], _, q => exact ⟨v, w, u, rfl, q⟩
end
/-! ### several names at once, by way of a pair -/
theorem gNs_set {Q : L2.St → Hp → Prop} : ∀ {is : List Nat} {vs : List V} {σ : L2.St} {H : Hp}, vs.length = is.length → Q (setV σ is vs) H → gNs is vs σ H Q
  | [], [], _, _, _, q => ⟨rfl, q⟩
  | i :: is, v :: vs, σ, H, hl, q => ⟨v, vs, rfl, gNs_set (is := is) (vs := vs) (σ := σ.set i (some v)) (Nat.succ.inj hl) q⟩
theorem New.tmp {K : PySem.W.Frag} {F H : Hp} {T : Addr} {u : HO} (le : Same F H) (h1 : H T = none) : New F H F (upd H T u) := by
  refine ⟨Same.refl F, fun a o h => ?_, fun a o h => ?_, fun a h => .inl h⟩
  · rw [upd_ne (ne_of_none h h1)]; exact h
  · rw [upd_ne (ne_of_none (le a o h) h1)]; exact le a o h
theorem ms_parT {X : Cx} {C : Ct} {ts es : List Expr} {is : List Nat} {ms : Exs} {kt k2 : Nat} {pt pt2 pos : Pos} (hc : X.calm = true) (hN : X.N.Nodup) (ht : StsOk X ts is) (ha : PA X es (tN X.K C ms)) (few : is.length < 100) (hw : swappedStores [.Tuple ts kt pt] (.Tuple es k2 pt2) X.env = pure none) :
    PS X (.Assign [.Tuple ts kt pt] (.Tuple es k2 pt2) pos) (tS X.K C (.par is ms)) := by
  obtain ⟨h1, h2⟩ := sts_each (env := X.env) ht
  refine ps_mono (ps_asg (pe_tup ha) (pg_tup hc (pgs_ns hN ht) h1 h2) (swS_no rfl) hw rfl) fun D σ H ⟨F, st, o, st', r, e, q⟩ => ?_
  simp only [exS, Option.bind_eq_some_iff] at e
  obtain ⟨qa, ea, ss, es', e⟩ := e
  refine ⟨F, st, qa.1, qa.2, r, ea, fun vs F1 H1 g rr nd => ?_⟩
  split at e
  · rename_i hl
    cases e
    have sl : ∀ {os : List Od} {ss : List Sl}, slots os = some ss → ss.length = os.length := fun {os} => by
      induction os with
      | nil => intro ss e; cases e; rfl
      | cons o os ih =>
        intro ss e
        simp only [slots, Option.bind_eq_some_iff, Option.map_eq_some_iff] at e
        obtain ⟨s, _, ss', es2, rfl⟩ := e
        exact congrArg Nat.succ (ih es2)
    have l1 : vs.length = is.length := by rw [rr.len, ← sl es', hl]
    have z : vs.length ≤ sizeLine := by
      have hs : sizeLine = 16777216 := sizeLine_eq
      omega
    refine ⟨z, fun T hT => ⟨T, vs, rfl, .inl (.inl upd_same), l1, gNs_set l1 ?_⟩⟩
    have nw := New.tmp (K := X.K) (u := .tup vs) g.rel.le hT
    have gn := nw.go g.rel
    have rr2 := rr.step gn
    exact q _ _ _ (storeAll (g.trans gn) rr.len (ors_fro rr2) nd es' l1.symm)
  · cases e
end Mi
end
section
/-! Mi16: loops. -/
namespace Mi
open PySem PySem.Spec
open PyProof.Rows hiding St Fr
open L2

/-- what a loop walks, as data -/
def WalkD (K : PySem.W.Frag) (F : Hp) (J : It) (one : Bool) (xs : List PyData) : Prop := ∃ (G : Hp → Prop) (Y : Nat → Hp → V → Hp → Prop), Walk J xs.length G Y ∧ (∀ F' H, Same F F' → Same F' H → G H) ∧
  ∀ i F' x H H', i < xs.length → Same F F' → Same F' H → Y i H x H' → ∃ p, xs[i]? = some p ∧ New F' H F' H' ∧ DnW K F' H' one x p
def tI (K : PySem.W.Frag) (C : Ct) (one : Bool) (m : I) : TI := fun σ H R => ∃ F st xs st', Rel K F st σ H ∧ evI C m st = some (xs, st') ∧ ∀ J F' H', Go K st σ F H st' σ F' H' → WalkD K F' J one xs → R J H'
section
variable {X : Cx} {e a b c : Expr} {es : List Expr} {pos : Pos} {C : Ct} {ma mb mc : Ex} {ms ms2 : Exs} {k : Nat} {st : Stmt} {rest sts sts2 : List Stmt} {s : S} {ss ss2 : Ss} {m : T} {it : I}
theorem ms_while (hp : PassesOwn (model X.prog X.w) X.A X.env X.xe) (hc : PT X c (tT X.K C m)) (hb : PSs X sts (tSs X.K C ss)) : PS X (.While c sts [] pos) (tS X.K C (.whl m ss)) := ps_mono (ps_while hp hc hb) fun D σ H ⟨F, st, o, st', r, e, q⟩ => by
  refine ⟨fun n σ1 H1 => ∃ F1 st1, Go X.K st σ F H st1 σ1 F1 H1 ∧ whL (evT C m) (exs C ss) n st1 = some (o, st'), ⟨C.fuel, F, st, Go.refl r, e⟩, fun n σ1 H1 ⟨F1, st1, g1, e1⟩ => ?_⟩
  cases n with
  | zero => cases e1
  | succ n =>
    simp only [whL, Option.bind_eq_some_iff] at e1
    obtain ⟨qc, ec, e1⟩ := e1
    refine ⟨F1, st1, qc.1, qc.2, g1.rel, ec, fun F2 H2 g2 => ?_⟩
    cases h : qc.1 with
    | false =>
      rw [h, if_neg Bool.false_ne_true] at e1
      cases e1
      exact iteF (q _ _ _ (g1.trans g2))
    | true =>
      rw [h, if_pos rfl, Option.bind_eq_some_iff] at e1
      obtain ⟨⟨o1, st2⟩, e2, e1⟩ := e1
      refine iteT ⟨_, fun σ' H' hN => ⟨n, Nat.lt_succ_self n, hN⟩, F2, qc.2, o1, st2, g2.rel, e2, fun σ3 F3 H3 g3 => ?_⟩
      have g := (g1.trans g2).trans g3
      cases o1 with
      | nx => exact ⟨F3, st2, g, e1⟩
      | cont => exact ⟨F3, st2, g, e1⟩
      | brk => cases e1; exact q _ _ _ g
      | rt d b => cases e1; exact EndR.back (g1.trans g2) (q _ _ _ g)
theorem pi_mono {X : Cx} {tg iter : Expr} {wi wi' : TI} (h : PI X tg iter wi) (w : ∀ σ H R, wi' σ H R → wi σ H R) : PI X tg iter wi' := ⟨fun pins s σ H R I q => h.run pins s σ H R I (w σ H R q)⟩
theorem foldS {e : Expr} {env : Env} (h : noSet e = true) : ∀ x, foldedSetIterable e env x = pure x := by
  intro x
  cases e <;> first | rfl | cases h
theorem ms_for {tg iter : Expr} {is : List Nat} {one : Bool} (hp : PassesOwn (model X.prog X.w) X.A X.env X.xe) (hc : X.calm = true) (hN : X.N.Nodup) (ht : TgOk X tg is one) (hi : PI X tg iter (tI X.K C one it)) (hs : noSet iter = true) (hb : PSs X sts (tSs X.K C ss)) :
    PS X (.For tg iter sts [] pos) (tS X.K C (.fr is one it ss)) := ps_mono (ps_for hp hc hi (pg_T hc hN ht) hb (foldS hs)) fun D σ H ⟨F, st, o, st', r, e, q⟩ => by
  simp only [exS, Option.bind_eq_some_iff] at e
  obtain ⟨qi, ei, e⟩ := e
  refine ⟨F, st, qi.1, qi.2, r, ei, fun J F1 H1 g1 ⟨G, Y, w, hG, hY⟩ => ?_⟩
  refine for_it w (fun i σ' H' => ∃ Fi sti, Go X.K qi.2 σ F1 H1 sti σ' Fi H' ∧ frL (fun x s => (bindT is one x s).bind (exs C ss)) (qi.1.drop i) sti = some (o, st')) ⟨F1, qi.2, Go.refl g1.rel, e⟩ (fun i σ' H' _ ⟨Fi, sti, g, _⟩ => hG Fi H' g.stp.fr g.rel.le) (fun i x σ' H' H2 hlt ⟨Fi, sti, g, ef⟩ hy => ?_) (fun σ' H' ⟨Fi, sti, g, ef⟩ => ?_)
  · obtain ⟨p, hp, nw, hd⟩ := hY i Fi x H' H2 hlt g.stp.fr g.rel.le hy
    have ed : qi.1.drop i = p :: qi.1.drop (i + 1) := by
      rw [List.drop_eq_getElem_cons hlt]
      rw [List.getElem?_eq_getElem hlt] at hp
      cases hp
      rfl
    rw [ed] at ef
    simp only [frL, Option.bind_eq_some_iff] at ef
    obtain ⟨⟨o1, s3⟩, ⟨s2, eb, ex⟩, ef⟩ := ef
    have gn := nw.go g.rel
    refine ⟨Fi, sti, p, s2, gn.rel, hd, eb, fun σ3 g3 _ => ⟨Fi, s2, o1, s3, g3.rel, ex, fun σ4 F4 H4 g4 => ?_⟩⟩
    have gg := ((g.trans gn).trans g3).trans g4
    cases o1 with
    | nx => exact ⟨F4, s3, gg, ef⟩
    | cont => exact ⟨F4, s3, gg, ef⟩
    | brk => cases ef; exact q _ _ _ (g1.trans gg)
    | rt d b => cases ef; exact EndR.back (((g1.trans g).trans gn).trans g3) (q _ _ _ (g1.trans gg))
  · rw [List.drop_length] at ef
    cases ef
    exact q _ _ _ (g1.trans g)
/-! ### what is walked -/
theorem walkD_list {K : PySem.W.Frag} {F : Hp} {p : Addr} {vs : List V} {xs : List PyData} {one : Bool} (h : F p = some (.lst vs)) (hd : DnAll K F vs xs) : WalkD K F (Itl K p) one xs := by
  refine ⟨fun H => SqL K H p vs, _, by rw [← dpl_len hd]; exact walk_list (K := K) (a := p) (xs := vs), fun F' H s1 s2 => .inl (.inl (s2 _ _ (s1 _ _ h))), fun i F' x H H' hi s1 s2 hy => ?_⟩
  obtain ⟨rfl, hy⟩ := hy
  obtain ⟨q, h1, h2⟩ := dpl_get' hd hy
  exact ⟨q, h1, New.refl s2, .inl (dp_same s1 _ _ h2)⟩
theorem walkD_tup {K : PySem.W.Frag} {F : Hp} {p : Addr} {vs : List V} {xs : List PyData} {one : Bool} (h : Tp K F p vs) (hd : DnAll K F vs xs) : WalkD K F (Itt K p) one xs := by
  refine ⟨fun H => SqT K H p vs, _, by rw [← dpl_len hd]; exact walk_tup (K := K) (a := p) (xs := vs), fun F' H s1 s2 => ((h.same s1).same s2).sq, fun i F' x H H' hi s1 s2 hy => ?_⟩
  obtain ⟨rfl, hy⟩ := hy
  obtain ⟨q, h1, h2⟩ := dpl_get' hd hy
  exact ⟨q, h1, New.refl s2, .inl (dp_same s1 _ _ h2)⟩
theorem rngL_len (lo : Int) (n : Nat) : (rngL lo n).length = n := by unfold rngL; rw [List.length_map, List.length_range]
theorem walkD_rng {K : PySem.W.Frag} {F : Hp} {lo : Int} {n : Nat} {one : Bool} : WalkD K F (Itr lo n) one (rngL lo n) := by
  refine ⟨_, _, by rw [rngL_len]; exact walk_range (lo := lo) (n := n), fun _ _ _ _ => trivial, fun i F' x H H' hi s1 s2 hy => ?_⟩
  obtain ⟨rfl, rfl⟩ := hy
  rw [rngL_len] at hi
  refine ⟨.int (lo + i), ?_, New.refl s2, .inl (Dn.int _)⟩
  unfold rngL
  rw [List.getElem?_map, List.getElem?_range hi] <;> rfl
theorem mi_v {tg : Expr} {one : Bool} (ha : PE X a (tE X.K C ma)) : PI X tg a (tI X.K C one (.v ma)) := ⟨fun pins s σ H R I ⟨F, st, xs, st', r, e, q⟩ => by
  simp only [evI, Option.bind_eq_some_iff] at e
  obtain ⟨qa, ea, d, ed, e⟩ := e
  split at e
  · rename_i ys
    cases e
    refine (pi_list ha).run pins s σ H R I ⟨F, st, qa.1, qa.2, r, ea, fun v F1 H1 ra => ?_⟩
    obtain ⟨F2, s1, g2, hd⟩ := keep_one ra.go (Same.refl _) ra.rel ra.fro ed
    cases hd with
    | lst h1 h2 => exact ⟨_, rfl, ⟨_, .inl (.inl (g2.rel.le _ _ h1))⟩, q _ F2 _ g2 (walkD_list h1 h2)⟩
  · rename_i ys
    cases e
    refine (pi_tup ha).run pins s σ H R I ⟨F, st, qa.1, qa.2, r, ea, fun v F1 H1 ra => ?_⟩
    obtain ⟨F2, s1, g2, hd⟩ := keep_one ra.go (Same.refl _) ra.rel ra.fro ed
    cases hd with
    | tup h1 h2 => exact ⟨_, rfl, ⟨_, (h1.same g2.rel.le).sq⟩, q _ F2 _ g2 (walkD_tup h1 h2)⟩
  · cases e⟩
theorem okR_lim {i : Int} (h : okR i = true) : -(2 ^ 62) ≤ i ∧ i < 2 ^ 62 := by
  unfold okR at h
  simp only [Bool.and_eq_true, decide_eq_true_eq] at h
  omega
theorem evs_one {st : En} {q : List Od × En} (h : evs C ms st = some q) : True := trivial
theorem mi_rng1 {tg : Expr} {one : Bool} {p : Pos} (gl : Gl X "range") (hm : X.mg "range" = none) (hs : noStar a = true) (ha : PA X [a] (tA X.K C ms)) (hl : ∀ st os st', evs C ms st = some (os, st') → os.length = 1) : PI X tg (.Call (.Name "range" p) [a] [] pos) (tI X.K C one (.rng ms)) :=
  pi_mono (pi_range1 gl hm ha (star_cons hs)) fun σ H R ⟨F, st, xs, st', r, e, q⟩ => by
    simp only [evI, Option.bind_eq_some_iff, Option.map_eq_some_iff] at e
    obtain ⟨qa, ea, ds, ed, ys, ey, e⟩ := e
    cases e
    refine ⟨F, st, qa.1, qa.2, r, ea, fun vs F1 H1 g rr => ?_⟩
    have n1 := rr.len.trans (hl _ _ _ ea)
    have rd := rr.rds g.rel ed
    match vs, rd, n1 with
    | [v], .cons h1 .nil, _ =>
      unfold rngD at ey
      split at ey
      · rename_i j hz
        cases hz
        split at ey
        · rename_i ok
          cases ey
          obtain rfl := h1.int
          exact ⟨_, rfl, (okR_lim ok).1, (okR_lim ok).2, q _ F1 _ g walkD_rng⟩
        · cases ey
      · rename_i hz; cases hz
      · rename_i hz; cases hz
      · cases ey
theorem mi_rng2 {tg : Expr} {one : Bool} {p : Pos} (gl : Gl X "range") (hm : X.mg "range" = none) (hs : noStar a = true) (hs2 : noStar b = true) (ha : PA X [a, b] (tA X.K C ms)) (hl : ∀ st os st', evs C ms st = some (os, st') → os.length = 2) : PI X tg (.Call (.Name "range" p) [a, b] [] pos) (tI X.K C one (.rng ms)) :=
  pi_mono (pi_range2 gl hm ha (by rw [star_cons hs, star_cons hs2] <;> rfl) (star_cons hs2)) fun σ H R ⟨F, st, xs, st', r, e, q⟩ => by
    simp only [evI, Option.bind_eq_some_iff, Option.map_eq_some_iff] at e
    obtain ⟨qa, ea, ds, ed, ys, ey, e⟩ := e
    cases e
    refine ⟨F, st, qa.1, qa.2, r, ea, fun vs F1 H1 g rr => ?_⟩
    have n1 := rr.len.trans (hl _ _ _ ea)
    have rd := rr.rds g.rel ed
    match vs, rd, n1 with
    | [v, w], .cons h1 (.cons h2 .nil), _ =>
      unfold rngD at ey
      split at ey
      · rename_i hz; cases hz
      · rename_i i j hz
        cases hz
        split at ey
        · rename_i ok
          cases ey
          rw [Bool.and_eq_true] at ok
          obtain rfl := h1.int
          obtain rfl := h2.int
          exact ⟨_, _, rfl, ⟨(okR_lim ok.1).1, (okR_lim ok.1).2, (okR_lim ok.2).1, (okR_lim ok.2).2⟩, q _ F1 _ g walkD_rng⟩
        · cases ey
      · rename_i hz; cases hz
      · cases ey
theorem rngC_len (lo c : Int) (n : Nat) : (rngC lo c n).length = n := by unfold rngC; rw [List.length_map, List.length_range]
theorem walkD_rngC {K : PySem.W.Frag} {F : Hp} {lo c : Int} {n : Nat} {one : Bool} : WalkD K F (Itc lo c n) one (rngC lo c n) := by
  refine ⟨_, _, by rw [rngC_len]; exact walk_rangeC (lo := lo) (c := c) (n := n), fun _ _ _ _ => trivial, fun i F' x H H' hi s1 s2 hy => ?_⟩
  obtain ⟨rfl, rfl⟩ := hy
  rw [rngC_len] at hi
  refine ⟨.int (lo + i * c), ?_, New.refl s2, .inl (Dn.int _)⟩
  unfold rngC
  rw [List.getElem?_map, List.getElem?_range hi] <;> rfl
theorem mi_rng3 {tg : Expr} {one : Bool} {p : Pos} (gl : Gl X "range") (hm : X.mg "range" = none) (hs : noStar a = true) (hs2 : noStar b = true) (hs3 : noStar c = true) (ha : PA X [a, b, c] (tA X.K C ms)) (hl : ∀ st os st', evs C ms st = some (os, st') → os.length = 3) : PI X tg (.Call (.Name "range" p) [a, b, c] [] pos) (tI X.K C one (.rng ms)) :=
  pi_mono (pi_range3 gl hm ha (by rw [star_cons hs, star_cons hs2, star_cons hs3] <;> rfl) (stars_any (by show (noStar b && (noStar c && true)) = true; rw [hs2, hs3] <;> rfl))) fun σ H R ⟨F, st, xs, st', r, e, q⟩ => by
    simp only [evI, Option.bind_eq_some_iff, Option.map_eq_some_iff] at e
    obtain ⟨qa, ea, ds, ed, ys, ey, e⟩ := e
    cases e
    refine ⟨F, st, qa.1, qa.2, r, ea, fun vs F1 H1 g rr => ?_⟩
    have hl := hl _ _ _ ea
    have rd := rr.rds g.rel ed
    rcases rng_one ey with ⟨n, h1, _⟩ | ⟨_, _, h1, _⟩ | ⟨i, j, k, h1, h2, h3, h4, h5, h6, h7⟩
    · subst h1
      exact absurd hl (fun hl => by have := rds_len ed; rw [hl] at this; cases this)
    · subst h1
      exact absurd hl (fun hl => by have := rds_len ed; rw [hl] at this; cases this)
    · subst h1
      match vs, rd with
      | [v, w, u], .cons k1 (.cons k2 (.cons k3 .nil)) =>
        obtain rfl := k1.int
        obtain rfl := k2.int
        obtain rfl := k3.int
        have hk := okR_ok h4
        have rn := RgN.of h2 h3 h6
        exact ⟨i, j, k, _, rfl, ⟨h5, by omega, h6, rn.2.1⟩, q _ F1 _ g (by rw [h7]; exact walkD_rngC)⟩
theorem enuL_len : ∀ (k : Nat) (xs : List PyData), (enuL k xs).length = xs.length
  | _, [] => rfl
  | k, _ :: xs => congrArg Nat.succ (enuL_len (k + 1) xs)
theorem enuL_get : ∀ (xs : List PyData) (k i : Nat) (p : PyData), xs[i]? = some p → (enuL k xs)[i]? = some (.tuple [.int ((k + i : Nat) : Int), p])
  | [], _, i, p, h => by simp at h
  | x :: xs, k, 0, p, h => by simp at h; subst h; rfl
  | x :: xs, k, i + 1, p, h => by
    have := enuL_get xs (k + 1) i p (by simpa using h)
    show (enuL (k + 1) xs)[i]? = _
    rw [this, show k + 1 + i = k + (i + 1) by omega]
theorem zipL_len : ∀ (xs ys : List PyData), (zipL xs ys).length = min xs.length ys.length
  | [], ys => by simp [zipL]
  | _ :: _, [] => by simp [zipL]
  | x :: xs, y :: ys => by simp [zipL, zipL_len xs ys]
theorem zipL_get : ∀ (xs ys : List PyData) (i : Nat) (p q : PyData), xs[i]? = some p → ys[i]? = some q → (zipL xs ys)[i]? = some (.tuple [p, q])
  | [], _, i, p, q, h, _ => by simp at h
  | _ :: _, [], i, p, q, _, h => by simp at h
  | x :: xs, y :: ys, 0, p, q, h, h2 => by simp at h h2; subst h h2; rfl
  | x :: xs, y :: ys, i + 1, p, q, h, h2 => by
    have := zipL_get xs ys i p q (by simpa using h) (by simpa using h2)
    exact this
theorem pair_new {K : PySem.W.Frag} {F H H' : Hp} {T : Addr} {x y : V} {p q : PyData} (le : Same F H) (h1 : H T = none) (h2 : H' = upd H T (.tup [x, y])) (hx : Dn K F x p) (hy : Dn K F y q) : New F H F H' ∧ DnW K F H' false (.ref T) (.tuple [p, q]) := by
  subst h2
  refine ⟨⟨Same.refl F, fun a o h => ?_, fun a o h => ?_, fun a h => .inl h⟩, .inr ⟨rfl, T, [x, y], [p, q], rfl, .inl ⟨rfl, upd_same⟩, .cons hx (.cons hy .nil)⟩⟩
  · rw [upd_ne (ne_of_none h h1)]; exact h
  · rw [upd_ne (ne_of_none (le a o h) h1)]; exact le a o h
theorem mi_enu {p tp : Pos} {elts : List Expr} {kk : Nat} (gl : Gl X "enumerate") (hm : X.mg "enumerate" = none) (hs : noStar a = true) (ha : PA X [a] (tA X.K C ms)) : PI X (.Tuple elts kk tp) (.Call (.Name "enumerate" p) [a] [] pos) (tI X.K C false (.enu ms)) :=
  ⟨fun pins s σ H R I ⟨F, st, xs, st', r, e, q⟩ => by
    simp only [evI, Option.bind_eq_some_iff] at e
    obtain ⟨qa, ea, ds, ed, e⟩ := e
    have main : ∀ (J : It) (us : List V) (ys : List PyData) (F2 : Hp) (G : Hp → Prop), Walk J us.length G (YPair (fun i => some (.int (i : Nat))) (fun i => us[i]?)) → DnAll X.K F2 us ys → (∀ F' H, Same F2 F' → Same F' H → G H) → WalkD X.K F2 J false (enuL 0 ys) := by
      intro J us ys F2 G w h2 hG
      refine ⟨_, _, by rw [enuL_len, ← dpl_len h2]; exact w, hG, fun i F' x H H' hi s1 s2 hy => ?_⟩
      obtain ⟨T, x1, y1, rfl, k1, k2, k3, k4⟩ := hy
      cases k3
      obtain ⟨pv, j1, j2⟩ := dpl_get' h2 k4
      obtain ⟨n1, n2⟩ := pair_new s2 k1 k2 (Dn.int (i : Int)) (dp_same s1 _ _ j2)
      exact ⟨_, by rw [enuL_get _ _ _ _ j1, Nat.zero_add], n1, n2⟩
    split at e
    · rename_i ys
      cases e
      refine (pi_enum gl hm ha (star_cons hs)).run pins s σ H R I ⟨F, st, qa.1, qa.2, r, ea, fun vs F1 H1 g rr => ?_⟩
      obtain ⟨F2, s1, g2, hd⟩ := keep_all (fun {_ _ _} => trivial) rr ed (Same.refl _) g
      cases hd with
      | cons hd hn =>
        cases hn
        cases hd with
        | @lst a us _ h1 h2 =>
          exact ⟨a, us, rfl, .inl (.inl (g2.rel.le _ _ h1)), q _ F2 _ g2 (main _ us ys F2 _ (walk_enum (K := X.K) (a := a)) h2 fun F' H s1 s2 => .inl (.inl (s2 _ _ (s1 _ _ h1))))⟩
    · rename_i ys
      cases e
      refine (pi_enuT gl hm ha (star_cons hs)).run pins s σ H R I ⟨F, st, qa.1, qa.2, r, ea, fun vs F1 H1 g rr => ?_⟩
      obtain ⟨F2, s1, g2, hd⟩ := keep_all (fun {_ _ _} => trivial) rr ed (Same.refl _) g
      cases hd with
      | cons hd hn =>
        cases hn
        cases hd with
        | @tup a us _ h1 h2 =>
          exact ⟨a, us, rfl, (h1.same g2.rel.le).sq, q _ F2 _ g2 (main _ us ys F2 _ (walk_enuT (K := X.K) (a := a)) h2 fun F' H s1 s2 => ((h1.same s1).same s2).sq)⟩
    · cases e⟩
theorem walk_zT {K : PySem.W.Frag} {a b : Addr} {xs ys : List V} {n : Nat} (hn : n = min xs.length ys.length) : Walk (RZ.ItzT K a b) n (fun H => SqT K H a xs ∧ SqT K H b ys) (YPair (fun i => xs[i]?) (fun i => ys[i]?)) := by
  subst hn
  constructor
  · intro i H hi q
    have l1 : i < xs.length := by omega
    have l2 : i < ys.length := by omega
    exact ⟨xs, ys, xs[i], ys[i], q.1, q.2, by simp [l1], by simp [l2]⟩
  · intro H q
    exact ⟨xs, ys, q.1, q.2, by omega⟩
  · intro i H v H' hi q hy
    obtain ⟨T, x, y, c1, c2, c3, c4, c5⟩ := hy
    exact ⟨T, x, y, c1, c2, c3, c4 xs q.1, c5 ys q.2⟩
theorem walk_zM {K : PySem.W.Frag} {a b : Addr} {xs ys : List V} {n : Nat} (hn : n = min xs.length ys.length) : Walk (Mz.ItM K a b) n (fun H => SqL K H a xs ∧ SqT K H b ys) (YPair (fun i => xs[i]?) (fun i => ys[i]?)) := by
  subst hn
  constructor
  · intro i H hi q
    have l1 : i < xs.length := by omega
    have l2 : i < ys.length := by omega
    exact ⟨xs, ys, xs[i], ys[i], q.1, q.2, by simp [l1], by simp [l2]⟩
  · intro H q
    exact ⟨xs, ys, q.1, q.2, by omega, by omega, by omega⟩
  · intro i H v H' hi q hy
    obtain ⟨T, x, y, c1, c2, c3, c4, c5⟩ := hy
    exact ⟨T, x, y, c1, c2, c3, c4 xs q.1, c5 ys q.2⟩
theorem mi_zip {p tp : Pos} {elts : List Expr} {kk : Nat} (gl : Gl X "zip") (hm : X.mg "zip" = none) (hs : noStar a = true) (hs2 : noStar b = true) (ha : PA X [a, b] (tA X.K C ms)) : PI X (.Tuple elts kk tp) (.Call (.Name "zip" p) [a, b] [] pos) (tI X.K C false (.zip ms)) :=
  ⟨fun pins s σ H R I ⟨F, st, xs, st', r, e, q⟩ => by
    simp only [evI, Option.bind_eq_some_iff] at e
    obtain ⟨qa, ea, ds, ed, e⟩ := e
    have main : ∀ (J : It) (us ws : List V) (ys zs : List PyData) (F2 : Hp) (G : Hp → Prop), Walk J (min us.length ws.length) G (YPair (fun i => us[i]?) (fun i => ws[i]?)) → DnAll X.K F2 us ys → DnAll X.K F2 ws zs → (∀ F' H, Same F2 F' → Same F' H → G H) → WalkD X.K F2 J false (zipL ys zs) := by
      intro J us ws ys zs F2 G w h2 h4 hG
      refine ⟨_, _, by rw [zipL_len, ← dpl_len h2, ← dpl_len h4]; exact w, hG, fun i F' x H H' hi s1 s2 hy => ?_⟩
      obtain ⟨T, x1, y1, rfl, k1, k2, k3, k4⟩ := hy
      obtain ⟨pv, j1, j2⟩ := dpl_get' h2 k3
      obtain ⟨pw, j3, j4⟩ := dpl_get' h4 k4
      obtain ⟨n1, n2⟩ := pair_new s2 k1 k2 (dp_same s1 _ _ j2) (dp_same s1 _ _ j4)
      exact ⟨_, zipL_get _ _ _ _ _ j1 j3, n1, n2⟩
    split at e
    · rename_i ys zs
      cases e
      refine (RZ.pi_zipA gl hm ha (star_cons hs) (by rw [star_cons hs2] <;> rfl)).run pins s σ H R I ⟨F, st, qa.1, qa.2, r, ea, fun vs F1 H1 g rr => ?_⟩
      obtain ⟨F2, s1, g2, hd⟩ := keep_all (fun {_ _ _} => trivial) rr ed (Same.refl _) g
      cases hd with
      | cons hd hn =>
        cases hn with
        | cons hd2 hn =>
          cases hn
          cases hd with
          | @lst a us _ h1 h2 =>
            cases hd2 with
            | @lst b ws _ h3 h4 =>
              exact ⟨a, b, us, ws, rfl, .inl ⟨.inl (.inl (g2.rel.le _ _ h1)), .inl (.inl (g2.rel.le _ _ h3)), q _ F2 _ g2 (main _ _ _ _ _ _ _ (walk_zip (K := X.K) (a := a) (b := b) (xs := us) (ys := ws) rfl) h2 h4 fun F' H s1 s2 => ⟨.inl (.inl (s2 _ _ (s1 _ _ h1))), .inl (.inl (s2 _ _ (s1 _ _ h3)))⟩)⟩⟩
    · rename_i ys zs
      cases e
      refine (RZ.pi_zipA gl hm ha (star_cons hs) (by rw [star_cons hs2] <;> rfl)).run pins s σ H R I ⟨F, st, qa.1, qa.2, r, ea, fun vs F1 H1 g rr => ?_⟩
      obtain ⟨F2, s1, g2, hd⟩ := keep_all (fun {_ _ _} => trivial) rr ed (Same.refl _) g
      cases hd with
      | cons hd hn =>
        cases hn with
        | cons hd2 hn =>
          cases hn
          cases hd with
          | @tup a us _ h1 h2 =>
            cases hd2 with
            | @tup b ws _ h3 h4 =>
              exact ⟨a, b, us, ws, rfl, .inr ⟨(h1.same g2.rel.le).sq, (h3.same g2.rel.le).sq, q _ F2 _ g2 (main _ _ _ _ _ _ _ (walk_zT (K := X.K) (a := a) (b := b) (xs := us) (ys := ws) rfl) h2 h4 fun F' H s1 s2 => ⟨((h1.same s1).same s2).sq, ((h3.same s1).same s2).sq⟩)⟩⟩
    · rename_i ys zs
      cases e
      refine (Mz.pi_zipM gl hm ha (star_cons hs) (by rw [star_cons hs2] <;> rfl)).run pins s σ H R I ⟨F, st, qa.1, qa.2, r, ea, fun vs F1 H1 g rr => ?_⟩
      obtain ⟨F2, s1, g2, hd⟩ := keep_all (fun {_ _ _} => trivial) rr ed (Same.refl _) g
      cases hd with
      | cons hd hn =>
        cases hn with
        | cons hd2 hn =>
          cases hn
          cases hd with
          | @lst a us _ h1 h2 =>
            cases hd2 with
            | @tup b ws _ h3 h4 =>
              exact ⟨a, b, us, ws, rfl, .inl (.inl (g2.rel.le _ _ h1)), (h3.same g2.rel.le).sq, q _ F2 _ g2 (main _ _ _ _ _ _ _ (walk_zM (K := X.K) (a := a) (b := b) (xs := us) (ys := ws) rfl) h2 h4 fun F' H s1 s2 => ⟨.inl (.inl (s2 _ _ (s1 _ _ h1))), ((h3.same s1).same s2).sq⟩)⟩
    · cases e⟩
end
end Mi
end
section
/-! Mi17: comprehensions. -/
namespace Mi
open PySem PySem.Spec
open PyProof.Rows hiding St Fr
open L2

section
variable {K : PySem.W.Frag} {F H F0 H0 F1 H1 F2 H2 F' H' : Hp} {st st0 st1 st2 st' : En} {σ σ0 σ1 σ2 σ' : L2.St} {v : V} {od : Od} {d : D} {a : Addr} {i : Nat}
theorem wipeV_len (σ : L2.St) (own : List Nat) : (L2.wipe σ own).length = σ.length := wipe_length σ own
theorem wipe_len (st : En) : ∀ own : List Nat, (Mi.wipe st own).length = st.length
  | [] => rfl
  | v :: vs => by unfold Mi.wipe; rw [List.length_set, wipe_len st vs]
theorem wipe_out (st : En) : ∀ {own : List Nat} {j : Nat}, j ∉ own → (Mi.wipe st own)[j]? = st[j]?
  | [], _, _ => rfl
  | v :: vs, j, h => by
    unfold Mi.wipe
    rw [List.getElem?_set_ne (fun e => h (by rw [e]; exact List.mem_cons_self ..)), wipe_out st fun z => h (List.mem_cons_of_mem _ z)]
theorem wipe_in (st : En) : ∀ {own : List Nat} {j : Nat} {s : Sl}, j ∈ own → (Mi.wipe st own)[j]? = some s → s = .no
  | v :: vs, j, s, h, e => by
    unfold Mi.wipe at e
    rcases get_set e with ⟨_, e2, _⟩ | ⟨ne, e⟩
    · exact e2
    · exact wipe_in st ((List.mem_cons.mp h).resolve_left ne) e
theorem wipeV_out (σ : L2.St) : ∀ {own : List Nat} {j : Nat}, j ∉ own → (L2.wipe σ own)[j]? = σ[j]?
  | [], _, _ => rfl
  | v :: vs, j, h => by
    unfold L2.wipe
    rw [List.getElem?_set_ne (fun e => h (by rw [e]; exact List.mem_cons_self ..)), wipeV_out σ fun z => h (List.mem_cons_of_mem _ z)]
theorem wipeV_in (σ : L2.St) : ∀ {own : List Nat} {j : Nat}, j ∈ own → j < σ.length → (L2.wipe σ own)[j]? = some none
  | v :: vs, j, h, hl => by
    unfold L2.wipe
    by_cases e : j = v
    · subst e; rw [List.getElem?_set_self (by rw [wipe_length]; exact hl)]
    · rw [List.getElem?_set_ne (Ne.symm e)]
      exact wipeV_in σ ((List.mem_cons.mp h).resolve_left e) hl
theorem wipeV_eq {own : List Nat} (hl : σ.length = σ'.length) (h : ∀ j, j ∉ own → σ[j]? = σ'[j]?) : L2.wipe σ own = L2.wipe σ' own := by
  apply List.ext_getElem?
  intro j
  by_cases e : j ∈ own
  · by_cases l : j < σ.length
    · rw [wipeV_in σ e l, wipeV_in σ' e (by rw [← hl]; exact l)]
    · rw [List.getElem?_eq_none (by rw [wipe_length]; omega), List.getElem?_eq_none (by rw [wipe_length]; omega)]
  · rw [wipeV_out σ e, wipeV_out σ' e, h j e]
/-- the own names of a block forgotten -/
theorem Rel.wipe (own : List Nat) (r : Rel K F st σ H) : Go K st σ F H (Mi.wipe st own) (L2.wipe σ own) F H := by
  have at' : ∀ {j : Nat} {s : Sl}, (Mi.wipe st own)[j]? = some s → s = .no ∨ (j ∉ own ∧ st[j]? = some s) := fun {j s} h => by
    by_cases e : j ∈ own
    · exact .inl (wipe_in st e h)
    · rw [wipe_out st e] at h; exact .inr ⟨e, h⟩
  refine ⟨⟨Same.refl F, fun b o h _ => h, fun b h => h, fun b ⟨j, s, h1, h2, h3⟩ => ?_, fun b h => .inl h⟩, ⟨r.le, by rw [wipe_len, wipe_length]; exact r.len, fun j s h => ?_, fun j j' s t b h1 h2 h3 h4 h5 h6 => ?_⟩, fun j d h => ?_⟩
  · rcases at' h1 with e | ⟨e, h⟩
    · rw [e] at h2; cases h2
    · rw [wipeV_out σ e] at h3; exact .inl ⟨j, s, h, h2, h3⟩
  · rcases at' h with e | ⟨e, h⟩
    · rw [e]; trivial
    · have z := r.sl j s h
      cases s with
      | no => trivial
      | fr d => obtain ⟨w, g1, g2⟩ := z; exact ⟨w, by rw [wipeV_out σ e]; exact g1, g2⟩
      | ow d => obtain ⟨w, g1, g2⟩ := z; exact ⟨w, by rw [wipeV_out σ e]; exact g1, g2⟩
      | bo d => obtain ⟨w, g1, g2⟩ := z; exact ⟨w, by rw [wipeV_out σ e]; exact g1, g2⟩
  · rcases at' h1 with e | ⟨e, h1⟩
    · rw [e] at h3; cases h3
    · rcases at' h2 with e' | ⟨e', h2⟩
      · rw [e'] at h4; cases h4
      · rw [wipeV_out σ e] at h5
        rw [wipeV_out σ e'] at h6
        exact r.inj j j' s t b h1 h2 h3 h4 h5 h6
  · rcases at' h with e | ⟨e, h⟩
    · cases e
    · exact ⟨wipeV_out σ e, d, h⟩
theorem back_len (st0 st : En) : ∀ own : List Nat, (back st0 st own).length = st.length
  | [] => rfl
  | v :: vs => by unfold back; rw [List.length_set, back_len st0 st vs]
theorem back_out (st0 st : En) : ∀ {own : List Nat} {j : Nat}, j ∉ own → (back st0 st own)[j]? = st[j]?
  | [], _, _ => rfl
  | v :: vs, j, h => by
    unfold back
    rw [List.getElem?_set_ne (fun e => h (by rw [e]; exact List.mem_cons_self ..)), back_out st0 st fun z => h (List.mem_cons_of_mem _ z)]
theorem back_in (st0 st : En) : ∀ {own : List Nat} {j : Nat} {s : Sl}, j ∈ own → (back st0 st own)[j]? = some s → s = st0.getD j .no
  | v :: vs, j, s, h, e => by
    unfold back at e
    rcases get_set e with ⟨e1, e2, _⟩ | ⟨ne, e⟩
    · rw [e2, e1]
    · exact back_in st0 st ((List.mem_cons.mp h).resolve_left ne) e
theorem calm_ok {s : Sl} (h : calmSl s = true) : s.owned = false := by cases s <;> first | rfl | cases h
/-- behind the block the frame's own names are there again -/
theorem Rel.back {own : List Nat} (r : Rel K F st σ H) (hc : (own.all fun i => calmSl (st.getD i .no)) = true) (g : Go K (Mi.wipe st own) (L2.wipe σ own) F H st1 (L2.wipe σ own) F1 H1) : Go K st σ F H (Mi.back st st1 own) σ F1 H1 ∧ ∀ b, Owns (Mi.back st st1 own) σ b → Owns st1 (L2.wipe σ own) b := by
  have calm : ∀ j ∈ own, (st.getD j .no).owned = false := fun j hj => calm_ok (List.all_eq_true.mp hc j hj)
  have r1 := g.rel
  have at' : ∀ {j : Nat} {s : Sl}, (Mi.back st st1 own)[j]? = some s → (j ∈ own ∧ s = st.getD j .no ∧ s.owned = false) ∨ (j ∉ own ∧ st1[j]? = some s) := fun {j s} h => by
    by_cases e : j ∈ own
    · have := back_in st st1 e h
      exact .inl ⟨e, this, by rw [this]; exact calm j e⟩
    · rw [back_out st st1 e] at h; exact .inr ⟨e, h⟩
  have own1 : ∀ b, Owns (Mi.back st st1 own) σ b → Owns st1 (L2.wipe σ own) b := fun b ⟨j, s, h1, h2, h3⟩ => by
    rcases at' h1 with ⟨_, _, z⟩ | ⟨e, h⟩
    · rw [z] at h2; cases h2
    · exact ⟨j, s, h, h2, by rw [wipeV_out σ e]; exact h3⟩
  have own0 : ∀ b, Owns (Mi.wipe st own) (L2.wipe σ own) b → Owns st σ b := fun b hb => ((Rel.wipe own r).stp.own b hb).resolve_right fun z => by
    have := (Rel.wipe own r).rel.owns hb
    exact this.2 z
  have ll : st1.length = st.length := by rw [← r1.len, wipe_length, r.len]
  refine ⟨⟨⟨g.stp.fr, fun b o h n => g.stp.keep b o h fun z => n (own0 b z), g.stp.live, fun b h => (g.stp.own b (own1 b h)).imp (own0 b) id, fun b h => (g.stp.frz b h).imp id (Or.imp (own0 b) id)⟩, ⟨r1.le, by rw [back_len, ll]; exact r.len, fun j s h => ?_, fun j j' s t b h1 h2 h3 h4 h5 h6 => ?_⟩, fun j d h => ?_⟩, own1⟩
  · rcases at' h with ⟨e, e2, e3⟩ | ⟨e, h⟩
    · cases hs : st[j]? with
      | none =>
        rw [List.getD_eq_getElem?_getD, hs] at e2
        rw [e2]; trivial
      | some s0 =>
        rw [List.getD_eq_getElem?_getD, hs] at e2
        have e2 : s = s0 := e2
        have z := r.sl j s0 hs
        rw [e2]
        rw [e2] at e3
        cases s0 with
        | no => trivial
        | fr d => obtain ⟨w, g1, g2⟩ := z; exact ⟨w, g1, g2.same g.stp.fr⟩
        | ow d => cases e3
        | bo d => cases e3
    · have z := r1.sl j s h
      cases s with
      | no => trivial
      | fr d => obtain ⟨w, g1, g2⟩ := z; exact ⟨w, by rw [← wipeV_out σ e]; exact g1, g2⟩
      | ow d => obtain ⟨w, g1, g2⟩ := z; exact ⟨w, by rw [← wipeV_out σ e]; exact g1, g2⟩
      | bo d => obtain ⟨w, g1, g2⟩ := z; exact ⟨w, by rw [← wipeV_out σ e]; exact g1, g2⟩
  · rcases at' h1 with ⟨_, _, z⟩ | ⟨e, h1⟩
    · rw [z] at h3; cases h3
    · rcases at' h2 with ⟨_, _, z⟩ | ⟨e', h2⟩
      · rw [z] at h4; cases h4
      · exact r1.inj j j' s t b h1 h2 h3 h4 (by rw [wipeV_out σ e]; exact h5) (by rw [wipeV_out σ e']; exact h6)
  · rcases at' h with ⟨_, _, z⟩ | ⟨e, h⟩
    · cases z
    · obtain ⟨_, d0, h0⟩ := g.bos j d h
      rw [wipe_out st e] at h0
      exact ⟨rfl, d0, h0⟩
theorem setAll_len : ∀ (is : List Nat) (ps : List PyData) (st : En), (setAll st is ps).length = st.length
  | [], _, _ => by simp [setAll]
  | _ :: _, [], _ => by simp [setAll]
  | i :: is, p :: ps, st => by
    show (setAll (st.set i (.fr (.py p))) is ps).length = st.length
    rw [setAll_len is ps, List.length_set]
theorem bind_len {is : List Nat} {one : Bool} {p : PyData} {s : En} (h : bindT is one p st = some s) : s.length = st.length := by
  unfold bindT at h
  split at h
  · split at h
    · cases h; rw [List.length_set]
    · cases h
  · split at h
    · split at h
      · rw [bind_setAll] at h
        cases h
        exact setAll_len _ _ _
      · cases h
    · split at h
      · rw [bind_setAll] at h
        cases h
        exact setAll_len _ _ _
      · cases h
    · cases h
theorem goD {D : Addr} {vs : List V} (g : Go K st0 σ F0 H0 st σ F H) (hn : ¬ Owns st σ D) (h0 : H0 D = none) (hF : F D = none) : Go K st0 σ F0 H0 st σ F (upd H D (.lst vs)) := by
  refine goFree (O := (· = D)) g ⟨Same.refl F, fun b o h n => ?_, fun b h => ?_, fun b h => .inl h, fun b h => .inl h⟩ (fun b o h => ?_) fun b e => ?_
  · rw [upd_ne n]; exact h
  · by_cases e : b = D
    · subst e; rw [upd_same]; simp
    · rw [upd_ne e]; exact h
  · rw [upd_ne (fun e => by rw [e, hF] at h; cases h)]; exact g.rel.le b o h
  · rw [e]; exact ⟨hn, .inr h0⟩
end
/-- a block's clauses: the targets, the tests -/
structure LcOk (X : Cx) (C : Ct) (elt tg iter : Expr) (ifs : List Expr) (scope : Scope) (own : List (Str × Nat)) (is : List Nat) (one : Bool) (it : I) (c : T) (m : Ex) : Prop where
  hi : PI X tg iter (tI X.K C one it)
  ok : BlkOk X.N X.env.scope scope own
  hg : ∀ (s : Shared) (H : Hp) (A : Addr) (cl : List (Str × Addr)) (fp : List Addr), PG (X.blk s H scope (compEnvC scope cl A X.env) fp) tg (gT X.K is one)
  ht : ∀ (s : Shared) (H : Hp) (A : Addr) (cl : List (Str × Addr)) (fp : List Addr), PTs (X.blk s H scope (compEnvC scope cl A X.env) fp) ifs (tT X.K C c)
  he : ∀ (s : Shared) (H : Hp) (A : Addr) (cl : List (Str × Addr)) (fp : List Addr), PE (X.blk s H scope (compEnvC scope cl A X.env) fp) elt (tE X.K C m)
  hs : noSet iter = true
  sub : ∀ i ∈ is, i ∈ own.map (·.2)
section
variable {X : Cx} {elt tg iter : Expr} {ifs : List Expr} {scope : Scope} {own : List (Str × Nat)} {is : List Nat} {one : Bool} {it : I} {c : T} {m : Ex} {C : Ct} {pos : Pos}
theorem tLc_ok (is_sub : ∀ i ∈ is, i ∈ own.map (·.2)) {σ : L2.St} {H : Hp} {Q : VK} (h : tE X.K C (.lc (own.map (·.2)) is one it c m) σ H Q) : tLc (tI X.K C one it) (gT X.K is one) (tT X.K C c) (tE X.K C m) (own.map (·.2)) σ H Q := by
  obtain ⟨F, st, od, st', r, e, q⟩ := h
  generalize own.map (·.2) = vs at *
  simp only [evE, Option.bind_eq_some_iff] at e
  obtain ⟨qi, ei, e⟩ := e
  split at e
  · rename_i calm
    simp only [Option.map_eq_some_iff] at e
    obtain ⟨⟨res, sf⟩, el, e⟩ := e
    cases e
    refine ⟨F, st, qi.1, qi.2, r, ei, fun J F1 H1 g1 ⟨G, Y, w, hG, hY⟩ D hD => ?_⟩
    have rw1 := Rel.wipe vs g1.rel
    have hF1 : F1 D = none := g1.rel.le.free hD
    have now : ∀ {s : En}, Rel X.K F1 s (L2.wipe σ vs) H1 → ¬ Owns s (L2.wipe σ vs) D := fun rr z => (rr.owns z).2 hD
    generalize hf : (fun x acc s => (bindT is one x s).bind fun s1 => (evT C c s1).bind fun qc => if qc.1 then (evE C m qc.2).bind fun qe => qe.1.val.bind fun d => d.pyd.bind fun p =>
        if acc.length < lim then some (acc ++ [p], Mi.wipe qe.2 vs) else none else some (acc, Mi.wipe qc.2 vs)) = f at el
    refine lc_it w (fun i H' => ∃ Fi si acc us, Go X.K (Mi.wipe qi.2 vs) (L2.wipe σ vs) F1 H1 si (L2.wipe σ vs) Fi H' ∧ H' D = some (.lst us) ∧ DnAll X.K Fi us acc ∧ Fi D = none ∧ ¬ Owns si (L2.wipe σ vs) D ∧ lcL f (qi.1.drop i) acc si = some (res, sf))
      ⟨F1, Mi.wipe qi.2 vs, [], [], goD (Go.refl rw1.rel) (now rw1.rel) hD hF1, upd_same, .nil, hF1, now rw1.rel, el⟩ (fun i H' _ ⟨Fi, si, acc, us, g, _⟩ => hG Fi H' g.stp.fr g.rel.le) (fun i x H' H2 hlt ⟨Fi, si, acc, us, g, k1, k2, k3, k4, ef⟩ hy => ?_) (fun H' ⟨Fi, si, acc, us, g, k1, k2, k3, k4, ef⟩ => ?_)
    · obtain ⟨p, hp, nw, hd⟩ := hY i Fi x H' H2 hlt g.stp.fr g.rel.le hy
      have ed : qi.1.drop i = p :: qi.1.drop (i + 1) := by
        rw [List.drop_eq_getElem_cons hlt]
        rw [List.getElem?_eq_getElem hlt] at hp
        cases hp
        rfl
      rw [ed] at ef
      rw [lcL, Option.bind_eq_some_iff] at ef
      obtain ⟨rr, e1, ef⟩ := ef
      rw [← hf] at e1
      simp only [Option.bind_eq_some_iff] at e1
      obtain ⟨s1, eb, qc, ec, e1⟩ := e1
      have gn := nw.go g.rel
      refine ⟨Fi, si, p, s1, gn.rel, hd, eb, fun σ2 g2 out => ⟨?_, ?_⟩⟩
      · refine wipeV_eq (by rw [g2.rel.len, ← wipe_length σ vs, gn.rel.len]; exact (bind_len eb)) fun j hj => ?_
        rw [out j fun z => hj (is_sub j z), wipeV_out σ hj]
      have hw : L2.wipe σ2 vs = L2.wipe σ vs := by
        refine wipeV_eq (by rw [g2.rel.len, ← wipe_length σ vs, gn.rel.len]; exact (bind_len eb)) fun j hj => ?_
        rw [out j fun z => hj (is_sub j z), wipeV_out σ hj]
      have D2 : H2 D = some (.lst us) := nw.hp D _ k1
      have o2 : ¬ Owns s1 σ2 D := fun z => (g2.stp.own D z).elim k4 fun z => by rw [D2] at z; cases z
      refine ⟨Fi, s1, qc.1, qc.2, g2.rel, ec, fun F3 H3 g3 => ?_⟩
      have D3 : H3 D = some (.lst us) := g3.stp.keep D _ D2 o2
      have o3 : ¬ Owns qc.2 σ2 D := fun z => (g3.stp.own D z).elim o2 fun z => by rw [D2] at z; cases z
      have f3 : F3 D = none := by
        cases e : F3 D with
        | none => rfl
        | some o =>
          rcases g3.stp.frz D (by rw [e]; simp) with z | z | z
          · exact absurd k3 z
          · exact absurd z o2
          · rw [D2] at z; cases z
      have gg := ((g.trans gn).trans g2).trans g3
      cases hq : qc.1 with
      | false =>
        rw [hq, if_neg Bool.false_ne_true] at e1
        cases e1
        refine iteF ?_
        have gw := Rel.wipe vs g3.rel
        have gt := gg.trans gw
        rw [hw] at gt gw
        exact ⟨F3, Mi.wipe qc.2 vs, acc, us, gt, D3, dpAll_same g3.stp.fr _ _ k2, f3, fun z => (gw.stp.own D z).elim o3 fun z => (by rw [D3] at z; cases z), ef⟩
      | true =>
        rw [hq, if_pos rfl, Option.bind_eq_some_iff] at e1
        obtain ⟨qe, ee, e1⟩ := e1
        rw [Option.bind_eq_some_iff] at e1
        obtain ⟨d, ed2, e1⟩ := e1
        rw [Option.bind_eq_some_iff] at e1
        obtain ⟨pv, ep, e1⟩ := e1
        refine iteT ⟨F3, qc.2, qe.1, qe.2, g3.rel, ee, fun y F4 H4 ra => ?_⟩
        split at e1
        · rename_i hl
          cases e1
          have D4 : H4 D = some (.lst us) := ra.go.stp.keep D _ D3 o3
          have o4 : ¬ Owns qe.2 σ2 D := fun z => (ra.go.stp.own D z).elim o3 fun z => by rw [D3] at z; cases z
          obtain ⟨F5, s5, g5, hd5⟩ := keep_one ra.go (Same.refl _) ra.rel ra.fro ed2
          have f5 : F5 D = none := by
            cases e : F5 D with
            | none => rfl
            | some o =>
              rcases g5.stp.frz D (by rw [e]; simp) with z | z | z
              · exact absurd f3 z
              · exact absurd z o3
              · rw [D3] at z; cases z
          cases d <;> cases ep
          have gw := Rel.wipe vs g5.rel
          have gt := (gg.trans g5).trans gw
          rw [hw] at gt gw
          have o5 : ¬ Owns (Mi.wipe qe.2 vs) (L2.wipe σ vs) D := fun z => (gw.stp.own D z).elim o4 fun z => (by rw [D4] at z; cases z)
          refine ⟨us, D4, ?_, F5, Mi.wipe qe.2 vs, acc ++ [_], us ++ [y], goD gt o5 hD f5, upd_same, dpl_app (dpAll_same (g3.stp.fr.trans g5.stp.fr) _ _ k2) (.cons hd5 .nil), f5, o5, ef⟩
          have hs : sizeLine = 16777216 := sizeLine_eq
          have := dpl_len k2
          unfold lim at hl
          omega
        · cases e1
    · rw [List.drop_length] at ef
      cases ef
      obtain ⟨gb, ob⟩ := Rel.back g1.rel calm g
      refine q _ Fi _ ⟨g1.trans gb, ⟨D, rfl, k3, ⟨us, k1, k2⟩, fun z => k4 (ob D z)⟩, Fro.back g1 ⟨D, rfl, .inr hD⟩⟩
  · cases e
end
end Mi
end
section
/-! MiF: a comprehension over defs, each called in turn. -/
namespace Mi
open PySem PySem.Spec
open PyProof.Rows hiding St Fr
open L2

def fnV (mg : Str → Option Value) (x : Str) : V := match mg x with
  | some (.ref a) => .ref a
  | _ => .non
/-- names of the text's defs -/
inductive Nms (X : Cx) : List Expr → List Str → Prop
  | nil : Nms X [] []
  | cons {x : Str} {p : Pos} {es : List Expr} {xs : List Str} {a : Addr} : Gl X x → X.mg x = some (.ref a) → (x == ("__debug__" : Str)) = false → Nms X es xs → Nms X (.Name x p :: es) (x :: xs)
def tFns (mg : Str → Option Value) (xs : List Str) : TA := fun _ H Q => Q (xs.map (fnV mg)) H
theorem pa_nms {X : Cx} : ∀ {es : List Expr} {xs : List Str}, Nms X es xs → PA X es (tFns X.mg xs)
  | _, _, .nil => pa_nil
  | _, _, .cons (x := x) (p := p) (xs := xs) (a := a) hg hm hd t => by
    have h := pa_cons (pe_glob (pos := p) (v := .ref a) hg hm rfl hd) (pa_nms t) (star_cons rfl)
    refine ⟨fun pos pins s σ H Q I q => h.run pos pins s σ H Q I ?_⟩
    have e : fnV X.mg x = .ref a := by unfold fnV; rw [hm]
    show Q (V.ref a :: xs.map (fnV X.mg)) H
    have q : Q ((x :: xs).map (fnV X.mg)) H := q
    rw [List.map_cons, e] at q
    exact q
/-- the call of the def that stands in a slot -/
def teF (mg : Str → Option Value) (K : PySem.W.Frag) (C : Ct) (i : Nat) (fs : List (Str × List Nat)) (os : Exs) : TE := fun σ H Q =>
  ∃ f ∈ fs, ∃ a, mg f.1 = some (.ref a) ∧ σ[i]? = some (some (V.ref a)) ∧ tE K C (.cal f.1 f.2 os) σ H Q
section
variable {X : Cx} {e : Expr} {es : List Expr} {pos : Pos} {C : Ct} {ms ms2 : Exs} {k : Nat} {kws : List Keyword} {ks : List Str} {fs : List (Str × List Nat)} {v : Str} {i : Nat} {p : Pos}
theorem me_callF0 (hr : Room k X.A) (hg : X.A.guards = some []) (hv : NameOk X.N X.env.scope v i) (hfs : ∀ f ∈ fs, ∃ ps, CallOk X k C f.1 ps ∧ callOk ps 0 ks = true ∧ f.2 = permOf ps 0 ks)
    (hkn : kws.map (·.arg) = ks.map some) (hkw : PK X kws (tA X.K C ms2)) (l2 : ∀ st os st', evs C ms2 st = some (os, st') → os.length = ks.length) :
    PE X (.Call (.Name v p) [] kws pos) (teF X.mg X.K C i fs ms2) := by
  refine ⟨fun pins s σ H Q I ⟨f, hf, a, hm, hσ, hE⟩ => ?_⟩
  obtain ⟨ps, ⟨f', fd, qual, as, body, scope, rfl, FD, F, hm', hdb⟩, hk, hp⟩ := hfs f hf
  rw [hm'] at hm
  cases hm
  obtain ⟨c1, c2, c3, c4, c5⟩ := callOk_ok hk
  obtain ⟨k1, k2, k3⟩ := kw_names (env := X.env) (pos := pos) hkn
  have h : tA X.K C ms2 σ H fun zs H2 => zs.length = ks.length ∧ spC X.K (C.call f.1) (C.io f.1) (as.map (·.arg)).length ((permOf (as.map (·.arg)) 0 ks).map fun j => zs.getD j .non) H2 Q E0 := by
    obtain ⟨F0, st, od, st', r, e0, q⟩ := hE
    simp only [evE, Option.bind_eq_some_iff] at e0
    obtain ⟨q2, e2, e3⟩ := e0
    refine ⟨F0, st, q2.1, q2.2, r, e2, fun zs F2 H2 g2 r2 => ?_⟩
    have n2 : zs.length = ks.length := r2.len.trans (l2 _ _ _ e2)
    refine ⟨n2, ?_⟩
    rw [hp] at e3
    exact call_ok g2 r2 (perm_lt c5 c4 (by rw [n2, Nat.zero_add])) e3 (by unfold permOf; rw [List.length_map]) q
  refine wpAny_Call_Name_kw (thn ((pe_var hv.ix hv.vis hv.d1 hv.d2).run pins s σ H (fun x H1 => x = .ref a ∧ tA X.K C ms2 σ H1 fun zs H2 => zs.length = ks.length ∧ spC X.K (C.call f.1) (C.io f.1) (as.map (·.arg)).length ((permOf (as.map (·.arg)) 0 ks).map fun j => zs.getD j .non) H2 Q E0) I ⟨_, hσ, rfl, h⟩) fun u s0 ⟨x, H0, I0, r0, ex, q0⟩ => ?_)
  subst ex
  cases r0
  refine PySem.W.callWith_KW0 (h₀ := X.base) I0.ok.mod.kin FD.kp k1 ?_ (by rw [k3] <;> rfl)
  refine thn (hkw.run pos pins s0 σ H0 _ I0 q0) fun ws s2 ⟨zs, H2, I2, rz, l2', q2⟩ => ⟨I2.kIn, ?_⟩
  rw [k2]
  exact callG_run FD F hr hg c1 c2 c3 (by rw [c4, List.length_map]) c5 I2 .nil rz rfl l2' q2
theorem me_callF (hr : Room k X.A) (hg : X.A.guards = some []) (hv : NameOk X.N X.env.scope v i) (hfs : ∀ f ∈ fs, ∃ ps, CallOk X k C f.1 ps ∧ callOk ps (es.length + 1) ks = true ∧ f.2 = permOf ps (es.length + 1) ks)
    (hs : noStars (e :: es) = true) (hkn : kws.map (·.arg) = ks.map some) (ha : PA X (e :: es) (tA X.K C ms)) (hkw : PK X kws (tA X.K C ms2)) (l1 : ∀ st os st', evs C ms st = some (os, st') → os.length = es.length + 1) (l2 : ∀ st os st', evs C ms2 st = some (os, st') → os.length = ks.length) :
    PE X (.Call (.Name v p) (e :: es) kws pos) (teF X.mg X.K C i fs (ms.app ms2)) := by
  refine ⟨fun pins s σ H Q I ⟨f, hf, a, hm, hσ, hE⟩ => ?_⟩
  obtain ⟨ps, ⟨f', fd, qual, as, body, scope, rfl, FD, F, hm', hdb⟩, hk, hp⟩ := hfs f hf
  rw [hm'] at hm
  cases hm
  obtain ⟨c1, c2, c3, c4, c5⟩ := callOk_ok hk
  obtain ⟨k1, k2, k3⟩ := kw_names (env := X.env) (pos := pos) hkn
  have st := stars_any (env := X.env) (pos := pos) hs
  have h' : noStar e = true ∧ noStars es = true := by simpa [noStars] using hs
  have hplain : ((backTo pos (starEach (e :: es) X.env)).any (·.1) || (backToKw pos (keywordEach kws X.env)).any (·.1.isNone)) = false := by rw [st, k3] <;> rfl
  have h : tA X.K C ms σ H fun vs H1 => tA X.K C ms2 σ H1 fun zs H2 => vs.length = es.length + 1 ∧ zs.length = ks.length ∧ spC X.K (C.call f.1) (C.io f.1) (as.map (·.arg)).length ((permOf (as.map (·.arg)) (es.length + 1) ks).map fun j => (vs ++ zs).getD j .non) H2 Q E0 := by
    obtain ⟨F0, st, od, st', r, e0, q⟩ := hE
    simp only [evE, evs_app, Option.bind_eq_some_iff, Option.map_eq_some_iff] at e0
    obtain ⟨qs, ⟨q1, e1, q2, e2, rfl⟩, e3⟩ := e0
    refine ⟨F0, st, q1.1, q1.2, r, e1, fun vs F1 H1 g1 r1 => ⟨F1, q1.2, q2.1, q2.2, g1.rel, e2, fun zs F2 H2 g2 r2 => ?_⟩⟩
    have n1 : vs.length = es.length + 1 := r1.len.trans (l1 _ _ _ e1)
    have n2 : zs.length = ks.length := r2.len.trans (l2 _ _ _ e2)
    refine ⟨n1, n2, ?_⟩
    rw [hp] at e3
    exact call_ok (g1.trans g2) (ORs.app (r2.back g1) (r1.step g2)) (perm_lt c5 c4 (by rw [List.length_append, n1, n2])) e3 (by unfold permOf; rw [List.length_map]) q
  refine wpAny_Call_Name_kw (thn ((pe_var hv.ix hv.vis hv.d1 hv.d2).run pins s σ H (fun x H0 => x = .ref a ∧ tA X.K C ms σ H0 fun vs H1 => tA X.K C ms2 σ H1 fun zs H2 => vs.length = es.length + 1 ∧ zs.length = ks.length ∧ spC X.K (C.call f.1) (C.io f.1) (as.map (·.arg)).length ((permOf (as.map (·.arg)) (es.length + 1) ks).map fun j => (vs ++ zs).getD j .non) H2 Q E0) I ⟨_, hσ, rfl, h⟩) fun u s0 ⟨x, H0, I0, r0, ex, q0⟩ => ?_)
  subst ex
  cases r0
  refine PySem.W.callWith_KW (h₀ := X.base) I0.ok.mod.kin FD.kp k1 (thn (ha.run pos pins s0 σ H0 _ I0 q0) fun us s1 ⟨vs, H1, I1, r1, q1⟩ => ?_) hplain (star_cons h'.1)
  refine thn (hkw.run pos pins s1 σ H1 _ I1 q1) fun ws s2 ⟨zs, H2, I2, rz, l1', l2', q2⟩ => ⟨I2.kIn, ?_⟩
  rw [k2]
  exact callG_run FD F hr hg c1 c2 c3 (by rw [c4, List.length_map]) c5 I2 r1 rz l1' l2' q2
end
section
variable {K : PySem.W.Frag} {F H F0 H0 F1 H1 : Hp} {st st0 : En} {σ : L2.St} {i : Nat}
theorem goO {D : Addr} {o : HO} (g : Go K st0 σ F0 H0 st σ F H) (hn : ¬ Owns st σ D) (h0 : H0 D = none) (hF : F D = none) : Go K st0 σ F0 H0 st σ F (upd H D o) := by
  refine goFree (O := (· = D)) g ⟨Same.refl F, fun b o h n => ?_, fun b h => ?_, fun b h => .inl h, fun b h => .inl h⟩ (fun b o h => ?_) fun b e => ?_
  · rw [upd_ne n]; exact h
  · by_cases e : b = D
    · subst e; rw [upd_same]; simp
    · rw [upd_ne e]; exact h
  · rw [upd_ne (fun e => by rw [e, hF] at h; cases h)]; exact g.rel.le b o h
  · rw [e]; exact ⟨hn, .inr h0⟩
/-- a slot of which nothing is said may hold anything -/
theorem Rel.any (r : Rel K F st σ H) (hno : ∀ s, st[i]? = some s → s = .no) (o : Option V) : Go K st σ F H st (σ.set i o) F H := by
  have out : ∀ {j : Nat} {s : Sl}, st[j]? = some s → s.owned = true → (σ.set i o)[j]? = σ[j]? := fun {j s} h h2 => by
    refine List.getElem?_set_ne fun e => ?_
    subst e
    rw [hno s h] at h2
    cases h2
  refine ⟨⟨Same.refl F, fun b o h _ => h, fun b h => h, fun b ⟨j, s, h1, h2, h3⟩ => ?_, fun b h => .inl h⟩, ⟨r.le, by rw [List.length_set]; exact r.len, fun j s h => ?_, fun j j' s t b h1 h2 h3 h4 h5 h6 => ?_⟩, fun j d h => ?_⟩
  · rw [out h1 h2] at h3
    exact .inl ⟨j, s, h1, h2, h3⟩
  · by_cases e : j = i
    · subst e
      rw [hno s h]
      trivial
    · have z := r.sl j s h
      have e2 : (σ.set i o)[j]? = σ[j]? := List.getElem?_set_ne (Ne.symm e)
      cases s with
      | no => trivial
      | fr d => obtain ⟨w, g1, g2⟩ := z; exact ⟨w, by rw [e2]; exact g1, g2⟩
      | ow d => obtain ⟨w, g1, g2⟩ := z; exact ⟨w, by rw [e2]; exact g1, g2⟩
      | bo d => obtain ⟨w, g1, g2⟩ := z; exact ⟨w, by rw [e2]; exact g1, g2⟩
  · rw [out h1 h3] at h5
    rw [out h2 h4] at h6
    exact r.inj j j' s t b h1 h2 h3 h4 h5 h6
  · exact ⟨out h rfl, d, h⟩
end
section
variable {X : Cx} {C : Ct} {i : Nat} {fs : List (Str × List Nat)} {os : Exs} {own : List (Str × Nat)}
theorem tLcf_ok (hmg : ∀ f ∈ fs, ∃ a, X.mg f.1 = some (.ref a)) (hl : fs.length ≤ sizeLine) {σ : L2.St} {H : Hp} {Q : VK} (h : tE X.K C (.lcf (own.map (·.2)) i fs os) σ H Q) :
    tLc (iTup X.K (tTup (tFns X.mg (fs.map (·.1))))) (gName i) tYes (teF X.mg X.K C i fs os) (own.map (·.2)) σ H Q := by
  obtain ⟨F, st, od, st', r, e, q⟩ := h
  generalize own.map (·.2) = vs at *
  simp only [evE] at e
  split at e
  · rename_i cc
    rw [Bool.and_eq_true, Bool.and_eq_true, decide_eq_true_eq, decide_eq_true_eq] at cc
    obtain ⟨⟨calm, hiv⟩, hlt⟩ := cc
    rw [← r.len] at hlt
    simp only [Option.map_eq_some_iff] at e
    obtain ⟨⟨res, sf⟩, el, e⟩ := e
    cases e
    show _ ∧ _
    refine ⟨by rw [List.length_map, List.length_map]; exact hl, fun p hp => ⟨p, rfl, ⟨_, .inl (.inl upd_same)⟩, fun D hD => ?_⟩⟩
    have hFp : F p = none := r.le.free hp
    have nowp : ¬ Owns st σ p := fun z => (r.owns z).2 hp
    have g1 : Go X.K st σ F H st σ F (upd H p (.tup ((fs.map (·.1)).map (fnV X.mg)))) := goO (Go.refl r) nowp hp hFp
    have pD : p ≠ D := fun e => by subst e; rw [upd_same] at hD; cases hD
    have hp1 : (upd H p (.tup ((fs.map (·.1)).map (fnV X.mg)))) p = some (.tup ((fs.map (·.1)).map (fnV X.mg))) := upd_same
    generalize upd H p (.tup ((fs.map (·.1)).map (fnV X.mg))) = H1 at g1 hD hp1 ⊢
    have rw1 := Rel.wipe vs g1.rel
    have hF1 : F D = none := g1.rel.le.free hD
    have now : ∀ {s : En}, Rel X.K F s (L2.wipe σ vs) H1 → ¬ Owns s (L2.wipe σ vs) D := fun rr z => (rr.owns z).2 hD
    have nowp2 : ¬ Owns (Mi.wipe st vs) (L2.wipe σ vs) p := fun z => (rw1.stp.own p z).elim nowp fun z => by rw [hp1] at z; cases z
    refine lc_tup (xs := (fs.map (·.1)).map (fnV X.mg)) (fun j H' => ∃ Fi si acc us, Go X.K (Mi.wipe st vs) (L2.wipe σ vs) F H1 si (L2.wipe σ vs) Fi H' ∧ H' D = some (.lst us) ∧ DnAll X.K Fi us acc ∧ Fi D = none ∧ ¬ Owns si (L2.wipe σ vs) D ∧ (∀ s, si[i]? = some s → s = .no) ∧ H' p = some (.tup ((fs.map (·.1)).map (fnV X.mg))) ∧ ¬ Owns si (L2.wipe σ vs) p ∧ fcL (fun s => evs C os s) (callE C) vs (fs.drop j) acc si = some (res, sf))
      ⟨F, Mi.wipe st vs, [], [], goO (Go.refl rw1.rel) (now rw1.rel) hD hF1, upd_same, .nil, hF1, now rw1.rel, fun s hs => wipe_in st hiv hs, by rw [upd_ne pD]; exact hp1, nowp2, el⟩ (fun j H' _ ⟨Fi, si, acc, us, _, _, _, _, _, _, k6, _⟩ => .inl (.inl k6)) (fun j x H' hx ⟨Fi, si, acc, us, g, k1, k2, k3, k4, k5, k6, k7, ef⟩ => ?_) (fun H' ⟨Fi, si, acc, us, g, k1, k2, k3, k4, k5, k6, k7, ef⟩ => ?_)
    · have hj : j < fs.length := by
        have := (List.getElem?_eq_some_iff.mp hx).1
        simpa using this
      have ex : x = fnV X.mg fs[j].1 := by
        rw [List.getElem?_map, List.getElem?_map, List.getElem?_eq_getElem hj] at hx
        exact (Option.some.inj hx).symm
      obtain ⟨a, ha⟩ := hmg fs[j] (List.getElem_mem hj)
      have ex2 : x = V.ref a := by rw [ex]; unfold fnV; rw [ha]
      subst ex2
      rw [List.drop_eq_getElem_cons hj, fcL, Option.bind_eq_some_iff] at ef
      obtain ⟨q1, e1, ef⟩ := ef
      rw [Option.bind_eq_some_iff] at ef
      obtain ⟨qe, e2, ef⟩ := ef
      rw [Option.bind_eq_some_iff] at ef
      obtain ⟨d, ed, ef⟩ := ef
      rw [Option.bind_eq_some_iff] at ef
      obtain ⟨pv, ep, ef⟩ := ef
      have gn := Rel.any g.rel k5 (some (V.ref a))
      have hw : L2.wipe ((L2.wipe σ vs).set i (some (V.ref a))) vs = L2.wipe σ vs := by
        refine wipeV_eq (by rw [List.length_set, wipe_length]) fun l hl => ?_
        rw [List.getElem?_set_ne (fun e => hl (by rw [← e]; exact hiv)), wipeV_out σ hl]
      refine ⟨hw, ?_⟩
      unfold tYes
      have D2 : H' D = some (.lst us) := k1
      have o2 : ¬ Owns si ((L2.wipe σ vs).set i (some (V.ref a))) D := fun z => (gn.stp.own D z).elim k4 fun z => by rw [D2] at z; cases z
      have o2p : ¬ Owns si ((L2.wipe σ vs).set i (some (V.ref a))) p := fun z => (gn.stp.own p z).elim k7 fun z => by rw [k6] at z; cases z
      refine iteT ⟨fs[j], List.getElem_mem hj, a, ha, ?_, Fi, si, qe.1, qe.2, gn.rel, by simp only [evE, e1, Option.bind_some]; exact e2, fun y F4 H4 ra => ?_⟩
      · rw [List.getElem?_set_self (by rw [wipe_length]; exact hlt)]
      split at ef
      · rename_i hlm
        have D4 : H4 D = some (.lst us) := ra.go.stp.keep D _ D2 o2
        have o4 : ¬ Owns qe.2 ((L2.wipe σ vs).set i (some (V.ref a))) D := fun z => (ra.go.stp.own D z).elim o2 fun z => by rw [D2] at z; cases z
        have P4 : H4 p = some (.tup ((fs.map (·.1)).map (fnV X.mg))) := ra.go.stp.keep p _ k6 o2p
        have o4p : ¬ Owns qe.2 ((L2.wipe σ vs).set i (some (V.ref a))) p := fun z => (ra.go.stp.own p z).elim o2p fun z => by rw [k6] at z; cases z
        obtain ⟨F5, s5, g5, hd5⟩ := keep_one ra.go (Same.refl _) ra.rel ra.fro ed
        have f5 : F5 D = none := by
          cases e : F5 D with
          | none => rfl
          | some o =>
            rcases g5.stp.frz D (by rw [e]; simp) with z | z | z
            · exact absurd k3 z
            · exact absurd z o2
            · rw [D2] at z; cases z
        cases d <;> cases ep
        have gw := Rel.wipe vs g5.rel
        have gt := ((g.trans gn).trans g5).trans gw
        rw [hw] at gt gw
        have o5 : ¬ Owns (Mi.wipe qe.2 vs) (L2.wipe σ vs) D := fun z => (gw.stp.own D z).elim o4 fun z => (by rw [D4] at z; cases z)
        have o5p : ¬ Owns (Mi.wipe qe.2 vs) (L2.wipe σ vs) p := fun z => (gw.stp.own p z).elim o4p fun z => (by rw [P4] at z; cases z)
        refine ⟨us, D4, ?_, F5, Mi.wipe qe.2 vs, acc ++ [_], us ++ [y], goO gt o5 hD f5, upd_same, dpl_app (dpAll_same g5.stp.fr _ _ k2) (.cons hd5 .nil), f5, o5, fun s hs => wipe_in qe.2 hiv hs, by rw [upd_ne pD]; exact P4, o5p, ef⟩
        have hs : sizeLine = 16777216 := sizeLine_eq
        have := dpl_len k2
        unfold lim at hlm
        omega
      · cases ef
    · have : fs.drop ((fs.map (·.1)).map (fnV X.mg)).length = [] := by simp
      rw [this] at ef
      cases ef
      obtain ⟨gb, ob⟩ := Rel.back g1.rel calm g
      refine q _ Fi _ ⟨g1.trans gb, ⟨D, rfl, k3, ⟨us, k1, k2⟩, fun z => k4 (ob D z)⟩, Fro.back g1 ⟨D, rfl, .inr ?_⟩⟩
      exact hD
  · cases e
end
end Mi
end
section
/-! Mi18: from the text's expressions to the evaluator's. -/
namespace Mi
open PySem PySem.Spec
open PyProof.Rows hiding St Fr
open L2

/-- what is known of a block before it runs -/
structure Zx where
  N : List Str
  sc : Scope
  fn : Str → Bool
  sg : List (Str × List Str × Bool)
  bl : List Str
def nmOk (x : Str) : Bool := !(x == ("__debug__" : Str)) && !(x == ("__classdict__" : Str))
def visB (k : Option NameKind) : Bool := match k with
  | some .local => true
  | some .cell => true
  | some .free => true
  | _ => false
def locB (k : Option NameKind) (b : Bool) : Bool := match k with
  | some .local => true
  | some .cell => b
  | _ => false
def Zx.ix (z : Zx) (x : Str) : Option Nat := if visB (z.sc.names.lookup x) && nmOk x && decide (z.N[z.N.idxOf x]? = some x) then some (z.N.idxOf x) else none
def Zx.st (z : Zx) (x : Str) : Option Nat := if locB (z.sc.names.lookup x) (z.fn x) && decide (z.N[z.N.idxOf x]? = some x) then some (z.N.idxOf x) else none
def Zx.gl (z : Zx) (x : Str) : Bool := decide (z.sc.names.lookup x = some .globalImplicit) && nmOk x
def Zx.bi (z : Zx) (x : Str) : Bool := z.gl x && z.bl.contains x
structure XOk (X : Cx) (k : Nat) (C : Ct) (z : Zx) : Prop where
  hn : X.N = z.N
  nd : X.N.Nodup
  sc : X.env.scope = z.sc
  kd : z.sc.kind = .function
  fn : ∀ x, z.fn x = true → X.fn x = true
  calm : X.calm = true
  room : Room k X.A
  g : X.A.guards = some []
  bl : ∀ x ∈ z.bl, X.mg x = none
  glo : ∀ x, GloOk X C x
  cal : ∀ x q, z.sg.lookup x = some q → CallOk X k C x q.1
section
variable {X : Cx} {k : Nat} {C : Ct} {z : Zx} {x : Str} {i : Nat}
theorem XOk.ix (h : XOk X k C z) (e : z.ix x = some i) : NameOk X.N X.env.scope x i := by
  unfold Zx.ix at e
  split at e
  · rename_i hc
    cases e
    simp only [Bool.and_eq_true, decide_eq_true_eq, nmOk, Bool.not_eq_true'] at hc
    obtain ⟨⟨h1, h2, h3⟩, h4⟩ := hc
    refine ⟨by rw [h.hn]; exact h4, ?_, h2, h3⟩
    rw [h.sc]
    unfold visB at h1
    split at h1
    · rename_i e; exact .inl e
    · rename_i e; exact .inr (.inl e)
    · rename_i e; exact .inr (.inr e)
    · cases h1
  · cases e
theorem XOk.st (h : XOk X k C z) (e : z.st x = some i) : StOk X x i := by
  unfold Zx.st at e
  split at e
  · rename_i hc
    cases e
    rw [Bool.and_eq_true, decide_eq_true_eq] at hc
    obtain ⟨h1, h4⟩ := hc
    unfold locB at h1
    split at h1
    · rename_i e
      exact ⟨by rw [h.hn]; exact h4, .inl (by rw [h.sc]; exact e), .inr (by rw [h.sc]; exact e)⟩
    · rename_i e
      exact ⟨by rw [h.hn]; exact h4, .inr (by rw [h.sc]; exact e), .inl (h.fn x h1)⟩
    · cases h1
  · cases e
theorem XOk.gl (h : XOk X k C z) (e : z.gl x = true) : Gl X x ∧ (x == ("__debug__" : Str)) = false := by
  unfold Zx.gl nmOk at e
  simp only [Bool.and_eq_true, decide_eq_true_eq, Bool.not_eq_true'] at e
  refine ⟨?_, e.2.1⟩
  show X.env.scope.names.lookup x = _
  rw [h.sc]
  exact e.1
theorem XOk.bi (h : XOk X k C z) (e : z.bi x = true) : Gl X x ∧ X.mg x = none := by
  unfold Zx.bi at e
  rw [Bool.and_eq_true] at e
  exact ⟨(h.gl e.1).1, h.bl x (by simpa using e.2)⟩
end

/-! ### the pieces -/
def rdE (z : Zx) (e : Expr) (r : Ex) : Ex := match e with
  | .Name x _ => (match z.ix x with
    | some i => .pk i
    | none => r)
  | _ => r
def trL (f : Expr → Ex) : List Expr → Exs
  | [] => .nil
  | e :: es => .cons (f e) (trL f es)
def trK (f : Keyword → Ex) : List Keyword → Exs
  | [] => .nil
  | k :: ks => .cons (f k) (trK f ks)
def kwNs : List Keyword → Option (List Str)
  | [] => some []
  | ⟨some x, _, _⟩ :: r => (kwNs r).map (x :: ·)
  | _ => none
def kwE : Keyword → Expr
  | ⟨_, e, _⟩ => e
def kwN : Keyword → Option Str
  | ⟨x, _, _⟩ => x
def o2Of : Operator → Option O2
  | .Add => some .add
  | .Sub => some .sub
  | .Mult => some .mul
  | .FloorDiv => some .fdiv
  | .Mod => some .mod
  | .Pow => some .pow
  | _ => none
def cmOf : CmpOp → Cm
  | .Eq => .eq
  | .NotEq => .ne
  | .Lt => .lt
  | .LtE => .le
  | .Gt => .gt
  | .GtE => .ge
  | .Is => .is
  | .IsNot => .isnot
  | .In => .isin
  | .NotIn => .notin
def bis : List Bi := [.len, .tuple, .list, .sorted, .min, .max, .sum, .any, .all, .abs, .int, .bool, .str, .repr, .divmod, .dict, .set]
def biOf (x : Str) : Option Bi := bis.find? fun b => b.nm == x
def tys : List Ty := [.int, .bool, .str, .list, .tuple]
def tyOf (z : Zx) (e : Expr) : Option Ty := match e with
  | .Name x _ => if z.bi x then tys.find? (fun t => t.s == x) else none
  | _ => none
def tysOf (z : Zx) : List Expr → Option (List Ty)
  | [] => some []
  | e :: es => (tyOf z e).bind fun t => (tysOf z es).map (t :: ·)
def tgIs (z : Zx) : List Expr → Option (List Nat)
  | [] => some []
  | .Name x _ :: es => (z.st x).bind fun i => (tgIs z es).map (i :: ·)
  | _ => none
def tgIx (z : Zx) (tg : Expr) : Option (List Nat × Bool) := match tg with
  | .Name x _ => (z.st x).map fun i => ([i], true)
  | .Tuple es _ _ => (tgIs z es).map fun is => (is, false)
  | _ => none
def rangeArgs (z : Zx) (e : Expr) : Option (List Expr) := match e with
  | .Call (.Name x _) es [] _ => if x = "range" && z.bi "range" && noStars es && (es.length == 1 || es.length == 2 || es.length == 3) then some es else none
  | _ => none
def ownOf (N : List Str) (scope : Scope) : List (Str × Nat) := scope.names.filterMap fun y => if (y.2 == .local || y.2 == .cell) && decide (y.1 ∈ N) then some (y.1, N.idxOf y.1) else none
def Zx.blk (z : Zx) (scope : Scope) : Zx := { z with sc := relS scope z.sc, fn := fun x => scope.names.lookup x == some .cell }

/-! ### one step of the translation -/
structure Rec where
  e : Zx → Expr → Ex
  t : Zx → Expr → T
def stBlt (f : Rec) (z : Zx) (x : Str) (es : List Expr) : Ex :=
  if z.bi x && noStars es && !es.isEmpty then
    (if x = "isinstance" then (match es with
      | [a, .Tuple ts _ _] => (match tysOf z ts with
        | some l => if l.length ≤ 100 then .isa (rdE z a (f.e z a)) l else .bad
        | none => .bad)
      | [a, t] => (match tyOf z t with
        | some l => .isa (rdE z a (f.e z a)) [l]
        | none => .bad)
      | _ => .bad)
    else (match es with
      | [e] => (match rangeArgs z e with
        | some as => if x = "list" then .bi .lrange (trL (fun e => rdE z e (f.e z e)) as) else if x = "tuple" then .bi .trange (trL (fun e => rdE z e (f.e z e)) as) else .bad
        | none => (match biOf x with
          | some b => .bi b (trL (fun e => rdE z e (f.e z e)) es)
          | none => .bad))
      | _ => (match biOf x with
        | some b => .bi b (trL (fun e => rdE z e (f.e z e)) es)
        | none => .bad)))
  else .bad
def stCal (f : Rec) (z : Zx) (x : Str) (ps : List Str) (io : Bool) (es : List Expr) (kws : List Keyword) : Ex :=
  match kwNs kws with
  | some ks => if callOk ps es.length ks && noStars es then
      (match es with
      | [] => .cal x (permOf ps 0 ks) (trK (fun k => if io && kwN k == ps.head? then rdE z (kwE k) (f.e z (kwE k)) else (f.e z (kwE k))) kws)
      | e :: r => .cal x (permOf ps (r.length + 1) ks) ((Exs.cons (if io then rdE z e (f.e z e) else (f.e z e)) (trL (fun e => (f.e z e)) r)).app (trK (fun k => (f.e z (kwE k))) kws)))
    else .bad
  | none => .bad
def stMe (f : Rec) (z : Zx) (o : Expr) (name : Str) (apos cpos : Pos) (es : List Expr) : Ex :=
  if (apos.endLine == cpos.line) && noStars es && decide (es.length < 29) then
    (match o with
    | .Name x _ => (match z.ix x, es with
      | some i, [a] => if name = "pop" then .pop i (rdE z a (f.e z a)) else if name = "count" then .me .count (.pk i) (trL (fun e => rdE z e (f.e z e)) es) else if name = "index" then .me .index (.pk i) (trL (fun e => rdE z e (f.e z e)) es) else .bad
      | some i, a :: r => if name = "index" then .me .index (.pk i) (trL (fun e => rdE z e (f.e z e)) es) else .bad
      | _, _ => .bad)
    | _ => .bad)
  else .bad
def stI (f : Rec) (z : Zx) (tg iter : Expr) : I × Bool :=
  match rangeArgs z iter with
  | some as => (.rng (trL (fun e => rdE z e (f.e z e)) as), true)
  | none => (match tg, iter with
    | .Tuple .., .Call (.Name x _) [a] [] _ => if x = "enumerate" && z.bi "enumerate" && noStar a then (.enu (trL (fun e => (f.e z e)) [a]), true) else (.v (f.e z iter), true)
    | .Tuple .., .Call (.Name x _) [a, b] [] _ => if x = "zip" && z.bi "zip" && noStar a && noStar b then (.zip (trL (fun e => (f.e z e)) [a, b]), true) else (.v (f.e z iter), true)
    | _, _ => (.v (f.e z iter), true))
/-- names of the text's defs, with their parameters -/
def fnNames (z : Zx) : List Expr → Option (List (Str × List Str))
  | [] => some []
  | .Name x _ :: es => if z.gl x then (z.sg.lookup x).bind fun q => (fnNames z es).map fun r => (x, q.1) :: r else none
  | _ :: _ => none
def stLf (f : Rec) (z : Zx) (elt : Expr) (gs : List Comprehension) (scope : Scope) : Option Ex := match gs, elt with
  | [⟨.Name v _, .Tuple ns _ _, [], asy⟩], .Call (.Name y _) es kws _ => if asy = 0 && blkC z.N z.sc scope (ownOf z.N scope) && decide (scope.kind = .function) && decide (y = v) && noStars es then
      (match fnNames z ns, (z.blk scope).st v, (z.blk scope).ix v, kwNs kws with
      | some fs, some i, some i', some ks => if i = i' && fs.all (fun q => callOk q.2 es.length ks) && decide (fs.length ≤ 100) then
          some (.lcf ((ownOf z.N scope).map (·.2)) i (fs.map fun q => (q.1, permOf q.2 es.length ks)) (match es with
            | [] => trK (fun k => f.e (z.blk scope) (kwE k)) kws
            | e :: r => (trL (fun e => f.e (z.blk scope) e) (e :: r)).app (trK (fun k => f.e (z.blk scope) (kwE k)) kws)))
        else none
      | _, _, _, _ => none)
    else none
  | _, _ => none
def stLcO (f : Rec) (z : Zx) (elt : Expr) (gs : List Comprehension) (scope : Scope) : Ex :=
  match gs with
  | [⟨tg, iter, ifs, asy⟩] => if asy = 0 && blkC z.N z.sc scope (ownOf z.N scope) && noSet iter && decide (scope.kind = .function) then
      (match tgIx (z.blk scope) tg, ifs with
      | some (is, one), [] => if is.all (fun i => decide (i ∈ (ownOf z.N scope).map (·.2))) then .lc ((ownOf z.N scope).map (·.2)) is one (stI f z tg iter).1 .yes (f.e (z.blk scope) elt) else .bad
      | some (is, one), [c] => if is.all (fun i => decide (i ∈ (ownOf z.N scope).map (·.2))) then .lc ((ownOf z.N scope).map (·.2)) is one (stI f z tg iter).1 (f.t (z.blk scope) c) (f.e (z.blk scope) elt) else .bad
      | _, _ => .bad)
    else .bad
  | _ => .bad
def stLc (f : Rec) (z : Zx) (elt : Expr) (gs : List Comprehension) (scope : Scope) : Ex := match stLf f z elt gs scope with
  | some m => m
  | none => stLcO f z elt gs scope
def stSub (f : Rec) (z : Zx) (a b : Expr) : Ex := match b with
  | .Slice lo hi none _ => .sl (rdE z a (f.e z a)) (match lo with
    | none => .no
    | some e => .so (rdE z e (f.e z e))) (match hi with
    | none => .no
    | some e => .so (rdE z e (f.e z e)))
  | .Slice none none (some (.UnaryOp .USub (.Constant (.int 1) _ _) _)) _ => .rev (rdE z a (f.e z a))
  | .Slice .. => .bad
  | b => .ix (rdE z a (f.e z a)) (rdE z b (f.e z b))
def stE (f : Rec) (z : Zx) (e : Expr) : Ex := match e with
  | .Constant v _ _ => (match litC v with
    | some p => .lit p
    | none => .bad)
  | .Name x _ => (match z.ix x with
    | some i => .var i
    | none => if z.gl x then .glo x else .bad)
  | .BinOp a o b _ => (match o2Of o with
    | some o => .op o (rdE z a (f.e z a)) (rdE z b (f.e z b))
    | none => .bad)
  | .UnaryOp .USub a _ => .neg (rdE z a (f.e z a))
  | .UnaryOp .Not a _ => .nt (rdE z a (f.e z a))
  | .BoolOp _ [a] _ => (f.e z a)
  | .BoolOp .And (a :: b :: r) p => .and (rdE z a (f.e z a)) (f.e z (.BoolOp .And (b :: r) p))
  | .BoolOp .Or (a :: b :: r) p => .or (rdE z a (f.e z a)) (f.e z (.BoolOp .Or (b :: r) p))
  | .Compare a [o] [b] _ => if noSet b then .cm (cmOf o) (rdE z a (f.e z a)) (rdE z b (f.e z b)) else .bad
  | .Compare a [o, o'] [b, c] _ => if noSet c then .cm2 (cmOf o) (cmOf o') (rdE z a (f.e z a)) (rdE z b (f.e z b)) (rdE z c (f.e z c)) else .bad
  | .IfExp c a b _ => .ite (f.t z c) (f.e z a) (f.e z b)
  | .Tuple es _ _ => if noStars es then .tup (trL (fun e => (f.e z e)) es) else .bad
  | .List es _ => if noStars es then .lst (trL (fun e => (f.e z e)) es) else .bad
  | .Dict [] [] _ => .dct0
  | .Subscript a b _ => stSub f z a b
  | .Call (.Name x _) es kws _ => if z.gl x then (match z.sg.lookup x with
      | some q => stCal f z x q.1 q.2 es kws
      | none => if kws.isEmpty then stBlt f z x es else .bad) else .bad
  | .Call (.Attribute o name apos) es kws cpos => if kws.isEmpty then stMe f z o name apos cpos es else .bad
  | .ListComp elt gs scope _ => stLc f z elt gs scope
  | _ => .bad
def stT (f : Rec) (z : Zx) (e : Expr) : T := match e with
  | .BoolOp _ [a] _ => (f.t z a)
  | .BoolOp .And (a :: b :: r) p => .and (f.t z a) (f.t z (.BoolOp .And (b :: r) p))
  | .BoolOp .Or (a :: b :: r) p => .or (f.t z a) (f.t z (.BoolOp .Or (b :: r) p))
  | .UnaryOp .Not a _ => .nt (f.t z a)
  | .Compare a [o] [b] _ => if noSet b then .v (.cm (cmOf o) (rdE z a (f.e z a)) (rdE z b (f.e z b))) else .v .bad
  | .Compare a [o, o'] [b, c] _ => if noSet c then .v (.cm2 (cmOf o) (cmOf o') (rdE z a (f.e z a)) (rdE z b (f.e z b)) (rdE z c (f.e z c))) else .v .bad
  | e => if plainT e then .v (rdE z e (f.e z e)) else .v .bad
def tr : Nat → Rec
  | 0 => ⟨fun _ _ => .bad, fun _ _ => .v .bad⟩
  | n + 1 => ⟨stE (tr n), stT (tr n)⟩
end Mi
end
section
/-! Mi19: the translation of expressions is sound. -/
namespace Mi
open PySem PySem.Spec
open PyProof.Rows hiding St Fr
open L2

def Snd (f : Rec) : Prop := ∀ (X : Cx) (k : Nat) (C : Ct) (z : Zx) (e : Expr), XOk X k C z → PE X e (tE X.K C (f.e z e)) ∧ PT X e (tT X.K C (f.t z e)) ∧ ∀ op vs p, e = .BoolOp op vs p → PW X e (tT X.K C (f.t z e))
section
variable {X : Cx} {k : Nat} {C : Ct} {z : Zx} {e a b c : Expr} {es : List Expr} {pos : Pos} {f : Rec}
theorem hd_star (h : noStars (e :: es) = true) : noStar e = true := by
  have : noStar e = true ∧ noStars es = true := by simpa [noStars] using h
  exact this.1
theorem bad_pe : PE X e (tE X.K C .bad) := ⟨fun pins s σ H Q I ⟨F, st, od, st', r, e, q⟩ => by cases e⟩
theorem bad_pw : PW X e (tT X.K C (.v .bad)) := ⟨fun wh pins s σ H Q I ⟨F, st, od, st', r, e, q⟩ => by cases e⟩
theorem bad_pt : PT X e (tT X.K C (.v .bad)) := bad_pw.pt
theorem rd_pe {r : Ex} (h : XOk X k C z) (he : PE X e (tE X.K C r)) : PE X e (tE X.K C (rdE z e r)) := by
  unfold rdE
  split
  · split
    · rename_i i hi; exact me_pk (h.ix hi)
    · exact he
  · exact he
theorem L_pa {g : Expr → Ex} : ∀ {es : List Expr}, (∀ e ∈ es, PE X e (tE X.K C (g e))) → noStars es = true → PA X es (tN X.K C (trL g es))
  | [], _, _ => mn_nil
  | e :: es, h, hs => by
    have h' : noStar e = true ∧ noStars es = true := by simpa [noStars] using hs
    exact mn_cons h'.1 (h e (List.mem_cons_self ..)) (L_pa (fun x hx => h x (List.mem_cons_of_mem _ hx)) h'.2)
theorem L_len {g : Expr → Ex} : ∀ {es : List Expr} {st : En} {q : List Od × En}, evs C (trL g es) st = some q → q.1.length = es.length
  | [], _, _, e => by cases e; rfl
  | e :: es, st, q, h => by
    simp only [trL, evs, Option.bind_eq_some_iff, Option.map_eq_some_iff] at h
    obtain ⟨qa, _, qr, er, e⟩ := h
    subst e
    exact congrArg Nat.succ (L_len er)
theorem K_pk {g : Keyword → Ex} : ∀ {kws : List Keyword}, (∀ k ∈ kws, PE X (kwE k) (tE X.K C (g k))) → PK X kws (tA X.K C (trK g kws))
  | [], _ => mk_nil
  | ⟨nm, e, p⟩ :: ks, h => mk_cons (h _ (List.mem_cons_self ..)) (K_pk fun x hx => h x (List.mem_cons_of_mem _ hx))
theorem K_len {g : Keyword → Ex} : ∀ {kws : List Keyword} {ks : List Str} {st : En} {q : List Od × En}, kwNs kws = some ks → evs C (trK g kws) st = some q → q.1.length = ks.length
  | [], _, _, _, h, e => by cases h; cases e; rfl
  | ⟨some x, v, p⟩ :: kws, ks, st, q, h, e => by
    simp only [kwNs, Option.map_eq_some_iff] at h
    obtain ⟨r, h, rfl⟩ := h
    simp only [trK, evs, Option.bind_eq_some_iff, Option.map_eq_some_iff] at e
    obtain ⟨qa, _, qr, er, e⟩ := e
    subst e
    exact congrArg Nat.succ (K_len h er)
  | ⟨none, v, p⟩ :: kws, ks, st, q, h, e => by cases h
theorem kw_map : ∀ {kws : List Keyword} {ks : List Str}, kwNs kws = some ks → kws.map (·.arg) = ks.map some
  | [], _, h => by cases h; rfl
  | ⟨some x, v, p⟩ :: kws, ks, h => by
    simp only [kwNs, Option.map_eq_some_iff] at h
    obtain ⟨r, h, rfl⟩ := h
    rw [List.map_cons, List.map_cons, kw_map h]
  | ⟨none, v, p⟩ :: kws, ks, h => by cases h
theorem cmOf_op (o : CmpOp) : (cmOf o).op = o := by cases o <;> rfl
theorem o2Of_op {o : Operator} {p : O2} (h : o2Of o = some p) : p.op = o := by cases o <;> cases h <;> rfl
theorem biOf_ok {x : Str} {b : Bi} (h : biOf x = some b) : b.nm = x ∧ b ≠ .lrange ∧ b ≠ .trange := by
  unfold biOf at h
  have h1 := List.find?_some h
  have h2 := List.mem_of_find?_eq_some h
  refine ⟨by simpa using h1, ?_, ?_⟩
  · intro e; subst e; revert h2; unfold bis; simp
  · intro e; subst e; revert h2; unfold bis; simp
theorem tyOf_ok {t : Ty} (h : XOk X k C z) (e1 : tyOf z e = some t) : (∃ p, e = .Name t.s p) ∧ Gl X t.s ∧ X.mg t.s = none := by
  unfold tyOf at e1
  split at e1
  · rename_i x p
    split at e1
    · rename_i hb
      have := List.find?_some e1
      have hx : t.s = x := by simpa using this
      subst hx
      exact ⟨⟨p, rfl⟩, h.bi hb⟩
    · cases e1
  · cases e1
theorem tysOf_ok (h : XOk X k C z) : ∀ {es : List Expr} {l : List Ty}, tysOf z es = some l → (∀ t ∈ l, Gl X t.s ∧ X.mg t.s = none) ∧ Paired (fun (t : Ty) (e : Expr) => ∃ p, e = Expr.Name t.s p) l es
  | [], _, e => by cases e; exact ⟨(fun _ h => by cases h), .nil⟩
  | e :: es, l, h1 => by
    simp only [tysOf, Option.bind_eq_some_iff, Option.map_eq_some_iff] at h1
    obtain ⟨t, ht, r, hr, rfl⟩ := h1
    obtain ⟨g1, g2⟩ := tysOf_ok h hr
    obtain ⟨k1, k2⟩ := tyOf_ok h ht
    exact ⟨fun t' ht' => (List.mem_cons.mp ht').elim (fun e => e ▸ k2) (g1 t'), .cons k1 g2⟩
theorem tgIs_ok (h : XOk X k C z) : ∀ {es : List Expr} {is : List Nat}, tgIs z es = some is → StsOk X es is
  | [], _, e => by cases e; exact .nil
  | e :: es, is, h1 => by
    unfold tgIs at h1
    split at h1
    · rename_i e; cases e
    · rename_i e0 x p es0 e
      cases e
      simp only [Option.bind_eq_some_iff, Option.map_eq_some_iff] at h1
      obtain ⟨i, hi, r, hr, rfl⟩ := h1
      exact .cons (h.st hi) (tgIs_ok h hr)
    · cases h1
theorem tgIx_ok {tg : Expr} {q : List Nat × Bool} (h : XOk X k C z) (e : tgIx z tg = some q) : TgOk X tg q.1 q.2 := by
  unfold tgIx at e
  split at e
  · simp only [Option.map_eq_some_iff] at e
    obtain ⟨i, hi, rfl⟩ := e
    exact .one (h.st hi)
  · simp only [Option.map_eq_some_iff] at e
    obtain ⟨i, hi, rfl⟩ := e
    exact .tup (tgIs_ok h hi)
  · cases e
theorem rangeArgs_ok {as : List Expr} (h : XOk X k C z) (h1 : rangeArgs z e = some as) : Gl X "range" ∧ X.mg "range" = none ∧ ∃ p p2, (∃ a, as = [a] ∧ noStar a = true ∧ e = .Call (.Name "range" p) [a] [] p2) ∨ (∃ a b, as = [a, b] ∧ noStar a = true ∧ noStar b = true ∧ e = .Call (.Name "range" p) [a, b] [] p2) ∨ ∃ a b c, as = [a, b, c] ∧ noStar a = true ∧ noStar b = true ∧ noStar c = true ∧ e = .Call (.Name "range" p) [a, b, c] [] p2 := by
  unfold rangeArgs at h1
  split at h1
  · rename_i x p es p2
    split at h1
    · rename_i hc
      cases h1
      simp only [Bool.and_eq_true, Bool.or_eq_true, decide_eq_true_eq] at hc
      obtain ⟨⟨⟨rfl, hb⟩, hs⟩, hl⟩ := hc
      refine ⟨(h.bi hb).1, (h.bi hb).2, p, p2, ?_⟩
      match as, hs, hl with
      | [], _, hl => simp at hl
      | [a], hs, _ => exact .inl ⟨a, rfl, by simpa [noStars] using hs, rfl⟩
      | [a, b], hs, _ =>
        have : noStar a = true ∧ noStar b = true := by simpa [noStars] using hs
        exact .inr (.inl ⟨a, b, rfl, this.1, this.2, rfl⟩)
      | [a, b, c], hs, _ =>
        have : noStar a = true ∧ noStar b = true ∧ noStar c = true := by simpa [noStars] using hs
        exact .inr (.inr ⟨a, b, c, rfl, this.1, this.2.1, this.2.2, rfl⟩)
      | _ :: _ :: _ :: _ :: _, _, hl => simp at hl
    · cases h1
  · cases h1
theorem XOk.blk {scope : Scope} {s : Shared} {H : Hp} {A : Addr} {cl : List (Str × Addr)} {fp : List Addr} (h : XOk X k C z) (hk : scope.kind = .function) : XOk (X.blk s H scope (compEnvC scope cl A X.env) fp) k C (z.blk scope) where
  hn := h.hn
  nd := h.nd
  sc := by
    show relS scope X.env.scope = relS scope z.sc
    rw [h.sc]
  kd := hk
  fn := fun x e => e
  calm := h.calm
  room := h.room
  g := h.g
  bl := h.bl
  glo := h.glo
  cal := fun x q e => by
    obtain ⟨f, fd, qual, as, body, sc, c⟩ := h.cal x q e
    exact ⟨f, fd, qual, as, body, sc, c.ar, c.hf, c.fg, c.mg, c.db⟩
/-! ### the pieces are sound -/
theorem fE (hf : Snd f) (h : XOk X k C z) (e : Expr) : PE X e (tE X.K C (f.e z e)) := (hf X k C z e h).1
theorem fR (hf : Snd f) (h : XOk X k C z) (e : Expr) : PE X e (tE X.K C (rdE z e (f.e z e))) := rd_pe h (fE hf h e)
theorem fT (hf : Snd f) (h : XOk X k C z) (e : Expr) : PT X e (tT X.K C (f.t z e)) := (hf X k C z e h).2.1
theorem rg_pe (hf : Snd f) (h : XOk X k C z) {as : List Expr} (h1 : rangeArgs z e = some as) : PRc X e (tRg X.K C (trL (fun e => rdE z e (f.e z e)) as)) := by
  obtain ⟨gl, hm, p, p2, ⟨a, rfl, hs, rfl⟩ | ⟨a, b, rfl, hs, hs2, rfl⟩ | ⟨a, b, c, rfl, hs, hs2, hs3, rfl⟩⟩ := rangeArgs_ok h h1
  · exact mrg_1 gl hm hs (fR hf h a)
  · exact mrg_2 gl hm hs hs2 (fR hf h a) (fR hf h b)
  · exact mrg_3 gl hm hs hs2 hs3 (ma_of_mn (L_pa (fun e _ => fR hf h e) (by simp [noStars, hs, hs2, hs3]))) fun st os st' e => L_len (q := (os, st')) e
theorem rg_star {as : List Expr} (h1 : rangeArgs z e = some as) : noStar e = true := by
  unfold rangeArgs at h1
  split at h1
  · rfl
  · cases h1
theorem stBlt_ok (hf : Snd f) (h : XOk X k C z) {x : Str} {p : Pos} : PE X (.Call (.Name x p) es [] pos) (tE X.K C (stBlt f z x es)) := by
  have many : ∀ (b : Bi) (e : Expr) (r : List Expr), biOf x = some b → z.bi x = true → noStars (e :: r) = true → PE X (.Call (.Name x p) (e :: r) [] pos) (tE X.K C (.bi b (trL (fun e => rdE z e (f.e z e)) (e :: r)))) := fun b e r hb hx hs => by
    obtain ⟨e1, n1, n2⟩ := biOf_ok hb
    obtain ⟨gl, hm⟩ := h.bi hx
    subst e1
    exact me_bi h.room h.calm h.g b n1 n2 gl hm hs (ma_of_mn (L_pa (fun e _ => fR hf h e) hs))
  unfold stBlt
  split
  · rename_i hc
    simp only [Bool.and_eq_true] at hc
    obtain ⟨⟨hx, hs⟩, hne⟩ := hc
    split
    · rename_i hi
      subst hi
      obtain ⟨gl, hm⟩ := h.bi hx
      split
      · rename_i a ts x1 p2
        split
        · rename_i l hl
          split
          · rename_i hle
            obtain ⟨g1, g2⟩ := tysOf_ok h hl
            exact me_isaT hle (hd_star hs) gl hm g1 g2 (fR hf h a)
          · exact bad_pe
        · exact bad_pe
      · rename_i a t hne
        split
        · rename_i l hl
          obtain ⟨⟨p2, rfl⟩, g1, g2⟩ := tyOf_ok h hl
          exact me_isa (hd_star hs) gl hm g1 g2 (fR hf h a)
        · exact bad_pe
      · exact bad_pe
    · split
      · rename_i e
        split
        · rename_i as has
          split
          · rename_i hx2
            subst hx2
            obtain ⟨gl, hm⟩ := h.bi hx
            exact me_lrange h.calm gl hm (rg_star has) (rg_pe hf h has)
          · split
            · rename_i hx2
              subst hx2
              obtain ⟨gl, hm⟩ := h.bi hx
              exact me_trange h.calm gl hm (rg_star has) (rg_pe hf h has)
            · exact bad_pe
        · split
          · rename_i b hb; exact many b e [] hb hx hs
          · exact bad_pe
      · split
        · rename_i b hb
          cases es with
          | nil => simp at hne
          | cons e r => exact many b e r hb hx hs
        · exact bad_pe
  · exact bad_pe
theorem stCal_ok (hf : Snd f) (h : XOk X k C z) {x : Str} {p : Pos} {kws : List Keyword} {ps : List Str} {io : Bool} (gl : Gl X x) (hx : CallOk X k C x ps) : PE X (.Call (.Name x p) es kws pos) (tE X.K C (stCal f z x ps io es kws)) := by
  unfold stCal
  split
  · rename_i ks hk
    split
    · rename_i hc
      rw [Bool.and_eq_true] at hc
      split
      · refine me_call0 hx h.room h.g gl hc.1 (kw_map hk) (K_pk fun q _ => ?_) fun st os st' e => K_len (q := (os, st')) hk e
        split
        · exact fR hf h _
        · exact fE hf h _
      · rename_i e r
        have h' : noStar e = true ∧ noStars r = true := by simpa [noStars] using hc.2
        refine me_call hx h.room h.g gl hc.1 hc.2 (kw_map hk) (ma_of_mn (mn_cons h'.1 ?_ (L_pa (fun e _ => fE hf h e) h'.2))) (K_pk fun q _ => fE hf h _) (fun st os st' e => ?_) fun st os st' e => K_len (q := (os, st')) hk e
        · split
          · exact fR hf h _
          · exact fE hf h _
        · simp only [evs, Option.bind_eq_some_iff, Option.map_eq_some_iff] at e
          obtain ⟨qa, _, qr, er, e⟩ := e
          cases e
          exact congrArg Nat.succ (L_len er)
    · exact bad_pe
  · exact bad_pe
theorem stMe_ok (hf : Snd f) (h : XOk X k C z) {o : Expr} {name : Str} {apos cpos : Pos} : PE X (.Call (.Attribute o name apos) es [] cpos) (tE X.K C (stMe f z o name apos cpos es)) := by
  unfold stMe
  split
  · rename_i hc
    simp only [Bool.and_eq_true, decide_eq_true_eq] at hc
    obtain ⟨⟨hl, hs⟩, hn⟩ := hc
    have L : ∀ {es : List Expr}, noStars es = true → PA X es (tA X.K C (trL (fun e => rdE z e (f.e z e)) es)) := fun hs => ma_of_mn (L_pa (fun e _ => fR hf h e) hs)
    split
    · rename_i x p
      split
      · rename_i i a hi
        have nm := h.ix hi
        split
        · rename_i e; subst e
          exact me_pop nm (fR hf h a) (by simpa [noStars] using hs) hl
        · split
          · rename_i e; subst e
            exact me_me (m := .count) h.room (by simp) (me_pk nm) base_name (L hs) hs hn hl
          · split
            · rename_i e; subst e
              exact me_me (m := .index) h.room (by simp) (me_pk nm) base_name (L hs) hs hn hl
            · exact bad_pe
      · rename_i i a r _ hi
        split
        · rename_i e; subst e
          exact me_me (m := .index) h.room (by simp) (me_pk (h.ix hi)) base_name (L hs) hs hn hl
        · exact bad_pe
      · exact bad_pe
    · exact bad_pe
  · exact bad_pe
theorem tgIx_tup {tg : Expr} {q : List Nat × Bool} (e : tgIx z tg = some q) : ∀ es kk p, tg = .Tuple es kk p → q.2 = false := fun es kk p h => by
  subst h
  simp only [tgIx, Option.map_eq_some_iff] at e
  obtain ⟨i, _, rfl⟩ := e
  rfl
theorem stI_ok (hf : Snd f) (h : XOk X k C z) {tg iter : Expr} {one : Bool} (ht : ∀ es kk p, tg = .Tuple es kk p → one = false) : PI X tg iter (tI X.K C one (stI f z tg iter).1) := by
  have L : ∀ {es : List Expr}, noStars es = true → PA X es (tA X.K C (trL (fun e => rdE z e (f.e z e)) es)) := fun hs => ma_of_mn (L_pa (fun e _ => fR hf h e) hs)
  have L' : ∀ {es : List Expr}, noStars es = true → PA X es (tA X.K C (trL (fun e => (f.e z e)) es)) := fun hs => ma_of_mn (L_pa (fun e _ => fE hf h e) hs)
  unfold stI
  split
  · rename_i as has
    obtain ⟨gl, hm, p, p2, ⟨a, rfl, hs, rfl⟩ | ⟨a, b, rfl, hs, hs2, rfl⟩ | ⟨a, b, c, rfl, hs, hs2, hs3, rfl⟩⟩ := rangeArgs_ok h has
    · exact mi_rng1 gl hm hs (L (by simp [noStars, hs])) fun st os st' e => L_len (q := (os, st')) e
    · exact mi_rng2 gl hm hs hs2 (L (by simp [noStars, hs, hs2])) fun st os st' e => L_len (q := (os, st')) e
    · exact mi_rng3 gl hm hs hs2 hs3 (L (by simp [noStars, hs, hs2, hs3])) fun st os st' e => L_len (q := (os, st')) e
  · split
    · split
      · rename_i hc
        simp only [Bool.and_eq_true, decide_eq_true_eq] at hc
        obtain ⟨⟨rfl, hb⟩, hs⟩ := hc
        cases ht _ _ _ rfl
        exact mi_enu (h.bi hb).1 (h.bi hb).2 hs (L' (by simp [noStars, hs]))
      · exact mi_v (fE hf h _)
    · split
      · rename_i hc
        simp only [Bool.and_eq_true, decide_eq_true_eq] at hc
        obtain ⟨⟨⟨rfl, hb⟩, hs⟩, hs2⟩ := hc
        cases ht _ _ _ rfl
        exact mi_zip (h.bi hb).1 (h.bi hb).2 hs hs2 (L' (by simp [noStars, hs, hs2]))
      · exact mi_v (fE hf h _)
    · exact mi_v (fE hf h _)
end
end Mi
end
section
/-! Mi20: the translation of expressions is sound, the whole step. -/
namespace Mi
open PySem PySem.Spec
open PyProof.Rows hiding St Fr
open L2

section
variable {X : Cx} {k : Nat} {C : Ct} {z : Zx} {e a b c : Expr} {es : List Expr} {pos : Pos} {f : Rec} {m : T}
theorem lc_make (hf : Snd f) (h : XOk X k C z) {elt tg iter : Expr} {ifs : List Expr} {scope : Scope} {q : List Nat × Bool} {c : T} (hb : blkC z.N z.sc scope (ownOf z.N scope) = true) (hs : noSet iter = true) (hk : scope.kind = .function)
    (ht : tgIx (z.blk scope) tg = some q) (hi : q.1.all (fun i => decide (i ∈ (ownOf z.N scope).map (·.2))) = true) (hc : ∀ (X' : Cx), XOk X' k C (z.blk scope) → PTs X' ifs (tT X'.K C c)) :
    LcOk X C elt tg iter ifs scope (ownOf z.N scope) q.1 q.2 (stI f z tg iter).1 c (f.e (z.blk scope) elt) where
  hi := stI_ok hf h (tgIx_tup ht)
  ok := by
    have := blkOk_by hb
    rw [← h.hn, ← h.sc] at this
    rw [← h.hn]
    exact this
  hg := fun s H A cl fp => pg_T h.calm h.nd (tgIx_ok (h.blk hk) ht)
  ht := fun s H A cl fp => hc _ (h.blk hk)
  he := fun s H A cl fp => fE hf (h.blk hk) elt
  hs := hs
  sub := fun i hi' => by simpa using List.all_eq_true.mp hi i hi'
/-- a comprehension that is walked, or nothing -/
structure LcW (X : Cx) (C : Ct) (elt tg iter : Expr) (ifs : List Expr) (scope : Scope) (own : List (Str × Nat)) (wi : TI) (g : TG) (tt : TT) (te : TE) (m : Ex) : Prop where
  hi : PI X tg iter wi
  ok : BlkOk X.N X.env.scope scope own
  hg : ∀ (s : Shared) (H : Hp) (A : Addr) (cl : List (Str × Addr)) (fp : List Addr), PG (X.blk s H scope (compEnvC scope cl A X.env) fp) tg g
  ht : ∀ (s : Shared) (H : Hp) (A : Addr) (cl : List (Str × Addr)) (fp : List Addr), PTs (X.blk s H scope (compEnvC scope cl A X.env) fp) ifs tt
  he : ∀ (s : Shared) (H : Hp) (A : Addr) (cl : List (Str × Addr)) (fp : List Addr), PE (X.blk s H scope (compEnvC scope cl A X.env) fp) elt te
  hs : noSet iter = true
  w : ∀ (σ : L2.St) (H : Hp) (Q : VK), tE X.K C m σ H Q → tLc wi g tt te (own.map (·.2)) σ H Q
theorem LcOk.w {X : Cx} {C : Ct} {elt tg iter : Expr} {ifs : List Expr} {scope : Scope} {own : List (Str × Nat)} {is : List Nat} {one : Bool} {it : I} {c : T} {m : Ex} (L : LcOk X C elt tg iter ifs scope own is one it c m) :
    LcW X C elt tg iter ifs scope own (tI X.K C one it) (gT X.K is one) (tT X.K C c) (tE X.K C m) (.lc (own.map (·.2)) is one it c m) := ⟨L.hi, L.ok, L.hg, L.ht, L.he, L.hs, fun σ H Q q => tLc_ok L.sub q⟩
def LcOr (X : Cx) (C : Ct) (elt : Expr) (gs : List Comprehension) (scope : Scope) (m : Ex) : Prop := m = .bad ∨ ∃ tg iter ifs own wi g tt te, gs = [⟨tg, iter, ifs, 0⟩] ∧ LcW X C elt tg iter ifs scope own wi g tt te m
theorem mt_yes {X : Cx} : PTs X [] (tT X.K C .yes) := ⟨fun pins s σ H Q I ⟨F, st, b, st', r, e, q⟩ => by
  cases e
  exact pts_nil.run pins s σ H Q I (q _ _ (Go.refl r))⟩
theorem stLcO_ok (hf : Snd f) (h : XOk X k C z) {elt : Expr} {gs : List Comprehension} {scope : Scope} : LcOr X C elt gs scope (stLcO f z elt gs scope) := by
  unfold stLcO
  split
  · rename_i tg iter ifs asy
    split
    · rename_i hc
      simp only [Bool.and_eq_true, decide_eq_true_eq] at hc
      obtain ⟨⟨⟨rfl, hb⟩, hs⟩, hk⟩ := hc
      split
      · rename_i is one ht
        split
        · rename_i hi
          exact .inr ⟨tg, iter, [], _, _, _, _, _, rfl, (lc_make (q := (is, one)) hf h hb hs hk ht hi fun X' _ => mt_yes).w⟩
        · exact .inl rfl
      · rename_i is one c ht
        split
        · rename_i hi
          exact .inr ⟨tg, iter, [c], _, _, _, _, _, rfl, (lc_make (q := (is, one)) hf h hb hs hk ht hi fun X' h' => pts_one (fT hf h' c)).w⟩
        · exact .inl rfl
      · exact .inl rfl
    · exact .inl rfl
  · exact .inl rfl
theorem fn_names : ∀ {ns : List Expr} {fs : List (Str × List Str)}, XOk X k C z → fnNames z ns = some fs → Nms X ns (fs.map (·.1)) ∧ ∀ q ∈ fs, ∃ b, z.sg.lookup q.1 = some (q.2, b)
  | [], fs, h, e => by
    cases e
    exact ⟨.nil, fun q hq => by cases hq⟩
  | n :: ns, fs, h, e => by
    unfold fnNames at e
    split at e
    · rename_i he
      exact absurd he (List.cons_ne_nil _ _)
    · rename_i x p es he
      cases he
      split at e
      · rename_i hg
        simp only [Option.bind_eq_some_iff, Option.map_eq_some_iff] at e
        obtain ⟨q, hq, r, hr, rfl⟩ := e
        obtain ⟨i1, i2⟩ := fn_names h hr
        obtain ⟨f, fd, qual, as, body, scope, hx⟩ := h.cal x q hq
        refine ⟨.cons (h.gl hg).1 hx.mg hx.db i1, fun y hy => ?_⟩
        rcases List.mem_cons.mp hy with rfl | hy
        · exact ⟨q.2, hq⟩
        · exact i2 y hy
      · cases e
    · cases e
theorem stLf_ok (hf : Snd f) (h : XOk X k C z) {elt : Expr} {gs : List Comprehension} {scope : Scope} {m : Ex} (hm : stLf f z elt gs scope = some m) : LcOr X C elt gs scope m := by
  unfold stLf at hm
  split at hm
  · rename_i v vp ns x1 tp asy y yp es kws cp
    split at hm
    · rename_i hc
      simp only [Bool.and_eq_true, decide_eq_true_eq] at hc
      obtain ⟨⟨⟨⟨rfl, hb⟩, hk⟩, rfl⟩, hs⟩ := hc
      split at hm
      · rename_i fs i i' ks e1 e2 e3 e4
        split at hm
        · rename_i hc2
          simp only [Bool.and_eq_true, decide_eq_true_eq] at hc2
          obtain ⟨⟨rfl, hal⟩, hl⟩ := hc2
          cases hm
          obtain ⟨n1, n2⟩ := fn_names h e1
          have hal' : ∀ q ∈ fs, callOk q.2 es.length ks = true := List.all_eq_true.mp hal
          have em : ((fs.map fun q => (q.1, permOf q.2 es.length ks)).map (·.1)) = fs.map (·.1) := by rw [List.map_map]; rfl
          have hfs : ∀ (X' : Cx), XOk X' k C (z.blk scope) → ∀ q ∈ (fs.map fun q => (q.1, permOf q.2 es.length ks)), ∃ ps, CallOk X' k C q.1 ps ∧ callOk ps es.length ks = true ∧ q.2 = permOf ps es.length ks := fun X' h' q hq => by
            obtain ⟨q0, hq0, rfl⟩ := List.mem_map.mp hq
            obtain ⟨b, hb⟩ := n2 q0 hq0
            exact ⟨q0.2, h'.cal q0.1 (q0.2, b) hb, hal' q0 hq0, rfl⟩
          have hmg : ∀ q ∈ (fs.map fun q => (q.1, permOf q.2 es.length ks)), ∃ a, X.mg q.1 = some (.ref a) := fun q hq => by
            obtain ⟨q0, hq0, rfl⟩ := List.mem_map.mp hq
            obtain ⟨b, hb⟩ := n2 q0 hq0
            obtain ⟨f', fd, qual, as, body, sc, hx⟩ := h.cal q0.1 (q0.2, b) hb
            exact ⟨f', hx.mg⟩
          have ok : BlkOk X.N X.env.scope scope (ownOf z.N scope) := by
            have := blkOk_by hb
            rw [← h.hn, ← h.sc] at this
            rw [← h.hn]
            exact this
          refine .inr ⟨.Name y vp, .Tuple ns x1 tp, [], ownOf z.N scope, iTup X.K (tTup (tFns X.mg (fs.map (·.1)))), gName i, tYes, teF X.mg X.K C i (fs.map fun q => (q.1, permOf q.2 es.length ks)) (match es with
              | [] => trK (fun k => f.e (z.blk scope) (kwE k)) kws
              | e :: r => (trL (fun e => f.e (z.blk scope) e) (e :: r)).app (trK (fun k => f.e (z.blk scope) (kwE k)) kws)), rfl, pi_tup (pe_tup (pa_nms n1)), ok, fun s H A cl fp => ?_, fun s H A cl fp => pts_nil, fun s H A cl fp => ?_, rfl, fun σ H Q q => ?_⟩
          · have st := (h.blk (s := s) (H := H) (A := A) (cl := cl) (fp := fp) hk).st e2
            exact pg_name (h.blk hk).nd st.ix st.loc st.fn
          · have h' := h.blk (s := s) (H := H) (A := A) (cl := cl) (fp := fp) hk
            cases es with
            | nil => exact me_callF0 h'.room h'.g (h'.ix e3) (hfs _ h') (kw_map e4) (K_pk fun q _ => fE hf h' _) fun st os st' e => K_len (q := (os, st')) e4 e
            | cons e r => exact me_callF h'.room h'.g (h'.ix e3) (hfs _ h') hs (kw_map e4) (ma_of_mn (L_pa (fun e _ => fE hf h' e) hs)) (K_pk fun q _ => fE hf h' _) (fun st os st' e => L_len (q := (os, st')) e) fun st os st' e => K_len (q := (os, st')) e4 e
          · have := tLcf_ok (own := ownOf z.N scope) hmg (by rw [List.length_map, sizeLine_eq]; omega) q
            rw [em] at this
            exact this
        · cases hm
      · cases hm
    · cases hm
  · cases hm
theorem stLc_ok (hf : Snd f) (h : XOk X k C z) {elt : Expr} {gs : List Comprehension} {scope : Scope} : LcOr X C elt gs scope (stLc f z elt gs scope) := by
  unfold stLc
  split
  · rename_i m hm
    exact stLf_ok hf h hm
  · exact stLcO_ok hf h
theorem lcOr_pe {elt : Expr} {gs : List Comprehension} {scope : Scope} {m : Ex} (h : XOk X k C z) (L : LcOr X C elt gs scope m) : PE X (.ListComp elt gs scope pos) (tE X.K C m) := by
  rcases L with rfl | ⟨tg, iter, ifs, own, wi, g, tt, te, rfl, L⟩
  · exact bad_pe
  · exact pe_mono (pe_lc h.calm h.nd L.hi L.ok L.hg L.ht L.he (foldS L.hs)) L.w
theorem stSub_ok (hf : Snd f) (h : XOk X k C z) : PE X (.Subscript a b pos) (tE X.K C (stSub f z a b)) := by
  have O : ∀ (o : Option Expr), PO X o (tO X.K C (match o with
    | none => .no
    | some e => .so (rdE z e (f.e z e)))) := fun o => by
    cases o with
    | none => exact mo_none
    | some e => exact mo_some (fR hf h e)
  unfold stSub
  split
  · exact me_sl (fR hf h a) (O _) (O _)
  · exact me_rev (fR hf h a)
  · exact bad_pe
  · rename_i h1 h2 h3
    refine me_ix h.room ?_ (fR hf h a) (fR hf h b)
    cases b <;> first | rfl | exact absurd rfl (h3 _ _ _ _)
theorem me_one {op : BoolOp} {m : Ex} (h : PE X a (tE X.K C m)) : PE X (.BoolOp op [a] pos) (tE X.K C m) := pe_one h
theorem mt_one {op : BoolOp} {m : T} (h : PT X a (tT X.K C m)) : PW X (.BoolOp op [a] pos) (tT X.K C m) := by
  cases op with
  | And => exact pw_and1 h
  | Or => exact pw_or1 h
theorem stE_ok (hf : Snd f) (h : XOk X k C z) : PE X e (tE X.K C (stE f z e)) := by
  unfold stE
  split
  · split
    · rename_i p hp; exact me_lit hp
    · exact bad_pe
  · split
    · rename_i i hi; exact me_var (h.ix hi)
    · split
      · rename_i hg; exact me_glo (h.gl hg).1 (h.glo _) (h.gl hg).2
      · exact bad_pe
  · split
    · rename_i a o b p _ q hq
      have := me_op (pos := p) (o := q) (fR hf h a) (fR hf h b)
      rw [o2Of_op hq] at this
      exact this
    · exact bad_pe
  · exact me_neg (fR hf h _)
  · exact me_not (fR hf h _)
  · exact me_one (fE hf h _)
  · exact me_and (fR hf h _) (fE hf h _)
  · exact me_or (fR hf h _) (fE hf h _)
  · rename_i a o b p
    split
    · rename_i hs
      have := me_cm (pos := p) (o := cmOf o) h.room (fR hf h a) (fR hf h b) (nomarks hs)
      rw [cmOf_op] at this
      exact this
    · exact bad_pe
  · rename_i a o o' b c p
    split
    · rename_i hs
      have := me_cm2 (pos := p) (o := cmOf o) (o' := cmOf o') h.room (fR hf h a) (fR hf h b) (fR hf h c) (nomarks hs)
      rw [cmOf_op, cmOf_op] at this
      exact this
    · exact bad_pe
  · exact me_ite (fT hf h _) (fE hf h _) (fE hf h _)
  · split
    · rename_i hs; exact me_tup (ma_of_mn (L_pa (fun e _ => fE hf h e) hs))
    · exact bad_pe
  · split
    · rename_i hs; exact me_lst (ma_of_mn (L_pa (fun e _ => fE hf h e) hs))
    · exact bad_pe
  · exact me_dct0
  · exact stSub_ok hf h
  · rename_i x p es kws p2
    split
    · rename_i hg
      split
      · rename_i q hq; exact stCal_ok hf h (h.gl hg).1 (h.cal x q hq)
      · split
        · rename_i hk
          cases kws with
          | nil => exact stBlt_ok hf h
          | cons _ _ => cases hk
        · exact bad_pe
    · exact bad_pe
  · rename_i o name apos es kws cpos
    split
    · rename_i hk
      cases kws with
      | nil => exact stMe_ok hf h
      | cons _ _ => cases hk
    · exact bad_pe
  · exact lcOr_pe h (stLc_ok hf h)
  · exact bad_pe
theorem mt_cm2 {o o' : Cm} {ma mb mc : Ex} (hr : Room k X.A) (ha : PE X a (tE X.K C ma)) (hb : PE X b (tE X.K C mb)) (hc : PE X c (tE X.K C mc)) (hm : lastMarks [o.op, o'.op] [b, c] = false) :
    PT X (.Compare a [o.op, o'.op] [b, c] pos) (tT X.K C (.v (.cm2 o o' ma mb mc))) :=
  tE_test (σ := []) (H := fun _ => none) (Q := fun _ _ => True) (pt_chain (cm_ok hr o) (cm_ok hr o') ha hb hc hm) (fun σ H Q h => by
    obtain ⟨F, st, od, st', r, e, q⟩ := h
    simp only [evE, Option.bind_eq_some_iff] at e
    obtain ⟨qa, ea, qb, eb, x, ex, y, ey, z, ez, e⟩ := e
    refine tE_two r ea eb fun u v F' H' g ra rb => ⟨F', x, y, z, g.rel.le, ra.rd g.rel ex, rb.rd g.rel ey, ez, z, rfl, ?_⟩
    cases z with
    | false =>
      cases e
      exact iteF (q _ _ _ (Res.den g (Dn.bl _)))
    | true =>
      rw [if_pos rfl] at e
      simp only [Option.bind_eq_some_iff, Option.map_eq_some_iff] at e
      obtain ⟨qc, ec, y', ey', u', eu', z', ez', e⟩ := e
      cases e
      refine iteT ⟨F', qb.2, qc.1, qc.2, g.rel, ec, fun w F2 H2 rc => ?_⟩
      exact ⟨F2, y', u', z', rc.go.rel.le, (rb.step rc.go).rd rc.go.rel ey', rc.rel.rd rc.go.rel eu', ez', q _ _ _ (Res.den (g.trans rc.go) (Dn.bl _))⟩) fun _ _ _ _ _ h _ _ => cm2_ofB h
theorem stT_ok (hf : Snd f) (h : XOk X k C z) : PT X e (tT X.K C (stT f z e)) ∧ ∀ op vs p, e = .BoolOp op vs p → PW X e (tT X.K C (stT f z e)) := by
  unfold stT
  split
  · have := mt_one (op := ‹BoolOp›) (pos := ‹Pos›) (fT hf h ‹Expr›)
    exact ⟨this.pt, fun _ _ _ _ => this⟩
  · rename_i a b r p
    have := mt_and (pos := p) (fT hf h a) ((hf X k C z (.BoolOp .And (b :: r) p) h).2.2 _ _ _ rfl)
    exact ⟨this.pt, fun _ _ _ _ => this⟩
  · rename_i a b r p
    have := mt_or (pos := p) (fT hf h a) ((hf X k C z (.BoolOp .Or (b :: r) p) h).2.2 _ _ _ rfl)
    exact ⟨this.pt, fun _ _ _ _ => this⟩
  · exact ⟨mt_not (fT hf h _), fun _ _ _ e => by cases e⟩
  · rename_i a o b p
    refine ⟨?_, fun _ _ _ e => by cases e⟩
    split
    · rename_i hs
      have := mt_cm (pos := p) (o := cmOf o) h.room (fR hf h a) (fR hf h b) (nomarks hs)
      rw [cmOf_op] at this
      exact this
    · exact bad_pt
  · rename_i a o o' b c p
    refine ⟨?_, fun _ _ _ e => by cases e⟩
    split
    · rename_i hs
      have := mt_cm2 (pos := p) (o := cmOf o) (o' := cmOf o') h.room (fR hf h a) (fR hf h b) (fR hf h c) (nomarks hs)
      rw [cmOf_op, cmOf_op] at this
      exact this
    · exact bad_pt
  · split
    · rename_i hp
      exact ⟨mt_v hp (fR hf h _), fun _ _ _ e => by subst e; cases hp⟩
    · exact ⟨bad_pt, fun _ _ _ _ => bad_pw⟩
theorem snd_tr : ∀ n, Snd (tr n)
  | 0 => fun X k C z e h => ⟨bad_pe, bad_pt, fun _ _ _ _ => bad_pw⟩
  | n + 1 => fun X k C z e h => ⟨stE_ok (snd_tr n) h, (stT_ok (snd_tr n) h).1, (stT_ok (snd_tr n) h).2⟩
end
end Mi
end
section
/-! Mi21: the translation of statements, and that it is sound. -/
namespace Mi
open PySem PySem.Spec
open PyProof.Rows hiding St Fr
open L2

def noTup : Expr → Bool
  | .Tuple .. => false
  | _ => true
def strd : Expr → Bool
  | .Starred .. => true
  | _ => false
def isLc (z : Zx) (x : Str) : Bool := decide (z.sc.names.lookup x = some .local)
/-- a, b = c, d stored from the right -/
def swB (vs : List Expr) : Bool := !(vs.any strd) && !(vs.all (foldedForSure 8)) && !(vs.all (constantsAlone 8))
def isLC : Expr → Bool
  | .ListComp .. => true
  | _ => false
def asgS (f : Rec) (z : Zx) (tg e : Expr) : S := match tg, e with
  | .Name x _, e => if noComp e || isLC e then (match z.st x with
    | some i => .asg i (f.e z e)
    | none => .raise) else .raise
  | .Subscript (.Name x _) b _, e => if noSlice b && noComp e then (match z.ix x with
    | some i => .setI i (rdE z b (f.e z b)) (f.e z e)
    | none => .raise) else .raise
  | .Tuple [.Name x px, .Name y py] kt pt, .Tuple [a, b] k2 pt2 => if isLc z x && isLc z y && decide (x ≠ y) && (py.line == px.line) && noStars [a, b] && swB [a, b] then (match z.st x, z.st y with
      | some i, some j => if i ≠ j then .par [i, j] (trL (fun e => (f.e z e)) [a, b]) else .raise
      | _, _ => .raise)
    else if [a, b].all (foldedForSure 8) then (match tgIs z [.Name x px, .Name y py] with
      | some is => .asgT is (f.e z (.Tuple [a, b] k2 pt2))
      | none => .raise)
    else if !(isLc z x && isLc z y && (py.line == px.line)) && noStars [a, b] then (match tgIs z [.Name x px, .Name y py] with
      | some is => if is.length < 100 then .par is (trL (fun e => (f.e z e)) [a, b]) else .raise
      | none => .raise) else .raise
  | .Tuple [.Name x px, .Name y py, .Name w pw] kt pt, .Tuple [a, b, c] k2 pt2 => if isLc z x && isLc z y && isLc z w && decide (x ≠ y) && decide (x ≠ w) && decide (y ≠ w) && (py.line == px.line) && (pw.line == px.line) && noStars [a, b, c] && swB [a, b, c] then (match z.st x, z.st y, z.st w with
      | some i, some j, some l => if i ≠ j ∧ i ≠ l ∧ j ≠ l then .par [i, j, l] (trL (fun e => (f.e z e)) [a, b, c]) else .raise
      | _, _, _ => .raise)
    else if [a, b, c].all (foldedForSure 8) then (match tgIs z [.Name x px, .Name y py, .Name w pw] with
      | some is => .asgT is (f.e z (.Tuple [a, b, c] k2 pt2))
      | none => .raise)
    else if !(isLc z x && isLc z y && isLc z w && (py.line == px.line) && (pw.line == px.line)) && noStars [a, b, c] then (match tgIs z [.Name x px, .Name y py, .Name w pw] with
      | some is => if is.length < 100 then .par is (trL (fun e => (f.e z e)) [a, b, c]) else .raise
      | none => .raise) else .raise
  | .Tuple [.Tuple es1 k1 p1, .Tuple es2 k2 p2] kt pt, e => if noComp e then (match tgIs z es1, tgIs z es2 with
      | some is, some js => .asgTT is js (rdE z e (f.e z e))
      | _, _ => .raise) else .raise
  | .Tuple [.Subscript (.Name x p) b sp, .Subscript (.Name y yp) l yp2] kt pt, e => if noComp e && noSlice b && noSlice l then (match z.ix x, z.ix y with
      | some i, some j => .asgSS i (rdE z b (f.e z b)) j (rdE z l (f.e z l)) (rdE z e (f.e z e))
      | _, _ => .raise) else .raise
  | .Tuple [.Subscript (.Name x p) (.Constant (.int kn) kk kp) sp, .Name y yp] tk tp, e => if noTup e && noComp e then (match z.ix x, z.st y with
    | some i, some j => .divI i kn j (rdE z e (f.e z e))
    | _, _ => .raise) else .raise
  | .Tuple es k p, e => if noTup e && noComp e then (match tgIs z es with
    | some is => .asgT is (rdE z e (f.e z e))
    | none => .raise) else .raise
  | _, _ => .raise
def exprS (f : Rec) (z : Zx) (e : Expr) : S := match e with
  | .Constant (.str _) _ _ => .pass
  | .Call (.Attribute (.Name x p) name apos) [a] [] cpos => if name = "append" ∧ (apos.endLine == cpos.line) = true ∧ noStar a = true then (match z.ix x with
      | some i => .app i (f.e z a)
      | none => .raise)
    else if name = "extend" ∧ (apos.endLine == cpos.line) = true ∧ noStar a = true then (match z.ix x with
      | some i => .ext i (rdE z a (f.e z a))
      | none => .raise)
    else .ex (f.e z e)
  | .Call (.Attribute (.Name x p) name apos) [a, b] [] cpos => if name = "setdefault" ∧ (apos.endLine == cpos.line) = true ∧ noStar a = true ∧ noStar b = true then (match z.ix x with
      | some i => .sdf i (rdE z a (f.e z a)) (f.e z b)
      | none => .raise)
    else .ex (f.e z e)
  | e => if noComp e then .ex (f.e z e) else .raise
def retS (f : Rec) (z : Zx) (e : Expr) : S := match e with
  | .Name x _ => (match z.ix x with
    | some i => .retv i
    | none => .ret (f.e z e))
  | e => .ret (f.e z e)
def ssL (g : Stmt → S) : List Stmt → Ss
  | [] => .nil
  | s :: r => .cons (g s) (ssL g r)
def augOf : Operator → Option O2
  | .Add => some .add
  | .Sub => some .sub
  | _ => none
def stS (f : Rec) (z : Zx) (g : Stmt → S) (s : Stmt) : S := match s with
  | .Assign [tg] e _ => asgS f z tg e
  | .Expr e _ => exprS f z e
  | .Return none _ => .retN
  | .Return (some e) _ => retS f z e
  | .Pass _ => .pass
  | .Break _ => .brk
  | .Continue _ => .cont
  | .If c a b _ => .ifs (f.t z c) (ssL g a) (ssL g b)
  | .While c b [] _ => .whl (f.t z c) (ssL g b)
  | .For tg iter b [] _ => if noSet iter then (match tgIx z tg with
    | some q => .fr q.1 q.2 (stI f z tg iter).1 (ssL g b)
    | none => .raise) else .raise
  | .AugAssign (.Name x _) op e _ => (match z.st x, augOf op with
    | some i, some o => .aug i o (rdE z e (f.e z e))
    | _, _ => .raise)
  | .AugAssign (.Subscript (.Name x _) b _) .Add e _ => if noSlice b then (match z.ix x with
    | some i => .augI i (rdE z b (f.e z b)) (rdE z e (f.e z e))
    | none => .raise) else .raise
  | _ => .raise
def trS (f : Rec) (z : Zx) : Nat → Stmt → S
  | 0, _ => .raise
  | n + 1, s => stS f z (trS f z n) s

section
variable {X : Cx} {k : Nat} {C : Ct} {z : Zx} {e a b c : Expr} {es : List Expr} {pos : Pos} {f : Rec} {st : Stmt}
theorem blkK (h : XOk X k C z) : X.env.blockKind = .function := by
  have hk : X.env.scope.kind = .function := by rw [h.sc]; exact h.kd
  unfold Env.blockKind
  rw [hk]
  rfl
theorem sw_notup {tg : Expr} {env : Env} (h : noTup e = true) : swappedStores [tg] e env = pure none := by
  cases e <;> cases tg <;> first | rfl | cases h
theorem sw_fold2 {x y w u : Expr} {kt k2 : Nat} {pt pt2 : Pos} {env : Env} (h : [a, b].all (foldedForSure 8) = true) : swappedStores [.Tuple [x, y] kt pt] (.Tuple [a, b] k2 pt2) env = pure none := by
  unfold swappedStores
  simp only [h, if_true]
  split <;> first | rfl | (split <;> first | rfl | (split <;> rfl))
theorem sw_fold3 {x y w : Expr} {kt k2 : Nat} {pt pt2 : Pos} {env : Env} (h : [a, b, c].all (foldedForSure 8) = true) : swappedStores [.Tuple [x, y, w] kt pt] (.Tuple [a, b, c] k2 pt2) env = pure none := by
  unfold swappedStores
  simp only [h, if_true]
  split <;> first | rfl | (split <;> first | rfl | (split <;> rfl))
def noNm : Expr → Bool
  | .Name .. => false
  | _ => true
theorem sw_two {t1 t2 e : Expr} {kt : Nat} {pt : Pos} {env : Env} (h1 : noNm t1 = true) (h2 : noNm t2 = true) : swappedStores [.Tuple [t1, t2] kt pt] e env = pure none := by
  unfold swappedStores
  cases e with
  | Tuple vs k p =>
    simp only
    split
    · rfl
    · split
      · rfl
      · rw [List.filterMap_cons_none (a := t1) (by cases t1 <;> first | rfl | cases h1), List.filterMap_cons_none (a := t2) (by cases t2 <;> first | rfl | cases h2)]
        rfl
  | _ => rfl
theorem lc_ok {x : Str} (h : XOk X k C z) (e : isLc z x = true) : X.env.kindOf x = some .local := by
  show X.env.scope.names.lookup x = _
  rw [h.sc]
  unfold isLc at e
  exact of_decide_eq_true e
theorem st_ok2 (h : XOk X k C z) {es : List Expr} {is : List Nat} (e : tgIs z es = some is) : ∀ kk p, TgOk X (.Tuple es kk p) is false := fun kk p => .tup (tgIs_ok h e)
theorem any_strd {vs : List Expr} {g : Expr → Bool} (hg : ∀ e, g e = strd e) (h : vs.any strd = false) : ¬ (vs.any g = true) := by
  rw [funext hg, h]
  exact Bool.false_ne_true
theorem sw_par2 {x y : Str} {px py pt pt2 : Pos} {kt k2 : Nat} (h : XOk X k C z) (hx : isLc z x = true) (hy : isLc z y = true) (hne : x ≠ y) (hl : (py.line == px.line) = true) (hs : swB [a, b] = true) :
    swappedStores [.Tuple [.Name x px, .Name y py] kt pt] (.Tuple [a, b] k2 pt2) X.env = pure (some [x, y]) := by
  unfold swB at hs
  simp only [Bool.and_eq_true, Bool.not_eq_true'] at hs
  obtain ⟨⟨h1, h2⟩, h3⟩ := hs
  have e1 := lc_ok h hx
  have e2 := lc_ok h hy
  have hl' : py.line = px.line := by simpa using hl
  have hne' : (y == x) = false := by simpa using fun e => hne e.symm
  have hne2 : (x == y) = false := by simpa using hne
  unfold swappedStores
  simp only [blkK h]
  rw [if_neg (by simp), if_neg (any_strd ?_ h1), h2, h3]
  · simp [e1, e2, hl', Expr.pos, List.eraseDups, List.eraseDupsBy, List.eraseDupsBy.loop, hne', hne2]
  · intro e; cases e <;> rfl
theorem sw_par3 {x y w : Str} {px py pw pt pt2 : Pos} {kt k2 : Nat} (h : XOk X k C z) (hx : isLc z x = true) (hy : isLc z y = true) (hw : isLc z w = true) (hxy : x ≠ y) (hxw : x ≠ w) (hyw : y ≠ w) (hl : (py.line == px.line) = true) (hl2 : (pw.line == px.line) = true) (hs : swB [a, b, c] = true) :
    swappedStores [.Tuple [.Name x px, .Name y py, .Name w pw] kt pt] (.Tuple [a, b, c] k2 pt2) X.env = pure (some [x, y, w]) := by
  unfold swB at hs
  simp only [Bool.and_eq_true, Bool.not_eq_true'] at hs
  obtain ⟨⟨h1, h2⟩, h3⟩ := hs
  have e1 := lc_ok h hx
  have e2 := lc_ok h hy
  have e3 := lc_ok h hw
  have hl' : py.line = px.line := by simpa using hl
  have hl2' : pw.line = px.line := by simpa using hl2
  have n1 : (y == x) = false := by simpa using fun e => hxy e.symm
  have n2 : (w == x) = false := by simpa using fun e => hxw e.symm
  have n3 : (w == y) = false := by simpa using fun e => hyw e.symm
  unfold swappedStores
  simp only [blkK h]
  rw [if_neg (by simp), if_neg (any_strd ?_ h1), h2, h3]
  · simp [e1, e2, e3, hl', hl2', Expr.pos, List.eraseDups, List.eraseDupsBy, List.eraseDupsBy.loop, n1, n2, n3]
  · intro e; cases e <;> rfl
end
theorem loc_eq {X : Cx} {k : Nat} {C : Ct} {z : Zx} (h : XOk X k C z) (x : Str) : (X.env.kindOf x == some .local) = isLc z x := by
  show (X.env.scope.names.lookup x == some .local) = _
  rw [h.sc]
  unfold isLc
  cases z.sc.names.lookup x with
  | none => rfl
  | some k => cases k <;> rfl
theorem sw_cell2 {X : Cx} {k : Nat} {C : Ct} {z : Zx} {a b : Expr} {x y : Str} {px py pt pt2 : Pos} {kt k2 : Nat} (h : XOk X k C z) (hc : (isLc z x && isLc z y && (py.line == px.line)) = false) :
    swappedStores [.Tuple [.Name x px, .Name y py] kt pt] (.Tuple [a, b] k2 pt2) X.env = pure none := by
  have kx := loc_eq h x
  have ky := loc_eq h y
  unfold swappedStores
  simp only [blkK h]
  rw [if_neg (by simp)]
  split
  · rfl
  · rw [if_pos]
    cases hx : isLc z x <;> cases hy : isLc z y <;> cases hl : (py.line == px.line) <;> simp_all [Expr.pos]
theorem sw_cell3 {X : Cx} {k : Nat} {C : Ct} {z : Zx} {a b c : Expr} {x y w : Str} {px py pw pt pt2 : Pos} {kt k2 : Nat} (h : XOk X k C z) (hc : (isLc z x && isLc z y && isLc z w && (py.line == px.line) && (pw.line == px.line)) = false) :
    swappedStores [.Tuple [.Name x px, .Name y py, .Name w pw] kt pt] (.Tuple [a, b, c] k2 pt2) X.env = pure none := by
  have kx := loc_eq h x
  have ky := loc_eq h y
  have kw := loc_eq h w
  unfold swappedStores
  simp only [blkK h]
  rw [if_neg (by simp)]
  split
  · rfl
  · rw [if_pos]
    cases hx : isLc z x <;> cases hy : isLc z y <;> cases hw : isLc z w <;> cases hl : (py.line == px.line) <;> cases hl2 : (pw.line == px.line) <;> simp_all [Expr.pos]
end Mi
end
section
/-! Mi22: statements, sound. -/
namespace Mi
open PySem PySem.Spec
open PyProof.Rows hiding St Fr
open L2

/-- a translation of expressions that is sound, of comprehensions too -/
structure Snd2 (f : Rec) : Prop where
  e : Snd f
  lc : ∀ (X : Cx) (k : Nat) (C : Ct) (z : Zx) (elt : Expr) (gs : List Comprehension) (scope : Scope) (p : Pos), XOk X k C z → LcOr X C elt gs scope (f.e z (.ListComp elt gs scope p))
theorem snd2_tr : ∀ n, Snd2 (tr n)
  | 0 => ⟨snd_tr 0, fun _ _ _ _ _ _ _ _ _ => .inl rfl⟩
  | n + 1 => ⟨snd_tr (n + 1), fun _ _ _ _ _ _ _ _ h => stLc_ok (snd_tr n) h⟩
section
variable {X : Cx} {k : Nat} {C : Ct} {z : Zx} {e a b c : Expr} {es : List Expr} {pos : Pos} {f : Rec} {st : Stmt}
theorem asg_read {te : TE} {ma : Ex} {i : Nat} (w : ∀ σ H Q, tE X.K C ma σ H Q → te σ H Q) : ∀ D σ H, tS X.K C (.asg i ma) D σ H → tAsg te (gName i) D σ H := fun D σ H ⟨F, st, o, st', r, e, q⟩ => by
  simp only [exS, Option.bind_eq_some_iff, Option.map_eq_some_iff] at e
  obtain ⟨qa, ea, s, es, e⟩ := e
  cases e
  exact w σ H _ ⟨F, st, qa.1, qa.2, r, ea, fun v F1 H1 ra => q _ _ _ (ra.store es)⟩
theorem sw_lc {elt : Expr} {gs : List Comprehension} {scope : Scope} {pos py : Pos} {y : Str} {l : Nat} {env : Env} : swapsWith (.ListComp elt gs scope pos) (some (.Name y py)) l env =
    pure (env.blockKind == .function && env.kindOf y == some .local && py.line == pos.line && !(scope.names.any fun (n, k) => n == y && (k == .local || k == .cell))) := rfl
theorem asg_lc (h : XOk X k C z) {elt : Expr} {gs : List Comprehension} {scope : Scope} {p lp : Pos} {x : Str} {i : Nat} {m : Ex} (hs : StOk X x i) (L : LcOr X C elt gs scope m) : PS X (.Assign [.Name x p] (.ListComp elt gs scope lp) pos) (tS X.K C (.asg i m)) := by
  rcases L with rfl | ⟨tg, iter, ifs, own, wi, g, tt, te, rfl, L⟩
  · exact ⟨fun pins s σ H D I ⟨F, st, o, st', r, e, q⟩ => by simp only [exS] at e; cases e⟩
  · cases hb : (X.env.blockKind == .function && X.env.kindOf x == some .local && p.line == lp.line && !(scope.names.any fun (n, k) => n == x && (k == .local || k == .cell))) with
    | true =>
      have hl : X.env.scope.names.lookup x = some .local := by
        simp only [Bool.and_eq_true, beq_iff_eq] at hb
        exact hb.1.1.2
      exact ps_mono (ps_setLc h.calm h.nd hs.ix hl (by rw [sw_lc, hb]) L.hi L.ok L.hg L.ht L.he (foldS L.hs)) (asg_read L.w)
    | false =>
      exact ps_mono (ps_set h.nd hs.ix hs.loc (pe_lc h.calm h.nd L.hi L.ok L.hg L.ht L.he (foldS L.hs)) (by rw [sw_lc, hb]) hs.fn) (asg_read L.w)
theorem asg_any (hf : Snd2 f) (h : XOk X k C z) {x : Str} {p : Pos} {i : Nat} (hc : (noComp e || isLC e) = true) (hs : StOk X x i) : PS X (.Assign [.Name x p] e pos) (tS X.K C (.asg i (f.e z e))) := by
  rw [Bool.or_eq_true] at hc
  rcases hc with hc | hc
  · exact ms_asg h.nd hs hc (fE hf.e h e)
  · cases e with
    | ListComp elt gs scope lp => exact asg_lc h hs (hf.lc X k C z elt gs scope lp h)
    | _ => cases hc
theorem asgS_ok (hf : Snd2 f) (h : XOk X k C z) {tg : Expr} : PS X (.Assign [tg] e pos) (tS X.K C (asgS f z tg e)) := by
  have E := fun e => fE hf.e h e
  have R := fun e => fR hf.e h e
  have L : ∀ {es : List Expr}, noStars es = true → PA X es (tN X.K C (trL (fun e => (f.e z e)) es)) := fun hs => L_pa (fun e _ => E e) hs
  unfold asgS
  split
  · split
    · rename_i hc
      split
      · rename_i i hi
        exact asg_any hf h hc (h.st hi)
      · exact ms_raise
    · exact ms_raise
  · split
    · rename_i hc
      rw [Bool.and_eq_true] at hc
      split
      · rename_i i hi; exact ms_setI h.room (h.ix hi) hc.1 hc.2 (E _) (R _)
      · exact ms_raise
    · exact ms_raise
  · rename_i x px y py kt pt a b k2 pt2
    split
    · rename_i hc
      simp only [Bool.and_eq_true, decide_eq_true_eq] at hc
      obtain ⟨⟨⟨⟨⟨h1, h2⟩, h3⟩, h4⟩, h5⟩, h6⟩ := hc
      split
      · rename_i i j hi hj
        split
        · rename_i hij
          exact ms_par2 h.calm h.nd (h.st hi).ix (h.st hj).ix hij (lc_ok h h1) (lc_ok h h2) (L h5) (sw_par2 h h1 h2 h3 h4 h6)
        · exact ms_raise
      · exact ms_raise
    · split
      · rename_i hc
        split
        · rename_i is his
          exact ms_asgT h.calm h.nd (st_ok2 h his kt pt) rfl (sw_fold2 (w := a) (u := a) hc) (E _)
        · exact ms_raise
      · split
        · rename_i hc
          rw [Bool.and_eq_true, Bool.not_eq_true'] at hc
          split
          · rename_i is his
            split
            · rename_i few
              exact ms_parT h.calm h.nd (tgIs_ok h his) (L hc.2) few (sw_cell2 h hc.1)
            · exact ms_raise
          · exact ms_raise
        · exact ms_raise
  · rename_i x px y py w pw kt pt a b c k2 pt2
    split
    · rename_i hc
      simp only [Bool.and_eq_true, decide_eq_true_eq] at hc
      obtain ⟨⟨⟨⟨⟨⟨⟨⟨⟨h1, h2⟩, h3⟩, h4⟩, h5⟩, h6⟩, h7⟩, h8⟩, h9⟩, h10⟩ := hc
      split
      · rename_i i j l hi hj hl
        split
        · rename_i hd
          exact ms_par3 h.calm h.nd (h.st hi).ix (h.st hj).ix (h.st hl).ix hd.1 hd.2.1 hd.2.2 (lc_ok h h1) (lc_ok h h2) (lc_ok h h3) (L h9) (sw_par3 h h1 h2 h3 h4 h5 h6 h7 h8 h10)
        · exact ms_raise
      · exact ms_raise
    · split
      · rename_i hc
        split
        · rename_i is his
          exact ms_asgT h.calm h.nd (st_ok2 h his kt pt) rfl (sw_fold3 hc) (E _)
        · exact ms_raise
      · split
        · rename_i hc
          rw [Bool.and_eq_true, Bool.not_eq_true'] at hc
          split
          · rename_i is his
            split
            · rename_i few
              exact ms_parT h.calm h.nd (tgIs_ok h his) (L hc.2) few (sw_cell3 h hc.1)
            · exact ms_raise
          · exact ms_raise
        · exact ms_raise
  · split
    · rename_i hc
      split
      · rename_i is js his hjs
        exact ms_asgTT h.calm h.nd (st_ok2 h his _ _) (st_ok2 h hjs _ _) hc (sw_two rfl rfl) (R _)
      · exact ms_raise
    · exact ms_raise
  · split
    · rename_i hc
      rw [Bool.and_eq_true, Bool.and_eq_true] at hc
      split
      · rename_i i j hi hj
        exact ms_asgSS h.room h.calm (h.ix hi) (h.ix hj) hc.1.2 hc.2 hc.1.1 (sw_two rfl rfl) (R _) (R _) (R _)
      · exact ms_raise
    · exact ms_raise
  · split
    · rename_i hc
      rw [Bool.and_eq_true] at hc
      split
      · rename_i i j hi hj
        exact ms_divI h.calm h.nd (h.ix hi) (h.st hj) hc.2 (sw_notup hc.1) (R _)
      · exact ms_raise
    · exact ms_raise
  · split
    · rename_i hc
      rw [Bool.and_eq_true] at hc
      split
      · rename_i is his
        exact ms_asgT h.calm h.nd (st_ok2 h his _ _) hc.2 (sw_notup hc.1) (R _)
      · exact ms_raise
    · exact ms_raise
  · exact ms_raise
theorem exprS_ok (hf : Snd2 f) (h : XOk X k C z) : PS X (.Expr e pos) (tS X.K C (exprS f z e)) := by
  have E := fun e => fE hf.e h e
  have R := fun e => fR hf.e h e
  unfold exprS
  split
  · exact ms_doc
  · rename_i x p name apos a cpos
    split
    · rename_i hc
      obtain ⟨rfl, h1, h2⟩ := hc
      split
      · rename_i i hi; exact ms_app (h.ix hi) (E a) h2 h1
      · exact ms_raise
    · split
      · rename_i hc
        obtain ⟨rfl, h1, h2⟩ := hc
        split
        · rename_i i hi; exact ms_ext (h.ix hi) (R a) h2 h1
        · exact ms_raise
      · exact ms_ex rfl (E _)
  · split
    · rename_i hc
      obtain ⟨rfl, h1, h2, h3⟩ := hc
      split
      · rename_i i hi; exact ms_sdf (h.ix hi) (R _) (E _) h2 h3 h1
      · exact ms_raise
    · exact ms_ex rfl (E _)
  · split
    · rename_i hn; exact ms_ex hn (E _)
    · exact ms_raise
theorem retS_ok (hf : Snd2 f) (h : XOk X k C z) : PS X (.Return (some e) pos) (tS X.K C (retS f z e)) := by
  unfold retS
  split
  · split
    · rename_i i hi; exact ms_retv (h.ix hi)
    · exact ms_ret (fE hf.e h _)
  · exact ms_ret (fE hf.e h _)
theorem ssL_ok {g : Stmt → S} (hg : ∀ s, PS X s (tS X.K C (g s))) : ∀ ss : List Stmt, PSs X ss (tSs X.K C (ssL g ss))
  | [] => ms_nil
  | s :: ss => ms_cons (hg s) (ssL_ok hg ss)
theorem augOf_ok {o : Operator} {p : O2} (h : augOf o = some p) : p.op = o ∧ (p = .add ∨ p = .sub) := by
  cases o <;> cases h
  · exact ⟨rfl, .inl rfl⟩
  · exact ⟨rfl, .inr rfl⟩
theorem stS_ok (hf : Snd2 f) (h : XOk X k C z) (hp : PassesOwn (model X.prog X.w) X.A X.env X.xe) {g : Stmt → S} (hg : ∀ s, PS X s (tS X.K C (g s))) : PS X st (tS X.K C (stS f z g st)) := by
  unfold stS
  split
  · exact asgS_ok hf h
  · exact exprS_ok hf h
  · exact ms_retN
  · exact retS_ok hf h
  · exact ms_pass
  · exact ms_brk
  · exact ms_cont
  · exact ms_if (fT hf.e h _) (ssL_ok hg _) (ssL_ok hg _)
  · exact ms_while hp (fT hf.e h _) (ssL_ok hg _)
  · split
    · rename_i hs
      split
      · rename_i q hq
        exact ms_for hp h.calm h.nd (tgIx_ok h hq) (stI_ok hf.e h (tgIx_tup hq)) hs (ssL_ok hg _)
      · exact ms_raise
    · exact ms_raise
  · split
    · rename_i i o hi ho
      obtain ⟨e1, e2⟩ := augOf_ok ho
      subst e1
      exact ms_aug e2 h.nd (h.st hi) (fR hf.e h _)
    · exact ms_raise
  · split
    · rename_i hs
      split
      · rename_i i hi
        exact ms_augI h.room (h.ix hi) hs (fR hf.e h _) (fR hf.e h _)
      · exact ms_raise
    · exact ms_raise
  · exact ms_raise
theorem trS_ok (hf : Snd2 f) (h : XOk X k C z) (hp : PassesOwn (model X.prog X.w) X.A X.env X.xe) : ∀ (n : Nat) (st : Stmt), PS X st (tS X.K C (trS f z n st))
  | 0, _ => ms_raise
  | n + 1, _ => stS_ok hf h hp (trS_ok hf h hp n)
end
end Mi
end
section
/-! Mi23: the text's defs. -/
namespace Mi
open PySem PySem.Spec
open PyProof.Rows hiding St Fr
open L2

structure Df where
  x : Str
  as : List Arg
  body : List Stmt
  scope : Scope
  N : List Str
  io : Bool
abbrev Df.ps (d : Df) : List Str := d.as.map (·.arg)
def sgOf (ds : List Df) : List (Str × List Str × Bool) := ds.map fun d => (d.x, d.ps, d.io)
def Df.zx (d : Df) (sg : List (Str × List Str × Bool)) (bl : List Str) : Zx := ⟨d.N, d.scope, fun _ => true, sg, bl⟩
def Df.fd (d : Df) (sg : List (Str × List Str × Bool)) (bl : List Str) (m : Nat) : Fd := ⟨d.ps, d.N.length, d.io, ssL (trS (tr m) (d.zx sg bl) m) d.body⟩
def tabOf (ds : List Df) (gl : List (Str × PyData)) (bl : List Str) (m : Nat) : Tab := ⟨ds.map fun d => (d.x, d.fd (sgOf ds) bl m), gl⟩
def Df.okB (d : Df) : Bool := decide (d.scope.kind = .function) && !d.scope.isCoroutine && !d.scope.isGenerator && decide d.N.Nodup && decide (d.N.take d.ps.length = d.ps) &&
  (d.ps.all fun x => decide (d.scope.names.lookup x = some .local) || decide (d.scope.names.lookup x = some .cell)) && (d.scope.names.all fun y => !(y.2 == .free)) && !(d.x == ("__debug__" : Str)) && decide (d.io = true → d.ps ≠ [])
theorem Df.scp {d : Df} (h : d.okB = true) : FnScope d.N d.ps d.scope ∧ (d.x == ("__debug__" : Str)) = false ∧ (d.io = true → d.ps ≠ []) := by
  unfold Df.okB at h
  simp only [Bool.and_eq_true, decide_eq_true_eq, Bool.not_eq_true', List.all_eq_true, Bool.or_eq_true] at h
  obtain ⟨⟨⟨⟨⟨⟨⟨⟨h1, h2⟩, h3⟩, h4⟩, h5⟩, h6⟩, h7⟩, h8⟩, h9⟩ := h
  exact ⟨⟨h1, h2, h3, h4, h5, h6, fun y hy e => by have := h7 y hy; rw [e] at this; cases this⟩, h8, h9⟩
theorem lookup_find {α : Type} (g : Df → α) (x : Str) : ∀ ds : List Df, (ds.map fun d => (d.x, g d)).lookup x = (ds.find? fun d => x == d.x).map g
  | [] => rfl
  | d :: ds => by
    rw [List.map_cons, List.lookup_cons, List.find?_cons]
    cases h : (x == d.x) with
    | true => rfl
    | false => exact lookup_find g x ds
section
variable {K : PySem.W.Frag} {F H F' H' : Hp} {vs : List V} {ds : List D} {d : D}
theorem dens_len : ∀ {vs : List V} {ds : List D}, Dens K F vs ds → vs.length = ds.length
  | _, _, .nil => rfl
  | _, _, .cons _ t => congrArg Nat.succ (dens_len t)
theorem dens_at : ∀ {vs : List V} {ds : List D} {i : Nat} {d : D}, Dens K F vs ds → ds[i]? = some d → ∃ v, vs[i]? = some v ∧ Den K F v d
  | _, _, _, _, .nil, e => by simp at e
  | _, _, 0, _, .cons r _, e => by simp at e; subst e; exact ⟨_, rfl, r⟩
  | _, _, i + 1, d, .cons _ t, e => by
    obtain ⟨v, h1, h2⟩ := dens_at (i := i) (d := d) t (by simpa using e)
    exact ⟨v, by simpa using h1, h2⟩
theorem start_at {N : List Str} {i : Nat} {v : V} (h : vs[i]? = some v) : (L2.start N vs)[i]? = some (some v) := by
  unfold L2.start
  rw [List.getElem?_append_left (by rw [List.length_map]; exact get_lt h), List.getElem?_map, h] <;> rfl
theorem enter_fr {n i : Nat} {s : Sl} (h : (ds.map Sl.fr ++ List.replicate n Sl.no)[i]? = some s) : s = .no ∨ ∃ d, ds[i]? = some d ∧ s = .fr d := by
  by_cases l : i < ds.length
  · rw [List.getElem?_append_left (by rw [List.length_map]; exact l), List.getElem?_map, List.getElem?_eq_getElem l] at h
    cases h
    exact .inr ⟨_, List.getElem?_eq_getElem l, rfl⟩
  · rw [List.getElem?_append_right (by rw [List.length_map]; omega)] at h
    have := List.mem_of_getElem? h
    exact .inl (List.eq_of_mem_replicate this)
/-- how a def's frame stands at its entry -/
structure EntR (K : PySem.W.Frag) (F H : Hp) (st : En) (σ : L2.St) (io : Bool) (vs : List V) : Prop where
  rel : Rel K F st σ H
  own : ∀ a, Owns st σ a ↔ LentAt io vs a
  bo : ∀ d0, st[0]? = some (Sl.bo d0) → io = true
  v0 : σ[0]? = vs.head?.map some
theorem ent_ok {Fd0 : Fd} {N : List Str} (le : Same F H) (hn : Fd0.n = N.length) (hv : vs.length ≤ N.length) (hne : Fd0.io = true → vs ≠ []) (h : ArgR K F H Fd0.io vs ds) (hpos : vs ≠ [] ∨ N = [] ∨ True) : ds.length = vs.length ∧ (Rel K F (enter Fd0 ds) (L2.start N vs) H ∧ (∀ a, Owns (enter Fd0 ds) (L2.start N vs) a ↔ LentAt Fd0.io vs a)) := by
  unfold enter
  cases hio : Fd0.io with
  | false =>
    rw [hio] at h
    have h : Dens K F vs ds := h
    have ll := dens_len h
    have at' : ∀ {i : Nat} {s : Sl}, (ds.map Sl.fr ++ List.replicate (Fd0.n - ds.length) Sl.no)[i]? = some s → s.owned = false ∧ SlR K F H (L2.start N vs) i s := fun {i s} e => by
      rcases enter_fr e with rfl | ⟨d, h1, rfl⟩
      · exact ⟨rfl, trivial⟩
      · obtain ⟨v, h2, h3⟩ := dens_at h h1
        exact ⟨rfl, v, start_at h2, h3⟩
    refine ⟨ll.symm, ⟨le, ?_, fun i s e => (at' e).2, fun i j s t a h1 h2 h3 => ?_⟩, fun a => ⟨fun ⟨i, s, h1, h2, _⟩ => ?_, fun z => ?_⟩⟩
    · unfold L2.start
      simp only [List.length_append, List.length_map, List.length_replicate]
      omega
    · rw [(at' h1).1] at h3; cases h3
    · rw [(at' h1).1] at h2; cases h2
    · cases z.1
  | true =>
    rw [hio] at h
    match vs, ds, h with
    | v :: vr, d :: dr, h =>
      obtain ⟨⟨a, rfl, hF, hO⟩, hd⟩ := h
      have ll := dens_len hd
      have at' : ∀ {i : Nat} {s : Sl}, (Sl.bo d :: dr.map Sl.fr ++ List.replicate (Fd0.n - (d :: dr).length) Sl.no)[i]? = some s → (i = 0 ∧ s = .bo d) ∨ (s.owned = false ∧ SlR K F H (L2.start N (V.ref a :: vr)) i s) := fun {i s} e => by
        cases i with
        | zero => cases e; exact .inl ⟨rfl, rfl⟩
        | succ i =>
          rcases enter_fr (i := i) (s := s) (by simpa using e) with rfl | ⟨d', h1, rfl⟩
          · exact .inr ⟨rfl, trivial⟩
          · obtain ⟨v, h2, h3⟩ := dens_at hd h1
            exact .inr ⟨rfl, v, start_at (by simpa using h2), h3⟩
      have s0 : (L2.start N (V.ref a :: vr))[0]? = some (some (V.ref a)) := start_at rfl
      refine ⟨by simp [ll], ⟨le, ?_, fun i s e => ?_, fun i j s t b h1 h2 h3 h4 _ _ => ?_⟩, fun b => ⟨fun ⟨i, s, h1, h2, h3⟩ => ?_, fun z => ?_⟩⟩
      · unfold L2.start
        simp only [List.length_append, List.length_map, List.length_replicate, List.length_cons] at hv ⊢
        omega
      · rcases at' e with ⟨rfl, rfl⟩ | ⟨_, z⟩
        · exact ⟨a, s0, hF, hO⟩
        · exact z
      · rcases at' h1 with ⟨e, _⟩ | ⟨z, _⟩
        · rcases at' h2 with ⟨e', _⟩ | ⟨z, _⟩
          · rw [e, e']
          · rw [z] at h4; cases h4
        · rw [z] at h3; cases h3
      · rcases at' h1 with ⟨e, _⟩ | ⟨z, _⟩
        · subst e
          rw [s0] at h3
          cases h3
          exact ⟨rfl, rfl⟩
        · rw [z] at h2; cases h2
      · have e : V.ref a = V.ref b := by simpa using z.2
        cases e
        exact ⟨0, .bo d, rfl, rfl, s0⟩
    | [], _, h => exact absurd rfl (hne hio)
/-- the def's end -/
theorem ret_ok {Fd0 : Fd} {st' : En} {σ σ' : L2.St} {st : En} {v : V} {b : Bool} {fin : D} (r : Rel K F st σ H) (own : ∀ a, Owns st σ a ↔ LentAt Fd0.io vs a) (h0 : ∀ a, LentAt Fd0.io vs a → σ[0]? = some (some (V.ref a))) (g : Go K st σ F H st' σ' F' H') (hl : lentE Fd0.io st' = some fin)
    (ho : ORel K F' H' st' σ' v (if b then .fe d else .va d)) (hf : Fro st σ H v (if b then .fe d else .va d)) : RetR K F H Fd0.io vs d b fin v F' H' := by
  have lent : ∀ a, LentAt Fd0.io vs a → Owns st' σ' a ∧ F' a = none ∧ OwnAt K F' H' a fin := fun a ha => by
    have io := ha.1
    rw [io] at hl
    unfold lentE at hl
    split at hl
    · rename_i z; cases z
    · rename_i dd tl _
      cases hl
      have e0 : (Sl.bo fin :: tl)[0]? = some (Sl.bo fin) := rfl
      obtain ⟨e1, _⟩ := g.bos 0 fin e0
      obtain ⟨c, k1, k2, k3⟩ := g.rel.sl 0 _ e0
      rw [e1, h0 a ha] at k1
      cases k1
      exact ⟨⟨0, _, e0, rfl, by rw [e1]; exact h0 a ha⟩, k2, k3⟩
    · cases hl
  refine ⟨⟨g.stp.fr, fun a o h n => g.stp.keep a o h fun z => n ((own a).mp z), g.stp.live, fun a h => .inl h, fun a h => (g.stp.frz a h).imp id (Or.imp (own a).mp id)⟩, g.rel.le, fun a ha => (lent a ha).2, fun e => ?_, fun e => ?_⟩
  · subst e; exact ho
  · subst e
    obtain ⟨a, e1, h1, h2, h3⟩ := ho
    obtain ⟨a', e2, h4⟩ := hf
    rw [e1] at e2; cases e2
    refine ⟨a, e1, h4.resolve_left fun z => h3 (lent a ((own a).mp z)).1, h1, h2⟩
end
/-- the text, as it lies in the heap -/
structure Txt (K : PySem.W.Frag) (mg : Str → Option Value) (ds : List Df) (gl : List (Str × PyData)) (bl : List Str) : Prop where
  ok : ∀ d ∈ ds, d.okB = true
  fn : ∀ d ∈ ds, ∃ f fd, FunD K d.x d.x (simpleArgs d.as) d.body d.scope [] [] f fd ∧ mg d.x = some (.ref f)
  bl : ∀ x ∈ bl, mg x = none
  gl : ∀ x p, gl.lookup x = some p → ∃ v u, mg x = some u ∧ RelV v u ∧ ∀ F, Dn K F v p
theorem all_fn {P : Program} {w : World} {K : PySem.W.Frag} {mg : Str → Option Value} {base : Heap} {ds : List Df} {gl : List (Str × PyData)} {bl : List Str} {fuel m : Nat} (T : Txt K mg ds gl bl) :
    ∀ (n : Nat) (x : Str) (d : Df), (ds.find? fun d => x == d.x) = some d → ∀ f fd, FunD K d.x d.x (simpleArgs d.as) d.body d.scope [] [] f fd → FnG P w K mg base n f fd d.ps (spC K (run (tabOf ds gl bl m) fuel n x) d.io d.ps.length)
  | 0, x, d, hd, f, fd, FD => ⟨fun vs H Q E h => h.1, fun A outer s H args us vs Q hr hg e0 hb r ⟨_, F, ds, d, b, fin, _, e, _⟩ => by cases e⟩
  | n + 1, x, d, hd, f, fd, FD => by
    have hm := List.mem_of_find?_eq_some hd
    obtain ⟨S, hdb, hio⟩ := Df.scp (T.ok d hm)
    refine fnG_of FD S (fun vs H Q E h => by rw [h.1]) fun cdv A outer s H vs Q hr hg hsp => ?_
    have hz : XOk (cxOf CX0 P w K mg base d.N d.x d.scope f cdv A outer s H E0).nox n ((tabOf ds gl bl m).ct fuel (run (tabOf ds gl bl m) fuel n)) (d.zx (sgOf ds) bl) := {
      hn := rfl
      nd := S.nd
      sc := rfl
      kd := S.kind
      fn := fun _ _ => rfl
      calm := rfl
      room := hr
      g := hg
      bl := T.bl
      glo := fun x p e => T.gl x p e
      cal := fun y q e => by
        have e : (sgOf ds).lookup y = some q := e
        unfold sgOf at e
        rw [lookup_find (fun d => (d.ps, d.io)) y ds, Option.map_eq_some_iff] at e
        obtain ⟨d2, h2, rfl⟩ := e
        have hy : y = d2.x := by have := List.find?_some h2; simpa using this
        have hm2 := List.mem_of_find?_eq_some h2
        obtain ⟨f2, fd2, FD2, mg2⟩ := T.fn d2 hm2
        have io2 : ((tabOf ds gl bl m).ct fuel (run (tabOf ds gl bl m) fuel n)).io y = d2.io := by
          show ((ds.map fun d => (d.x, d.fd (sgOf ds) bl m)).lookup y).elim false Fd.io = d2.io
          rw [lookup_find (fun d => d.fd (sgOf ds) bl m) y ds, h2] <;> rfl
        have fn2 := all_fn (P := P) (w := w) (base := base) (fuel := fuel) (m := m) T n y d2 h2 f2 fd2 FD2
        subst hy
        refine ⟨f2, fd2, d2.x, d2.as, d2.body, d2.scope, ⟨rfl, FD2, ?_, mg2, (Df.scp (T.ok d2 hm2)).2.1⟩⟩
        rw [io2]
        exact fn2 }
    refine ⟨_, ssL_ok (trS_ok (snd2_tr m) hz PassesOwn.never m) d.body, ?_⟩
    obtain ⟨hlen, F, as, rd, b, fin, le, e, ha, q⟩ := hsp
    have hF : (tabOf ds gl bl m).fds.lookup x = some (d.fd (sgOf ds) bl m) := by
      show (ds.map fun d => (d.x, d.fd (sgOf ds) bl m)).lookup x = _
      rw [lookup_find (fun d => d.fd (sgOf ds) bl m) x ds, hd] <;> rfl
    simp only [run, hF, Option.bind_some] at e
    have hpl : d.ps.length ≤ d.N.length := by have := congrArg List.length S.pre; rw [List.length_take] at this; omega
    obtain ⟨l1, r, own⟩ := ent_ok (Fd0 := d.fd (sgOf ds) bl m) (N := d.N) le rfl (by rw [hlen]; exact hpl) (fun h z => hio h (List.length_eq_zero_iff.mp (by rw [← hlen, z] <;> rfl))) ha (.inr (.inr trivial))
    split at e
    · simp only [Option.bind_eq_some_iff] at e
      obtain ⟨⟨o, st'⟩, ex, fin', hl, e⟩ := e
      refine ⟨F, _, o, st', r, ex, fun σ' F' H' g => ?_⟩
      have h0 : ∀ a, LentAt d.io vs a → (L2.start d.N vs)[0]? = some (some (V.ref a)) := fun a ha => start_at (by
        cases vs with
        | nil => cases ha.2
        | cons v vr => exact ha.2)
      cases o with
      | rt d' b' =>
        cases e
        exact fun v h1 h2 => q v F' H' (ret_ok (Fd0 := d.fd (sgOf ds) bl m) r own h0 g hl h1 h2)
      | nx =>
        cases e
        exact q _ F' H' (ret_ok (Fd0 := d.fd (sgOf ds) bl m) (b := false) r own h0 g hl Dn.non trivial)
      | brk => cases e
      | cont => cases e
    · cases e
end Mi
end
section
/-! Mi24: a law's end. -/
namespace Mi
open PySem PySem.Spec
open PyProof.Rows hiding St Fr
open L2

section
variable {P : Program} {w : World} {K : PySem.W.Frag} {mg mb : Str → Option Value} {k : Nat} {fa a : Addr} {fd : FuncData} {x : Str} {sp : Sp} {t : Shared} {us : List Value} {ns : List Int} {H : Hp}
/-- the heap's part that is not told stays; so it is the module's -/
theorem top_env (inK : K.In t.heap) (g1 : t.heap.Ns mainGlobals mg) (g2 : t.heap.Ns builtinsNs mb) (g3 : ∀ y : Str, y ≠ "__name__" → mb y = bootBuiltins y) (g4 : t.heap.NoLimit) (g5 : t.gens = #[])
    (hl : t.heap.get? a = some { cls := .type "list", data := .seq us.toArray }) (tell : HOk P w H t.heap) (one : ∀ b, H b ≠ none → b = a) (apart : H a ≠ none → K.lookup a = none) :
    K.In (hidT t.heap H) ∧ (hidT t.heap H).Ns mainGlobals mg ∧ Env0 P w K mg (hidT t.heap H) callerA [] t H := by
  have quiet : ∀ {b : Addr} {o : Obj}, (H b ≠ none → b ≠ a) → t.heap.get? b = some o → (hidT t.heap H).get? b = some o := fun {b o} hb ho => by
    refine hidT_get ho ?_
    cases hH : H b with
    | none => rfl
    | some u => exact absurd (one b (by rw [hH]; simp)) (hb (by rw [hH]; simp))
  have spaces : ∀ {b : Addr} {m : Str → Option Value}, t.heap.Ns b m → (hidT t.heap H).Ns b m := by
    intro b m hb
    obtain ⟨o, es, ep, ho, hd, rest⟩ := hb
    refine ⟨o, es, ep, quiet (fun _ e => ?_) ho, hd, rest⟩
    subst e
    rw [hl] at ho
    cases ho
    exact Data.noConfusion (show Data.seq us.toArray _ = Data.dict es ep from hd)
  have inB : K.In (hidT t.heap H) := fun b o e => quiet (fun n e2 => by
    subst e2
    rw [apart n] at e
    cases e) (inK b o e)
  obtain ⟨mc, l1, l2⟩ := g4
  refine ⟨inB, spaces g1, rfl, ⟨inB, spaces g1, ⟨mb, spaces g2, g3⟩, mc, spaces l1, l2⟩, fun b o e => of_hidT e, Nat.le_of_eq (hidT_size _ _), trivial, fun b hb => ?_, tell, .of_eq g5⟩
  cases (show b ∈ ([] : List Addr) from hb)
theorem top_run (inK : K.In t.heap) (g1 : t.heap.Ns mainGlobals mg) (g2 : t.heap.Ns builtinsNs mb) (g3 : ∀ y : Str, y ≠ "__name__" → mb y = bootBuiltins y) (g4 : t.heap.NoLimit) (g5 : t.gens = #[])
    (hl : t.heap.get? a = some { cls := .type "list", data := .seq us.toArray }) (tell : HOk P w H t.heap) (one : ∀ b, H b ≠ none → b = a) (apart : H a ≠ none → K.lookup a = none) (only : Only H) (room : Room k callerA)
    (fn : ∀ base : Heap, K.In base → base.Ns mainGlobals mg → FnG P w K mg base k fa fd [x] sp) (bd : ∀ (s : Shared) (u : Value), BindsTo s fd ⟨[u], []⟩ [(x, u)]) (wish : sp [.ref a] H (fun v _ => v = .bl true) E0) :
    codeAny (model P w) callerA (.call (.ref fa) ⟨[.ref a], []⟩) (fun r s' => r = .ok (.ret (.bool true)) ∧ OldK t.heap s'.heap ∧ s'.os = t.os ∧ AllBare s'.gens) t := by
  obtain ⟨inB, spB, env⟩ := top_env (P := P) (w := w) inK g1 g2 g3 g4 g5 hl tell one apart
  have go := (fn _ inB spB).run callerA [] t H ⟨[.ref a], []⟩ [.ref a] [.ref a] _ room rfl env (bd t (.ref a)) (.cons rfl .nil) wish
  refine codeAny_mono go fun r s' h => ?_
  match r, h with
  | .ok (.ret u), h =>
    obtain ⟨v, H', os, bare, un, told, rel, ev⟩ := h
    have ev : v = .bl true := ev
    subst ev
    cases rel
    refine ⟨rfl, OldK.of_keep fun b o ho => ?_, os, bare⟩
    rcases only b with n | ⟨ob, xs, f⟩
    · refine un.keep b o ho n (fun z => ?_) (by simp)
      cases (show b ∈ ([] : List Addr) from z)
    · have now := (told b _ (un.frzs b ob _ f)).1
      have was := (tell b _ f).1
      rw [ho] at was
      cases was
      exact now
  | .ok .next, h => exact h.elim
  | .ok .brk, h => exact h.elim
  | .ok .cont, h => exact h.elim
  | .error e, h => exact h.elim
/-- a law's call: the script is a list of ints -/
theorem top_call (inK : K.In t.heap) (g1 : t.heap.Ns mainGlobals mg) (g2 : t.heap.Ns builtinsNs mb) (g3 : ∀ y : Str, y ≠ "__name__" → mb y = bootBuiltins y) (g4 : t.heap.NoLimit) (g5 : t.gens = #[])
    (hl : t.heap.get? a = some { cls := .type "list", data := .seq us.toArray }) (nums : IntsAre us ns) (few : ns.length ≤ sizeLine) (room : Room k callerA)
    (fn : ∀ base : Heap, K.In base → base.Ns mainGlobals mg → FnG P w K mg base k fa fd [x] sp) (bd : ∀ (s : Shared) (u : Value), BindsTo s fd ⟨[u], []⟩ [(x, u)])
    (wish : ∀ H : Hp, SqL K H a (ns.map V.int) → sp [.ref a] H (fun v _ => v = .bl true) E0) :
    codeAny (model P w) callerA (.call (.ref fa) ⟨[.ref a], []⟩) (fun r s' => r = .ok (.ret (.bool true)) ∧ OldK t.heap s'.heap ∧ s'.os = t.os ∧ AllBare s'.gens) t := by
  have rel := vals_ints nums
  have len : us.length = ns.length := nums.length
  cases hK : K.lookup a with
  | some o =>
    have ho := inK a o hK
    rw [hl] at ho
    cases ho
    refine top_run (H := fun _ => none) inK g1 g2 g3 g4 g5 hl (fun b u z => ?_) (fun b z => absurd rfl z) (fun z => absurd rfl z) (fun _ => .inl rfl) room fn bd (wish _ (.inr ⟨_, us.toArray, _, hK, rfl, rfl, rfl, ?_, by simpa using rel⟩))
    · cases (show (none : Option HO) = some u from z)
    · rw [List.size_toArray, len]; exact few
  | none =>
    let tell : HO := .frz { cls := .type "list", data := .seq us.toArray } (.lst (ns.map V.int))
    have at' : ∀ b, upd (fun _ => none) a tell b ≠ none → b = a := fun b z => by
      by_cases e : b = a
      · exact e
      · rw [upd_ne e] at z; exact absurd rfl z
    refine top_run (H := upd (fun _ => none) a tell) inK g1 g2 g3 g4 g5 hl (fun b u z => ?_) at' (fun _ => hK) (fun b => ?_) room fn bd (wish _ (.inl (.inr ⟨_, upd_same⟩)))
    · obtain rfl := at' b (by rw [z]; simp)
      rw [upd_same] at z
      cases z
      exact ⟨hl, by rw [List.length_map]; exact few, us, _, rel, hl⟩
    · by_cases e : b = a
      · subst e; exact .inr ⟨_, _, upd_same⟩
      · exact .inl (upd_ne e)
end
/-- THE END of a law: the evaluator answers True at every script -/
theorem top_law {l : PySem.W.OpenLaw} {n k : Nat} {q : Program} {loose : List Str} {XP : (Str → Option Value) → Heap → Prop} {YP : World → Heap → Prop} {d : DefRec} {x : Str} {ds : List Df} {gl : List (Str × PyData)} {bl : List Str} {fuel m : Nat} {dl : Df}
    (hn : l.most = some n) (hn2 : n ≤ sizeLine) (hdf : d.params.defaults = []) (room : Room k callerA) (hd : (ds.find? fun y => d.name == y.x) = some dl) (hps : dl.ps = [x]) (hio : dl.io = false)
    (F : ∀ (w : World) (mg : Str → Option Value) (fa : Addr) (h : Heap), YP w h → h.Ns mainGlobals mg → mg d.name = some (.ref fa) →
      ∃ (K : PySem.W.Frag) (fd : FuncData), K.In h ∧ (∀ (s : Shared) (u : Value), BindsTo s fd ⟨[u], []⟩ [(x, u)]) ∧ FunD K dl.x dl.x (simpleArgs dl.as) dl.body dl.scope [] [] fa fd ∧ Txt K mg ds gl bl)
    (law : ∀ ns : List Int, ns.length ≤ n → ∃ b fin, run (tabOf ds gl bl m) fuel k d.name [.scr ns] = some (.py (.bool true), b, fin)) :
    PySem.W.WalkO q loose XP YP l.row.toRowW d [] (fun f vs => PySem.call f vs) := by
  refine Att.attach_call hn hdf fun w s0 t mg mb fa o pm cd doc a us ns G Y ho ho2 hcd hmg hl nums few hg => ?_
  obtain ⟨K, fd, inK, bd, FD, T⟩ := F w mg fa _ Y G.T.g hmg
  have fn : ∀ base : Heap, K.In base → base.Ns mainGlobals mg → FnG l.prog w K mg base k fa fd [x] (spC K (run (tabOf ds gl bl m) fuel k d.name) false 1) := fun base _ _ => by
    have z := all_fn (P := l.prog) (w := w) (base := base) (fuel := fuel) (m := m) T k d.name dl hd fa fd FD
    rw [hps, hio] at z
    exact z
  refine top_call inK G.T.g G.T.b G.T.builtins G.T.nolimit hg hl nums (Nat.le_trans few hn2) room fn bd fun H hS => ?_
  obtain ⟨b, fin, e⟩ := law ns few
  refine ⟨rfl, H, [.scr ns], _, b, fin, Same.refl H, e, .cons ⟨a, rfl, hS⟩ .nil, fun v F' H' hr => ?_⟩
  cases b with
  | false =>
    have := hr.va rfl
    cases this
    rfl
  | true =>
    obtain ⟨c, _, _, _, h⟩ := hr.fe rfl
    exact h.elim
end Mi
end
section
/-! Mi25: the text of a row: its defs, its constants, and what the head tells of them. -/
namespace Mi
open PySem PySem.Spec
open PyProof.Rows hiding St Fr
open L2

/-! ### the defs of a text -/
def ownNames (sc : Scope) : List Str := sc.names.filterMap fun y => if y.2 == .local || y.2 == .cell then some y.1 else none
def gensIt : Comprehension → Expr
  | ⟨_, e, _, _⟩ => e
def gensIfs : Comprehension → List Expr
  | ⟨_, _, l, _⟩ => l
/-- the names that an expression's blocks store -/
def cvE : Nat → Expr → List Str
  | 0, _ => []
  | n + 1, e => match e with
    | .BoolOp _ es _ => es.flatMap (cvE n)
    | .BinOp a _ b _ => cvE n a ++ cvE n b
    | .UnaryOp _ a _ => cvE n a
    | .IfExp a b c _ => cvE n a ++ cvE n b ++ cvE n c
    | .ListComp elt gs sc _ => ownNames sc ++ cvE n elt ++ gs.flatMap fun g => cvE n (gensIt g) ++ (gensIfs g).flatMap (cvE n)
    | .DictComp k v gs sc _ => ownNames sc ++ cvE n k ++ cvE n v ++ gs.flatMap fun g => cvE n (gensIt g) ++ (gensIfs g).flatMap (cvE n)
    | .SetComp elt gs sc _ => ownNames sc ++ cvE n elt ++ gs.flatMap fun g => cvE n (gensIt g) ++ (gensIfs g).flatMap (cvE n)
    | .Compare a _ bs _ => cvE n a ++ bs.flatMap (cvE n)
    | .Call f as ks _ => cvE n f ++ as.flatMap (cvE n) ++ ks.flatMap fun k => cvE n (kwE k)
    | .Attribute a _ _ => cvE n a
    | .Subscript a b _ => cvE n a ++ cvE n b
    | .Tuple es _ _ => es.flatMap (cvE n)
    | .List es _ => es.flatMap (cvE n)
    | .Slice a b c _ => (a.elim [] (cvE n)) ++ (b.elim [] (cvE n)) ++ (c.elim [] (cvE n))
    | _ => []
def cvS : Nat → Stmt → List Str
  | 0, _ => []
  | n + 1, s => match s with
    | .Assign ts e _ => ts.flatMap (cvE 60) ++ cvE 60 e
    | .Expr e _ => cvE 60 e
    | .Return (some e) _ => cvE 60 e
    | .If c a b _ => cvE 60 c ++ a.flatMap (cvS n) ++ b.flatMap (cvS n)
    | .While c b _ _ => cvE 60 c ++ b.flatMap (cvS n)
    | .For _ i b _ _ => cvE 60 i ++ b.flatMap (cvS n)
    | .AugAssign t _ e _ => cvE 60 t ++ cvE 60 e
    | _ => []
/-- the first of each -/
def onces : List Str → List Str → List Str
  | acc, [] => acc.reverse
  | acc, x :: xs => if decide (x ∈ acc) then onces acc xs else onces (x :: acc) xs
def potIo (as : List Arg) : Bool := match as with
  | ⟨x, _, _⟩ :: _ => x == ("pot" : Str)
  | [] => false
def mkDf (st : Stmt) : Option Df := match st with
  | .FunctionDef n ⟨[], as, none, [], [], none, []⟩ b [] _ _ sc _ _ _ => some ⟨n, as, b, sc, onces [] (as.map (·.arg) ++ ownNames sc ++ b.flatMap (cvS 60)), potIo as⟩
  | _ => none
def dfsOf (p : List Stmt) : List Df := p.filterMap mkDf
def defNames (p : List Stmt) : List Str := p.filterMap fun st => match st with
  | .FunctionDef n .. => some n
  | .ClassDef n .. => some n
  | .Assign [.Name n _] _ _ => if n == "__name__" then none else some n
  | _ => none
/-! ### its constants -/
mutual
def constP (gl : List (Str × PyData)) : Nat → Expr → Option PyData
  | 0, _ => none
  | n + 1, e => match e with
    | .Constant v _ _ => litC v
    | .UnaryOp .USub (.Constant (.int i) _ _) _ => some (.int (-i))
    | .Name x _ => gl.lookup x
    | .Tuple es _ _ => (constPs gl n es).map .tuple
    | _ => none
def constPs (gl : List (Str × PyData)) : Nat → List Expr → Option (List PyData)
  | _, [] => some []
  | 0, _ => none
  | n + 1, e :: es => (constP gl n e).bind fun p => (constPs gl n es).map (p :: ·)
end
def glosOf : List (Str × PyData) → List Stmt → List (Str × PyData)
  | gl, [] => gl
  | gl, .Assign [.Name x _] e _ :: r => if x == "__name__" then glosOf gl r else (match constP gl 60 e with
    | some p => glosOf (gl ++ [(x, p)]) r
    | none => glosOf gl r)
  | gl, _ :: r => glosOf gl r
def allBl : List Str := ["len", "tuple", "list", "sorted", "min", "max", "sum", "any", "all", "abs", "int", "bool", "str", "repr", "divmod", "dict", "set", "isinstance", "range", "enumerate", "zip"]
def blOf (p : List Stmt) : List Str := allBl.filter fun x => decide (x ∉ defNames p)
/-! ### what the head tells -/
mutual
def datB (K : PySem.W.Frag) : Value → PyData → Bool
  | v, .none => (match v with
    | .none => true
    | _ => false)
  | v, .bool b => (match v with
    | .bool c => b == c
    | _ => false)
  | v, .int i => (match v with
    | .int j _ => decide (i = j)
    | _ => false)
  | v, .str x => (match v with
    | .str y _ => decide (x = y)
    | _ => false)
  | v, .tuple ps => (match v with
    | .ref a => (match K.lookup a with
      | some ⟨.type c, none, .seq its _, _⟩ => decide (c = "tuple") && decide (its.size ≤ sizeLine) && datAll K its.toList ps
      | _ => false)
    | _ => false)
  | _, _ => false
def datAll (K : PySem.W.Frag) : List Value → List PyData → Bool
  | [], [] => true
  | v :: vs, p :: ps => datB K v p && datAll K vs ps
  | _, _ => false
end
mutual
theorem datB_ok {K : PySem.W.Frag} : ∀ (p : PyData) (u : Value), datB K u p = true → ∃ v, RelV v u ∧ ∀ F, Dn K F v p
  | .none, u, h => by
    cases u <;> first | exact ⟨.non, rfl, fun _ => .non⟩ | (simp [datB] at h)
  | .bool b, u, h => by
    cases u <;> first | (rename_i c; have e : b = c := by simpa [datB] using h
                         subst e; exact ⟨.bl b, rfl, fun _ => .bl b⟩) | (simp [datB] at h)
  | .int i, u, h => by
    cases u <;> first | (rename_i c t; have e : i = c := by simpa [datB] using h
                         subst e; exact ⟨.int i, ⟨t, rfl⟩, fun _ => .int i⟩) | (simp [datB] at h)
  | .str i, u, h => by
    cases u <;> first | (rename_i c t; have e : i = c := by simpa [datB] using h
                         subst e; exact ⟨.str i, ⟨t, rfl⟩, fun _ => .str i⟩) | (simp [datB] at h)
  | .tuple ps, u, h => by
    unfold datB at h
    split at h
    · rename_i a
      split at h
      · rename_i c its n sl hk
        simp only [Bool.and_eq_true, decide_eq_true_eq] at h
        obtain ⟨⟨rfl, h2⟩, h3⟩ := h
        obtain ⟨vs, h4, h5⟩ := datAll_ok ps its.toList h3
        exact ⟨.ref a, rfl, fun F => .tup (.inr ⟨_, its, n, hk, rfl, rfl, rfl, h2, h4⟩) (h5 F)⟩
      · cases h
    · cases h
  | .list _, u, h => by unfold datB at h; cases h
  | .dict _, u, h => by unfold datB at h; cases h
theorem datAll_ok {K : PySem.W.Frag} : ∀ (ps : List PyData) (us : List Value), datAll K us ps = true → ∃ vs, Vals vs us ∧ ∀ F, DnAll K F vs ps
  | [], us, h => by
    cases us with
    | nil => exact ⟨[], .nil, fun _ => .nil⟩
    | cons _ _ => unfold datAll at h; cases h
  | p :: ps, us, h => by
    cases us with
    | nil => unfold datAll at h; cases h
    | cons u us =>
      unfold datAll at h
      rw [Bool.and_eq_true] at h
      obtain ⟨v, h1, h2⟩ := datB_ok p u h.1
      obtain ⟨vs, h3, h4⟩ := datAll_ok ps us h.2
      exact ⟨v :: vs, .cons h1 h3, fun F => .cons (h2 F) (h4 F)⟩
end
def glB (K : PySem.W.Frag) (gl : List (Str × PyData)) : Bool := gl.all fun q => match PySem.W.nsIn K mainGlobals q.1 with
  | some (some v) => datB K v q.2
  | _ => false
theorem glB_ok {K : PySem.W.Frag} {h : Heap} {mg : Str → Option Value} {gl : List (Str × PyData)} (inK : K.In h) (G : h.Ns mainGlobals mg) (c : glB K gl = true) : ∀ x p, gl.lookup x = some p → ∃ v u, mg x = some u ∧ RelV v u ∧ ∀ F, Dn K F v p := by
  intro x p hx
  have := List.all_eq_true.mp c (x, p) (PySem.mem_of_lookup hx)
  split at this
  · rename_i v hv
    obtain ⟨w, h1, h2⟩ := datB_ok p v this
    exact ⟨w, v, PySem.W.mg_of inK G hv, h1, h2⟩
  · cases this
def Df.he (d : Df) : He.DefD := ⟨(d.x, none), d.x, d.x, simpleArgs d.as, d.body, d.scope, [], []⟩
def fasOf (ds : List Df) (bl : List Str) : List He.Fa := ds.map (fun d => .glo d.x) ++ bl.map .free
def obsM (fa : List He.Fa) (fn : List He.DefD) (gl : List (Str × PyData)) (K : PySem.W.Frag) : Bool × He.AlD := (glB K gl, He.obsD fa fn K)
def obsMG (n : Nat) (fa : List He.Fa) (fn : List He.DefD) (gl : List (Str × PyData)) (g : Addr → Option Obj) : Bool × He.AlD := obsM fa fn gl (He.frG g (He.asD g n))
def hookM (n : Nat) (fa : List He.Fa) (fn : List He.DefD) (gl : List (Str × PyData)) : PySem.W.Hook where
  α := Bool × He.AlD
  obs := fun s => obsMG n fa fn gl s.heap.get?
  val := fun _ => (true, He.valD fn)
  says := fun _ h => ∃ K : PySem.W.Frag, K.In h ∧ obsM fa fn gl K = (true, He.valD fn)
  of := fun _ _ e => ⟨_, He.frG_in, e⟩
  keeps := fun _ _ _ ⟨K, hK, c⟩ k => ⟨K, PySem.W.Frag.In.keeps hK k, c⟩
theorem obsMG_eq {n : Nat} {fa : List He.Fa} {fn : List He.DefD} {gl : List (Str × PyData)} {g : Addr → Option Obj} {s : Shared} (h : ∀ a, g a = s.heap.get? a) : obsMG n fa fn gl g = (hookM n fa fn gl).obs s := by
  have e : g = s.heap.get? := funext h
  rw [e] <;> rfl
theorem txt_of {K : PySem.W.Frag} {h : Heap} {mg : Str → Option Value} {ds : List Df} {gl : List (Str × PyData)} {bl : List Str} (inK : K.In h) (G : h.Ns mainGlobals mg) (ok : ds.all Df.okB = true)
    (c : obsM (fasOf ds bl) (ds.map Df.he) gl K = (true, He.valD (ds.map Df.he))) : Txt K mg ds gl bl := by
  have c1 : glB K gl = true := congrArg Prod.fst c
  have c2 : He.SaysD (fasOf ds bl) (ds.map Df.he) K := congrArg Prod.snd c
  refine ⟨fun d hd => List.all_eq_true.mp ok d hd, fun d hd => ?_, fun x hx => ?_, glB_ok inK G c1⟩
  · obtain ⟨i, hi⟩ := List.mem_iff_getElem?.mp hd
    obtain ⟨fd, FD⟩ := c2.def_ i (d := d.he) (by rw [List.getElem?_map, hi] <;> rfl)
    have f := c2.fact i (f := .glo d.x) (by
      unfold fasOf
      rw [List.getElem?_append_left (by rw [List.length_map]; exact get_lt hi), List.getElem?_map, hi] <;> rfl)
    exact ⟨_, fd, FD, He.glo_ok inK G f⟩
  · obtain ⟨i, hi⟩ := List.mem_iff_getElem?.mp hx
    have f := c2.fact ((ds.map fun d => He.Fa.glo d.x).length + i) (f := .free x) (by
      unfold fasOf
      rw [List.getElem?_append_right (Nat.le_add_right _ _), Nat.add_sub_cancel_left, List.getElem?_map, hi] <;> rfl)
    exact He.free_ok inK G f
end Mi
end
section
/-! Mi26: a law by its text. -/
namespace Mi
open PySem PySem.Spec
open PyProof.Rows hiding St Fr
open L2

theorem law_fd {K : PySem.W.Frag} {mg : Str → Option Value} {ds : List Df} {gl : List (Str × PyData)} {bl : List Str} {x : Str} {dl : Df} {fa : Addr} (T : Txt K mg ds gl bl) (hd : dl ∈ ds) (hps : dl.ps = [x]) (hmg : mg dl.x = some (.ref fa)) :
    ∃ fd : FuncData, (∀ (s : Shared) (u : Value), BindsTo s fd ⟨[u], []⟩ [(x, u)]) ∧ FunD K dl.x dl.x (simpleArgs dl.as) dl.body dl.scope [] [] fa fd := by
  obtain ⟨f, fd, FD, hf⟩ := T.fn dl hd
  rw [hmg] at hf
  cases hf
  refine ⟨fd, fun s u => ?_, FD⟩
  have z := FunD.bindsA (ps := dl.ps) FD (fun kV doc pm an cdv ct us hl => ?_) s [u] (by rw [hps] <;> rfl)
  · rw [hps] at z
    exact z
  · have nd : dl.ps.Nodup := by rw [hps]; simp
    have hl' : us.length = dl.as.length := by rw [hl, List.length_map]
    have b := bind_ok (x := dl.x) (qual := dl.x) (as := dl.as) (body := dl.body) (scope := dl.scope) (kV := kV) (doc := doc) (pm := pm) (an := an) (cdv := cdv) (ct := ct) (us := us) (ws := []) (ks := []) nd (by simp) (by simp) (by simpa using hl') (fun p hp => by rw [List.append_nil, hl, List.take_of_length_le (Nat.le_refl _)]; exact hp) rfl
    simp only [List.zip_nil_left, List.append_nil] at b
    rw [b]
    refine congrArg pure (congrArg (List.zip dl.ps) ?_)
    have e : permOf dl.ps us.length [] = (List.range us.length) := by
      unfold permOf
      rw [hl, List.take_of_length_le (Nat.le_refl _), List.append_nil]
      exact permSelf nd
    rw [e]
    apply List.ext_getElem
    · simp
    · intro i h1 h2
      simp only [List.getElem_map, List.getElem_range, List.getD_eq_getElem?_getD, List.getElem?_eq_getElem h2, Option.getD_some]
where
  permSelf : ∀ {l : List Str}, l.Nodup → l.map (fun p => l.idxOf p) = List.range l.length := fun {l} h => by
    apply List.ext_getElem
    · simp
    · intro i h1 h2
      simp only [List.getElem_map, List.getElem_range]
      exact h.idxOf_getElem i (by simpa using h1)
/-- a law whose text is of this kind: the evaluator answers True at every script -/
theorem law_of {l : PySem.W.OpenLaw} {n k lev : Nat} {q : Program} {loose : List Str} {XP : (Str → Option Value) → Heap → Prop} {d : DefRec} {x : Str} {ds : List Df} {gl : List (Str × PyData)} {bl : List Str} {fuel m : Nat} {dl : Df}
    (hn : l.most = some n) (hn2 : n ≤ sizeLine) (hdf : d.params.defaults = []) (room : Room k callerA) (hd : (ds.find? fun y => d.name == y.x) = some dl) (hps : dl.ps = [x]) (hio : dl.io = false) (ok : ds.all Df.okB = true)
    (law : ∀ ns : List Int, ns.length ≤ n → ∃ b fin, run (tabOf ds gl bl m) fuel k d.name [.scr ns] = some (.py (.bool true), b, fin)) :
    PySem.W.WalkO q loose XP (hookM lev (fasOf ds bl) (ds.map Df.he) gl).says l.row.toRowW d [] (fun f vs => PySem.call f vs) := by
  refine top_law hn hn2 hdf room hd hps hio (fun w mg fa h Y G hmg => ?_) law
  obtain ⟨K, inK, c⟩ := Y
  have T := txt_of inK G ok c
  have e : d.name = dl.x := by have := List.find?_some hd; simpa using this
  rw [e] at hmg
  obtain ⟨fd, b, FD⟩ := law_fd T (List.mem_of_find?_eq_some hd) hps hmg
  exact ⟨K, fd, inK, b, FD, T⟩
end Mi
end
section
/-! Ev: the evaluator's equations, for plain proofs. -/
namespace Mi
open PySem
section
variable {C : Ct} {st : En} {e a b c : Ex} {es : Exs}
@[simp] theorem ev_lit {p : PyData} : evE C (.lit p) st = some (.va (.py p), st) := id rfl
@[simp] theorem ev_var {i : Nat} : evE C (.var i) st = (match st[i]? with
    | some (.fr d) => some (.va d, st)
    | some (.ow d) => some (.va d, st.set i (.fr d))
    | _ => none) := id rfl
@[simp] theorem ev_pk {i : Nat} : evE C (.pk i) st = (match st[i]? with
    | some .no => none
    | some _ => some (.pk i, st)
    | none => none) := id rfl
@[simp] theorem ev_glo {x : Str} : evE C (.glo x) st = (C.glo x).map fun p => (.va (.py p), st) := id rfl
@[simp] theorem ev_op {o : O2} : evE C (.op o a b) st = (evE C a st).bind fun qa => (evE C b qa.2).bind fun qb => (rd qb.2 qa.1).bind fun x => (rd qb.2 qb.1).bind fun y => (op2 o x y).map fun z => (z, qb.2) := id rfl
@[simp] theorem ev_neg : evE C (.neg a) st = (evE C a st).bind fun qa => (match rd qa.2 qa.1 with
    | some (.py (.int i)) => some (ofI (-i), qa.2)
    | _ => none) := id rfl
@[simp] theorem ev_cm {o : Cm} : evE C (.cm o a b) st = (evE C a st).bind fun qa => (evE C b qa.2).bind fun qb => (rd qb.2 qa.1).bind fun x => (rd qb.2 qb.1).bind fun y => (cmp o x y).map fun z => (ofB z, qb.2) := id rfl
@[simp] theorem ev_cm2 {o o' : Cm} : evE C (.cm2 o o' a b c) st = (evE C a st).bind fun qa => (evE C b qa.2).bind fun qb => (rd qb.2 qa.1).bind fun x => (rd qb.2 qb.1).bind fun y => (cmp o x y).bind fun z =>
      if z then (evE C c qb.2).bind fun qc => (rd qc.2 qb.1).bind fun y => (rd qc.2 qc.1).bind fun u => (cmp o' y u).map fun z => (ofB z, qc.2) else some (ofB false, qb.2) := id rfl
@[simp] theorem ev_and : evE C (.and a b) st = (evE C a st).bind fun qa => (match rd qa.2 qa.1 with
    | some (.py (.bool c)) => if c then evE C b qa.2 else some (ofB false, qa.2)
    | _ => none) := id rfl
@[simp] theorem ev_or : evE C (.or a b) st = (evE C a st).bind fun qa => (match rd qa.2 qa.1 with
    | some (.py (.bool c)) => if c then some (ofB true, qa.2) else evE C b qa.2
    | _ => none) := id rfl
@[simp] theorem ev_nt : evE C (.nt a) st = (evE C a st).bind fun qa => (match rd qa.2 qa.1 with
    | some (.py (.bool c)) => some (ofB (!c), qa.2)
    | _ => none) := id rfl
@[simp] theorem ev_ite {m : T} : evE C (.ite m a b) st = (evT C m st).bind fun q => if q.1 then evE C a q.2 else evE C b q.2 := id rfl
@[simp] theorem ev_tup : evE C (.tup es) st = (evs C es st).bind fun q => (vals q.1).bind fun ds => (pyds ds).bind fun ps => if ps.length ≤ lim then some (.va (.py (.tuple ps)), q.2) else none := id rfl
@[simp] theorem ev_lst : evE C (.lst es) st = (evs C es st).bind fun q => (vals q.1).bind fun ds => (pyds ds).bind fun ps => if ps.length ≤ lim then some (.fe (.py (.list ps)), q.2) else none := id rfl
@[simp] theorem ev_ix : evE C (.ix a b) st = (evE C a st).bind fun qa => (evE C b qa.2).bind fun qi => (rd qi.2 qa.1).bind fun x => (rd qi.2 qi.1).bind fun y => (item x y).map fun z => (.va z, qi.2) := id rfl
@[simp] theorem ev_sl {lo hi : Pt} : evE C (.sl a lo hi) st = (evE C a st).bind fun qa => (evP C lo qa.2).bind fun ql => (evP C hi ql.2).bind fun qh => (rd qh.2 qa.1).bind fun x => (sliceD x ql.1 qh.1).map fun o => (o, qh.2) := id rfl
@[simp] theorem ev_rev : evE C (.rev a) st = (evE C a st).bind fun qa => (rd qa.2 qa.1).bind fun x => (revD x).map fun o => (o, qa.2) := id rfl
@[simp] theorem ev_bi {f : Bi} : evE C (.bi f es) st = (evs C es st).bind fun q => (rds q.2 q.1).bind fun ds => (biD f ds).map fun o => (o, q.2) := id rfl
@[simp] theorem ev_isa {ts : List Ty} : evE C (.isa a ts) st = (evE C a st).bind fun qa => (rd qa.2 qa.1).bind fun d => d.pyd.map fun p => (ofB (ts.any (isTy p)), qa.2) := id rfl
@[simp] theorem ev_cal {f : Str} {perm : List Nat} : evE C (.cal f perm es) st = (evs C es st).bind fun q => callE C f perm q.1 q.2 := id rfl
@[simp] theorem ev_me {m : Me} : evE C (.me m a es) st = (evE C a st).bind fun qa => (rd qa.2 qa.1).bind fun x0 => (evs C es qa.2).bind fun q => (rd q.2 qa.1).bind fun x => if x0.tupD == x.tupD && x0.lstD == x.lstD then (rds q.2 q.1).bind fun ds => (meD m x ds).map fun o => (o, q.2) else none := id rfl
@[simp] theorem ev_pop {i : Nat} : evE C (.pop i e) st = (lstAt st i).bind fun _ => (evE C e st).bind fun q => (rd q.2 q.1).bind fun k => (lstAt q.2 i).bind fun m => (match k with
    | .py (.int k) => if okR k then (L2.ixN m.1.length k).bind fun j => (m.1[j]?).map fun p => (.va (.py p), q.2.set i (m.2 (.py (.list (m.1.eraseIdx j))))) else none
    | _ => none) := id rfl
@[simp] theorem ev_dct0 : evE C .dct0 st = some (.fe (.dct []), st) := id rfl
theorem ev_lc {own tg : List Nat} {one : Bool} {it : I} {c : T} : evE C (.lc own tg one it c e) st = (evI C it st).bind fun q => if own.all (fun i => calmSl (q.2.getD i .no)) then
      (lcL (fun x acc s => (bindT tg one x s).bind fun s1 => (evT C c s1).bind fun qc => if qc.1 then (evE C e qc.2).bind fun qe => qe.1.val.bind fun d => d.pyd.bind fun p =>
        if acc.length < lim then some (acc ++ [p], wipe qe.2 own) else none else some (acc, wipe qc.2 own)) q.1 [] (wipe q.2 own)).map fun r => (.fe (.py (.list r.1)), back q.2 r.2 own)
      else none := id rfl
@[simp] theorem evP_no : evP C .no st = some (none, st) := id rfl
@[simp] theorem evP_so : evP C (.so e) st = (evE C e st).bind fun q => (match rd q.2 q.1 with
    | some (.py (.int i)) => some (some i, q.2)
    | _ => none) := id rfl
@[simp] theorem evT_v : evT C (.v e) st = (evE C e st).bind fun q => ((rd q.2 q.1).bind D.tru).map fun b => (b, q.2) := id rfl
@[simp] theorem evT_and {x y : T} : evT C (.and x y) st = (evT C x st).bind fun q => if q.1 then evT C y q.2 else some (false, q.2) := id rfl
@[simp] theorem evT_or {x y : T} : evT C (.or x y) st = (evT C x st).bind fun q => if q.1 then some (true, q.2) else evT C y q.2 := id rfl
@[simp] theorem evT_nt {x : T} : evT C (.nt x) st = (evT C x st).map fun q => (!q.1, q.2) := id rfl
@[simp] theorem evT_yes : evT C .yes st = some (true, st) := id rfl
@[simp] theorem evs_nil : evs C .nil st = some ([], st) := id rfl
@[simp] theorem evs_cons : evs C (.cons e es) st = (evE C e st).bind fun q => (evs C es q.2).map fun r => (q.1 :: r.1, r.2) := id rfl
@[simp] theorem evI_rng : evI C (.rng es) st = (evs C es st).bind fun q => (rds q.2 q.1).bind fun ds => (rngD ds).map fun xs => (xs, q.2) := id rfl
@[simp] theorem evI_enu : evI C (.enu es) st = (evs C es st).bind fun q => (vals q.1).bind fun ds => (match ds with
    | [.py (.list xs)] => some (enuL 0 xs, q.2)
    | [.py (.tuple xs)] => some (enuL 0 xs, q.2)
    | _ => none) := id rfl
@[simp] theorem evI_zip : evI C (.zip es) st = (evs C es st).bind fun q => (vals q.1).bind fun ds => (match ds with
    | [.py (.list xs), .py (.list ys)] => some (zipL xs ys, q.2)
    | [.py (.tuple xs), .py (.tuple ys)] => some (zipL xs ys, q.2)
    | [.py (.list xs), .py (.tuple ys)] => some (zipL xs ys, q.2)
    | _ => none) := id rfl
@[simp] theorem evI_v : evI C (.v e) st = (evE C e st).bind fun q => q.1.val.bind fun d => (match d with
    | .py (.list xs) => some (xs, q.2)
    | .py (.tuple xs) => some (xs, q.2)
    | _ => none) := id rfl
end
section
variable {C : Ct} {st : En} {e a b c : Ex} {es : Exs} {s : S} {ss ss2 : Ss} {m : T} {i : Nat}
@[simp] theorem ex_asg : exS C (.asg i e) st = (evE C e st).bind fun q => q.1.slot.map fun s => (.nx, q.2.set i s) := id rfl
@[simp] theorem ex_asgT {is : List Nat} : exS C (.asgT is e) st = (evE C e st).bind fun q => (rd q.2 q.1).bind fun d => d.pyd.bind fun p => (bindT is false p q.2).map fun s => (.nx, s) := id rfl
@[simp] theorem ex_par {is : List Nat} : exS C (.par is es) st = (evs C es st).bind fun q => (slots q.1).bind fun ss => if ss.length = is.length then some (.nx, setSl q.2 is ss) else none := id rfl
@[simp] theorem ex_divI {k : Int} {j : Nat} : exS C (.divI i k j e) st = (evE C e st).bind fun q => (rd q.2 q.1).bind fun d => (lstAt q.2 i).bind fun m => (match d with
    | .py (.tuple [a, b]) => (L2.ixN m.1.length k).map fun n => (.nx, (q.2.set i (m.2 (.py (.list (m.1.set n a))))).set j (.fr (.py b)))
    | _ => none) := id rfl
@[simp] theorem ex_asgTT {is js : List Nat} : exS C (.asgTT is js e) st = (evE C e st).bind fun q => (rd q.2 q.1).bind fun d => (match d with
    | .py (.tuple [a, b]) => (bindT is false a q.2).bind fun s1 => (bindT js false b s1).map fun s => (.nx, s)
    | _ => none) := id rfl
@[simp] theorem ex_asgSS {j : Nat} {k l : Ex} : exS C (.asgSS i k j l e) st = (evE C e st).bind fun q => (rd q.2 q.1).bind fun d => (match d with
    | .py (.tuple [a, b]) => (objAt q.2 i).bind fun _ => (evE C k q.2).bind fun qk => (rd qk.2 qk.1).bind fun kd => (objAt qk.2 i).bind fun m => (putO m.1 kd a).bind fun d1 =>
      (objAt (qk.2.set i (m.2 d1)) j).bind fun _ => (evE C l (qk.2.set i (m.2 d1))).bind fun ql => (rd ql.2 ql.1).bind fun ld => (objAt ql.2 j).bind fun m2 => (putO m2.1 ld b).map fun d2 => (.nx, ql.2.set j (m2.2 d2))
    | _ => none) := id rfl
@[simp] theorem ex_setI {k : Ex} : exS C (.setI i k e) st = (evE C e st).bind fun q => q.1.val.bind fun d => d.pyd.bind fun p => (objAt q.2 i).bind fun _ => (evE C k q.2).bind fun qk => (rd qk.2 qk.1).bind fun kd => (objAt qk.2 i).bind fun m =>
      (putO m.1 kd p).map fun d' => (.nx, qk.2.set i (m.2 d')) := id rfl
@[simp] theorem ex_sdf {k : Ex} : exS C (.sdf i k e) st = (objAt st i).bind fun m0 => if m0.1.isDct then (evE C k st).bind fun qk => (rd qk.2 qk.1).bind fun kd => (evE C e qk.2).bind fun q => q.1.val.bind fun d => d.pyd.bind fun p => (objAt q.2 i).bind fun m =>
      (sdfO m.1 kd p).map fun d' => (.nx, q.2.set i (m.2 d')) else none := id rfl
@[simp] theorem ex_aug {o : O2} : exS C (.aug i o e) st = (match st[i]? with
    | some (.fr (.py (.int x))) => (evE C e st).bind fun q => (rd q.2 q.1).bind fun d => (match o, d with
      | .add, .py (.int y) => some (.nx, q.2.set i (.fr (.py (.int (x + y)))))
      | .sub, .py (.int y) => some (.nx, q.2.set i (.fr (.py (.int (x - y)))))
      | _, _ => none)
    | _ => none) := id rfl
@[simp] theorem ex_app : exS C (.app i e) st = (lstAt st i).bind fun _ => (evE C e st).bind fun q => q.1.val.bind fun d => d.pyd.bind fun p => (lstAt q.2 i).bind fun m =>
      if m.1.length < lim then some (.nx, q.2.set i (m.2 (.py (.list (m.1 ++ [p]))))) else none := id rfl
@[simp] theorem ex_ext : exS C (.ext i e) st = (lstAt st i).bind fun _ => (evE C e st).bind fun q => (rd q.2 q.1).bind fun d => (lstAt q.2 i).bind fun m => (match d with
    | .py (.list ys) => if m.1.length + ys.length < lim then some (.nx, q.2.set i (m.2 (.py (.list (m.1 ++ ys))))) else none
    | _ => none) := id rfl
@[simp] theorem ex_ex : exS C (.ex e) st = (evE C e st).map fun q => (.nx, q.2) := id rfl
@[simp] theorem ex_ret : exS C (.ret e) st = (evE C e st).bind fun q => (retE q.1).map fun o => (o, q.2) := id rfl
@[simp] theorem ex_retv : exS C (.retv i) st = (match st[i]? with
    | some (.fr d) => some (.rt d false, st)
    | some (.ow d) => some (.rt d true, st.set i .no)
    | _ => none) := id rfl
@[simp] theorem ex_retN : exS C .retN st = some (.rt (.py .none) false, st) := id rfl
@[simp] theorem ex_pass : exS C .pass st = some (.nx, st) := id rfl
@[simp] theorem ex_brk : exS C .brk st = some (.brk, st) := id rfl
@[simp] theorem ex_cont : exS C .cont st = some (.cont, st) := id rfl
@[simp] theorem ex_ifs : exS C (.ifs m ss ss2) st = (evT C m st).bind fun q => if q.1 then exs C ss q.2 else exs C ss2 q.2 := id rfl
theorem ex_whl : exS C (.whl m ss) st = whL (evT C m) (exs C ss) C.fuel st := id rfl
theorem ex_fr {tg : List Nat} {one : Bool} {it : I} : exS C (.fr tg one it ss) st = (evI C it st).bind fun q => frL (fun x s => (bindT tg one x s).bind (exs C ss)) q.1 q.2 := id rfl
@[simp] theorem exs_nil : exs C .nil st = some (.nx, st) := id rfl
@[simp] theorem exs_cons : exs C (.cons s ss) st = (exS C s st).bind fun r => match r.1 with
    | .nx => exs C ss r.2
    | .brk => some (.brk, r.2)
    | .cont => some (.cont, r.2)
    | .rt d b => some (.rt d b, r.2) := id rfl
end
@[simp] theorem rd_va {st : En} {d : D} : rd st (.va d) = some d := id rfl
@[simp] theorem rd_fe {st : En} {d : D} : rd st (.fe d) = some d := id rfl
@[simp] theorem rd_pk {st : En} {i : Nat} : rd st (.pk i) = (st[i]?).bind Sl.con := id rfl
@[simp] theorem rd_ofI {st : En} {i : Int} : rd st (ofI i) = some (.py (.int i)) := id rfl
@[simp] theorem rd_ofB {st : En} {i : Bool} : rd st (ofB i) = some (.py (.bool i)) := id rfl
@[simp] theorem con_fr {d : D} : (Sl.fr d).con = some d := id rfl
@[simp] theorem con_ow {d : D} : (Sl.ow d).con = some d := id rfl
@[simp] theorem con_bo {d : D} : (Sl.bo d).con = some d := id rfl
@[simp] theorem val_va {d : D} : (Od.va d).val = some d := id rfl
@[simp] theorem val_fe {d : D} : (Od.fe d).val = some d := id rfl
@[simp] theorem val_ofI {i : Int} : (ofI i).val = some (.py (.int i)) := id rfl
@[simp] theorem val_ofB {i : Bool} : (ofB i).val = some (.py (.bool i)) := id rfl
@[simp] theorem slot_va {d : D} : (Od.va d).slot = some (.fr d) := id rfl
@[simp] theorem slot_fe {d : D} : (Od.fe d).slot = some (.ow d) := id rfl
@[simp] theorem slot_ofI {i : Int} : (ofI i).slot = some (.fr (.py (.int i))) := id rfl
@[simp] theorem slot_ofB {i : Bool} : (ofB i).slot = some (.fr (.py (.bool i))) := id rfl
@[simp] theorem ret_va {d : D} : retE (.va d) = some (.rt d false) := id rfl
@[simp] theorem ret_fe {d : D} : retE (.fe d) = some (.rt d true) := id rfl
@[simp] theorem ret_ofI {i : Int} : retE (ofI i) = some (.rt (.py (.int i)) false) := id rfl
@[simp] theorem ret_ofB {i : Bool} : retE (ofB i) = some (.rt (.py (.bool i)) false) := id rfl
@[simp] theorem pyd_py {p : PyData} : (D.py p).pyd = some p := id rfl
@[simp] theorem vals_nil : vals [] = some [] := id rfl
@[simp] theorem vals_cons {o : Od} {os : List Od} : vals (o :: os) = o.val.bind fun d => (vals os).map (d :: ·) := id rfl
@[simp] theorem vas_nil : vas [] = some [] := id rfl
@[simp] theorem vas_va {d : D} {os : List Od} : vas (.va d :: os) = (vas os).map (d :: ·) := id rfl
@[simp] theorem vas_ofI {i : Int} {os : List Od} : vas (ofI i :: os) = (vas os).map (.py (.int i) :: ·) := id rfl
@[simp] theorem pyds_nil : pyds [] = some [] := id rfl
@[simp] theorem pyds_cons {d : D} {ds : List D} : pyds (d :: ds) = d.pyd.bind fun p => (pyds ds).map (p :: ·) := id rfl
@[simp] theorem rds_nil {st : En} : rds st [] = some [] := id rfl
@[simp] theorem rds_cons {st : En} {o : Od} {os : List Od} : rds st (o :: os) = (rd st o).bind fun d => (rds st os).map (d :: ·) := id rfl
@[simp] theorem slots_nil : slots [] = some [] := id rfl
@[simp] theorem slots_cons {o : Od} {os : List Od} : slots (o :: os) = o.slot.bind fun s => (slots os).map (s :: ·) := id rfl
@[simp] theorem setSl_nil {st : En} : setSl st [] [] = st := id rfl
@[simp] theorem setSl_cons {st : En} {i : Nat} {is : List Nat} {s : Sl} {ss : List Sl} : setSl st (i :: is) (s :: ss) = setSl (st.set i s) is ss := id rfl
@[simp] theorem tru_bool {b : Bool} : (D.py (.bool b)).tru = some b := id rfl
@[simp] theorem tru_int {b : Int} : (D.py (.int b)).tru = some (b != 0) := id rfl
@[simp] theorem bind_one {i : Nat} {p : PyData} {st : En} : bindT [i] true p st = some (st.set i (.fr (.py p))) := id rfl
/-- the call of a def, by what it computes -/
theorem run_of {T : Tab} {fu n : Nat} {f : Str} {F : Fd} {ds : List D} (h : T.fds.lookup f = some F) (hl : ds.length = F.ps.length) : run T fu (n + 1) f ds = (exs (T.ct fu (run T fu n)) F.body (enter F ds)).bind fun r =>
      (lentE F.io r.2).bind fun fin => match r.1 with
      | .rt d b => some (d, b, fin)
      | .nx => some (.py .none, false, fin)
      | _ => none := by
  rw [run, h]
  simp only [Option.bind_some]
  rw [if_pos hl] <;> rfl
@[simp] theorem ct_call {T : Tab} {fu : Nat} {g : Str → List D → Option (D × Bool × D)} : (T.ct fu g).call = g := id rfl
@[simp] theorem ct_fuel {T : Tab} {fu : Nat} {g : Str → List D → Option (D × Bool × D)} : (T.ct fu g).fuel = fu := id rfl
theorem ct_io {T : Tab} {fu : Nat} {g : Str → List D → Option (D × Bool × D)} {f : Str} {F : Fd} (h : T.fds.lookup f = some F) : (T.ct fu g).io f = F.io := by
  show (T.fds.lookup f).elim false Fd.io = _
  rw [h] <;> rfl
/-- a call that lends nothing -/
theorem call_pl {C : Ct} {f : Str} {perm : List Nat} {os : List Od} {st : En} (h : C.io f = false) : callE C f perm os st = (vals (perm.map fun j => os.getD j (.pk 0))).bind fun ds => (C.call f ds).map fun q => (if q.2.1 then .fe q.1 else .va q.1, st) := by
  unfold callE
  rw [h]
  rfl
end Mi
end
section
/-! Ev2: data operations, comprehensions, loops, for plain proofs. -/
namespace Mi
open PySem
@[simp] theorem lent_f {st : En} : lentE false st = some (.py .none) := id rfl
@[simp] theorem lent_t {d : D} {st : En} : lentE true (.bo d :: st) = some d := id rfl
@[simp] theorem cmp_lt {i j : Int} : cmp .lt (.py (.int i)) (.py (.int j)) = some (decide (i < j)) := id rfl
@[simp] theorem cmp_le {i j : Int} : cmp .le (.py (.int i)) (.py (.int j)) = some (decide (i ≤ j)) := id rfl
@[simp] theorem cmp_gt {i j : Int} : cmp .gt (.py (.int i)) (.py (.int j)) = some (decide (j < i)) := id rfl
@[simp] theorem cmp_ge {i j : Int} : cmp .ge (.py (.int i)) (.py (.int j)) = some (decide (j ≤ i)) := id rfl
theorem eqv_int {i j : Int} : PyData.eqv (.int i) (.int j) = decide (i = j) := by
  simp [PyData.eqv]
  try rfl
@[simp] theorem cmp_eqi {i j : Int} : cmp .eq (.py (.int i)) (.py (.int j)) = some (decide (i = j)) := by
  show (if okDp (.int i) && okDp (.int j) then some (PyData.eqv (.int i) (.int j)) else none) = _
  rw [eqv_int]
  rfl
@[simp] theorem cmp_nei {i j : Int} : cmp .ne (.py (.int i)) (.py (.int j)) = some (!decide (i = j)) := by
  show (if okDp (.int i) && okDp (.int j) then some (!PyData.eqv (.int i) (.int j)) else none) = _
  rw [eqv_int]
  rfl
@[simp] theorem op_add {i j : Int} : op2 .add (.py (.int i)) (.py (.int j)) = some (ofI (i + j)) := id rfl
@[simp] theorem op_sub {i j : Int} : op2 .sub (.py (.int i)) (.py (.int j)) = some (ofI (i - j)) := id rfl
theorem op_mul {i j : Int} (h : okMul i j = true) : op2 .mul (.py (.int i)) (.py (.int j)) = some (ofI (i * j)) := by
  show (if okMul i j then some (ofI (i * j)) else none) = _
  rw [if_pos h]
theorem op_fdiv {i j : Int} (h : 0 < j) (h2 : j < 1073741824) : op2 .fdiv (.py (.int i)) (.py (.int j)) = some (ofI (i / j)) := if_pos ⟨h, h2⟩
theorem op_mod {i j : Int} (h : 0 < j) : op2 .mod (.py (.int i)) (.py (.int j)) = some (ofI (i % j)) := if_pos h
@[simp] theorem len_tup {xs : List PyData} : biD .len [.py (.tuple xs)] = some (ofI xs.length) := id rfl
@[simp] theorem len_lst {xs : List PyData} : biD .len [.py (.list xs)] = some (ofI xs.length) := id rfl
@[simp] theorem len_scr {xs : List Int} : biD .len [.scr xs] = some (ofI xs.length) := id rfl
@[simp] theorem tup_lst {xs : List PyData} : biD .tuple [.py (.list xs)] = some (.va (.py (.tuple xs))) := id rfl
@[simp] theorem tup_tup {xs : List PyData} : biD .tuple [.py (.tuple xs)] = some (.va (.py (.tuple xs))) := id rfl
@[simp] theorem lst_lst {xs : List PyData} : biD .list [.py (.list xs)] = some (.fe (.py (.list xs))) := id rfl
@[simp] theorem lst_tup {xs : List PyData} : biD .list [.py (.tuple xs)] = some (.fe (.py (.list xs))) := id rfl
@[simp] theorem int_int {i : Int} : biD .int [.py (.int i)] = some (ofI i) := id rfl
@[simp] theorem isTy_tup {xs : List PyData} : isTy (.tuple xs) .tuple = true := id rfl
@[simp] theorem isTy_ii {i : Int} : isTy (.int i) .int = true := id rfl
@[simp] theorem isTy_ib {i : Int} : isTy (.int i) .bool = false := id rfl
@[simp] theorem isTy_bb {i : Bool} : isTy (.bool i) .bool = true := id rfl
@[simp] theorem bools_nil : bools [] = some [] := id rfl
@[simp] theorem bools_cons {b : Bool} {r : List PyData} : bools (.bool b :: r) = (bools r).map (b :: ·) := id rfl
theorem bools_map {α : Type} (g : α → Bool) : ∀ l : List α, bools (l.map fun x => .bool (g x)) = some (l.map g)
  | [] => rfl
  | x :: l => by rw [List.map_cons, bools_cons, bools_map g l] <;> rfl
theorem all_bools {α : Type} {g : α → Bool} {l : List α} : biD .all [.py (.list (l.map fun x => .bool (g x)))] = some (ofB (l.all g)) := by
  show (bools _).map (fun bs => ofB (bs.all id)) = _
  rw [bools_map, Option.map_some]
  congr 2
  rw [List.all_map]
  rfl
theorem any_bools {α : Type} {g : α → Bool} {l : List α} : biD .any [.py (.list (l.map fun x => .bool (g x)))] = some (ofB (l.any g)) := by
  show (bools _).map (fun bs => ofB (bs.any id)) = _
  rw [bools_map, Option.map_some]
  congr 2
  rw [List.any_map]
  rfl
@[simp] theorem me_ixT {xs : List PyData} {ds : List D} : meD .index (.py (.tuple xs)) ds = indexD xs ds := id rfl
@[simp] theorem me_cnT {xs : List PyData} {ds : List D} : meD .count (.py (.tuple xs)) ds = countD xs ds := id rfl
@[simp] theorem me_cnL {xs : List PyData} {ds : List D} : meD .count (.py (.list xs)) ds = countD xs ds := id rfl
@[simp] theorem me_ixL {xs : List PyData} {ds : List D} : meD .index (.py (.list xs)) ds = index1 xs ds := id rfl
theorem index_1 {xs : List PyData} {x : PyData} {k : Nat} (h : okDp x = true) (e : (xs.findIdx? fun y => PyData.eqv y x) = some k) : indexD xs [.py x] = some (ofI (k : Int)) := by
  unfold indexD
  simp [h, e]
theorem index_2 {xs : List PyData} {x : PyData} {a k : Nat} (h : okDp x = true) (ha : a ≤ 1000) (e : ((xs.drop a).findIdx? fun y => PyData.eqv y x) = some k) : indexD xs [.py x, .py (.int (a : Int))] = some (ofI ((a : Int) + (k : Int))) := by
  have h1 : decide ((0 : Int) ≤ (a : Int)) = true := decide_eq_true (by omega)
  have h2 : decide ((a : Int) ≤ 1000000) = true := decide_eq_true (by omega)
  unfold indexD
  simp only [h, h1, h2, Bool.and_self, if_true, Int.toNat_natCast, e, Option.map_some]
theorem index_z {xs : List PyData} {x : PyData} {z b : Int} {k : Nat} (h : okDp x = true) (h0 : 0 ≤ z) (h1 : z ≤ 1000) (e : ((xs.drop z.toNat).findIdx? fun y => PyData.eqv y x) = some k) (hb : z + (k : Int) = b) : indexD xs [.py x, .py (.int z)] = some (ofI b) := by
  have q1 : decide ((0 : Int) ≤ z) = true := decide_eq_true h0
  have q2 : decide (z ≤ 1000000) = true := decide_eq_true (by omega)
  unfold indexD
  simp only [h, q1, q2, Bool.and_self, if_true, e, Option.map_some, hb]
/-- xs[i] -/
theorem item_nat {xs : List PyData} {k : Nat} {p : PyData} (h : xs[k]? = some p) : item (.py (.tuple xs)) (.py (.int (k : Int))) = some (.py p) ∧ item (.py (.list xs)) (.py (.int (k : Int))) = some (.py p) := by
  have lt : k < xs.length := (List.getElem?_eq_some_iff.mp h).1
  have e : L2.ixN xs.length (k : Int) = some k := by
    unfold L2.ixN
    simp
    omega
  have key : ((L2.ixN xs.length (k : Int)).bind fun k => (xs[k]?).map D.py) = some (D.py p) := by rw [e, Option.bind_some, h]; rfl
  exact ⟨key, key⟩
@[simp] theorem lim_le0 : 0 ≤ lim := by unfold lim; omega
@[simp] theorem lim_le1 : 1 ≤ lim := by unfold lim; omega
@[simp] theorem lim_le2 : 2 ≤ lim := by unfold lim; omega
@[simp] theorem lim_le3 : 3 ≤ lim := by unfold lim; omega
@[simp] theorem lim_le4 : 4 ≤ lim := by unfold lim; omega
@[simp] theorem lim_le5 : 5 ≤ lim := by unfold lim; omega
@[simp] theorem lim_le6 : 6 ≤ lim := by unfold lim; omega
@[simp] theorem lim_le7 : 7 ≤ lim := by unfold lim; omega
@[simp] theorem lim_le8 : 8 ≤ lim := by unfold lim; omega
/-! ### blocks -/
theorem back_wipe (st : En) (own : List Nat) : back st (wipe st own) own = st := by
  apply List.ext_getElem?
  intro j
  by_cases e : j ∈ own
  · by_cases l : j < st.length
    · have l2 : j < (back st (wipe st own) own).length := by rw [back_len, wipe_len]; exact l
      have := back_in st (wipe st own) e (List.getElem?_eq_getElem l2)
      rw [List.getElem?_eq_getElem l2, this, List.getD_eq_getElem?_getD, List.getElem?_eq_getElem l] <;> rfl
    · rw [List.getElem?_eq_none (by rw [back_len, wipe_len]; omega), List.getElem?_eq_none (by omega)]
  · rw [back_out _ _ e, wipe_out _ e]
theorem lcL_if {f : PyData → List PyData → En → Option (List PyData × En)} {s : En} (p : PyData → Bool) (g : PyData → PyData) : ∀ (xs acc : List PyData), acc.length + xs.length ≤ lim →
    (∀ x ∈ xs, ∀ acc, acc.length < lim → f x acc s = some (if p x then acc ++ [g x] else acc, s)) → lcL f xs acc s = some (acc ++ (xs.filter p).map g, s)
  | [], acc, _, _ => by simp [lcL]
  | x :: xs, acc, hl, h => by
    rw [List.length_cons] at hl
    rw [lcL, h x (List.mem_cons_self ..) acc (by omega), Option.bind_some]
    cases hp : p x with
    | true =>
      rw [if_pos rfl, lcL_if p g xs (acc ++ [g x]) (by rw [List.length_append]; simp; omega) fun y hy => h y (List.mem_cons_of_mem _ hy), List.filter_cons_of_pos hp]
      simp
    | false =>
      rw [if_neg Bool.false_ne_true, lcL_if p g xs acc (by omega) fun y hy => h y (List.mem_cons_of_mem _ hy), List.filter_cons_of_neg (by rw [hp]; simp)]
section
variable {C : Ct} {own tg : List Nat} {one : Bool} {it : I} {c : T} {e : Ex} {st st' : En} {xs : List PyData}
/-- a comprehension with a test -/
theorem lc_if (p : PyData → Bool) (g : PyData → PyData) (hI : evI C it st = some (xs, st')) (hc : (own.all fun i => calmSl (st'.getD i .no)) = true) (hl : xs.length ≤ lim)
    (h : ∀ x ∈ xs, ∃ s1 s2, bindT tg one x (wipe st' own) = some s1 ∧ evT C c s1 = some (p x, s2) ∧ (p x = false → wipe s2 own = wipe st' own) ∧ (p x = true → ∃ o s3, evE C e s2 = some (o, s3) ∧ o.val = some (.py (g x)) ∧ wipe s3 own = wipe st' own)) :
    evE C (.lc own tg one it c e) st = some (.fe (.py (.list ((xs.filter p).map g))), st') := by
  rw [ev_lc, hI, Option.bind_some]
  simp only
  rw [if_pos hc, lcL_if p g xs [] (by simpa using hl) fun x hx acc ha => ?_]
  · simp only [Option.map_some, List.nil_append, back_wipe]
  · obtain ⟨s1, s2, e1, e2, e3, e4⟩ := h x hx
    rw [e1, Option.bind_some, e2, Option.bind_some]
    simp only
    cases hp : p x with
    | false => simp [e3 hp]
    | true =>
      obtain ⟨o, s3, k1, k2, k3⟩ := e4 hp
      simp [k1, k2, k3, ha]
/-- a comprehension without a test -/
theorem lc_map (g : PyData → PyData) (hI : evI C it st = some (xs, st')) (hc : (own.all fun i => calmSl (st'.getD i .no)) = true) (hl : xs.length ≤ lim)
    (h : ∀ x ∈ xs, ∃ s1 o s3, bindT tg one x (wipe st' own) = some s1 ∧ evE C e s1 = some (o, s3) ∧ o.val = some (.py (g x)) ∧ wipe s3 own = wipe st' own) :
    evE C (.lc own tg one it .yes e) st = some (.fe (.py (.list (xs.map g))), st') := by
  have := lc_if (c := .yes) (fun _ => true) g hI hc hl fun x hx => by
    obtain ⟨s1, o, s3, k1, k2, k3, k4⟩ := h x hx
    exact ⟨s1, s1, k1, rfl, (fun z => by cases z), fun _ => ⟨o, s3, k2, k3, k4⟩⟩
  rw [this, List.filter_eq_self.mpr (by simp)]
/-- a loop whose turns end by themselves: J what holds of the frame ahead of turn i -/
theorem frL_J {f : PyData → En → Option (Out × En)} (J : Nat → En → Prop) : ∀ (xs : List PyData) (k : Nat) (s : En), J k s → (∀ i x s, xs[i]? = some x → J (k + i) s → ∃ s' o, f x s = some (o, s') ∧ (o = .nx ∨ o = .cont) ∧ J (k + i + 1) s') →
    ∃ s', frL f xs s = some (.nx, s') ∧ J (k + xs.length) s'
  | [], k, s, h, _ => ⟨s, rfl, h⟩
  | x :: xs, k, s, h, step => by
    obtain ⟨s1, o, e1, e2, h1⟩ := step 0 x s rfl h
    obtain ⟨s2, e3, h2⟩ := frL_J J xs (k + 1) s1 h1 fun i y s hy hj => by
      have := step (i + 1) y s hy (by rw [show k + (i + 1) = k + 1 + i by omega]; exact hj)
      rw [show k + (i + 1) + 1 = k + 1 + i + 1 by omega] at this
      exact this
    refine ⟨s2, ?_, by rw [List.length_cons, show k + (xs.length + 1) = k + 1 + xs.length by omega]; exact h2⟩
    rw [frL, e1, Option.bind_some]
    rcases e2 with rfl | rfl
    · exact e3
    · exact e3
/-- a loop whose turns change the frame in a known way -/
theorem frL_fold {f : PyData → En → Option (Out × En)} (g : En → PyData → En) : ∀ (xs : List PyData) (s : En), (∀ i x, xs[i]? = some x → f x ((xs.take i).foldl g s) = some (.nx, (xs.take (i + 1)).foldl g s)) → frL f xs s = some (.nx, xs.foldl g s)
  | [], s, _ => rfl
  | x :: xs, s, h => by
    have h0 := h 0 x rfl
    simp only [List.take_zero, List.foldl_nil, List.take_succ_cons, List.foldl_cons] at h0
    rw [frL, h0, Option.bind_some]
    exact frL_fold g xs (g s x) fun i y hy => by
      have := h (i + 1) y hy
      simpa using this
theorem lcL_J {f : PyData → List PyData → En → Option (List PyData × En)} (J : Nat → List PyData → En → Prop) : ∀ (xs : List PyData) (k : Nat) (acc : List PyData) (s : En), J k acc s →
    (∀ i x acc s, xs[i]? = some x → J (k + i) acc s → ∃ acc' s', f x acc s = some (acc', s') ∧ J (k + i + 1) acc' s') → ∃ acc' s', lcL f xs acc s = some (acc', s') ∧ J (k + xs.length) acc' s'
  | [], k, acc, s, h, _ => ⟨acc, s, rfl, h⟩
  | x :: xs, k, acc, s, h, step => by
    obtain ⟨a1, s1, e1, h1⟩ := step 0 x acc s rfl h
    obtain ⟨a2, s2, e2, h2⟩ := lcL_J J xs (k + 1) a1 s1 h1 fun i y acc s hy hj => by
      have := step (i + 1) y acc s hy (by rw [show k + (i + 1) = k + 1 + i by omega]; exact hj)
      rw [show k + (i + 1) + 1 = k + 1 + i + 1 by omega] at this
      exact this
    exact ⟨a2, s2, by rw [lcL, e1, Option.bind_some]; exact e2, by rw [List.length_cons, show k + (xs.length + 1) = k + 1 + xs.length by omega]; exact h2⟩
/-- while: J m ahead of the turn that has m turns behind it -/
theorem whL_J {c : En → Option (Bool × En)} {f : En → Option (Out × En)} (J : Nat → En → Prop) (D : En → Prop) (h0 : ∀ s, J 0 s → ∃ s', c s = some (false, s') ∧ D s') (h1 : ∀ m s, J (m + 1) s → ∃ s1 s2 o, c s = some (true, s1) ∧ f s1 = some (o, s2) ∧ (o = .nx ∨ o = .cont) ∧ J m s2) :
    ∀ (m fu : Nat) (s : En), m < fu → J m s → ∃ s', whL c f fu s = some (.nx, s') ∧ D s'
  | 0, fu + 1, s, _, h => by
    obtain ⟨s', e, d⟩ := h0 s h
    exact ⟨s', by rw [whL, e, Option.bind_some]; rfl, d⟩
  | m + 1, fu + 1, s, l, h => by
    obtain ⟨s1, s2, o, e1, e2, e3, h2⟩ := h1 m s h
    obtain ⟨s', e4, d⟩ := whL_J J D h0 h1 m fu s2 (by omega) h2
    refine ⟨s', ?_, d⟩
    rw [whL, e1, Option.bind_some]
    simp only [if_true]
    rw [e2, Option.bind_some]
    rcases e3 with rfl | rfl
    · exact e4
    · exact e4
end
end Mi
end
section
/-! Ev3: how long data are shown, how deep they are. -/
namespace Mi
open PySem
structure Sz (p : PyData) (k d : Nat) : Prop where
  lv : p.leavesShort 12 = true
  bk : p.bulk ≤ k
  dp : p.depth ≤ d
  sh : p.showable = true
structure SzA (xs : List PyData) (k d : Nat) : Prop where
  lv : PyData.leavesShortAll 12 xs = true
  bk : PyData.bulkAll xs ≤ k
  dp : PyData.depthAll xs ≤ d
  sh : PyData.showableAll xs = true
theorem sz_nat : ∀ i : Fin 100, (PyData.int ((i : Nat) : Int)).leavesShort 12 = true ∧ (PyData.int ((i : Nat) : Int)).showable = true := by decide +kernel
theorem Sz.nat {i : Nat} (h : i < 100) : Sz (.int (i : Int)) 0 0 := ⟨(sz_nat ⟨i, h⟩).1, Nat.le_refl 0, Nat.le_refl 0, (sz_nat ⟨i, h⟩).2⟩
theorem Sz.bool (b : Bool) : Sz (.bool b) 0 0 := ⟨rfl, Nat.le_refl 0, Nat.le_refl 0, rfl⟩
theorem Sz.non : Sz .none 0 0 := ⟨rfl, Nat.le_refl 0, Nat.le_refl 0, rfl⟩
theorem Sz.mono {p : PyData} {k k' d d' : Nat} (s : Sz p k d) (h : k ≤ k') (h2 : d ≤ d') : Sz p k' d' := ⟨s.lv, Nat.le_trans s.bk h, Nat.le_trans s.dp h2, s.sh⟩
theorem SzA.mono {p : List PyData} {k k' d d' : Nat} (s : SzA p k d) (h : k ≤ k') (h2 : d ≤ d') : SzA p k' d' := ⟨s.lv, Nat.le_trans s.bk h, Nat.le_trans s.dp h2, s.sh⟩
theorem SzA.nil {d : Nat} : SzA [] 0 d := ⟨rfl, Nat.le_refl 0, Nat.zero_le d, rfl⟩
theorem SzA.cons {x : PyData} {xs : List PyData} {k k2 d : Nat} (s : Sz x k d) (t : SzA xs k2 d) : SzA (x :: xs) (k + 1 + k2) d := by
  refine ⟨?_, ?_, ?_, ?_⟩
  · show (x.leavesShort 12 && PyData.leavesShortAll 12 xs) = true
    rw [s.lv, t.lv] <;> rfl
  · show x.bulk + 1 + PyData.bulkAll xs ≤ _
    have := s.bk
    have := t.bk
    omega
  · show max x.depth (PyData.depthAll xs) ≤ d
    exact Nat.max_le.mpr ⟨s.dp, t.dp⟩
  · show (x.showable && PyData.showableAll xs) = true
    rw [s.sh, t.sh] <;> rfl
theorem SzA.map {α : Type} {f : α → PyData} {k d : Nat} : ∀ {l : List α}, (∀ a ∈ l, Sz (f a) k d) → SzA (l.map f) (l.length * (k + 1)) d
  | [], _ => .mono .nil (Nat.zero_le _) (Nat.le_refl d)
  | a :: l, h => by
    refine (SzA.cons (h a (List.mem_cons_self ..)) (SzA.map fun b hb => h b (List.mem_cons_of_mem _ hb))).mono ?_ (Nat.le_refl d)
    rw [List.length_cons, Nat.add_mul]
    omega
theorem SzA.app {xs ys : List PyData} {k k2 d : Nat} (s : SzA xs k d) (t : SzA ys k2 d) : SzA (xs ++ ys) (k + k2) d := by
  induction xs generalizing k with
  | nil => exact t.mono (Nat.le_add_left _ _) (Nat.le_refl d)
  | cons x xs ih =>
    obtain ⟨h1, h2, h3, h4⟩ := s
    have h1 : (x.leavesShort 12 && PyData.leavesShortAll 12 xs) = true := h1
    have h2 : x.bulk + 1 + PyData.bulkAll xs ≤ k := h2
    have h3 : max x.depth (PyData.depthAll xs) ≤ d := h3
    have h4 : (x.showable && PyData.showableAll xs) = true := h4
    rw [Bool.and_eq_true] at h1 h4
    have z := ih (k := PyData.bulkAll xs) ⟨h1.2, Nat.le_refl _, Nat.le_trans (Nat.le_max_right _ _) h3, h4.2⟩
    have c := SzA.cons (k := x.bulk) ⟨h1.1, Nat.le_refl _, Nat.le_trans (Nat.le_max_left _ _) h3, h4.1⟩ z
    exact c.mono (by omega) (Nat.le_refl d)
theorem Sz.tup {xs : List PyData} {k d : Nat} (s : SzA xs k d) : Sz (.tuple xs) k (d + 1) := ⟨s.lv, s.bk, Nat.succ_le_succ s.dp, s.sh⟩
theorem Sz.lst {xs : List PyData} {k d : Nat} (s : SzA xs k d) : Sz (.list xs) k (d + 1) := ⟨s.lv, s.bk, Nat.succ_le_succ s.dp, s.sh⟩
theorem Sz.ok {p : PyData} {k d : Nat} (s : Sz p k d) (h : d ≤ 30) : okDp p = true := decide_eq_true (Nat.le_trans s.dp h)
theorem Sz.len {p : PyData} {k d : Nat} (s : Sz p k d) (h : k ≤ 60000) : p.shown.length ≤ lim := by
  have := PyData.shown_le_bulk 12 (by decide) p s.lv
  have := s.bk
  unfold lim
  omega
theorem repr_lst {xs : List PyData} {k d : Nat} (s : Sz (.list xs) k d) (h : k ≤ 60000) (h2 : d ≤ 30) : biD .repr [.py (.list xs)] = some (.va (.py (.str (PyData.list xs).shown))) := by
  show (if okDp (.list xs) && (PyData.list xs).showable && decide ((PyData.list xs).shown.length ≤ lim) then _ else none) = _
  rw [if_pos]
  rw [s.ok h2, s.sh, decide_eq_true (s.len h)] <;> rfl
theorem eqv_str {a : Str} : PyData.eqv (.str a) (.str a) = true := by simp [PyData.eqv]
/-- what is shown alike is not unlike -/
theorem ne_str {a : Str} : cmp .ne (.py (.str a)) (.py (.str a)) = some false := by
  show (if okDp (.str a) && okDp (.str a) then some (!PyData.eqv (.str a) (.str a)) else none) = _
  rw [eqv_str]
  rfl
theorem eq_str {a : Str} : cmp .eq (.py (.str a)) (.py (.str a)) = some true := by
  show (if okDp (.str a) && okDp (.str a) then some (PyData.eqv (.str a) (.str a)) else none) = _
  rw [eqv_str]
  rfl
end Mi
end
section
/-! Ta1: types of what names hold; from typed values to data. -/
namespace Ta
open PySem Mi
inductive Ty where
  | nev | any | nat | int | bool | str | non | lst (t : Ty) | htp (t : Ty) | opt (t : Ty) | tn | tc (a r : Ty)
  deriving DecidableEq
@[reducible] def Ty.den : Ty → Type
  | .nev => Empty
  | .any => PyData
  | .nat => Nat
  | .int => Int
  | .bool => Bool
  | .str => Str
  | .non => Unit
  | .lst t => List t.den
  | .htp t => List t.den
  | .opt t => Option t.den
  | .tn => Unit
  | .tc a r => a.den × r.den
def Ty.enc : (t : Ty) → t.den → PyData
  | .nev, x => nomatch x
  | .any, p => p
  | .nat, n => .int (Int.ofNat n)
  | .int, i => .int i
  | .bool, b => .bool b
  | .str, s => .str s
  | .non, _ => .none
  | .lst t, xs => .list (xs.map t.enc)
  | .htp t, xs => .tuple (xs.map t.enc)
  | .opt t, x => (match x with
    | none => .none
    | some y => t.enc y)
  | .tn, _ => .tuple []
  | .tc a r, x => (match r.enc x.2 with
    | .tuple xs => .tuple (a.enc x.1 :: xs)
    | p => p)
/-- the items of a tuple -/
def Ty.its (t : Ty) (v : t.den) : List PyData := match t.enc v with
  | .tuple xs => xs
  | _ => []
def Ty.isTup : Ty → Bool
  | .tn => true
  | .tc _ r => r.isTup
  | _ => false
theorem enc_tup : ∀ {t : Ty} (v : t.den), t.isTup = true → t.enc v = .tuple (t.its v)
  | .tn, _, _ => rfl
  | .tc a r, v, h => by
    have := enc_tup (t := r) v.2 h
    unfold Ty.its
    simp only [Ty.enc, this]
theorem its_tc {a r : Ty} (h : r.isTup = true) (x : a.den) (y : r.den) : (Ty.tc a r).its (x, y) = a.enc x :: r.its y := by
  have := enc_tup y h
  unfold Ty.its
  simp only [Ty.enc, this]
inductive VT where
  | py (t : Ty) | dct (k v : Ty) | scr
  deriving DecidableEq
@[reducible] def VT.den : VT → Type
  | .py t => t.den
  | .dct k v => List (k.den × v.den)
  | .scr => List Int
def VT.enc : (t : VT) → t.den → D
  | .py t, v => .py (t.enc v)
  | .dct k v, kvs => .dct (kvs.map fun q => (k.enc q.1, v.enc q.2))
  | .scr, ns => .scr ns
/-! ### from one type to a wider one -/
def castT {s t : Ty} (h : s = t) : s.den → t.den := h ▸ id
theorem castT_enc {s t : Ty} (h : s = t) (x : s.den) : t.enc (castT h x) = s.enc x := by
  subst h; rfl
def coF : Nat → (s t : Ty) → Option (s.den → t.den)
  | 0, _, _ => none
  | n + 1, s, t => if h : s = t then some (castT h) else match s, t with
    | .nev, _ => some fun x => nomatch x
    | .nat, .int => some fun k => Int.ofNat k
    | s, .any => some s.enc
    | .non, .opt _ => some fun _ => none
    | .opt s, .opt t => (coF n s t).map fun f x => x.map f
    | s, .opt t => (coF n s t).map fun f x => some (f x)
    | .lst s, .lst t => (coF n s t).map fun f x => x.map f
    | .htp s, .htp t => (coF n s t).map fun f x => x.map f
    | .tn, .htp _ => some fun _ => []
    | .tc a r, .htp t => if r.isTup then (coF n a t).bind fun f => (coF n r (.htp t)).map fun g x => f x.1 :: g x.2 else none
    | .tc a r, .tc b q => if r.isTup && q.isTup then (coF n a b).bind fun f => (coF n r q).map fun g x => (f x.1, g x.2) else none
    | _, _ => none
def co (s t : Ty) : Option (s.den → t.den) := coF 40 s t
theorem coF_enc : ∀ (n : Nat) {s t : Ty} {f : s.den → t.den}, coF n s t = some f → ∀ x, t.enc (f x) = s.enc x
  | 0, _, _, _, h, _ => nomatch h
  | n + 1, s, t, f, h, x => by
    rw [coF] at h
    split at h
    · rename_i e; cases h; exact castT_enc e x
    · have ih := fun {s t : Ty} {f : s.den → t.den} => coF_enc n (s := s) (t := t) (f := f)
      split at h
      · exact nomatch x
      · cases h; rfl
      · cases h; rfl
      · cases h; rfl
      · simp only [Option.map_eq_some_iff] at h
        obtain ⟨g, hg, rfl⟩ := h
        cases x with
        | none => rfl
        | some y => exact ih hg y
      · simp only [Option.map_eq_some_iff] at h
        obtain ⟨g, hg, rfl⟩ := h
        exact ih hg x
      · simp only [Option.map_eq_some_iff] at h
        obtain ⟨g, hg, rfl⟩ := h
        simp only [Ty.enc, List.map_map]
        congr 1
        exact List.map_congr_left fun y _ => ih hg y
      · simp only [Option.map_eq_some_iff] at h
        obtain ⟨g, hg, rfl⟩ := h
        simp only [Ty.enc, List.map_map]
        congr 1
        exact List.map_congr_left fun y _ => ih hg y
      · cases h; rfl
      · split at h
        · rename_i ht
          simp only [Option.bind_eq_some_iff, Option.map_eq_some_iff] at h
          obtain ⟨f1, h1, g1, h2, rfl⟩ := h
          have e1 := ih h1 x.1
          have e2 := ih h2 x.2
          rw [enc_tup x.2 ht] at e2
          simp only [Ty.enc] at e2 ⊢
          rw [enc_tup x.2 ht]
          simp only [List.map_cons, e1]
          rw [PyData.tuple.inj e2]
        · cases h
      · split at h
        · rename_i ht
          rw [Bool.and_eq_true] at ht
          simp only [Option.bind_eq_some_iff, Option.map_eq_some_iff] at h
          obtain ⟨f1, h1, g1, h2, rfl⟩ := h
          have e1 := ih h1 x.1
          have e2 := ih h2 x.2
          simp only [Ty.enc, e1, e2]
        · cases h
      · cases h
theorem co_enc {s t : Ty} {f : s.den → t.den} (h : co s t = some f) (x : s.den) : t.enc (f x) = s.enc x := coF_enc 40 h x
/-- the least type that two fit in -/
def jnF : Nat → Ty → Ty → Ty
  | 0, _, _ => .any
  | n + 1, s, t => if s = t then s else match s, t with
    | .nev, t => t
    | s, .nev => s
    | .nat, .int => .int
    | .int, .nat => .int
    | .any, _ => .any
    | _, .any => .any
    | .non, .opt t => .opt t
    | .opt t, .non => .opt t
    | .opt s, .opt t => .opt (jnF n s t)
    | .non, t => .opt t
    | t, .non => .opt t
    | .opt s, t => .opt (jnF n s t)
    | s, .opt t => .opt (jnF n s t)
    | .lst s, .lst t => .lst (jnF n s t)
    | .htp s, .htp t => .htp (jnF n s t)
    | .tn, .htp t => .htp t
    | .htp t, .tn => .htp t
    | .tc a r, .htp t => (match jnF n r (.htp t) with
      | .htp u => .htp (jnF n a u)
      | _ => .any)
    | .htp t, .tc a r => (match jnF n r (.htp t) with
      | .htp u => .htp (jnF n a u)
      | _ => .any)
    | .tc a r, .tc b q => (match jnF n r q with
      | .htp u => .htp (jnF n (jnF n a b) u)
      | .any => .any
      | w => .tc (jnF n a b) w)
    | .tn, .tc a r => (match jnF n .tn r with
      | .htp u => .htp (jnF n a u)
      | .tn => .htp a
      | _ => .any)
    | .tc a r, .tn => (match jnF n .tn r with
      | .htp u => .htp (jnF n a u)
      | .tn => .htp a
      | _ => .any)
    | _, _ => .any
def jn (s t : Ty) : Ty := jnF 40 s t
end Ta
end
section
/-! Ta2: what is known of the slots, as types; the values beside them. -/
namespace Ta
open PySem Mi
/-- how a slot holds its value: unchanged by all; in this hand alone; lent; one of the first two -/
inductive Md where
  | fr | ow | bo | rd
  deriving DecidableEq
inductive ST where
  | dead | calm | has (m : Md) (t : VT)
  deriving DecidableEq
abbrev Ctx := List ST
@[reducible] def HEnv : Ctx → Type
  | [] => Unit
  | .dead :: Γ => HEnv Γ
  | .calm :: Γ => HEnv Γ
  | .has _ t :: Γ => t.den × HEnv Γ
def MdR : Md → D → Sl → Prop
  | .fr, d, s => s = .fr d
  | .ow, d, s => s = .ow d
  | .bo, d, s => s = .bo d
  | .rd, d, s => s = .fr d ∨ s = .ow d
def EnvR : (Γ : Ctx) → HEnv Γ → En → Prop
  | [], _, st => st = []
  | .dead :: Γ, ρ, st => ∃ s st', st = s :: st' ∧ EnvR Γ ρ st'
  | .calm :: Γ, ρ, st => ∃ s st', st = s :: st' ∧ calmSl s = true ∧ EnvR Γ ρ st'
  | .has m t :: Γ, ρ, st => ∃ s st', st = s :: st' ∧ MdR m (t.enc ρ.1) s ∧ EnvR Γ ρ.2 st'
theorem MdR.con {m : Md} {d : D} {s : Sl} (h : MdR m d s) : s.con = some d := by
  cases m with
  | fr => cases h; rfl
  | ow => cases h; rfl
  | bo => cases h; rfl
  | rd => rcases h with h | h <;> (cases h; rfl)
theorem MdR.ne {m : Md} {d : D} {s : Sl} (h : MdR m d s) : s ≠ .no := by
  intro e; subst e
  cases h.con
theorem EnvR.len : ∀ {Γ : Ctx} {ρ : HEnv Γ} {st : En}, EnvR Γ ρ st → st.length = Γ.length
  | [], _, _, h => by rw [h]; rfl
  | .dead :: Γ, _, _, ⟨s, st', e, h⟩ => by rw [e]; exact congrArg Nat.succ h.len
  | .calm :: Γ, _, _, ⟨s, st', e, _, h⟩ => by rw [e]; exact congrArg Nat.succ h.len
  | .has m t :: Γ, _, _, ⟨s, st', e, _, h⟩ => by rw [e]; exact congrArg Nat.succ h.len
/-- a slot's value -/
def lkp : (Γ : Ctx) → Nat → Option (Σ q : Md × VT, HEnv Γ → q.2.den)
  | [], _ => none
  | .dead :: _, 0 => none
  | .calm :: _, 0 => none
  | .has m t :: _, 0 => some ⟨(m, t), fun ρ => ρ.1⟩
  | .dead :: Γ, i + 1 => (lkp Γ i).map fun q => ⟨q.1, fun ρ => q.2 ρ⟩
  | .calm :: Γ, i + 1 => (lkp Γ i).map fun q => ⟨q.1, fun ρ => q.2 ρ⟩
  | .has _ _ :: Γ, i + 1 => (lkp Γ i).map fun q => ⟨q.1, fun ρ => q.2 ρ.2⟩
theorem lkp_ok : ∀ {Γ : Ctx} {i : Nat} {q : Σ q : Md × VT, HEnv Γ → q.2.den} {ρ : HEnv Γ} {st : En}, lkp Γ i = some q → EnvR Γ ρ st → ∃ s, st[i]? = some s ∧ MdR q.1.1 (q.1.2.enc (q.2 ρ)) s
  | [], _, _, _, _, e, _ => nomatch e
  | .dead :: _, 0, _, _, _, e, _ => nomatch e
  | .calm :: _, 0, _, _, _, e, _ => nomatch e
  | .has m t :: _, 0, _, ρ, st, e, ⟨s, st', h, h1, _⟩ => by
    cases e; subst h
    exact ⟨s, rfl, h1⟩
  | .dead :: Γ, i + 1, q, ρ, st, e, ⟨s, st', h, h2⟩ => by
    simp only [lkp, Option.map_eq_some_iff] at e
    obtain ⟨q0, e0, rfl⟩ := e
    subst h
    exact lkp_ok (Γ := Γ) (i := i) e0 h2
  | .calm :: Γ, i + 1, q, ρ, st, e, ⟨s, st', h, _, h2⟩ => by
    simp only [lkp, Option.map_eq_some_iff] at e
    obtain ⟨q0, e0, rfl⟩ := e
    subst h
    exact lkp_ok (Γ := Γ) (i := i) e0 h2
  | .has m t :: Γ, i + 1, q, ρ, st, e, ⟨s, st', h, _, h2⟩ => by
    simp only [lkp, Option.map_eq_some_iff] at e
    obtain ⟨q0, e0, rfl⟩ := e
    subst h
    exact lkp_ok (Γ := Γ) (i := i) e0 h2
/-- a slot takes a value -/
def put : (Γ : Ctx) → Nat → (m : Md) → (t : VT) → Option (Σ Δ : Ctx, HEnv Γ → t.den → HEnv Δ)
  | [], _, _, _ => none
  | .dead :: Γ, 0, m, t => some ⟨.has m t :: Γ, fun ρ v => (v, ρ)⟩
  | .calm :: Γ, 0, m, t => some ⟨.has m t :: Γ, fun ρ v => (v, ρ)⟩
  | .has _ _ :: Γ, 0, m, t => some ⟨.has m t :: Γ, fun ρ v => (v, ρ.2)⟩
  | .dead :: Γ, i + 1, m, t => (put Γ i m t).map fun q => ⟨.dead :: q.1, fun ρ v => q.2 ρ v⟩
  | .calm :: Γ, i + 1, m, t => (put Γ i m t).map fun q => ⟨.calm :: q.1, fun ρ v => q.2 ρ v⟩
  | .has a u :: Γ, i + 1, m, t => (put Γ i m t).map fun q => ⟨.has a u :: q.1, fun ρ v => (ρ.1, q.2 ρ.2 v)⟩
theorem put_ok : ∀ {Γ : Ctx} {i : Nat} {m : Md} {t : VT} {q : Σ Δ : Ctx, HEnv Γ → t.den → HEnv Δ} {ρ : HEnv Γ} {st : En} {v : t.den} {s : Sl}, put Γ i m t = some q → EnvR Γ ρ st → MdR m (t.enc v) s → EnvR q.1 (q.2 ρ v) (st.set i s)
  | [], _, _, _, _, _, _, _, _, e, _, _ => nomatch e
  | .dead :: Γ, 0, m, t, _, ρ, st, v, s, e, ⟨s0, st', h, h2⟩, r => by
    cases e; subst h
    exact ⟨s, st', rfl, r, h2⟩
  | .calm :: Γ, 0, m, t, _, ρ, st, v, s, e, ⟨s0, st', h, _, h2⟩, r => by
    cases e; subst h
    exact ⟨s, st', rfl, r, h2⟩
  | .has _ _ :: Γ, 0, m, t, _, ρ, st, v, s, e, ⟨s0, st', h, _, h2⟩, r => by
    cases e; subst h
    exact ⟨s, st', rfl, r, h2⟩
  | .dead :: Γ, i + 1, m, t, _, ρ, st, v, s, e, ⟨s0, st', h, h2⟩, r => by
    simp only [put, Option.map_eq_some_iff] at e
    obtain ⟨q0, e0, rfl⟩ := e
    subst h
    exact ⟨s0, _, rfl, put_ok (Γ := Γ) (i := i) e0 h2 r⟩
  | .calm :: Γ, i + 1, m, t, _, ρ, st, v, s, e, ⟨s0, st', h, h1, h2⟩, r => by
    simp only [put, Option.map_eq_some_iff] at e
    obtain ⟨q0, e0, rfl⟩ := e
    subst h
    exact ⟨s0, _, rfl, h1, put_ok (Γ := Γ) (i := i) e0 h2 r⟩
  | .has a u :: Γ, i + 1, m, t, _, ρ, st, v, s, e, ⟨s0, st', h, h1, h2⟩, r => by
    simp only [put, Option.map_eq_some_iff] at e
    obtain ⟨q0, e0, rfl⟩ := e
    subst h
    exact ⟨s0, _, rfl, h1, put_ok (Γ := Γ) (i := i) e0 h2 r⟩
/-- a slot is forgotten, or known to be calm -/
def clr (b : Bool) : (Γ : Ctx) → Nat → Option (Σ Δ : Ctx, HEnv Γ → HEnv Δ)
  | [], _ => none
  | .dead :: Γ, 0 => some ⟨(if b then .calm else .dead) :: Γ, fun ρ => (by cases b <;> exact ρ)⟩
  | .calm :: Γ, 0 => some ⟨(if b then .calm else .dead) :: Γ, fun ρ => (by cases b <;> exact ρ)⟩
  | .has _ _ :: Γ, 0 => some ⟨(if b then .calm else .dead) :: Γ, fun ρ => (by cases b <;> exact ρ.2)⟩
  | .dead :: Γ, i + 1 => (clr b Γ i).map fun q => ⟨.dead :: q.1, fun ρ => q.2 ρ⟩
  | .calm :: Γ, i + 1 => (clr b Γ i).map fun q => ⟨.calm :: q.1, fun ρ => q.2 ρ⟩
  | .has a u :: Γ, i + 1 => (clr b Γ i).map fun q => ⟨.has a u :: q.1, fun ρ => (ρ.1, q.2 ρ.2)⟩
theorem clr_ok {b : Bool} {s : Sl} (hs : b = true → calmSl s = true) : ∀ {Γ : Ctx} {i : Nat} {q : Σ Δ : Ctx, HEnv Γ → HEnv Δ} {ρ : HEnv Γ} {st : En}, clr b Γ i = some q → EnvR Γ ρ st → EnvR q.1 (q.2 ρ) (st.set i s)
  | [], _, _, _, _, e, _ => nomatch e
  | .dead :: Γ, 0, _, ρ, st, e, ⟨s0, st', h, h2⟩ => by
    cases e; subst h
    cases b with
    | true => exact ⟨s, st', rfl, hs rfl, h2⟩
    | false => exact ⟨s, st', rfl, h2⟩
  | .calm :: Γ, 0, _, ρ, st, e, ⟨s0, st', h, _, h2⟩ => by
    cases e; subst h
    cases b with
    | true => exact ⟨s, st', rfl, hs rfl, h2⟩
    | false => exact ⟨s, st', rfl, h2⟩
  | .has _ _ :: Γ, 0, _, ρ, st, e, ⟨s0, st', h, _, h2⟩ => by
    cases e; subst h
    cases b with
    | true => exact ⟨s, st', rfl, hs rfl, h2⟩
    | false => exact ⟨s, st', rfl, h2⟩
  | .dead :: Γ, i + 1, _, ρ, st, e, ⟨s0, st', h, h2⟩ => by
    simp only [clr, Option.map_eq_some_iff] at e
    obtain ⟨q0, e0, rfl⟩ := e
    subst h
    exact ⟨s0, _, rfl, clr_ok hs (Γ := Γ) (i := i) e0 h2⟩
  | .calm :: Γ, i + 1, _, ρ, st, e, ⟨s0, st', h, h1, h2⟩ => by
    simp only [clr, Option.map_eq_some_iff] at e
    obtain ⟨q0, e0, rfl⟩ := e
    subst h
    exact ⟨s0, _, rfl, h1, clr_ok hs (Γ := Γ) (i := i) e0 h2⟩
  | .has a u :: Γ, i + 1, _, ρ, st, e, ⟨s0, st', h, h1, h2⟩ => by
    simp only [clr, Option.map_eq_some_iff] at e
    obtain ⟨q0, e0, rfl⟩ := e
    subst h
    exact ⟨s0, _, rfl, h1, clr_ok hs (Γ := Γ) (i := i) e0 h2⟩
/-- nothing is known of the slot -/
def isFree (Γ : Ctx) (i : Nat) : Bool := match Γ[i]? with
  | some .dead => true
  | _ => false
theorem free_ok : ∀ {Γ : Ctx} {i : Nat} {ρ : HEnv Γ} {st : En} {s : Sl}, isFree Γ i = true → EnvR Γ ρ st → EnvR Γ ρ (st.set i s)
  | [], _, _, _, _, e, _ => nomatch e
  | .dead :: Γ, 0, ρ, st, s, e, ⟨s0, st', h, h2⟩ => by subst h; exact ⟨s, st', rfl, h2⟩
  | .calm :: Γ, 0, ρ, st, s, e, _ => nomatch e
  | .has _ _ :: Γ, 0, ρ, st, s, e, _ => nomatch e
  | .dead :: Γ, i + 1, ρ, st, s, e, ⟨s0, st', h, h2⟩ => by
    subst h
    exact ⟨s0, _, rfl, free_ok (Γ := Γ) (i := i) e h2⟩
  | .calm :: Γ, i + 1, ρ, st, s, e, ⟨s0, st', h, h1, h2⟩ => by
    subst h
    exact ⟨s0, _, rfl, h1, free_ok (Γ := Γ) (i := i) e h2⟩
  | .has m t :: Γ, i + 1, ρ, st, s, e, ⟨s0, st', h, h1, h2⟩ => by
    subst h
    exact ⟨s0, _, rfl, h1, free_ok (Γ := Γ) (i := i) e h2⟩
/-! ### two tables: what stays as it is, what may change -/
def lk2 (Γ Δ : Ctx) (i : Nat) : Option (Σ q : Md × VT, HEnv Γ → HEnv Δ → q.2.den) := match lkp Δ i with
  | some q => some ⟨q.1, fun _ ρ => q.2 ρ⟩
  | none => (lkp Γ i).map fun q => ⟨q.1, fun c _ => q.2 c⟩
theorem lk2_ok {Γ Δ : Ctx} {i : Nat} {q : Σ q : Md × VT, HEnv Γ → HEnv Δ → q.2.den} {c : HEnv Γ} {ρ : HEnv Δ} {st : En} (e : lk2 Γ Δ i = some q) (h1 : EnvR Γ c st) (h2 : EnvR Δ ρ st) : ∃ s, st[i]? = some s ∧ MdR q.1.1 (q.1.2.enc (q.2 c ρ)) s := by
  unfold lk2 at e
  split at e
  · rename_i q0 e0; cases e; exact lkp_ok e0 h2
  · simp only [Option.map_eq_some_iff] at e
    obtain ⟨q0, e0, rfl⟩ := e
    exact lkp_ok e0 h1
/-- a slot takes a value, and may -/
def put2 (Γ Δ : Ctx) (i : Nat) (m : Md) (t : VT) : Option (Σ E : Ctx, HEnv Δ → t.den → HEnv E) := if isFree Γ i then put Δ i m t else none
theorem put2_ok {Γ Δ : Ctx} {i : Nat} {m : Md} {t : VT} {q : Σ E : Ctx, HEnv Δ → t.den → HEnv E} {c : HEnv Γ} {ρ : HEnv Δ} {st : En} {v : t.den} {s : Sl} (e : put2 Γ Δ i m t = some q) (h1 : EnvR Γ c st) (h2 : EnvR Δ ρ st)
    (r : MdR m (t.enc v) s) : EnvR Γ c (st.set i s) ∧ EnvR q.1 (q.2 ρ v) (st.set i s) := by
  unfold put2 at e
  split at e
  · rename_i hf; exact ⟨free_ok hf h1, put_ok e h2 r⟩
  · cases e
/-- a table fits in one that says less -/
def coS : (s t : ST) → (Γ Δ : Ctx) → (HEnv Γ → HEnv Δ) → Option (HEnv (s :: Γ) → HEnv (t :: Δ))
  | .dead, .dead, _, _, f => some f
  | .calm, .dead, _, _, f => some f
  | .has _ _, .dead, _, _, f => some fun ρ => f ρ.2
  | .calm, .calm, _, _, f => some f
  | .has .fr _, .calm, _, _, f => some fun ρ => f ρ.2
  | .has m (.py a), .has n (.py b), _, _, f => if m = n ∨ (n = .rd ∧ m ≠ .bo) then (co a b).map fun g ρ => (g ρ.1, f ρ.2) else none
  | .has m (.dct a b), .has n (.dct a' b'), _, _, f => if m = n ∨ (n = .rd ∧ m ≠ .bo) then (co a a').bind fun g => (co b b').map fun g' ρ => (if h : VT.dct a b = VT.dct a' b' then h ▸ ρ.1 else ρ.1.map fun q => (g q.1, g' q.2), f ρ.2) else none
  | .has m .scr, .has n .scr, _, _, f => if m = n ∨ (n = .rd ∧ m ≠ .bo) then some fun ρ => (ρ.1, f ρ.2) else none
  | _, _, _, _, _ => none
def coC : (Γ Δ : Ctx) → Option (HEnv Γ → HEnv Δ)
  | [], [] => some id
  | s :: Γ, t :: Δ => (coC Γ Δ).bind fun f => coS s t Γ Δ f
  | _, _ => none
theorem md_mono {m n : Md} {d : D} {s : Sl} (h : m = n ∨ (n = .rd ∧ m ≠ .bo)) (r : MdR m d s) : MdR n d s := by
  rcases h with h | ⟨h, h2⟩
  · exact h ▸ r
  · subst h
    cases m with
    | fr => exact .inl r
    | ow => exact .inr r
    | bo => exact absurd rfl h2
    | rd => exact r
theorem coS_ok {s t : ST} {Γ Δ : Ctx} {f : HEnv Γ → HEnv Δ} {g : HEnv (s :: Γ) → HEnv (t :: Δ)} (e : coS s t Γ Δ f = some g) (hf : ∀ ρ st, EnvR Γ ρ st → EnvR Δ (f ρ) st) : ∀ ρ st, EnvR (s :: Γ) ρ st → EnvR (t :: Δ) (g ρ) st := by
  intro ρ st h
  unfold coS at e
  split at e
  · cases e; obtain ⟨s0, st', e, h2⟩ := h; exact ⟨s0, st', e, hf _ _ h2⟩
  · cases e; obtain ⟨s0, st', e, _, h2⟩ := h; exact ⟨s0, st', e, hf _ _ h2⟩
  · cases e; obtain ⟨s0, st', e, _, h2⟩ := h; exact ⟨s0, st', e, hf _ _ h2⟩
  · cases e; obtain ⟨s0, st', e, h1, h2⟩ := h; exact ⟨s0, st', e, h1, hf _ _ h2⟩
  · cases e; obtain ⟨s0, st', e, h1, h2⟩ := h; cases h1; exact ⟨_, st', e, rfl, hf _ _ h2⟩
  · split at e
    · rename_i hm
      simp only [Option.map_eq_some_iff] at e
      obtain ⟨g0, hg, rfl⟩ := e
      obtain ⟨s0, st', e, h1, h2⟩ := h
      refine ⟨s0, st', e, ?_, hf _ _ h2⟩
      have := md_mono hm h1
      simp only [VT.enc] at this ⊢
      rw [co_enc hg]
      exact this
    · cases e
  · split at e
    · rename_i hm
      simp only [Option.bind_eq_some_iff, Option.map_eq_some_iff] at e
      obtain ⟨g0, hg, g1, hg1, rfl⟩ := e
      obtain ⟨s0, st', e, h1, h2⟩ := h
      refine ⟨s0, st', e, ?_, hf _ _ h2⟩
      have := md_mono hm h1
      simp only
      split
      · rename_i hq
        cases hq
        exact this
      · simp only [VT.enc] at this ⊢
        rw [List.map_map]
        refine Eq.mp (congrArg (fun z => MdR _ (D.dct z) s0) (List.map_congr_left fun q _ => ?_)) this
        simp only [Function.comp, co_enc hg, co_enc hg1]
    · cases e
  · split at e
    · rename_i hm
      cases e
      obtain ⟨s0, st', e, h1, h2⟩ := h
      exact ⟨s0, st', e, md_mono hm h1, hf _ _ h2⟩
    · cases e
  · cases e
theorem coC_ok : ∀ {Γ Δ : Ctx} {f : HEnv Γ → HEnv Δ}, coC Γ Δ = some f → ∀ ρ st, EnvR Γ ρ st → EnvR Δ (f ρ) st
  | [], [], _, e, ρ, st, h => by cases e; exact h
  | s :: Γ, t :: Δ, f, e, ρ, st, h => by
    simp only [coC, Option.bind_eq_some_iff] at e
    obtain ⟨f0, h0, e⟩ := e
    exact coS_ok e (coC_ok h0) ρ st h
  | [], _ :: _, _, e, _, _, _ => nomatch e
  | _ :: _, [], _, e, _, _, _ => nomatch e
def jnM (m n : Md) : Option Md := if m = n then some m else if m ≠ .bo ∧ n ≠ .bo then some .rd else none
def jnV : VT → VT → Option VT
  | .py a, .py b => some (.py (jn a b))
  | .dct a b, .dct a' b' => some (.dct (jn a a') (jn b b'))
  | .scr, .scr => some .scr
  | _, _ => none
def jnS : ST → ST → ST
  | .calm, .calm => .calm
  | .has .fr _, .calm => .calm
  | .calm, .has .fr _ => .calm
  | .has m a, .has n b => (match jnM m n, jnV a b with
    | some k, some t => .has k t
    | _, _ => if m = .fr ∧ n = .fr then .calm else .dead)
  | _, _ => .dead
def jnC : Ctx → Ctx → Ctx
  | s :: Γ, t :: Δ => jnS s t :: jnC Γ Δ
  | _, _ => []
/-! ### a part stays as it is for a while -/
/-- slots that are not named go to the first table -/
structure SpT (Γ Δ : Ctx) where
  G : Ctx
  D : Ctx
  f : HEnv Γ → HEnv Δ → HEnv G
  g : HEnv Δ → HEnv D
def spl (ms : List Nat) : (i : Nat) → (Γ Δ : Ctx) → Option (SpT Γ Δ)
  | _, [], [] => some ⟨[], [], fun _ _ => (), fun _ => ()⟩
  | i, .dead :: Γ, .dead :: Δ => (spl ms (i + 1) Γ Δ).map fun R => ⟨.dead :: R.G, .dead :: R.D, fun c ρ => R.f c ρ, fun ρ => R.g ρ⟩
  | i, .dead :: Γ, .calm :: Δ => (spl ms (i + 1) Γ Δ).map fun R => ⟨.dead :: R.G, .calm :: R.D, fun c ρ => R.f c ρ, fun ρ => R.g ρ⟩
  | i, .has a b :: Γ, .dead :: Δ => (spl ms (i + 1) Γ Δ).map fun R => ⟨.has a b :: R.G, .dead :: R.D, fun c ρ => (c.1, R.f c.2 ρ), fun ρ => R.g ρ⟩
  | i, .has a b :: Γ, .calm :: Δ => (spl ms (i + 1) Γ Δ).map fun R => ⟨.has a b :: R.G, .calm :: R.D, fun c ρ => (c.1, R.f c.2 ρ), fun ρ => R.g ρ⟩
  | i, .dead :: Γ, .has m u :: Δ => if i ∈ ms then (spl ms (i + 1) Γ Δ).map fun R => ⟨.dead :: R.G, .has m u :: R.D, fun c ρ => R.f c ρ.2, fun ρ => (ρ.1, R.g ρ.2)⟩
      else (spl ms (i + 1) Γ Δ).map fun R => ⟨.has m u :: R.G, .dead :: R.D, fun c ρ => (ρ.1, R.f c ρ.2), fun ρ => R.g ρ.2⟩
  | _, _, _ => none
theorem spl_ok {ms : List Nat} : ∀ {i : Nat} {Γ Δ : Ctx} {R : SpT Γ Δ} {c : HEnv Γ} {ρ : HEnv Δ} {st : En}, spl ms i Γ Δ = some R → EnvR Γ c st → EnvR Δ ρ st → EnvR R.G (R.f c ρ) st ∧ EnvR R.D (R.g ρ) st := by
  intro i Γ Δ
  fun_induction spl ms i Γ Δ with
  | case1 => intro R c ρ st e h1 h2; cases e; exact ⟨h1, h2⟩
  | case2 i Γ Δ ih =>
    intro R c ρ st e h1 h2
    simp only [Option.map_eq_some_iff] at e
    obtain ⟨R0, e0, rfl⟩ := e
    obtain ⟨s, st', rfl, h1⟩ := h1
    obtain ⟨s', st'', e1, h2⟩ := h2
    cases e1
    obtain ⟨k1, k2⟩ := ih e0 h1 h2
    exact ⟨⟨s, st', rfl, k1⟩, ⟨s, st', rfl, k2⟩⟩
  | case3 i Γ Δ ih =>
    intro R c ρ st e h1 h2
    simp only [Option.map_eq_some_iff] at e
    obtain ⟨R0, e0, rfl⟩ := e
    obtain ⟨s, st', rfl, h1⟩ := h1
    obtain ⟨s', st'', e1, hc, h2⟩ := h2
    cases e1
    obtain ⟨k1, k2⟩ := ih e0 h1 h2
    exact ⟨⟨s, st', rfl, k1⟩, ⟨s, st', rfl, hc, k2⟩⟩
  | case4 i a b Γ Δ ih =>
    intro R c ρ st e h1 h2
    simp only [Option.map_eq_some_iff] at e
    obtain ⟨R0, e0, rfl⟩ := e
    obtain ⟨s, st', rfl, hm, h1⟩ := h1
    obtain ⟨s', st'', e1, h2⟩ := h2
    cases e1
    obtain ⟨k1, k2⟩ := ih e0 h1 h2
    exact ⟨⟨s, st', rfl, hm, k1⟩, ⟨s, st', rfl, k2⟩⟩
  | case5 i a b Γ Δ ih =>
    intro R c ρ st e h1 h2
    simp only [Option.map_eq_some_iff] at e
    obtain ⟨R0, e0, rfl⟩ := e
    obtain ⟨s, st', rfl, hm, h1⟩ := h1
    obtain ⟨s', st'', e1, hc, h2⟩ := h2
    cases e1
    obtain ⟨k1, k2⟩ := ih e0 h1 h2
    exact ⟨⟨s, st', rfl, hm, k1⟩, ⟨s, st', rfl, hc, k2⟩⟩
  | case6 i Γ m u Δ hi ih =>
    intro R c ρ st e h1 h2
    simp only [Option.map_eq_some_iff] at e
    obtain ⟨R0, e0, rfl⟩ := e
    obtain ⟨s, st', rfl, h1⟩ := h1
    obtain ⟨s', st'', e1, hm, h2⟩ := h2
    cases e1
    obtain ⟨k1, k2⟩ := ih e0 h1 h2
    exact ⟨⟨s, st', rfl, k1⟩, ⟨s, st', rfl, hm, k2⟩⟩
  | case7 i Γ m u Δ hi ih =>
    intro R c ρ st e h1 h2
    simp only [Option.map_eq_some_iff] at e
    obtain ⟨R0, e0, rfl⟩ := e
    obtain ⟨s, st', rfl, h1⟩ := h1
    obtain ⟨s', st'', e1, hm, h2⟩ := h2
    cases e1
    obtain ⟨k1, k2⟩ := ih e0 h1 h2
    exact ⟨⟨s, st', rfl, hm, k1⟩, ⟨s, st', rfl, k2⟩⟩
  | case8 => intro R c ρ st e; cases e
/-- behind it: all is put together again -/
def mrg (ms : List Nat) : (i : Nat) → (Δ E : Ctx) → Option (Σ F : Ctx, HEnv Δ → HEnv E → HEnv F)
  | _, [], [] => some ⟨[], fun _ _ => ()⟩
  | i, .dead :: Δ, .dead :: E => (mrg ms (i + 1) Δ E).map fun q => ⟨.dead :: q.1, fun ρ τ => q.2 ρ τ⟩
  | i, .dead :: Δ, .calm :: E => (mrg ms (i + 1) Δ E).map fun q => ⟨.calm :: q.1, fun ρ τ => q.2 ρ τ⟩
  | i, .dead :: Δ, .has m u :: E => (mrg ms (i + 1) Δ E).map fun q => ⟨.has m u :: q.1, fun ρ τ => (τ.1, q.2 ρ τ.2)⟩
  | i, .calm :: Δ, .dead :: E => (mrg ms (i + 1) Δ E).map fun q => ⟨.dead :: q.1, fun ρ τ => q.2 ρ τ⟩
  | i, .calm :: Δ, .calm :: E => (mrg ms (i + 1) Δ E).map fun q => ⟨.calm :: q.1, fun ρ τ => q.2 ρ τ⟩
  | i, .calm :: Δ, .has m u :: E => (mrg ms (i + 1) Δ E).map fun q => ⟨.has m u :: q.1, fun ρ τ => (τ.1, q.2 ρ τ.2)⟩
  | i, .has a b :: Δ, .dead :: E => if i ∈ ms then (mrg ms (i + 1) Δ E).map fun q => ⟨.dead :: q.1, fun ρ τ => q.2 ρ.2 τ⟩ else (mrg ms (i + 1) Δ E).map fun q => ⟨.has a b :: q.1, fun ρ τ => (ρ.1, q.2 ρ.2 τ)⟩
  | i, .has a b :: Δ, .calm :: E => if i ∈ ms then (mrg ms (i + 1) Δ E).map fun q => ⟨.calm :: q.1, fun ρ τ => q.2 ρ.2 τ⟩ else (mrg ms (i + 1) Δ E).map fun q => ⟨.has a b :: q.1, fun ρ τ => (ρ.1, q.2 ρ.2 τ)⟩
  | i, .has a b :: Δ, .has m u :: E => if i ∈ ms then (mrg ms (i + 1) Δ E).map fun q => ⟨.has m u :: q.1, fun ρ τ => (τ.1, q.2 ρ.2 τ.2)⟩ else none
  | _, _, _ => none
theorem mrg_ok {ms : List Nat} : ∀ {i : Nat} {Γ Δ : Ctx} {R : SpT Γ Δ} {E : Ctx} {q : Σ F : Ctx, HEnv Δ → HEnv E → HEnv F} {c : HEnv Γ} {ρ : HEnv Δ} {τ : HEnv E} {st : En}, spl ms i Γ Δ = some R → mrg ms i Δ E = some q → EnvR R.G (R.f c ρ) st → EnvR E τ st →
    EnvR Γ c st ∧ EnvR q.1 (q.2 ρ τ) st := by
  intro i Γ Δ
  fun_induction spl ms i Γ Δ with
  | case1 =>
    intro R E q c ρ τ st e e2 h1 h2
    cases e
    cases E with
    | nil => cases e2; exact ⟨h1, h2⟩
    | cons s E => cases e2
  | case2 i Γ Δ ih =>
    intro R E q c ρ τ st e e2 h1 h2
    simp only [Option.map_eq_some_iff] at e
    obtain ⟨R0, e0, rfl⟩ := e
    obtain ⟨s, st', rfl, h1⟩ := h1
    rcases E with _ | ⟨_ | _ | ⟨m', u'⟩, E⟩
    · cases e2
    · simp only [mrg, Option.map_eq_some_iff] at e2
      obtain ⟨q0, e2, rfl⟩ := e2
      obtain ⟨s', st'', e1, h2⟩ := h2
      cases e1
      obtain ⟨k1, k2⟩ := ih e0 e2 h1 h2
      exact ⟨⟨s, st', rfl, k1⟩, ⟨s, st', rfl, k2⟩⟩
    · simp only [mrg, Option.map_eq_some_iff] at e2
      obtain ⟨q0, e2, rfl⟩ := e2
      obtain ⟨s', st'', e1, hc, h2⟩ := h2
      cases e1
      obtain ⟨k1, k2⟩ := ih e0 e2 h1 h2
      exact ⟨⟨s, st', rfl, k1⟩, ⟨s, st', rfl, hc, k2⟩⟩
    · simp only [mrg, Option.map_eq_some_iff] at e2
      obtain ⟨q0, e2, rfl⟩ := e2
      obtain ⟨s', st'', e1, hc, h2⟩ := h2
      cases e1
      obtain ⟨k1, k2⟩ := ih e0 e2 h1 h2
      exact ⟨⟨s, st', rfl, k1⟩, ⟨s, st', rfl, hc, k2⟩⟩
  | case3 i Γ Δ ih =>
    intro R E q c ρ τ st e e2 h1 h2
    simp only [Option.map_eq_some_iff] at e
    obtain ⟨R0, e0, rfl⟩ := e
    obtain ⟨s, st', rfl, h1⟩ := h1
    rcases E with _ | ⟨_ | _ | ⟨m', u'⟩, E⟩
    · cases e2
    · simp only [mrg, Option.map_eq_some_iff] at e2
      obtain ⟨q0, e2, rfl⟩ := e2
      obtain ⟨s', st'', e1, h2⟩ := h2
      cases e1
      obtain ⟨k1, k2⟩ := ih e0 e2 h1 h2
      exact ⟨⟨s, st', rfl, k1⟩, ⟨s, st', rfl, k2⟩⟩
    · simp only [mrg, Option.map_eq_some_iff] at e2
      obtain ⟨q0, e2, rfl⟩ := e2
      obtain ⟨s', st'', e1, hc, h2⟩ := h2
      cases e1
      obtain ⟨k1, k2⟩ := ih e0 e2 h1 h2
      exact ⟨⟨s, st', rfl, k1⟩, ⟨s, st', rfl, hc, k2⟩⟩
    · simp only [mrg, Option.map_eq_some_iff] at e2
      obtain ⟨q0, e2, rfl⟩ := e2
      obtain ⟨s', st'', e1, hc, h2⟩ := h2
      cases e1
      obtain ⟨k1, k2⟩ := ih e0 e2 h1 h2
      exact ⟨⟨s, st', rfl, k1⟩, ⟨s, st', rfl, hc, k2⟩⟩
  | case4 i a b Γ Δ ih =>
    intro R E q c ρ τ st e e2 h1 h2
    simp only [Option.map_eq_some_iff] at e
    obtain ⟨R0, e0, rfl⟩ := e
    obtain ⟨s, st', rfl, h0, h1⟩ := h1
    rcases E with _ | ⟨_ | _ | ⟨m', u'⟩, E⟩
    · cases e2
    · simp only [mrg, Option.map_eq_some_iff] at e2
      obtain ⟨q0, e2, rfl⟩ := e2
      obtain ⟨s', st'', e1, h2⟩ := h2
      cases e1
      obtain ⟨k1, k2⟩ := ih e0 e2 h1 h2
      exact ⟨⟨s, st', rfl, h0, k1⟩, ⟨s, st', rfl, k2⟩⟩
    · simp only [mrg, Option.map_eq_some_iff] at e2
      obtain ⟨q0, e2, rfl⟩ := e2
      obtain ⟨s', st'', e1, hc, h2⟩ := h2
      cases e1
      obtain ⟨k1, k2⟩ := ih e0 e2 h1 h2
      exact ⟨⟨s, st', rfl, h0, k1⟩, ⟨s, st', rfl, hc, k2⟩⟩
    · simp only [mrg, Option.map_eq_some_iff] at e2
      obtain ⟨q0, e2, rfl⟩ := e2
      obtain ⟨s', st'', e1, hc, h2⟩ := h2
      cases e1
      obtain ⟨k1, k2⟩ := ih e0 e2 h1 h2
      exact ⟨⟨s, st', rfl, h0, k1⟩, ⟨s, st', rfl, hc, k2⟩⟩
  | case5 i a b Γ Δ ih =>
    intro R E q c ρ τ st e e2 h1 h2
    simp only [Option.map_eq_some_iff] at e
    obtain ⟨R0, e0, rfl⟩ := e
    obtain ⟨s, st', rfl, h0, h1⟩ := h1
    rcases E with _ | ⟨_ | _ | ⟨m', u'⟩, E⟩
    · cases e2
    · simp only [mrg, Option.map_eq_some_iff] at e2
      obtain ⟨q0, e2, rfl⟩ := e2
      obtain ⟨s', st'', e1, h2⟩ := h2
      cases e1
      obtain ⟨k1, k2⟩ := ih e0 e2 h1 h2
      exact ⟨⟨s, st', rfl, h0, k1⟩, ⟨s, st', rfl, k2⟩⟩
    · simp only [mrg, Option.map_eq_some_iff] at e2
      obtain ⟨q0, e2, rfl⟩ := e2
      obtain ⟨s', st'', e1, hc, h2⟩ := h2
      cases e1
      obtain ⟨k1, k2⟩ := ih e0 e2 h1 h2
      exact ⟨⟨s, st', rfl, h0, k1⟩, ⟨s, st', rfl, hc, k2⟩⟩
    · simp only [mrg, Option.map_eq_some_iff] at e2
      obtain ⟨q0, e2, rfl⟩ := e2
      obtain ⟨s', st'', e1, hc, h2⟩ := h2
      cases e1
      obtain ⟨k1, k2⟩ := ih e0 e2 h1 h2
      exact ⟨⟨s, st', rfl, h0, k1⟩, ⟨s, st', rfl, hc, k2⟩⟩
  | case6 i Γ a b Δ hi ih =>
    intro R E q c ρ τ st e e2 h1 h2
    simp only [Option.map_eq_some_iff] at e
    obtain ⟨R0, e0, rfl⟩ := e
    obtain ⟨s, st', rfl, h1⟩ := h1
    rcases E with _ | ⟨_ | _ | ⟨m', u'⟩, E⟩
    · cases e2
    · simp only [mrg, if_pos hi, Option.map_eq_some_iff] at e2
      obtain ⟨q0, e2, rfl⟩ := e2
      obtain ⟨s', st'', e1, h2⟩ := h2
      cases e1
      obtain ⟨k1, k2⟩ := ih e0 e2 h1 h2
      exact ⟨⟨s, st', rfl, k1⟩, ⟨s, st', rfl, k2⟩⟩
    · simp only [mrg, if_pos hi, Option.map_eq_some_iff] at e2
      obtain ⟨q0, e2, rfl⟩ := e2
      obtain ⟨s', st'', e1, hc, h2⟩ := h2
      cases e1
      obtain ⟨k1, k2⟩ := ih e0 e2 h1 h2
      exact ⟨⟨s, st', rfl, k1⟩, ⟨s, st', rfl, hc, k2⟩⟩
    · simp only [mrg, if_pos hi, Option.map_eq_some_iff] at e2
      obtain ⟨q0, e2, rfl⟩ := e2
      obtain ⟨s', st'', e1, hc, h2⟩ := h2
      cases e1
      obtain ⟨k1, k2⟩ := ih e0 e2 h1 h2
      exact ⟨⟨s, st', rfl, k1⟩, ⟨s, st', rfl, hc, k2⟩⟩
  | case7 i Γ a b Δ hi ih =>
    intro R E q c ρ τ st e e2 h1 h2
    simp only [Option.map_eq_some_iff] at e
    obtain ⟨R0, e0, rfl⟩ := e
    obtain ⟨s, st', rfl, h0, h1⟩ := h1
    rcases E with _ | ⟨_ | _ | ⟨m', u'⟩, E⟩
    · cases e2
    · simp only [mrg, if_neg hi, Option.map_eq_some_iff] at e2
      obtain ⟨q0, e2, rfl⟩ := e2
      obtain ⟨s', st'', e1, h2⟩ := h2
      cases e1
      obtain ⟨k1, k2⟩ := ih e0 e2 h1 h2
      exact ⟨⟨s, st', rfl, k1⟩, ⟨s, st', rfl, h0, k2⟩⟩
    · simp only [mrg, if_neg hi, Option.map_eq_some_iff] at e2
      obtain ⟨q0, e2, rfl⟩ := e2
      obtain ⟨s', st'', e1, hc, h2⟩ := h2
      cases e1
      obtain ⟨k1, k2⟩ := ih e0 e2 h1 h2
      exact ⟨⟨s, st', rfl, k1⟩, ⟨s, st', rfl, h0, k2⟩⟩
    · simp only [mrg, if_neg hi] at e2
      cases e2
  | case8 => intro R E q c ρ τ st e; cases e
end Ta
end
section
/-! Ta3: operations on typed values. -/
namespace Ta
open PySem Mi
inductive Ok where
  | va | fe | vf | pk (i : Nat)
  deriving DecidableEq
def OdR : Ok → D → Od → Prop
  | .va, d, o => o = .va d
  | .fe, d, o => o = .fe d
  | .vf, d, o => o = .va d ∨ o = .fe d
  | .pk i, _, o => o = .pk i
@[reducible] def HL : List VT → Type
  | [] => Unit
  | t :: ts => t.den × HL ts
def encs : (ts : List VT) → HL ts → List D
  | [], _ => []
  | t :: ts, v => t.enc v.1 :: encs ts v.2
/-- an operation at types -/
structure BR (f : List D → Option Od) (ts : List VT) where
  o : Ok
  r : VT
  g : HL ts → Option r.den
  ok : ∀ v w, g v = some w → ∃ od, f (encs ts v) = some od ∧ OdR o (r.enc w) od
def isVal : Ok → Bool
  | .pk _ => false
  | _ => true
def odPy : Od → Option PyData
  | .va (.py p) => some p
  | .fe (.py p) => some p
  | _ => none
/-- what is not known more exactly -/
def anyBR (f : List D → Option Od) (ts : List VT) : BR f ts where
  o := .vf
  r := .py .any
  g := fun v => (f (encs ts v)).bind odPy
  ok := fun v w h => by
    rw [Option.bind_eq_some_iff] at h
    obtain ⟨od, h1, h2⟩ := h
    refine ⟨od, h1, ?_⟩
    unfold odPy at h2
    split at h2
    · cases h2; exact .inl rfl
    · cases h2; exact .inr rfl
    · cases h2
/-- the operands are widened first -/
def coV : (s t : VT) → Option {f : s.den → t.den // ∀ x, t.enc (f x) = s.enc x}
  | .py a, .py b => (match h : co a b with
    | some f => some ⟨f, fun x => congrArg D.py (co_enc h x)⟩
    | none => none)
  | .dct a b, .dct c d => if h : a = c ∧ b = d then some ⟨by obtain ⟨h1, h2⟩ := h; subst h1; subst h2; exact id, by obtain ⟨h1, h2⟩ := h; subst h1; subst h2; exact fun x => rfl⟩ else (match h1 : co a c, h2 : co b d with
    | some f, some g => some ⟨fun l => l.map fun q => (f q.1, g q.2), fun x => by
        simp only [VT.enc, List.map_map]
        refine congrArg D.dct (List.map_congr_left fun q _ => ?_)
        simp only [Function.comp, co_enc h1, co_enc h2]⟩
    | _, _ => none)
  | .scr, .scr => some ⟨id, fun _ => rfl⟩
  | _, _ => none
def coL : (ss ts : List VT) → Option {f : HL ss → HL ts // ∀ x, encs ts (f x) = encs ss x}
  | [], [] => some ⟨id, fun _ => rfl⟩
  | s :: ss, t :: ts => (match coV s t, coL ss ts with
    | some f, some g => some ⟨fun v => (f.1 v.1, g.1 v.2), fun v => by simp only [encs, f.2, g.2]⟩
    | _, _ => none)
  | _, _ => none
def preBR {f : List D → Option Od} (ss ts : List VT) (b : BR f ts) : Option (BR f ss) := match coL ss ts with
  | some q => some ⟨b.o, b.r, fun v => b.g (q.1 v), fun v w h => by rw [← q.2]; exact b.ok _ w h⟩
  | none => none
/-! ### numbers -/
def fOp (o : O2) : List D → Option Od
  | [x, y] => op2 o x y
  | _ => none
abbrev vn : VT := .py .nat
abbrev vi : VT := .py .int
abbrev vb : VT := .py .bool
abbrev vs : VT := .py .str
def addN : BR (fOp .add) [vn, vn] := ⟨.va, vn, fun v => some (v.1 + v.2.1), fun v w h => by cases h; exact ⟨_, rfl, rfl⟩⟩
def addI : BR (fOp .add) [vi, vi] := ⟨.va, vi, fun v => some (v.1 + v.2.1), fun v w h => by cases h; exact ⟨_, rfl, rfl⟩⟩
def subI : BR (fOp .sub) [vi, vi] := ⟨.va, vi, fun v => some (v.1 - v.2.1), fun v w h => by cases h; exact ⟨_, rfl, rfl⟩⟩
/-- a product within the model's bounds -/
def mulO (a b : Nat) : Option Nat := if a < 18446744073709551616 ∨ b < 18446744073709551616 then some (a * b) else none
def mulN : BR (fOp .mul) [vn, vn] := ⟨.va, vn, fun v => mulO v.1 v.2.1, fun v w h => by
  unfold mulO at h
  split at h
  · rename_i hb
    cases h
    refine ⟨_, ?_, rfl⟩
    show (if okMul (Int.ofNat v.1) (Int.ofNat v.2.1) then some (ofI (Int.ofNat v.1 * Int.ofNat v.2.1)) else none) = _
    rw [if_pos]
    · rfl
    · unfold okMul
      rw [Bool.or_eq_true, decide_eq_true_eq, decide_eq_true_eq]
      exact hb
  · cases h⟩
def mulOI (a b : Int) : Option Int := if okMul a b then some (a * b) else none
def mulI : BR (fOp .mul) [vi, vi] := ⟨.va, vi, fun v => mulOI v.1 v.2.1, fun v w h => by
  unfold mulOI at h
  split at h
  · rename_i hb
    cases h
    exact ⟨_, if_pos hb, rfl⟩
  · cases h⟩
def divO (a b : Nat) : Option Nat := if 0 < b ∧ b < 1073741824 then some (a / b) else none
def divN : BR (fOp .fdiv) [vn, vn] := ⟨.va, vn, fun v => divO v.1 v.2.1, fun v w h => by
  unfold divO at h
  split at h
  · rename_i hb
    cases h
    refine ⟨_, if_pos ⟨Int.ofNat_lt.mpr hb.1, Int.ofNat_lt.mpr hb.2⟩, rfl⟩
  · cases h⟩
def divOI (a b : Int) : Option Int := if 0 < b ∧ b < 1073741824 then some (a / b) else none
def divI : BR (fOp .fdiv) [vi, vi] := ⟨.va, vi, fun v => divOI v.1 v.2.1, fun v w h => by
  unfold divOI at h
  split at h
  · rename_i hb
    cases h
    exact ⟨_, if_pos hb, rfl⟩
  · cases h⟩
def modO (a b : Nat) : Option Nat := if 0 < b then some (a % b) else none
def modN : BR (fOp .mod) [vn, vn] := ⟨.va, vn, fun v => modO v.1 v.2.1, fun v w h => by
  unfold modO at h
  split at h
  · rename_i hb
    cases h
    refine ⟨_, if_pos (Int.ofNat_lt.mpr hb), rfl⟩
  · cases h⟩
/-- the rest of an int -/
def modOI (a : Int) (b : Nat) : Option Nat := if 0 < b then some (a % (b : Int)).toNat else none
def modIN : BR (fOp .mod) [vi, vn] := ⟨.va, vn, fun v => modOI v.1 v.2.1, fun v w h => by
  unfold modOI at h
  split at h
  · rename_i hb
    cases h
    refine ⟨_, if_pos (Int.ofNat_lt.mpr hb), ?_⟩
    show Od.va _ = Od.va _
    have e : Int.ofNat (v.1 % (v.2.1 : Int)).toNat = v.1 % (v.2.1 : Int) := Int.toNat_of_nonneg (Int.emod_nonneg _ (by omega))
    exact congrArg (fun z => Od.va (.py (.int z))) e.symm
  · cases h⟩
def modOII (a b : Int) : Option Int := if 0 < b then some (a % b) else none
def modI : BR (fOp .mod) [vi, vi] := ⟨.va, vi, fun v => modOII v.1 v.2.1, fun v w h => by
  unfold modOII at h
  split at h
  · rename_i hb
    cases h
    exact ⟨_, if_pos hb, rfl⟩
  · cases h⟩
def powO (a b : Nat) : Option Nat := if b ≤ 1000 ∧ a < 1000000 then some (a ^ b) else none
def powN : BR (fOp .pow) [vn, vn] := ⟨.va, vn, fun v => powO v.1 v.2.1, fun v w h => by
  unfold powO at h
  split at h
  · rename_i hb
    cases h
    refine ⟨ofI (Int.ofNat v.1 ^ v.2.1), ?_, ?_⟩
    · show (if 0 ≤ Int.ofNat v.2.1 ∧ Int.ofNat v.2.1 ≤ 1000 ∧ (Int.ofNat v.1).natAbs < 1000000 then some (ofI (Int.ofNat v.1 ^ (Int.ofNat v.2.1).toNat)) else none) = _
      rw [if_pos ⟨Int.natCast_nonneg _, by have := hb.1; show ((v.2.1 : Nat) : Int) ≤ 1000; omega, hb.2⟩]
      rfl
    · show Od.va _ = Od.va _
      exact congrArg (fun z => Od.va (.py (.int z))) (Int.natCast_pow v.1 v.2.1).symm
  · cases h⟩
/-! with a written number -/
def divNL (k : Nat) (h : 0 < k ∧ k < 1073741824) : BR (fun ds => fOp .fdiv (ds ++ [.py (.int (Int.ofNat k))])) [vn] := ⟨.va, vn, fun v => some (v.1 / k), fun v w e => by
  cases e
  exact ⟨_, if_pos ⟨Int.ofNat_lt.mpr h.1, Int.ofNat_lt.mpr h.2⟩, rfl⟩⟩
def divIL (k : Nat) (h : 0 < k ∧ k < 1073741824) : BR (fun ds => fOp .fdiv (ds ++ [.py (.int (Int.ofNat k))])) [vi] := ⟨.va, vi, fun v => some (v.1 / (k : Int)), fun v w e => by
  cases e
  exact ⟨_, if_pos ⟨Int.ofNat_lt.mpr h.1, Int.ofNat_lt.mpr h.2⟩, rfl⟩⟩
def modNL (k : Nat) (h : 0 < k) : BR (fun ds => fOp .mod (ds ++ [.py (.int (Int.ofNat k))])) [vn] := ⟨.va, vn, fun v => some (v.1 % k), fun v w e => by
  cases e
  exact ⟨_, if_pos (Int.ofNat_lt.mpr h), rfl⟩⟩
def modIL (k : Nat) (h : 0 < k) : BR (fun ds => fOp .mod (ds ++ [.py (.int (Int.ofNat k))])) [vi] := ⟨.va, vn, fun v => some (v.1 % (k : Int)).toNat, fun v w e => by
  cases e
  refine ⟨_, if_pos (Int.ofNat_lt.mpr h), ?_⟩
  show Od.va _ = Od.va _
  have e : Int.ofNat (v.1 % (k : Int)).toNat = v.1 % (k : Int) := Int.toNat_of_nonneg (Int.emod_nonneg _ (by omega))
  exact congrArg (fun z => Od.va (.py (.int z))) e.symm⟩
def mulNL (k : Nat) (h : k < 18446744073709551616) : BR (fun ds => fOp .mul (ds ++ [.py (.int (Int.ofNat k))])) [vn] := ⟨.va, vn, fun v => some (v.1 * k), fun v w e => by
  cases e
  refine ⟨_, if_pos ?_, rfl⟩
  unfold okMul
  rw [Bool.or_eq_true, decide_eq_true_eq, decide_eq_true_eq]
  exact .inr h⟩
def mulLN (k : Nat) (h : k < 18446744073709551616) : BR (fun ds => fOp .mul (.py (.int (Int.ofNat k)) :: ds)) [vn] := ⟨.va, vn, fun v => some (k * v.1), fun v w e => by
  cases e
  refine ⟨_, if_pos ?_, rfl⟩
  unfold okMul
  rw [Bool.or_eq_true, decide_eq_true_eq, decide_eq_true_eq]
  exact .inl h⟩
/-- an operation with a written number behind -/
def opRT (o : O2) (t : VT) (k : Nat) : Option (BR (fun ds => fOp o (ds ++ [.py (.int (Int.ofNat k))])) [t]) := match o, t with
  | .fdiv, .py .nat => if h : 0 < k ∧ k < 1073741824 then some (divNL k h) else none
  | .fdiv, .py .int => if h : 0 < k ∧ k < 1073741824 then some (divIL k h) else none
  | .mod, .py .nat => if h : 0 < k then some (modNL k h) else none
  | .mod, .py .int => if h : 0 < k then some (modIL k h) else none
  | .mul, .py .nat => if h : k < 18446744073709551616 then some (mulNL k h) else none
  | _, _ => none
def opLT (o : O2) (t : VT) (k : Nat) : Option (BR (fun ds => fOp o (.py (.int (Int.ofNat k)) :: ds)) [t]) := match o, t with
  | .mul, .py .nat => if h : k < 18446744073709551616 then some (mulLN k h) else none
  | _, _ => none
/-! ### rows -/
def catO {α : Type} (xs ys : List α) : Option (List α) := if xs.length + ys.length ≤ lim then some (xs ++ ys) else none
def addL (t : Ty) : BR (fOp .add) [.py (.lst t), .py (.lst t)] := ⟨.fe, .py (.lst t), fun v => catO v.1 v.2.1, fun v w h => by
  unfold catO at h
  split at h
  · rename_i hb
    cases h
    refine ⟨_, if_pos (by rw [List.length_map, List.length_map]; exact hb), ?_⟩
    show Od.fe _ = Od.fe _
    simp only [VT.enc, Ty.enc, List.map_append]
  · cases h⟩
def addT (t : Ty) : BR (fOp .add) [.py (.htp t), .py (.htp t)] := ⟨.va, .py (.htp t), fun v => catO v.1 v.2.1, fun v w h => by
  unfold catO at h
  split at h
  · rename_i hb
    cases h
    refine ⟨_, if_pos (by rw [List.length_map, List.length_map]; exact hb), ?_⟩
    show Od.va _ = Od.va _
    simp only [VT.enc, Ty.enc, List.map_append]
  · cases h⟩
def repO {α : Type} (xs : List α) (k : Nat) : Option (List α) := if k ≤ 1000 ∧ xs.length ≤ 1000 then some (List.replicate k xs).flatten else none
def mulL (t : Ty) : BR (fOp .mul) [.py (.lst t), vn] := ⟨.fe, .py (.lst t), fun v => repO v.1 v.2.1, fun v w h => by
  unfold repO at h
  split at h
  · rename_i hb
    cases h
    have hk : Int.ofNat v.2.1 ≤ 1000 := by
      have := hb.1
      show ((v.2.1 : Nat) : Int) ≤ 1000
      omega
    refine ⟨_, if_pos ⟨Int.le_trans (by decide) (Int.natCast_nonneg _), hk, by rw [List.length_map]; exact hb.2⟩, ?_⟩
    show Od.fe _ = Od.fe _
    simp only [VT.enc, Ty.enc, List.map_flatten, List.map_replicate]
    rfl
  · cases h⟩
def repOI {α : Type} (xs : List α) (k : Int) : Option (List α) := if -1000 ≤ k ∧ k ≤ 1000 ∧ xs.length ≤ 1000 then some (List.replicate k.toNat xs).flatten else none
def mulLI (t : Ty) : BR (fOp .mul) [.py (.lst t), vi] := ⟨.fe, .py (.lst t), fun v => repOI v.1 v.2.1, fun v w h => by
  unfold repOI at h
  split at h
  · rename_i hb
    cases h
    refine ⟨_, if_pos ⟨hb.1, hb.2.1, by rw [List.length_map]; exact hb.2.2⟩, ?_⟩
    show Od.fe _ = Od.fe _
    simp only [VT.enc, Ty.enc, List.map_flatten, List.map_replicate]
  · cases h⟩
def mulH (t : Ty) : BR (fOp .mul) [.py (.htp t), vn] := ⟨.va, .py (.htp t), fun v => repO v.1 v.2.1, fun v w h => by
  unfold repO at h
  split at h
  · rename_i hb
    cases h
    have hk : Int.ofNat v.2.1 ≤ 1000 := by
      have := hb.1
      show ((v.2.1 : Nat) : Int) ≤ 1000
      omega
    refine ⟨_, if_pos ⟨Int.le_trans (by decide) (Int.natCast_nonneg _), hk, by rw [List.length_map]; exact hb.2⟩, ?_⟩
    show Od.va _ = Od.va _
    simp only [VT.enc, Ty.enc, List.map_flatten, List.map_replicate]
    rfl
  · cases h⟩
def mulHI (t : Ty) : BR (fOp .mul) [.py (.htp t), vi] := ⟨.va, .py (.htp t), fun v => repOI v.1 v.2.1, fun v w h => by
  unfold repOI at h
  split at h
  · rename_i hb
    cases h
    refine ⟨_, if_pos ⟨hb.1, hb.2.1, by rw [List.length_map]; exact hb.2.2⟩, ?_⟩
    show Od.va _ = Od.va _
    simp only [VT.enc, Ty.enc, List.map_flatten, List.map_replicate]
  · cases h⟩
/-- the tuple type of both, one behind the other -/
def tcApp : Ty → Ty → Ty
  | .tc a r, s => .tc a (tcApp r s)
  | _, s => s
def tcCat : (r s : Ty) → r.isTup = true → r.den → s.den → (tcApp r s).den
  | .tn, _, _, _, y => y
  | .tc _ r, s, h, x, y => (x.1, tcCat r s h x.2 y)
theorem tcApp_tup : ∀ (r s : Ty), r.isTup = true → s.isTup = true → (tcApp r s).isTup = true
  | .tn, _, _, h => h
  | .tc _ r, s, h1, h2 => tcApp_tup r s h1 h2
theorem tcCat_its : ∀ (r s : Ty) (h : r.isTup = true) (h2 : s.isTup = true) (x : r.den) (y : s.den), (tcApp r s).its (tcCat r s h x y) = r.its x ++ s.its y
  | .tn, s, _, _, x, y => rfl
  | .tc a r, s, h, h2, x, y => by
    rw [show (Ty.tc a r).its x = a.enc x.1 :: r.its x.2 from its_tc (a := a) (r := r) h x.1 x.2]
    show (Ty.tc a (tcApp r s)).its (x.1, tcCat r s h x.2 y) = _
    rw [its_tc (tcApp_tup r s h h2), tcCat_its r s h h2 x.2 y]
    rfl
def tupLen : Ty → Nat
  | .tc _ r => tupLen r + 1
  | _ => 0
theorem its_len : ∀ {t : Ty} (v : t.den), t.isTup = true → (t.its v).length = tupLen t
  | .tn, _, _ => rfl
  | .tc a r, v, h => by
    rw [show (Ty.tc a r).its v = a.enc v.1 :: r.its v.2 from its_tc (a := a) (r := r) h v.1 v.2, List.length_cons, its_len v.2 h]
    rfl
def addC (r s : Ty) (h : r.isTup = true) (h2 : s.isTup = true) (hl : tupLen r + tupLen s ≤ 1000) : BR (fOp .add) [.py r, .py s] := ⟨.va, .py (tcApp r s), fun v => some (tcCat r s h v.1 v.2.1), fun v w e => by
  cases e
  refine ⟨.va (.py ((tcApp r s).enc (tcCat r s h v.1 v.2.1))), ?_, rfl⟩
  show op2 .add (.py (r.enc v.1)) (.py (s.enc v.2.1)) = _
  rw [enc_tup _ h, enc_tup _ h2, enc_tup _ (tcApp_tup r s h h2), tcCat_its]
  · show (if (r.its v.1).length + (s.its v.2.1).length ≤ lim then _ else none) = _
    rw [if_pos]
    rw [its_len _ h, its_len _ h2]
    unfold lim
    omega
  · exact h2⟩
/-- the element type of a row of any length -/
def eltOf : Ty → Option Ty
  | .lst t => some t
  | .htp t => some t
  | .tn => some .nev
  | .tc a r => (eltOf r).map fun t => jn a t
  | _ => none
def isNum (t : Ty) : Bool := match t with
  | .nat => true
  | .int => true
  | _ => false
def opT (o : O2) (s t : VT) : BR (fOp o) [s, t] := match o, s, t with
  | .add, .py .nat, .py .nat => addN
  | .mul, .py .nat, .py .nat => mulN
  | .fdiv, .py .nat, .py .nat => divN
  | .mod, .py .nat, .py .nat => modN
  | .mod, .py .int, .py .nat => modIN
  | .pow, .py .nat, .py .nat => powN
  | .mul, .py (.lst t), .py .nat => mulL t
  | .mul, .py (.lst t), .py .int => mulLI t
  | .mul, .py (.htp t), .py .nat => mulH t
  | .mul, .py (.htp t), .py .int => mulHI t
  | .add, .py s, .py t => if isNum s && isNum t then (preBR _ _ addI).getD (anyBR _ _) else (match s, t with
    | .lst a, .lst b => (preBR _ _ (addL (jn a b))).getD (anyBR _ _)
    | s, t => if h : s.isTup = true ∧ t.isTup = true ∧ tupLen s + tupLen t ≤ 1000 then addC s t h.1 h.2.1 h.2.2 else (match jn s t with
      | .htp u => (preBR _ _ (addT u)).getD (anyBR _ _)
      | _ => anyBR _ _))
  | .sub, .py s, .py t => if isNum s && isNum t then (preBR _ _ subI).getD (anyBR _ _) else anyBR _ _
  | .mul, .py s, .py t => if isNum s && isNum t then (preBR _ _ mulI).getD (anyBR _ _) else (match eltOf s, t with
    | some u, .nat => (preBR _ _ (mulH u)).getD (anyBR _ _)
    | some u, .int => (preBR _ _ (mulHI u)).getD (anyBR _ _)
    | _, _ => anyBR _ _)
  | .fdiv, .py s, .py t => if isNum s && isNum t then (preBR _ _ divI).getD (anyBR _ _) else anyBR _ _
  | .mod, .py s, .py t => if isNum s && isNum t then (preBR _ _ modI).getD (anyBR _ _) else anyBR _ _
  | _, _, _ => anyBR _ _
end Ta
end
section
/-! Ta4: comparisons, places, slices, built-ins on typed values. -/
namespace Ta
open PySem Mi
/-! ### how deep -/
def Ty.dpt : Ty → Nat
  | .any => 1000
  | .lst t => t.dpt + 1
  | .htp t => t.dpt + 1
  | .opt t => t.dpt
  | .tn => 1
  | .tc a r => max (a.dpt + 1) r.dpt
  | _ => 0
def Ty.shal (t : Ty) : Bool := decide (t.dpt ≤ 30)
def noAny : Ty → Bool
  | .any => false
  | .lst t => noAny t
  | .htp t => noAny t
  | .opt t => noAny t
  | .tc a r => noAny a && noAny r
  | _ => true
theorem depthAll_map {t : Ty} {n : Nat} (h : ∀ v : t.den, (t.enc v).depth ≤ n) : ∀ xs : List t.den, PyData.depthAll (xs.map t.enc) ≤ n
  | [] => Nat.zero_le _
  | x :: xs => Nat.max_le.mpr ⟨h x, depthAll_map h xs⟩
theorem dpt_ok : ∀ {t : Ty} (v : t.den), noAny t = true → (t.enc v).depth ≤ t.dpt
  | .nev, v, _ => nomatch v
  | .any, _, h => nomatch h
  | .nat, _, _ => Nat.le_refl _
  | .int, _, _ => Nat.le_refl _
  | .bool, _, _ => Nat.le_refl _
  | .str, _, _ => Nat.le_refl _
  | .non, _, _ => Nat.le_refl _
  | .lst t, v, h => Nat.succ_le_succ (depthAll_map (fun w => dpt_ok (t := t) w h) v)
  | .htp t, v, h => Nat.succ_le_succ (depthAll_map (fun w => dpt_ok (t := t) w h) v)
  | .opt t, v, h => (match v with
    | none => Nat.zero_le _
    | some w => dpt_ok (t := t) w h)
  | .tn, _, _ => Nat.le_refl _
  | .tc a r, v, h => by
    have h' : noAny a = true ∧ noAny r = true := by rw [← Bool.and_eq_true]; exact h
    have e1 := dpt_ok v.1 h'.1
    have e2 := dpt_ok v.2 h'.2
    simp only [Ty.enc, Ty.dpt]
    split
    · rename_i xs e
      rw [e] at e2
      have e2 : PyData.depthAll xs + 1 ≤ r.dpt := e2
      show max (a.enc v.1).depth (PyData.depthAll xs) + 1 ≤ _
      omega
    · exact Nat.le_trans e2 (Nat.le_max_right _ _)
def shalB (t : Ty) : Bool := noAny t && decide (t.dpt ≤ 30)
theorem shal_ok {t : Ty} (v : t.den) (h : shalB t = true) : okDp (t.enc v) = true := by
  unfold shalB at h
  rw [Bool.and_eq_true, decide_eq_true_eq] at h
  exact decide_eq_true (Nat.le_trans (dpt_ok v h.1) h.2)
/-! ### alike or not -/
def beqT : (t : Ty) → t.den → t.den → Bool
  | .nat, x, y => decide (x = y)
  | .int, x, y => decide (x = y)
  | .bool, x, y => x == y
  | .str, x, y => decide (x = y)
  | t, x, y => PyData.eqv (t.enc x) (t.enc y)
theorem beqT_ok {t : Ty} (x y : t.den) : PyData.eqv (t.enc x) (t.enc y) = beqT t x y := by
  cases t <;> first
    | rfl
    | (simp only [Ty.enc, beqT, PyData.eqv]; rw [Bool.eq_iff_iff]; simp; done)
    | (simp only [Ty.enc, beqT, PyData.eqv]; rw [Bool.eq_iff_iff]; simp; exact ⟨fun h => Int.ofNat.inj h, fun h => congrArg _ h⟩)
/-- in a row, how often, where first -/
def memT (t : Ty) (x : t.den) (xs : List t.den) : Bool := xs.any fun z => beqT t z x
def cntT (t : Ty) (xs : List t.den) (x : t.den) : Nat := xs.countP fun y => beqT t y x
def idxT (t : Ty) (xs : List t.den) (x : t.den) : Option Nat := xs.findIdx? fun y => beqT t y x
def fCm (o : Cm) : List D → Option Od
  | [x, y] => (cmp o x y).map ofB
  | _ => none
/-- a comparison, nothing more known -/
def cmBR (o : Cm) (s t : VT) : BR (fCm o) [s, t] := ⟨.va, vb, fun v => cmp o (s.enc v.1) (t.enc v.2.1), fun v w h => ⟨ofB w, by show (cmp o _ _).map ofB = _; rw [h] <;> rfl, rfl⟩⟩
def eqBR (t : Ty) (h : shalB t = true) : BR (fCm .eq) [.py t, .py t] := ⟨.va, vb, fun v => some (beqT t v.1 v.2.1), fun v w e => by
  cases e
  refine ⟨ofB _, ?_, rfl⟩
  show ((if okDp (t.enc v.1) && okDp (t.enc v.2.1) then some (PyData.eqv (t.enc v.1) (t.enc v.2.1)) else none).map ofB) = _
  rw [shal_ok _ h, shal_ok _ h, beqT_ok] <;> rfl⟩
def neBR (t : Ty) (h : shalB t = true) : BR (fCm .ne) [.py t, .py t] := ⟨.va, vb, fun v => some (!beqT t v.1 v.2.1), fun v w e => by
  cases e
  refine ⟨ofB _, ?_, rfl⟩
  show ((if okDp (t.enc v.1) && okDp (t.enc v.2.1) then some (!PyData.eqv (t.enc v.1) (t.enc v.2.1)) else none).map ofB) = _
  rw [shal_ok _ h, shal_ok _ h, beqT_ok] <;> rfl⟩
theorem hasB_map {t : Ty} (x : t.den) (xs : List t.den) : hasB (t.enc x) (xs.map t.enc) = memT t x xs := by
  unfold hasB memT
  rw [List.any_map]
  congr 1
  funext z
  exact beqT_ok z x
def inL (t : Ty) (h : shalB t = true) : BR (fCm .isin) [.py t, .py (.lst t)] := ⟨.va, vb, fun v => some (memT t v.1 v.2.1), fun v w e => by
  cases e
  refine ⟨ofB _, ?_, rfl⟩
  show ((if okDp (t.enc v.1) then some (hasB (t.enc v.1) (v.2.1.map t.enc)) else none).map ofB) = _
  rw [shal_ok _ h, hasB_map] <;> rfl⟩
def inT (t : Ty) (h : shalB t = true) : BR (fCm .isin) [.py t, .py (.htp t)] := ⟨.va, vb, fun v => some (memT t v.1 v.2.1), fun v w e => by
  cases e
  refine ⟨ofB _, ?_, rfl⟩
  show ((if okDp (t.enc v.1) then some (hasB (t.enc v.1) (v.2.1.map t.enc)) else none).map ofB) = _
  rw [shal_ok _ h, hasB_map] <;> rfl⟩
def niL (t : Ty) (h : shalB t = true) : BR (fCm .notin) [.py t, .py (.lst t)] := ⟨.va, vb, fun v => some (!memT t v.1 v.2.1), fun v w e => by
  cases e
  refine ⟨ofB _, ?_, rfl⟩
  show ((if okDp (t.enc v.1) then some (!hasB (t.enc v.1) (v.2.1.map t.enc)) else none).map ofB) = _
  rw [shal_ok _ h, hasB_map] <;> rfl⟩
def niT (t : Ty) (h : shalB t = true) : BR (fCm .notin) [.py t, .py (.htp t)] := ⟨.va, vb, fun v => some (!memT t v.1 v.2.1), fun v w e => by
  cases e
  refine ⟨ofB _, ?_, rfl⟩
  show ((if okDp (t.enc v.1) then some (!hasB (t.enc v.1) (v.2.1.map t.enc)) else none).map ofB) = _
  rw [shal_ok _ h, hasB_map] <;> rfl⟩
/-- dicts -/
def dgetT (k v : Ty) (kvs : List (k.den × v.den)) (x : k.den) : Option v.den := (kvs.find? fun q => beqT k q.1 x).map (·.2)
def dputT (k v : Ty) (kvs : List (k.den × v.den)) (x : k.den) (p : v.den) : List (k.den × v.den) :=
  if (kvs.any fun q => beqT k q.1 x) = true then kvs.map (fun q => if beqT k q.1 x = true then (q.1, p) else q) else kvs ++ [(x, p)]
abbrev encD (k v : Ty) (kvs : List (k.den × v.den)) : List (PyData × PyData) := kvs.map fun q => (k.enc q.1, v.enc q.2)
theorem dgetT_ok {k v : Ty} {kvs : List (k.den × v.den)} {x : k.den} : getK (encD k v kvs) (k.enc x) = (dgetT k v kvs x).map v.enc := by
  unfold getK dgetT encD
  rw [List.find?_map]
  have e : ((fun q : PyData × PyData => PyData.eqv q.1 (k.enc x)) ∘ fun q : k.den × v.den => (k.enc q.1, v.enc q.2)) = fun q => beqT k q.1 x := funext fun q => beqT_ok q.1 x
  rw [e]
  simp only [Option.map_map]
  rfl
theorem dputT_ok {k v : Ty} {kvs : List (k.den × v.den)} {x : k.den} {p : v.den} : putKd (encD k v kvs) (k.enc x) (v.enc p) = encD k v (dputT k v kvs x p) := by
  unfold putKd dputT encD
  rw [List.any_map]
  have e : ((fun q : PyData × PyData => PyData.eqv q.1 (k.enc x)) ∘ fun q : k.den × v.den => (k.enc q.1, v.enc q.2)) = fun q => beqT k q.1 x := funext fun q => beqT_ok q.1 x
  rw [e]
  split
  · rw [List.map_map, List.map_map]
    refine List.map_congr_left fun q _ => ?_
    simp only [Function.comp, beqT_ok]
    split <;> rfl
  · rw [List.map_append]
    rfl
/-- a type whose values may be keys -/
def keyTy : Ty → Bool
  | .nat => true
  | .int => true
  | .str => true
  | _ => false
theorem keyTy_ok {k v : Ty} (h : keyTy k = true) (kvs : List (k.den × v.den)) (x : k.den) : okKey (encD k v kvs) (k.enc x) = true := by
  cases k <;> first
    | (cases h; done)
    | rfl
def inD (k v : Ty) (h : keyTy k = true) : BR (fCm .isin) [.py k, .dct k v] := ⟨.va, vb, fun x => some (dgetT k v x.2.1 x.1).isSome, fun x w e => by
  cases e
  refine ⟨ofB _, ?_, rfl⟩
  show ((if okKey (encD k v x.2.1) (k.enc x.1) then some (getK (encD k v x.2.1) (k.enc x.1)).isSome else none).map ofB) = _
  rw [keyTy_ok h, dgetT_ok, Option.isSome_map] <;> rfl⟩
def niD (k v : Ty) (h : keyTy k = true) : BR (fCm .notin) [.py k, .dct k v] := ⟨.va, vb, fun x => some (!(dgetT k v x.2.1 x.1).isSome), fun x w e => by
  cases e
  refine ⟨ofB _, ?_, rfl⟩
  show ((if okKey (encD k v x.2.1) (k.enc x.1) then some (!(getK (encD k v x.2.1) (k.enc x.1)).isSome) else none).map ofB) = _
  rw [keyTy_ok h, dgetT_ok, Option.isSome_map] <;> rfl⟩
def ltN : BR (fCm .lt) [vn, vn] := ⟨.va, vb, fun v => some (decide (v.1 < v.2.1)), fun v w e => by
  cases e
  refine ⟨ofB _, congrArg (fun z => (some (ofB z))) (decide_eq_decide.mpr Int.ofNat_lt), rfl⟩⟩
def leN : BR (fCm .le) [vn, vn] := ⟨.va, vb, fun v => some (decide (v.1 ≤ v.2.1)), fun v w e => by
  cases e
  refine ⟨ofB _, congrArg (fun z => (some (ofB z))) (decide_eq_decide.mpr Int.ofNat_le), rfl⟩⟩
def gtN : BR (fCm .gt) [vn, vn] := ⟨.va, vb, fun v => some (decide (v.2.1 < v.1)), fun v w e => by
  cases e
  refine ⟨ofB _, congrArg (fun z => (some (ofB z))) (decide_eq_decide.mpr Int.ofNat_lt), rfl⟩⟩
def geN : BR (fCm .ge) [vn, vn] := ⟨.va, vb, fun v => some (decide (v.2.1 ≤ v.1)), fun v w e => by
  cases e
  refine ⟨ofB _, congrArg (fun z => (some (ofB z))) (decide_eq_decide.mpr Int.ofNat_le), rfl⟩⟩
def ltI : BR (fCm .lt) [vi, vi] := ⟨.va, vb, fun v => some (decide (v.1 < v.2.1)), fun v w e => by cases e; exact ⟨_, rfl, rfl⟩⟩
def leI : BR (fCm .le) [vi, vi] := ⟨.va, vb, fun v => some (decide (v.1 ≤ v.2.1)), fun v w e => by cases e; exact ⟨_, rfl, rfl⟩⟩
def gtI : BR (fCm .gt) [vi, vi] := ⟨.va, vb, fun v => some (decide (v.2.1 < v.1)), fun v w e => by cases e; exact ⟨_, rfl, rfl⟩⟩
def geI : BR (fCm .ge) [vi, vi] := ⟨.va, vb, fun v => some (decide (v.2.1 ≤ v.1)), fun v w e => by cases e; exact ⟨_, rfl, rfl⟩⟩
/-- never None -/
def noNon : Ty → Bool
  | .nat => true
  | .int => true
  | .bool => true
  | .str => true
  | .lst _ => true
  | .htp _ => true
  | .tn => true
  | .tc _ r => r.isTup
  | _ => false
theorem noNon_ok : ∀ {t : Ty} (v : t.den), noNon t = true → isNn (t.enc v) = false
  | .nat, _, _ => rfl
  | .int, _, _ => rfl
  | .bool, _, _ => rfl
  | .str, _, _ => rfl
  | .lst _, _, _ => rfl
  | .htp _, _, _ => rfl
  | .tn, _, _ => rfl
  | .tc a r, v, h => by
    rw [enc_tup (t := .tc a r) v h]
    rfl
  | .opt _, _, h => nomatch h
  | .any, _, h => nomatch h
  | .nev, _, h => nomatch h
  | .non, _, h => nomatch h
def isN (t : Ty) : BR (fCm .is) [.py t, .py .non] := match t with
  | .opt t => if h : noNon t = true then ⟨.va, vb, fun v => some v.1.isNone, fun v w e => by
      cases e
      refine ⟨ofB _, ?_, rfl⟩
      show some (ofB (isNn (Ty.enc (.opt t) v.1))) = _
      cases v.1 with
      | none => rfl
      | some x => exact congrArg (fun z => some (ofB z)) (noNon_ok x h)⟩ else cmBR _ _ _
  | t => if h : noNon t = true then ⟨.va, vb, fun v => some false, fun v w e => by
      cases e
      refine ⟨ofB _, ?_, rfl⟩
      exact congrArg (fun z => some (ofB z)) (noNon_ok v.1 h)⟩ else cmBR _ _ _
def isnotN (t : Ty) : BR (fCm .isnot) [.py t, .py .non] := match t with
  | .opt t => if h : noNon t = true then ⟨.va, vb, fun v => some v.1.isSome, fun v w e => by
      cases e
      refine ⟨ofB _, ?_, rfl⟩
      show some (ofB (!isNn (Ty.enc (.opt t) v.1))) = _
      cases v.1 with
      | none => rfl
      | some x => exact congrArg (fun z => some (ofB (!z))) (noNon_ok x h)⟩ else cmBR _ _ _
  | t => if h : noNon t = true then ⟨.va, vb, fun v => some true, fun v w e => by
      cases e
      refine ⟨ofB _, ?_, rfl⟩
      exact congrArg (fun z => some (ofB (!z))) (noNon_ok v.1 h)⟩ else cmBR _ _ _
def isBo : BR (fCm .is) [vb, vb] := ⟨.va, vb, fun v => some (decide (v.1 = v.2.1)), fun v w e => by cases e; exact ⟨_, rfl, rfl⟩⟩
def isnotBo : BR (fCm .isnot) [vb, vb] := ⟨.va, vb, fun v => some (!decide (v.1 = v.2.1)), fun v w e => by cases e; exact ⟨_, rfl, rfl⟩⟩
/-- a row of any kind, as one of one kind of items -/
def rowTo (s : Ty) (u : Ty) : Ty := match s with
  | .lst _ => .lst u
  | _ => .htp u
def cmIn (o : Cm) (s r : Ty) : BR (fCm o) [.py s, .py r] := match eltOf r with
  | some e => (match o with
    | .isin => (match rowTo r (jn s e) with
      | .lst u => if h : shalB u = true then (preBR _ _ (inL u h)).getD (cmBR _ _ _) else cmBR _ _ _
      | .htp u => if h : shalB u = true then (preBR _ _ (inT u h)).getD (cmBR _ _ _) else cmBR _ _ _
      | _ => cmBR _ _ _)
    | .notin => (match rowTo r (jn s e) with
      | .lst u => if h : shalB u = true then (preBR _ _ (niL u h)).getD (cmBR _ _ _) else cmBR _ _ _
      | .htp u => if h : shalB u = true then (preBR _ _ (niT u h)).getD (cmBR _ _ _) else cmBR _ _ _
      | _ => cmBR _ _ _)
    | o => cmBR o _ _)
  | none => cmBR o _ _
def cmT (o : Cm) (s t : VT) : BR (fCm o) [s, t] := match o, s, t with
  | .lt, .py .nat, .py .nat => ltN
  | .le, .py .nat, .py .nat => leN
  | .gt, .py .nat, .py .nat => gtN
  | .ge, .py .nat, .py .nat => geN
  | .lt, .py s, .py t => if isNum s && isNum t then (preBR _ _ ltI).getD (cmBR _ _ _) else cmBR _ _ _
  | .le, .py s, .py t => if isNum s && isNum t then (preBR _ _ leI).getD (cmBR _ _ _) else cmBR _ _ _
  | .gt, .py s, .py t => if isNum s && isNum t then (preBR _ _ gtI).getD (cmBR _ _ _) else cmBR _ _ _
  | .ge, .py s, .py t => if isNum s && isNum t then (preBR _ _ geI).getD (cmBR _ _ _) else cmBR _ _ _
  | .eq, .py s, .py t => if h : shalB (jn s t) = true then (preBR _ _ (eqBR (jn s t) h)).getD (cmBR _ _ _) else cmBR _ _ _
  | .ne, .py s, .py t => if h : shalB (jn s t) = true then (preBR _ _ (neBR (jn s t) h)).getD (cmBR _ _ _) else cmBR _ _ _
  | .is, .py .bool, .py .bool => isBo
  | .isnot, .py .bool, .py .bool => isnotBo
  | .is, .py s, .py .non => isN s
  | .isnot, .py s, .py .non => isnotN s
  | .isin, .py s, .py r => cmIn .isin s r
  | .notin, .py s, .py r => cmIn .notin s r
  | .isin, .py s, .dct k v => if h : keyTy k = true then (preBR _ _ (inD k v h)).getD (cmBR _ _ _) else cmBR _ _ _
  | .notin, .py s, .dct k v => if h : keyTy k = true then (preBR _ _ (niD k v h)).getD (cmBR _ _ _) else cmBR _ _ _
  | o, s, t => cmBR o s t
/-! ### places -/
def fIx : List D → Option Od
  | [x, y] => (item x y).map Od.va
  | _ => none
theorem ixN_nat {n k : Nat} : L2.ixN n (Int.ofNat k) = if k < n then some k else none := by
  unfold L2.ixN
  rw [if_pos (show 0 ≤ Int.ofNat k from Int.natCast_nonneg k)]
  by_cases h : k < n
  · rw [if_pos h, if_pos (show Int.ofNat k < (n : Int) from Int.ofNat_lt.mpr h)]; rfl
  · rw [if_neg h, if_neg (show ¬ Int.ofNat k < (n : Int) from fun q => h (Int.ofNat_lt.mp q))]
/-- an item at a place of any sign -/
def ixI {α : Type} (xs : List α) (i : Int) : Option α := (L2.ixN xs.length i).bind fun k => xs[k]?
theorem ixN_get {α β : Type} (f : α → β) (xs : List α) (k : Nat) {x : α} (h : xs[k]? = some x) : ((L2.ixN (xs.map f).length (Int.ofNat k)).bind fun j => (xs.map f)[j]?) = some (f x) := by
  have lt := (List.getElem?_eq_some_iff.mp h).1
  rw [List.length_map, ixN_nat, if_pos lt, Option.bind_some, List.getElem?_map, h]
  rfl
def ixLN (t : Ty) : BR fIx [.py (.lst t), vn] := ⟨.va, .py t, fun v => v.1[v.2.1]?, fun v w h => by
  refine ⟨.va (.py (t.enc w)), ?_, rfl⟩
  show ((L2.ixN (v.1.map t.enc).length (Int.ofNat v.2.1)).bind fun k => ((v.1.map t.enc)[k]?).map D.py).map Od.va = _
  have := ixN_get t.enc v.1 v.2.1 h
  rw [Option.bind_eq_some_iff] at this
  obtain ⟨k, h1, h2⟩ := this
  rw [h1, Option.bind_some, h2] <;> rfl⟩
def ixTN (t : Ty) : BR fIx [.py (.htp t), vn] := ⟨.va, .py t, fun v => v.1[v.2.1]?, fun v w h => by
  refine ⟨.va (.py (t.enc w)), ?_, rfl⟩
  show ((L2.ixN (v.1.map t.enc).length (Int.ofNat v.2.1)).bind fun k => ((v.1.map t.enc)[k]?).map D.py).map Od.va = _
  have := ixN_get t.enc v.1 v.2.1 h
  rw [Option.bind_eq_some_iff] at this
  obtain ⟨k, h1, h2⟩ := this
  rw [h1, Option.bind_some, h2] <;> rfl⟩
def ixLI (t : Ty) : BR fIx [.py (.lst t), vi] := ⟨.va, .py t, fun v => ixI v.1 v.2.1, fun v w h => by
  refine ⟨.va (.py (t.enc w)), ?_, rfl⟩
  unfold ixI at h
  rw [Option.bind_eq_some_iff] at h
  obtain ⟨k, h1, h2⟩ := h
  show ((L2.ixN (v.1.map t.enc).length v.2.1).bind fun k => ((v.1.map t.enc)[k]?).map D.py).map Od.va = _
  rw [List.length_map, h1, Option.bind_some, List.getElem?_map, h2] <;> rfl⟩
def ixTI (t : Ty) : BR fIx [.py (.htp t), vi] := ⟨.va, .py t, fun v => ixI v.1 v.2.1, fun v w h => by
  refine ⟨.va (.py (t.enc w)), ?_, rfl⟩
  unfold ixI at h
  rw [Option.bind_eq_some_iff] at h
  obtain ⟨k, h1, h2⟩ := h
  show ((L2.ixN (v.1.map t.enc).length v.2.1).bind fun k => ((v.1.map t.enc)[k]?).map D.py).map Od.va = _
  rw [List.length_map, h1, Option.bind_some, List.getElem?_map, h2] <;> rfl⟩
def ixSN : BR fIx [.scr, vn] := ⟨.va, vi, fun v => v.1[v.2.1]?, fun v w h => by
  refine ⟨.va (.py (.int w)), ?_, rfl⟩
  show ((L2.ixN v.1.length (Int.ofNat v.2.1)).bind fun k => (v.1[k]?).map fun n => D.py (.int n)).map Od.va = _
  have lt := (List.getElem?_eq_some_iff.mp h).1
  rw [ixN_nat, if_pos lt, Option.bind_some, h] <;> rfl⟩
def ixD (k v : Ty) (h : keyTy k = true) : BR fIx [.dct k v, .py k] := ⟨.va, .py v, fun x => dgetT k v x.1 x.2.1, fun x w e => by
  refine ⟨.va (.py (v.enc w)), ?_, rfl⟩
  show ((if okKey (encD k v x.1) (k.enc x.2.1) then (getK (encD k v x.1) (k.enc x.2.1)).map D.py else none).map Od.va) = _
  rw [keyTy_ok h, dgetT_ok, e] <;> rfl⟩
/-- the item at a written place of a tuple -/
def prjT : (t : Ty) → t.isTup = true → Nat → Option (Σ u : Ty, t.den → u.den)
  | .tn, _, _ => none
  | .tc a _, _, 0 => some ⟨a, fun v => v.1⟩
  | .tc _ r, h, k + 1 => (prjT r h k).map fun q => ⟨q.1, fun v => q.2 v.2⟩
theorem prjT_ok : ∀ {t : Ty} {h : t.isTup = true} {k : Nat} {q : Σ u : Ty, t.den → u.den} (v : t.den), prjT t h k = some q → (t.its v)[k]? = some (q.1.enc (q.2 v))
  | .tn, _, _, _, _, e => nomatch e
  | .tc a r, h, 0, q, v, e => by
    cases e
    rw [show (Ty.tc a r).its v = a.enc v.1 :: r.its v.2 from its_tc (a := a) (r := r) h v.1 v.2]
    rfl
  | .tc a r, h, k + 1, q, v, e => by
    simp only [prjT, Option.map_eq_some_iff] at e
    obtain ⟨q0, e0, rfl⟩ := e
    rw [show (Ty.tc a r).its v = a.enc v.1 :: r.its v.2 from its_tc (a := a) (r := r) h v.1 v.2]
    exact prjT_ok (t := r) v.2 e0
def fIxL (k : Nat) : List D → Option Od := fun ds => fIx (ds ++ [.py (.int (Int.ofNat k))])
def ixPT (t : Ty) (k : Nat) : Option (BR (fIxL k) [.py t]) := if h : t.isTup = true then (match e : prjT t h k with
  | some q => some ⟨.va, .py q.1, fun v => some (q.2 v.1), fun v w e2 => by
      cases e2
      refine ⟨.va (.py (q.1.enc (q.2 v.1))), ?_, rfl⟩
      have p := prjT_ok v.1 e
      show (item (.py (t.enc v.1)) (.py (.int (Int.ofNat k)))).map Od.va = _
      rw [enc_tup _ h]
      show ((L2.ixN (t.its v.1).length (Int.ofNat k)).bind fun k => ((t.its v.1)[k]?).map D.py).map Od.va = _
      have lt := (List.getElem?_eq_some_iff.mp p).1
      rw [ixN_nat, if_pos lt, Option.bind_some, p] <;> rfl⟩
  | none => none) else none
def ixT (s t : VT) : BR fIx [s, t] := match s, t with
  | .py (.lst t), .py .nat => ixLN t
  | .py (.htp t), .py .nat => ixTN t
  | .py (.lst t), .py .int => ixLI t
  | .py (.htp t), .py .int => ixTI t
  | .scr, .py .nat => ixSN
  | .dct k v, .py s => if h : keyTy k = true then (preBR _ _ (ixD k v h)).getD (anyBR _ _) else anyBR _ _
  | .py (.tc a r), .py .nat => (match eltOf (.tc a r) with
    | some u => (preBR _ _ (ixTN u)).getD (anyBR _ _)
    | none => anyBR _ _)
  | .py (.tc a r), .py .int => (match eltOf (.tc a r) with
    | some u => (preBR _ _ (ixTI u)).getD (anyBR _ _)
    | none => anyBR _ _)
  | _, _ => anyBR _ _
/-! ### slices -/
def cutL {α : Type} (xs : List α) (lo hi : Option Int) : List α := (xs.drop (HT.sIx xs.length 0 lo)).take (HT.sIx xs.length xs.length hi - HT.sIx xs.length 0 lo)
theorem cutL_ok {t : Ty} (xs : List t.den) (lo hi : Option Int) : cutP (xs.map t.enc) lo hi = (cutL xs lo hi).map t.enc := by
  unfold cutP cutL
  rw [List.length_map, List.map_take, List.map_drop]
/-- a slice: what it is, by the bounds -/
structure SR (s : VT) where
  o : Ok
  r : VT
  g : s.den → Option Int → Option Int → Option r.den
  ok : ∀ v lo hi w, g v lo hi = some w → ∃ od, sliceD (s.enc v) lo hi = some od ∧ OdR o (r.enc w) od
def slA (s : VT) : SR s := ⟨.vf, .py .any, fun v lo hi => (sliceD (s.enc v) lo hi).bind odPy, fun v lo hi w h => by
  rw [Option.bind_eq_some_iff] at h
  obtain ⟨od, h1, h2⟩ := h
  refine ⟨od, h1, ?_⟩
  unfold odPy at h2
  split at h2
  · cases h2; exact .inl rfl
  · cases h2; exact .inr rfl
  · cases h2⟩
def slT (s : VT) : SR s := match s with
  | .py (.lst t) => ⟨.fe, .py (.lst t), fun v lo hi => some (cutL v lo hi), fun v lo hi w e => by
      cases e
      refine ⟨_, rfl, ?_⟩
      show Od.fe _ = Od.fe _
      rw [cutL_ok] <;> rfl⟩
  | .py (.htp t) => ⟨.va, .py (.htp t), fun v lo hi => some (cutL v lo hi), fun v lo hi w e => by
      cases e
      refine ⟨_, rfl, ?_⟩
      show Od.va _ = Od.va _
      rw [cutL_ok] <;> rfl⟩
  | .py .tn => ⟨.va, .py .tn, fun v _ _ => some (), fun v lo hi w e => by
      refine ⟨.va (.py (.tuple (cutP [] lo hi))), rfl, ?_⟩
      show Od.va _ = Od.va _
      have : cutP [] lo hi = [] := by
        unfold cutP
        simp
      rw [this] <;> rfl⟩
  | .py (.tc a r) => (match eltOf (.tc a r) with
    | some u => (match h : coV (.py (.tc a r)) (.py (.htp u)) with
      | some f => ⟨.va, .py (.htp u), fun v lo hi => some (cutL (f.1 v) lo hi), fun v lo hi w e => by
          cases e
          refine ⟨_, by rw [← f.2 v]; exact rfl, ?_⟩
          show Od.va _ = Od.va _
          rw [cutL_ok] <;> rfl⟩
      | none => slA _)
    | none => slA _)
  | s => slA s
def fRev : List D → Option Od
  | [x] => revD x
  | _ => none
def revL (t : Ty) : BR fRev [.py (.lst t)] := ⟨.fe, .py (.lst t), fun v => some v.1.reverse, fun v w e => by
  cases e
  refine ⟨_, rfl, ?_⟩
  show Od.fe _ = Od.fe _
  rw [← List.map_reverse] <;> rfl⟩
def revTu (t : Ty) : BR fRev [.py (.htp t)] := ⟨.va, .py (.htp t), fun v => some v.1.reverse, fun v w e => by
  cases e
  refine ⟨_, rfl, ?_⟩
  show Od.va _ = Od.va _
  rw [← List.map_reverse] <;> rfl⟩
def revT (s : VT) : BR fRev [s] := match s with
  | .py (.lst t) => revL t
  | .py (.htp t) => revTu t
  | .py (.tc a r) => (match eltOf (.tc a r) with
    | some u => (preBR _ _ (revTu u)).getD (anyBR _ _)
    | none => anyBR _ _)
  | _ => anyBR _ _
end Ta
end
section
/-! Ta5: built-ins on typed values. -/
namespace Ta
open PySem Mi
def lenL (t : Ty) : BR (biD .len) [.py (.lst t)] := ⟨.va, vn, fun v => some v.1.length, fun v w e => by
  cases e
  refine ⟨_, rfl, ?_⟩
  show Od.va (.py (.int ((v.1.map t.enc).length : Int))) = Od.va (.py (.int (Int.ofNat v.1.length)))
  rw [List.length_map] <;> rfl⟩
def lenT (t : Ty) : BR (biD .len) [.py (.htp t)] := ⟨.va, vn, fun v => some v.1.length, fun v w e => by
  cases e
  refine ⟨_, rfl, ?_⟩
  show Od.va (.py (.int ((v.1.map t.enc).length : Int))) = Od.va (.py (.int (Int.ofNat v.1.length)))
  rw [List.length_map] <;> rfl⟩
def lenC (t : Ty) (h : t.isTup = true) : BR (biD .len) [.py t] := ⟨.va, vn, fun v => some (tupLen t), fun v w e => by
  cases e
  refine ⟨ofI ((t.its v.1).length : Int), ?_, ?_⟩
  · show biD .len [.py (t.enc v.1)] = _
    rw [enc_tup _ h] <;> rfl
  · show Od.va (.py (.int ((t.its v.1).length : Int))) = Od.va (.py (.int (Int.ofNat (tupLen t))))
    rw [its_len _ h] <;> rfl⟩
def lenS : BR (biD .len) [.scr] := ⟨.va, vn, fun v => some v.1.length, fun v w e => by cases e; exact ⟨_, rfl, rfl⟩⟩
def lenD (k v : Ty) : BR (biD .len) [.dct k v] := ⟨.va, vn, fun x => some x.1.length, fun x w e => by
  cases e
  refine ⟨_, rfl, ?_⟩
  show Od.va (.py (.int ((x.1.map fun q => (k.enc q.1, v.enc q.2)).length : Int))) = Od.va (.py (.int (Int.ofNat x.1.length)))
  rw [List.length_map] <;> rfl⟩
/-- the length of any value that has one -/
def lenA : PyData → Option Nat
  | .list xs => some xs.length
  | .tuple xs => some xs.length
  | .str x => if x.length ≤ lim then some x.length else none
  | _ => none
def lenAny : BR (biD .len) [.py .any] := ⟨.va, vn, fun v => lenA v.1, fun v w e => by
  obtain ⟨p, u⟩ := v
  cases p with
  | list xs => cases e; exact ⟨_, rfl, rfl⟩
  | tuple xs => cases e; exact ⟨_, rfl, rfl⟩
  | str x =>
    have e : (if x.length ≤ lim then some x.length else none) = some w := e
    split at e
    · rename_i h; cases e; exact ⟨_, if_pos h, rfl⟩
    · cases e
  | _ => cases e⟩
def tupL (t : Ty) : BR (biD .tuple) [.py (.lst t)] := ⟨.va, .py (.htp t), fun v => some v.1, fun v w e => by cases e; exact ⟨_, rfl, rfl⟩⟩
def tupT (t : Ty) : BR (biD .tuple) [.py (.htp t)] := ⟨.va, .py (.htp t), fun v => some v.1, fun v w e => by cases e; exact ⟨_, rfl, rfl⟩⟩
def tupC (t : Ty) (h : t.isTup = true) : BR (biD .tuple) [.py t] := ⟨.va, .py t, fun v => some v.1, fun v w e => by
  cases e
  refine ⟨.va (.py (t.enc v.1)), ?_, rfl⟩
  show biD .tuple [.py (t.enc v.1)] = _
  rw [enc_tup _ h] <;> rfl⟩
def lisL (t : Ty) : BR (biD .list) [.py (.lst t)] := ⟨.fe, .py (.lst t), fun v => some v.1, fun v w e => by cases e; exact ⟨_, rfl, rfl⟩⟩
def lisT (t : Ty) : BR (biD .list) [.py (.htp t)] := ⟨.fe, .py (.lst t), fun v => some v.1, fun v w e => by cases e; exact ⟨_, rfl, rfl⟩⟩
/-- sorted, by the order of data -/
def leT (t : Ty) (x y : t.den) : Bool := leD (t.enc x) (t.enc y)
def sortO (t : Ty) (xs : List t.den) : Option (List t.den) :=
  if alikeB (xs.map t.enc) && sortB (xs.map t.enc) && okDp (.list (xs.map t.enc)) && decide ((xs.map t.enc).length ≤ lim) then some (xs.mergeSort (leT t)) else none
def sortL (t : Ty) : BR (biD .sorted) [.py (.lst t)] := ⟨.fe, .py (.lst t), fun v => sortO t v.1, fun v w e => by
  unfold sortO at e
  split at e
  · rename_i h
    cases e
    refine ⟨_, if_pos h, ?_⟩
    show Od.fe _ = Od.fe _
    refine congrArg (fun z => Od.fe (.py (.list z))) ?_
    exact (List.map_mergeSort (r := leT t) (s := leD) (f := t.enc) fun a _ b _ => rfl).symm
  · cases e⟩
/-- the least, the greatest -/
def minT (t : Ty) (x : t.den) (xs : List t.den) : t.den := xs.foldl (fun a y => if PySem.W.dataLt (t.enc y) (t.enc a) then y else a) x
def maxT (t : Ty) (x : t.den) (xs : List t.den) : t.den := xs.foldl (fun a y => if PySem.W.dataLt (t.enc a) (t.enc y) then y else a) x
theorem minT_ok {t : Ty} (xs : List t.den) : ∀ x : t.den, PySem.W.minD (t.enc x) (xs.map t.enc) = t.enc (minT t x xs) := by
  induction xs with
  | nil => intro x; rfl
  | cons y ys ih =>
    intro x
    unfold PySem.W.minD minT at ih ⊢
    rw [List.map_cons, List.foldl_cons, List.foldl_cons, ← ih]
    congr 1
    split <;> rfl
theorem maxT_ok {t : Ty} (xs : List t.den) : ∀ x : t.den, PySem.W.maxD (t.enc x) (xs.map t.enc) = t.enc (maxT t x xs) := by
  induction xs with
  | nil => intro x; rfl
  | cons y ys ih =>
    intro x
    unfold PySem.W.maxD maxT at ih ⊢
    rw [List.map_cons, List.foldl_cons, List.foldl_cons, ← ih]
    congr 1
    split <;> rfl
def mmOk (t : Ty) (xs : List t.den) : Bool := alikeB (xs.map t.enc) && ((xs.map t.enc).all fun z => !isNn z) && okDp (.list (xs.map t.enc))
def minO (t : Ty) : List t.den → Option t.den
  | [] => none
  | x :: xs => if mmOk t (x :: xs) then some (minT t x xs) else none
def maxO (t : Ty) : List t.den → Option t.den
  | [] => none
  | x :: xs => if mmOk t (x :: xs) then some (maxT t x xs) else none
def minL (t : Ty) : BR (biD .min) [.py (.lst t)] := ⟨.va, .py t, fun v => minO t v.1, fun v w e => by
  obtain ⟨xs, u⟩ := v
  cases xs with
  | nil => cases e
  | cons x xs =>
    have e : (if mmOk t (x :: xs) then some (minT t x xs) else none) = some w := e
    split at e
    · rename_i h
      cases e
      refine ⟨_, if_pos h, ?_⟩
      show Od.va _ = Od.va _
      rw [minT_ok] <;> rfl
    · cases e⟩
def maxL (t : Ty) : BR (biD .max) [.py (.lst t)] := ⟨.va, .py t, fun v => maxO t v.1, fun v w e => by
  obtain ⟨xs, u⟩ := v
  cases xs with
  | nil => cases e
  | cons x xs =>
    have e : (if mmOk t (x :: xs) then some (maxT t x xs) else none) = some w := e
    split at e
    · rename_i h
      cases e
      refine ⟨_, if_pos h, ?_⟩
      show Od.va _ = Od.va _
      rw [maxT_ok] <;> rfl
    · cases e⟩
def min2N : BR (biD .min) [vn, vn] := ⟨.va, vn, fun v => some (min v.1 v.2.1), fun v w e => by
  cases e
  refine ⟨_, rfl, ?_⟩
  show Od.va (.py (.int _)) = Od.va (.py (.int _))
  congr 3
  have : ∀ a b : Nat, (if Int.ofNat b < Int.ofNat a then Int.ofNat b else Int.ofNat a) = Int.ofNat (min a b) := fun a b => by
    show (if ((b : Nat) : Int) < (a : Int) then (b : Int) else (a : Int)) = ((min a b : Nat) : Int)
    split <;> omega
  exact this _ _⟩
def max2N : BR (biD .max) [vn, vn] := ⟨.va, vn, fun v => some (max v.1 v.2.1), fun v w e => by
  cases e
  refine ⟨_, rfl, ?_⟩
  show Od.va (.py (.int _)) = Od.va (.py (.int _))
  congr 3
  have : ∀ a b : Nat, (if Int.ofNat b > Int.ofNat a then Int.ofNat b else Int.ofNat a) = Int.ofNat (max a b) := fun a b => by
    show (if ((b : Nat) : Int) > (a : Int) then (b : Int) else (a : Int)) = ((max a b : Nat) : Int)
    split <;> omega
  exact this _ _⟩
def max2NI : BR (biD .max) [vn, vi] := ⟨.va, vn, fun v => some (max v.1 v.2.1.toNat), fun v w e => by
  cases e
  refine ⟨_, rfl, ?_⟩
  show Od.va (.py (.int _)) = Od.va (.py (.int _))
  congr 3
  have : ∀ (a : Nat) (b : Int), (if b > Int.ofNat a then b else Int.ofNat a) = Int.ofNat (max a b.toNat) := fun a b => by
    show (if b > (a : Int) then b else (a : Int)) = ((max a b.toNat : Nat) : Int)
    split <;> omega
  exact this _ _⟩
def min2I : BR (biD .min) [vi, vi] := ⟨.va, vi, fun v => some (if v.2.1 < v.1 then v.2.1 else v.1), fun v w e => by cases e; exact ⟨_, rfl, rfl⟩⟩
def max2I : BR (biD .max) [vi, vi] := ⟨.va, vi, fun v => some (if v.2.1 > v.1 then v.2.1 else v.1), fun v w e => by cases e; exact ⟨_, rfl, rfl⟩⟩
theorem bools_bs : ∀ bs : List Bool, bools (bs.map fun b => PyData.bool b) = some bs
  | [] => rfl
  | b :: bs => by rw [List.map_cons, bools_cons, bools_bs bs] <;> rfl
def allL : BR (biD .all) [.py (.lst .bool)] := ⟨.va, vb, fun v => some (v.1.all id), fun v w e => by
  cases e
  refine ⟨ofB (v.1.all id), ?_, rfl⟩
  show (bools (v.1.map fun b => PyData.bool b)).map (fun bs => ofB (bs.all id)) = _
  rw [bools_bs] <;> rfl⟩
def anyL : BR (biD .any) [.py (.lst .bool)] := ⟨.va, vb, fun v => some (v.1.any id), fun v w e => by
  cases e
  refine ⟨ofB (v.1.any id), ?_, rfl⟩
  show (bools (v.1.map fun b => PyData.bool b)).map (fun bs => ofB (bs.any id)) = _
  rw [bools_bs] <;> rfl⟩
def allE : BR (biD .all) [.py (.lst .nev)] := ⟨.va, vb, fun v => some true, fun v w e => by
  cases e
  obtain ⟨xs, u⟩ := v
  cases xs with
  | nil => exact ⟨ofB true, rfl, rfl⟩
  | cons x xs => exact nomatch x⟩
def anyE : BR (biD .any) [.py (.lst .nev)] := ⟨.va, vb, fun v => some false, fun v w e => by
  cases e
  obtain ⟨xs, u⟩ := v
  cases xs with
  | nil => exact ⟨ofB false, rfl, rfl⟩
  | cons x xs => exact nomatch x⟩
def absN : BR (biD .abs) [vn] := ⟨.va, vn, fun v => some v.1, fun v w e => by
  cases e
  refine ⟨_, rfl, ?_⟩
  show Od.va (.py (.int _)) = Od.va (.py (.int _))
  congr 3⟩
def absI : BR (biD .abs) [vi] := ⟨.va, vn, fun v => some v.1.natAbs, fun v w e => by
  cases e
  refine ⟨_, rfl, ?_⟩
  show Od.va (.py (.int _)) = Od.va (.py (.int _))
  congr 3
  have : ∀ i : Int, (if i < 0 then -i else i) = Int.ofNat i.natAbs := fun i => by
    show (if i < 0 then -i else i) = ((i.natAbs : Nat) : Int)
    split <;> omega
  exact this _⟩
def intN : BR (biD .int) [vn] := ⟨.va, vn, fun v => some v.1, fun v w e => by cases e; exact ⟨_, rfl, rfl⟩⟩
def intI : BR (biD .int) [vi] := ⟨.va, vi, fun v => some v.1, fun v w e => by cases e; exact ⟨_, rfl, rfl⟩⟩
def intB : BR (biD .int) [vb] := ⟨.va, vn, fun v => some v.1.toNat, fun v w e => by
  cases e
  refine ⟨_, rfl, ?_⟩
  obtain ⟨b, u⟩ := v
  cases b <;> rfl⟩
abbrev tcNN : Ty := .tc .nat (.tc .nat .tn)
def divmodO (a b : Nat) : Option tcNN.den := if 0 < b ∧ b < 1073741824 then some (a / b, a % b, ()) else none
def divmodN : BR (biD .divmod) [vn, vn] := ⟨.va, .py tcNN, fun v => divmodO v.1 v.2.1, fun v w e => by
  unfold divmodO at e
  split at e
  · rename_i h
    cases e
    exact ⟨_, if_pos ⟨Int.ofNat_lt.mpr h.1, Int.ofNat_lt.mpr h.2⟩, rfl⟩
  · cases e⟩
/-- how a value is shown -/
def shwO (t : Ty) (v : t.den) : Option Str := if okDp (t.enc v) && (t.enc v).showable && decide ((t.enc v).shown.length ≤ lim) then some (t.enc v).shown else none
def repL (t : Ty) : BR (biD .repr) [.py (.lst t)] := ⟨.va, vs, fun v => shwO (.lst t) v.1, fun v w e => by
  unfold shwO at e
  split at e
  · rename_i h; cases e; exact ⟨_, if_pos h, rfl⟩
  · cases e⟩
def repT (t : Ty) : BR (biD .repr) [.py (.htp t)] := ⟨.va, vs, fun v => shwO (.htp t) v.1, fun v w e => by
  unfold shwO at e
  split at e
  · rename_i h; cases e; exact ⟨_, if_pos h, rfl⟩
  · cases e⟩
def repC (t : Ty) (ht : t.isTup = true) : BR (biD .repr) [.py t] := ⟨.va, vs, fun v => shwO t v.1, fun v w e => by
  unfold shwO at e
  split at e
  · rename_i h
    cases e
    refine ⟨_, ?_, rfl⟩
    show biD .repr [.py (t.enc v.1)] = _
    rw [enc_tup _ ht] at h ⊢
    exact if_pos h
  · cases e⟩
def repB : BR (biD .repr) [vb] := ⟨.va, vs, fun v => some (PyData.bool v.1).shown, fun v w e => by cases e; exact ⟨_, rfl, rfl⟩⟩
/-! ### ranges -/
def rangeO (n : Nat) : Option (List Nat) := if n ≤ 1000000 then some (List.range n) else none
def range2O (a b : Nat) : Option (List Nat) := if a ≤ 1000000 ∧ b ≤ 1000000 then some (List.range' a (b - a)) else none
def rngI (lo : Int) (n : Nat) : List Int := (List.range n).map fun (k : Nat) => lo + (k : Int)
def range2I (a b : Int) : Option (List Int) := if okR a && okR b then some (rngI a (b - a).toNat) else none
/-- what is walked by range -/
structure RR (ts : List VT) where
  t : Ty
  g : HL ts → Option (List t.den)
  ok : ∀ v w, g v = some w → rngD (encs ts v) = some (w.map t.enc)
theorem okR_nat {n : Nat} (h : n ≤ 1000000) : okR (Int.ofNat n) = true := by
  unfold okR
  rw [Bool.and_eq_true, decide_eq_true_eq, decide_eq_true_eq]
  have e : Int.ofNat n = (n : Int) := rfl
  rw [e]
  omega
theorem rngL_0 (n : Nat) : rngL 0 n = (List.range n).map fun k => PyData.int (Int.ofNat k) := by
  unfold rngL
  refine List.map_congr_left fun k _ => ?_
  rw [Int.zero_add] <;> rfl
def rng1N : RR [vn] := ⟨.nat, fun v => rangeO v.1, fun v w e => by
  unfold rangeO at e
  split at e
  · rename_i h
    cases e
    show (if okR (Int.ofNat v.1) then some (rngL 0 (Int.ofNat v.1).toNat) else none) = _
    rw [if_pos (okR_nat h), rngL_0] <;> rfl
  · cases e⟩
def rng2N : RR [vn, vn] := ⟨.nat, fun v => range2O v.1 v.2.1, fun v w e => by
  unfold range2O at e
  split at e
  · rename_i h
    cases e
    show (if okR (Int.ofNat v.1) && okR (Int.ofNat v.2.1) then some (rngL (Int.ofNat v.1) (Int.ofNat v.2.1 - Int.ofNat v.1).toNat) else none) = _
    rw [okR_nat h.1, okR_nat h.2]
    show some (rngL (Int.ofNat v.1) ((v.2.1 : Int) - (v.1 : Int)).toNat) = _
    rw [Int.toNat_sub, List.range'_eq_map_range, List.map_map]
    rfl
  · cases e⟩
def rng2I : RR [vi, vi] := ⟨.int, fun v => range2I v.1 v.2.1, fun v w e => by
  unfold range2I at e
  split at e
  · rename_i h
    cases e
    show (if okR v.1 && okR v.2.1 then some (rngL v.1 (v.2.1 - v.1).toNat) else none) = _
    rw [if_pos h]
    unfold rngL rngI
    rw [List.map_map] <;> rfl
  · cases e⟩
def range1I (b : Int) : Option (List Int) := if okR b then some (rngI 0 b.toNat) else none
def rng1I : RR [vi] := ⟨.int, fun v => range1I v.1, fun v w e => by
  unfold range1I at e
  split at e
  · rename_i h
    cases e
    show (if okR v.1 then some (rngL 0 v.1.toNat) else none) = _
    rw [if_pos h]
    unfold rngL rngI
    rw [List.map_map] <;> rfl
  · cases e⟩
/-- range with a step, where all items are of the natural numbers -/
def range3O (a b c : Int) : Option (List Nat) := if ((okR a && okR b) && (okR c && decide (c ≠ 0)) && PySem.Builtin.Range.small a b c) && (List.range (PySem.Builtin.Range.rangeSize a b c).toNat).all (fun (i : Nat) => decide (0 ≤ a + (i : Int) * c)) then
  some ((List.range (PySem.Builtin.Range.rangeSize a b c).toNat).map fun (i : Nat) => (a + (i : Int) * c).toNat) else none
def rng3I : RR [vi, vi, vi] := ⟨.nat, fun v => range3O v.1 v.2.1 v.2.2.1, fun v w e => by
  unfold range3O at e
  split at e
  · rename_i h
    rw [Bool.and_eq_true] at h
    cases e
    show (if _ then some (rngC v.1 v.2.2.1 (PySem.Builtin.Range.rangeSize v.1 v.2.1 v.2.2.1).toNat) else none) = _
    rw [if_pos h.1]
    unfold rngC
    rw [List.map_map]
    refine congrArg some (List.map_congr_left fun i hi => ?_)
    have := of_decide_eq_true (List.all_eq_true.mp h.2 i hi)
    show PyData.int _ = PyData.int (((v.1 + (i : Int) * v.2.2.1).toNat : Nat) : Int)
    rw [Int.toNat_of_nonneg this]
  · cases e⟩
def preRR (ss ts : List VT) (b : RR ts) : Option (RR ss) := match coL ss ts with
  | some q => some ⟨b.t, fun v => b.g (q.1 v), fun v w h => by rw [← q.2]; exact b.ok _ w h⟩
  | none => none
def rngT (ts : List VT) : Option (RR ts) := match ts with
  | [.py .nat] => some rng1N
  | [.py .nat, .py .nat] => some rng2N
  | [.py .int] => some rng1I
  | [s, t] => preRR _ _ rng2I
  | [s, t, u] => preRR _ _ rng3I
  | _ => none
def lrT {ts : List VT} (b : RR ts) : BR (biD .lrange) ts := ⟨.fe, .py (.lst b.t), b.g, fun v w h => by
  refine ⟨.fe (.py (.list (w.map b.t.enc))), ?_, rfl⟩
  show (rngD _).map _ = _
  rw [b.ok v w h] <;> rfl⟩
def trT {ts : List VT} (b : RR ts) : BR (biD .trange) ts := ⟨.va, .py (.htp b.t), b.g, fun v w h => by
  refine ⟨.va (.py (.tuple (w.map b.t.enc))), ?_, rfl⟩
  show (rngD _).map _ = _
  rw [b.ok v w h] <;> rfl⟩
/-- a built-in at types -/
def biT (b : Bi) (ts : List VT) : BR (biD b) ts := match b, ts with
  | .len, [.py (.lst t)] => lenL t
  | .len, [.py (.htp t)] => lenT t
  | .len, [.scr] => lenS
  | .len, [.dct k v] => lenD k v
  | .len, [.py .any] => lenAny
  | .len, [.py t] => if h : t.isTup = true then lenC t h else anyBR _ _
  | .tuple, [.py (.lst t)] => tupL t
  | .tuple, [.py (.htp t)] => tupT t
  | .tuple, [.py t] => if h : t.isTup = true then tupC t h else anyBR _ _
  | .list, [.py (.lst t)] => lisL t
  | .list, [.py (.htp t)] => lisT t
  | .list, [.py t] => (match eltOf t with
    | some u => (preBR _ _ (lisT u)).getD (anyBR _ _)
    | none => anyBR _ _)
  | .sorted, [.py (.lst t)] => sortL t
  | .min, [.py (.lst t)] => minL t
  | .max, [.py (.lst t)] => maxL t
  | .min, [.py .nat, .py .nat] => min2N
  | .max, [.py .nat, .py .nat] => max2N
  | .max, [.py .nat, .py .int] => max2NI
  | .min, [.py s, .py t] => (preBR _ _ min2I).getD (anyBR _ _)
  | .max, [.py s, .py t] => (preBR _ _ max2I).getD (anyBR _ _)
  | .all, [.py (.lst .bool)] => allL
  | .any, [.py (.lst .bool)] => anyL
  | .all, [.py (.lst .nev)] => allE
  | .any, [.py (.lst .nev)] => anyE
  | .abs, [.py .nat] => absN
  | .abs, [.py .int] => absI
  | .int, [.py .nat] => intN
  | .int, [.py .int] => intI
  | .int, [.py .bool] => intB
  | .divmod, [.py .nat, .py .nat] => divmodN
  | .repr, [.py (.lst t)] => repL t
  | .repr, [.py (.htp t)] => repT t
  | .repr, [.py .bool] => repB
  | .repr, [.py t] => if h : t.isTup = true then repC t h else anyBR _ _
  | .lrange, ts => (match rngT ts with
    | some r => lrT r
    | none => anyBR _ _)
  | .trange, ts => (match rngT ts with
    | some r => trT r
    | none => anyBR _ _)
  | b, ts => anyBR (biD b) ts
/-! ### methods -/
def fMe (m : Me) : List D → Option Od
  | x :: ds => meD m x ds
  | _ => none
theorem count_map {t : Ty} (x : t.den) (xs : List t.den) : ((xs.map t.enc).countP fun y => PyData.eqv y (t.enc x)) = cntT t xs x := by
  unfold cntT
  rw [List.countP_map]
  congr 1
  funext y
  exact beqT_ok y x
theorem findIdx_map {t : Ty} (x : t.den) (xs : List t.den) : ((xs.map t.enc).findIdx? fun y => PyData.eqv y (t.enc x)) = idxT t xs x := by
  unfold idxT
  rw [List.findIdx?_map]
  congr 1
  funext y
  exact beqT_ok y x
def cntL (t : Ty) (h : shalB t = true) : BR (fMe .count) [.py (.lst t), .py t] := ⟨.va, vn, fun v => some (cntT t v.1 v.2.1), fun v w e => by
  cases e
  refine ⟨_, if_pos (shal_ok _ h), ?_⟩
  show Od.va (.py (.int (((v.1.map t.enc).countP fun y => PyData.eqv y (t.enc v.2.1) : Nat) : Int))) = _
  rw [count_map] <;> rfl⟩
def cntTu (t : Ty) (h : shalB t = true) : BR (fMe .count) [.py (.htp t), .py t] := ⟨.va, vn, fun v => some (cntT t v.1 v.2.1), fun v w e => by
  cases e
  refine ⟨_, if_pos (shal_ok _ h), ?_⟩
  show Od.va (.py (.int (((v.1.map t.enc).countP fun y => PyData.eqv y (t.enc v.2.1) : Nat) : Int))) = _
  rw [count_map] <;> rfl⟩
def idxL (t : Ty) (h : shalB t = true) : BR (fMe .index) [.py (.lst t), .py t] := ⟨.va, vn, fun v => idxT t v.1 v.2.1, fun v w e => by
  refine ⟨ofI ((w : Nat) : Int), ?_, rfl⟩
  show (if okDp (t.enc v.2.1) then ((v.1.map t.enc).findIdx? fun y => PyData.eqv y (t.enc v.2.1)).map fun (k : Nat) => ofI (k : Int) else none) = _
  rw [if_pos (shal_ok _ h), findIdx_map, e] <;> rfl⟩
def idxTu (t : Ty) (h : shalB t = true) : BR (fMe .index) [.py (.htp t), .py t] := ⟨.va, vn, fun v => idxT t v.1 v.2.1, fun v w e => by
  refine ⟨ofI ((w : Nat) : Int), ?_, rfl⟩
  show (if okDp (t.enc v.2.1) then ((v.1.map t.enc).findIdx? fun y => PyData.eqv y (t.enc v.2.1)).map fun (k : Nat) => ofI (k : Int) else none) = _
  rw [if_pos (shal_ok _ h), findIdx_map, e] <;> rfl⟩
def idxFrom (t : Ty) (xs : List t.den) (x : t.den) (a : Nat) : Option Nat := if a ≤ 1000000 then (idxT t (xs.drop a) x).map fun k => a + k else none
def idx2Tu (t : Ty) (h : shalB t = true) : BR (fMe .index) [.py (.htp t), .py t, vn] := ⟨.va, vn, fun v => idxFrom t v.1 v.2.1 v.2.2.1, fun v w e => by
  unfold idxFrom at e
  split at e
  · rename_i ha
    rw [Option.map_eq_some_iff] at e
    obtain ⟨k, hk, rfl⟩ := e
    refine ⟨ofI (((v.2.2.1 : Nat) : Int) + (k : Int)), ?_, ?_⟩
    · show (if okDp (t.enc v.2.1) && decide (0 ≤ Int.ofNat v.2.2.1) && decide (Int.ofNat v.2.2.1 ≤ 1000000) then (((v.1.map t.enc).drop (Int.ofNat v.2.2.1).toNat).findIdx? fun y => PyData.eqv y (t.enc v.2.1)).map fun (k : Nat) => ofI (Int.ofNat v.2.2.1 + (k : Int)) else none) = _
      have h1 : decide (0 ≤ Int.ofNat v.2.2.1) = true := decide_eq_true (Int.natCast_nonneg _)
      have h2 : decide (Int.ofNat v.2.2.1 ≤ 1000000) = true := decide_eq_true (by
        have e : Int.ofNat v.2.2.1 = ((v.2.2.1 : Nat) : Int) := rfl
        rw [e]
        omega)
      rw [shal_ok _ h, h1, h2]
      show (((v.1.map t.enc).drop v.2.2.1).findIdx? _).map _ = _
      rw [← List.map_drop, findIdx_map, hk] <;> rfl
    · show Od.va (.py (.int _)) = Od.va (.py (.int _))
      congr 3
  · cases e⟩
def meT (m : Me) (ts : List VT) : BR (fMe m) ts := match m, ts with
  | .count, [.py r, .py s] => (match eltOf r with
    | some e => (match rowTo r (jn s e) with
      | .lst u => if h : shalB u = true then (preBR _ _ (cntL u h)).getD (anyBR _ _) else anyBR _ _
      | .htp u => if h : shalB u = true then (preBR _ _ (cntTu u h)).getD (anyBR _ _) else anyBR _ _
      | _ => anyBR _ _)
    | none => anyBR _ _)
  | .index, [.py r, .py s] => (match eltOf r with
    | some e => (match rowTo r (jn s e) with
      | .lst u => if h : shalB u = true then (preBR _ _ (idxL u h)).getD (anyBR _ _) else anyBR _ _
      | .htp u => if h : shalB u = true then (preBR _ _ (idxTu u h)).getD (anyBR _ _) else anyBR _ _
      | _ => anyBR _ _)
    | none => anyBR _ _)
  | .index, [.py r, .py s, .py .nat] => (match eltOf r with
    | some e => (match rowTo r (jn s e) with
      | .htp u => if h : shalB u = true then (preBR _ _ (idx2Tu u h)).getD (anyBR _ _) else anyBR _ _
      | _ => anyBR _ _)
    | none => anyBR _ _)
  | m, ts => anyBR (fMe m) ts
/-- lists and tuples, seen from outside (what a method is asked of stays so) -/
def vtTup : VT → Option (Bool × Bool)
  | .py (.htp _) => some (true, false)
  | .py (.lst _) => some (false, true)
  | .py .any => none
  | .py (.opt _) => none
  | .py .nev => none
  | .py (.tc _ r) => if r.isTup then some (true, false) else none
  | .py .tn => some (true, false)
  | _ => some (false, false)
theorem vtTup_ok {t : VT} {q : Bool × Bool} (h : vtTup t = some q) (v : t.den) : (t.enc v).tupD = q.1 ∧ (t.enc v).lstD = q.2 := by
  unfold vtTup at h
  split at h
  · cases h; exact ⟨rfl, rfl⟩
  · cases h; exact ⟨rfl, rfl⟩
  · cases h
  · cases h
  · cases h
  · split at h
    · rename_i a r hr
      cases h
      simp only [VT.enc]
      rw [enc_tup (t := .tc a r) v hr]
      exact ⟨rfl, rfl⟩
    · cases h
  · cases h; exact ⟨rfl, rfl⟩
  · rename_i h1 h2 h3 h4 h5 h6 h7
    cases h
    cases t with
    | py t =>
      cases t with
      | htp t => exact absurd rfl (h1 t)
      | lst t => exact absurd rfl (h2 t)
      | any => exact absurd rfl h3
      | opt t => exact absurd rfl (h4 t)
      | nev => exact absurd rfl h5
      | tc a r => exact absurd rfl (h6 a r)
      | tn => exact absurd rfl h7
      | _ => exact ⟨rfl, rfl⟩
    | dct k v => exact ⟨rfl, rfl⟩
    | scr => exact ⟨rfl, rfl⟩
/-! ### tests -/
def truT (t : VT) : {f : t.den → Option Bool // ∀ v b, f v = some b → (t.enc v).tru = some b} := match t with
  | .py .bool => ⟨fun v => some v, fun v b e => by cases e; rfl⟩
  | .py .nat => ⟨fun v => some (decide (v ≠ 0)), fun v b e => by
      cases e
      show some (Int.ofNat v != 0) = _
      congr 1
      rw [Bool.eq_iff_iff]
      simp⟩
  | .py (.lst t) => ⟨fun v => some (!v.isEmpty), fun v b e => by
      cases e
      show some (!(v.map t.enc).isEmpty) = _
      rw [List.isEmpty_map] <;> rfl⟩
  | .py (.htp t) => ⟨fun v => some (!v.isEmpty), fun v b e => by
      cases e
      show some (!(v.map t.enc).isEmpty) = _
      rw [List.isEmpty_map] <;> rfl⟩
  | t => ⟨fun v => (t.enc v).tru, fun v b e => e⟩
end Ta
end
section
/-! Ta6: the translation of expressions into functions on typed values. -/
namespace Ta
open PySem Mi
/-! ### loops -/
def forN {α σ : Type} (f : α → σ → Option σ) : List α → σ → Option σ
  | [], s => some s
  | x :: xs, s => (f x s).bind (forN f xs)
def forR {α σ ρ : Type} (f : α → σ → Option (σ ⊕ ρ)) : List α → σ → Option (σ ⊕ ρ)
  | [], s => some (.inl s)
  | x :: xs, s => (f x s).bind fun o => match o with
    | .inl s => forR f xs s
    | .inr r => some (.inr r)
def whlN {σ τ : Type} (c : σ → Option (Bool × τ)) (f : τ → Option σ) : Nat → σ → Option τ
  | 0, _ => none
  | n + 1, s => (c s).bind fun q => if q.1 then (f q.2).bind (whlN c f n) else some q.2
def whlR {σ τ ρ : Type} (c : σ → Option (Bool × τ)) (f : τ → Option (σ ⊕ ρ)) : Nat → σ → Option (τ ⊕ ρ)
  | 0, _ => none
  | n + 1, s => (c s).bind fun q => if q.1 then (f q.2).bind (fun o => match o with
    | .inl s => whlR c f n s
    | .inr r => some (.inr r)) else some (.inl q.2)
def lcS {α β σ : Type} (f : α → σ → Option (Option β × σ)) : List α → σ → Option (List β × σ)
  | [], s => some ([], s)
  | x :: xs, s => (f x s).bind fun q => (lcS f xs q.2).map fun r => (q.1.toList ++ r.1, r.2)
def lcP {α β : Type} (f : α → Option (Option β)) : List α → Option (List β)
  | [] => some []
  | x :: xs => (f x).bind fun q => (lcP f xs).map fun r => q.toList ++ r
def lcSO {α β σ : Type} (f : α → σ → Option (Option β × σ)) (xs : List α) (s : σ) : Option (List β × σ) := if xs.length ≤ lim then lcS f xs s else none
def lcPO {α β : Type} (f : α → Option (Option β)) (xs : List α) : Option (List β) := if xs.length ≤ lim then lcP f xs else none

/-- what goes on with a value -/
abbrev KV (α β : Type) : Type 1 := (R : Type) → (α → β → Option R) → Option R
structure EV (Γ Δ : Ctx) where
  o : Ok
  t : VT
  E : Ctx
  f : HEnv Γ → HEnv Δ → KV t.den (HEnv E)
structure TV (Γ Δ : Ctx) where
  E : Ctx
  f : HEnv Γ → HEnv Δ → KV Bool (HEnv E)
structure LV (Γ Δ : Ctx) where
  os : List (Ok × VT)
  E : Ctx
  f : HEnv Γ → HEnv Δ → KV (HL (os.map (·.2))) (HEnv E)
structure IV (Γ Δ : Ctx) where
  t : Ty
  E : Ctx
  f : HEnv Γ → HEnv Δ → KV (List t.den) (HEnv E)
structure PV (Γ Δ : Ctx) where
  E : Ctx
  f : HEnv Γ → HEnv Δ → KV (Option Int) (HEnv E)
/-- an operand is read -/
def rdV (Γ E : Ctx) (o : Ok) (t : VT) : Option (Σ u : VT, t.den → HEnv Γ → HEnv E → u.den) := match o with
  | .pk i => (lk2 Γ E i).map fun q => ⟨q.1.2, fun _ c ρ => q.2 c ρ⟩
  | _ => some ⟨t, fun v _ _ => v⟩
def rdL (Γ E : Ctx) : (os : List (Ok × VT)) → Option (Σ us : List VT, HL (os.map (·.2)) → HEnv Γ → HEnv E → HL us)
  | [] => some ⟨[], fun _ _ _ => ()⟩
  | (o, t) :: os => (rdV Γ E o t).bind fun q => (rdL Γ E os).map fun r => ⟨q.1 :: r.1, fun v c ρ => (q.2 v.1 c ρ, r.2 v.2 c ρ)⟩
mutual
/-- a datum's type and value -/
def litT : PyData → Option (Σ t : Ty, t.den)
  | .none => some ⟨.non, ()⟩
  | .bool b => some ⟨.bool, b⟩
  | .int (.ofNat n) => some ⟨.nat, n⟩
  | .int i => some ⟨.int, i⟩
  | .str s => some ⟨.str, s⟩
  | .tuple xs => litTs xs
  | _ => none
def litTs : List PyData → Option (Σ t : Ty, t.den)
  | [] => some ⟨.tn, ()⟩
  | x :: xs => (litT x).bind fun a => (litTs xs).map fun r => ⟨.tc a.1 r.1, (a.2, r.2)⟩
end
/-- a def's types: what it takes, what it gives -/
@[reducible] def LT (io : Bool) (ts : List VT) : Type := match io, ts with
  | true, t :: _ => t.den
  | _, _ => Unit
structure Sig where
  nm : Str
  ts : List VT
  io : Bool
  k : Ok
  rt : VT
  f : HL ts → Option (rt.den × LT io ts)
/-- the operand at a place -/
def nthO : (os : List (Ok × VT)) → Nat → Option (Σ q : Ok × VT, HL (os.map (·.2)) → q.2.den)
  | [], _ => none
  | (o, t) :: _, 0 => some ⟨(o, t), fun v => v.1⟩
  | _ :: os, k + 1 => (nthO os k).map fun q => ⟨q.1, fun v => q.2 v.2⟩
/-- the values that a def takes; w: they must be frozen values -/
def argsV (w : Bool) (os : List (Ok × VT)) : (perm : List Nat) → (ts : List VT) → Option (HL (os.map (·.2)) → HL ts)
  | [], [] => some fun _ => ()
  | j :: perm, t :: ts => (nthO os j).bind fun q => if (if w then decide (q.1.1 = .va) else isVal q.1.1) = true then (match coV q.1.2 t with
    | some g => (argsV w os perm ts).map fun r v => (g.1 (q.2 v), r v)
    | none => none) else none
  | _, _ => none
def callV (s : Sig) (perm : List Nat) {Γ Δ : Ctx} (A : LV Γ Δ) : Option (EV Γ Δ) := match s with
  | ⟨_, ts, false, k, rt, f⟩ => (argsV false A.os perm ts).map fun a => ⟨k, rt, A.E, fun c ρ R g => A.f c ρ R fun x ρ1 => (f (a x)).bind fun r => g r.1 ρ1⟩
  | ⟨_, t :: ts, true, k, rt, f⟩ => (match perm with
    | j :: perm => (nthO A.os j).bind fun q => (match q.1.1 with
      | .pk i => (lkp A.E i).bind fun l => if (decide (l.1.1 = .ow) || decide (l.1.1 = .bo)) = true then (match coV l.1.2 t with
          | some g => (argsV false A.os perm ts).bind fun a => (put2 Γ A.E i l.1.1 t).map fun p => ⟨k, rt, p.1, fun c ρ R h => A.f c ρ R fun x ρ1 => (f (g.1 (l.2 ρ1), a x)).bind fun r => h r.1 (p.2 ρ1 r.2)⟩
          | none => none) else none
      | .fe => (match coV q.1.2 t with
        | some g => (argsV true A.os perm ts).map fun a => ⟨k, rt, A.E, fun c ρ R h => A.f c ρ R fun x ρ1 => (f (g.1 (q.2 x), a x)).bind fun r => h r.1 ρ1⟩
        | none => none)
      | _ => none)
    | [] => none)
  | _ => none
/-- the defs of a name, by the operands -/
abbrev Sgs := Str → List Nat → List (Ok × VT) → List Sig
/-- the first def of that name whose types fit -/
def callS (S : Sgs) (f : Str) (perm : List Nat) {Γ Δ : Ctx} (A : LV Γ Δ) : Option (EV Γ Δ) := (S f perm A.os).findSome? fun s => if s.nm = f then callV s perm A else none
/-! ### targets -/
def bindTup (Γ : Ctx) : (Δ : Ctx) → (tg : List Nat) → (t : Ty) → Option (Σ E : Ctx, HEnv Δ → t.den → HEnv E)
  | Δ, [], .tn => some ⟨Δ, fun ρ _ => ρ⟩
  | Δ, i :: is, .tc a r => (put2 Γ Δ i .fr (.py a)).bind fun p => (bindTup Γ p.1 is r).map fun q => ⟨q.1, fun ρ v => q.2 (p.2 ρ v.1) v.2⟩
  | _, _, _ => none
def tcN (u : Ty) : Nat → Ty
  | 0 => .tn
  | n + 1 => .tc u (tcN u n)
/-- a row of just so many items, as a tuple -/
def unL (u : Ty) : (n : Nat) → List u.den → Option (tcN u n).den
  | 0, [] => some ()
  | n + 1, x :: xs => (unL u n xs).map fun y => (x, y)
  | _, _ => none
def anyIts : PyData → Option (List PyData)
  | .tuple xs => some xs
  | .list xs => some xs
  | _ => none
def bindV (Γ Δ : Ctx) (tg : List Nat) (one : Bool) (t : Ty) : Option (Σ E : Ctx, HEnv Δ → t.den → Option (HEnv E)) :=
  if one then (match tg with
    | [i] => (put2 Γ Δ i .fr (.py t)).map fun p => ⟨p.1, fun ρ v => some (p.2 ρ v)⟩
    | _ => none)
  else (match t with
    | .htp u => (bindTup Γ Δ tg (tcN u tg.length)).map fun q => ⟨q.1, fun ρ v => (unL u tg.length v).map fun y => q.2 ρ y⟩
    | .lst u => (bindTup Γ Δ tg (tcN u tg.length)).map fun q => ⟨q.1, fun ρ v => (unL u tg.length v).map fun y => q.2 ρ y⟩
    | .any => (bindTup Γ Δ tg (tcN .any tg.length)).map fun q => ⟨q.1, fun ρ v => (anyIts v).bind fun xs => (unL .any tg.length xs).map fun y => q.2 ρ y⟩
    | t => (bindTup Γ Δ tg t).map fun q => ⟨q.1, fun ρ v => some (q.2 ρ v)⟩)
/-- the slots of a block are emptied -/
def calmB (s : ST) : Bool := match s with
  | .calm => true
  | .has .fr _ => true
  | _ => false
def clrs (Γ : Ctx) : (Δ : Ctx) → List Nat → Option (Σ E : Ctx, HEnv Δ → HEnv E)
  | Δ, [] => some ⟨Δ, id⟩
  | Δ, i :: is => (clrs Γ Δ is).bind fun q => if isFree Γ i then (clr true q.1 i).map fun p => ⟨p.1, fun ρ => p.2 (q.2 ρ)⟩ else none
def noHas : Ctx → Bool
  | [] => true
  | .has _ _ :: _ => false
  | .dead :: Γ => noHas Γ
  | .calm :: Γ => noHas Γ
def unitE : (Γ : Ctx) → noHas Γ = true → HEnv Γ
  | [], _ => ()
  | .has _ _ :: _, h => nomatch h
  | .dead :: Γ, h => unitE Γ h
  | .calm :: Γ, h => unitE Γ h
/-- a table that a turn keeps -/
def fixC (step : Ctx → Option Ctx) : Nat → Ctx → Ctx
  | 0, D => D
  | n + 1, D => (match step D with
    | some D' => if jnC D D' = D then D else fixC step n (jnC D D')
    | none => D)
def owAt (Δ : Ctx) (i : Nat) : Bool := match lkp Δ i with
  | some q => decide (q.1.1 = .ow)
  | none => false
/-- a value with the slots that changed, if any did -/
@[reducible] def PJ (b : Bool) (α : Type) (J : Ctx) : Type := match b with
  | true => α
  | false => α × HEnv J
def pkB {α : Type} {J : Ctx} : (b : Bool) → α → HEnv J → PJ b α J
  | true, x, _ => x
  | false, x, ρ => (x, ρ)
def upV {α : Type} {J : Ctx} : (b : Bool) → PJ b α J → α
  | true, x => x
  | false, p => p.1
def upE {α : Type} {J : Ctx} : (b : Bool) → (b = true → noHas J = true) → PJ b α J → HEnv J
  | true, h, _ => unitE J (h rfl)
  | false, _, p => p.2
/-- a turn of a comprehension -/
structure TurnV (Γ D : Ctx) (t : Ty) where
  u : Ty
  E : Ctx
  f : HEnv Γ → HEnv D → t.den → KV (Option u.den) (HEnv E)
def turnLC (Γ D : Ctx) (t : Ty) (own tg : List Nat) (one : Bool) (yes : Bool) (cT : (Γ Δ : Ctx) → Option (TV Γ Δ)) (cE : (Γ Δ : Ctx) → Option (EV Γ Δ)) : Option (TurnV Γ D t) :=
  (bindV Γ D tg one t).bind fun b => (cT Γ b.1).bind fun c => (cE Γ c.E).bind fun e => if isVal e.o = true then (match e with
    | ⟨_, .py u, E, ef⟩ => (clrs Γ E own).bind fun k1 => (clrs Γ c.E own).bind fun k2 => (match coC k2.1 k1.1 with
      | some g => some ⟨u, k1.1, fun γ ρ x R h => (b.2 ρ x).bind fun ρ1 => c.f γ ρ1 R fun z ρ2 => if z then ef γ ρ2 R (fun v ρ3 => h (some v) (k1.2 ρ3)) else h none (g (k2.2 ρ2))⟩
      | none => none)
    | _ => none) else none
def lcD {Γ Δ : Ctx} (ms own tg : List Nat) (one yes : Bool) (I : IV Γ Δ) (cT : (Γ Δ : Ctx) → Option (TV Γ Δ)) (cE : (Γ Δ : Ctx) → Option (EV Γ Δ)) (w : Σ E : Ctx, HEnv I.E → HEnv E) (S : SpT Γ w.1) (D : Ctx) : Option (EV Γ Δ) :=
  (coC S.D D).bind fun g0 => (turnLC S.G D I.t own tg one yes cT cE).bind fun T => (coC T.E D).bind fun g1 => (mrg ms 0 w.1 D).bind fun m => (clrs Γ m.1 own).map fun z =>
      ⟨.fe, .py (.lst T.u), z.1, fun c ρ R h => I.f c ρ R fun xs ρ1 =>
        if hn : noHas D = true then (lcPO (fun x => T.f (S.f c (w.2 ρ1)) (unitE D hn) x _ (fun v _ => some v)) xs).bind fun r => h r (z.2 (m.2 (w.2 ρ1) (unitE D hn)))
        else (lcSO (fun x s => T.f (S.f c (w.2 ρ1)) s x _ (fun v s' => some (v, g1 s'))) xs (g0 (S.g (w.2 ρ1)))).bind fun r => h r.1 (z.2 (m.2 (w.2 ρ1) r.2))⟩
def lcV {Γ Δ : Ctx} (ms own tg : List Nat) (one yes : Bool) (I : IV Γ Δ) (cT : (Γ Δ : Ctx) → Option (TV Γ Δ)) (cE : (Γ Δ : Ctx) → Option (EV Γ Δ)) : Option (EV Γ Δ) :=
  if own.all (fun i => calmB (I.E.getD i .dead)) = true then (clrs Γ I.E own).bind fun w => (spl ms 0 Γ w.1).bind fun S =>
    lcD ms own tg one yes I cT cE w S (fixC (fun D => (turnLC S.G D I.t own tg one yes cT cE).map (·.E)) 4 S.D)
  else none
/-- defs called in turn -/
def fcV (S : Sgs) (own : List Nat) {Γ : Ctx} : (Δ : Ctx) → List (Str × List Nat) → ((Γ Δ : Ctx) → Option (LV Γ Δ)) → Option (Σ u : Ty, Σ E : Ctx, HEnv Γ → HEnv Δ → KV (List u.den) (HEnv E))
  | Δ, [], _ => some ⟨.nev, Δ, fun _ ρ R k => k [] ρ⟩
  | Δ, f :: fs, ev => (ev Γ Δ).bind fun A => (callS S f.1 f.2 A).bind fun e => if isVal e.o = true then (match e with
    | ⟨_, .py t, E, ef⟩ => (clrs Γ E own).bind fun k => (fcV S own k.1 fs ev).bind fun r => (co t (jn t r.1)).bind fun g => (co r.1 (jn t r.1)).map fun g' =>
        ⟨jn t r.1, r.2.1, fun c ρ R h => ef c ρ R fun x ρ1 => r.2.2 c (k.2 ρ1) R fun xs ρ2 => h (g x :: xs.map g') ρ2⟩
    | _ => none) else none
/-- the items put into one row -/
def itsTo (u : Ty) : (os : List (Ok × VT)) → Option (HL (os.map (·.2)) → List u.den)
  | [] => some fun _ => []
  | (o, .py t) :: os => if isVal o = true then (co t u).bind fun g => (itsTo u os).map fun r v => g v.1 :: r v.2 else none
  | _ => none
def tupTo : (os : List (Ok × VT)) → Option (Σ t : Ty, HL (os.map (·.2)) → t.den)
  | [] => some ⟨.tn, fun _ => ()⟩
  | (o, .py t) :: os => if isVal o = true then (tupTo os).map fun r => ⟨.tc t r.1, fun v => (v.1, r.2 v.2)⟩ else none
  | _ => none
def jnAll : List (Ok × VT) → Ty
  | [] => .nev
  | (_, .py t) :: os => jn t (jnAll os)
  | _ :: os => jnAll os
def popO {α : Type} (xs : List α) (k : Int) : Option (α × List α) := if okR k then (L2.ixN xs.length k).bind fun j => (xs[j]?).map fun x => (x, xs.eraseIdx j) else none
def popN {α : Type} (xs : List α) (k : Nat) : Option (α × List α) := if k ≤ 1000000 then (xs[k]?).map fun x => (x, xs.eraseIdx k) else none
def popV (i : Nat) {Γ Δ : Ctx} (A : EV Γ Δ) : Option (EV Γ Δ) := (lkp Δ i).bind fun l0 => (lkp A.E i).bind fun l => (rdV Γ A.E A.o A.t).bind fun r =>
  if (decide (l.1.1 = .ow) || decide (l.1.1 = .bo)) && (decide (l0.1.1 = .ow) || decide (l0.1.1 = .bo)) then (match l, l0, r with
    | ⟨(m, .py (.lst t)), g⟩, ⟨(_, .py (.lst _)), _⟩, ⟨.py .nat, rf⟩ => (put2 Γ A.E i m (.py (.lst t))).map fun p => ⟨.va, .py t, p.1, fun c ρ R h => A.f c ρ R fun x ρ1 => (popN (g ρ1) (rf x c ρ1)).bind fun z => h z.1 (p.2 ρ1 z.2)⟩
    | ⟨(m, .py (.lst t)), g⟩, ⟨(_, .py (.lst _)), _⟩, ⟨.py .int, rf⟩ => (put2 Γ A.E i m (.py (.lst t))).map fun p => ⟨.va, .py t, p.1, fun c ρ R h => A.f c ρ R fun x ρ1 => (popO (g ρ1) (rf x c ρ1)).bind fun z => h z.1 (p.2 ρ1 z.2)⟩
    | _, _, _ => none) else none
def varV (Γ Δ : Ctx) (i : Nat) : Option (EV Γ Δ) := match lkp Δ i with
  | some ⟨(.fr, t), g⟩ => some ⟨.va, t, Δ, fun _ ρ R k => k (g ρ) ρ⟩
  | some ⟨(.bo, _), _⟩ => none
  | some ⟨(_, t), g⟩ => (put2 Γ Δ i .fr t).map fun p => ⟨.va, t, p.1, fun _ ρ R k => k (g ρ) (p.2 ρ (g ρ))⟩
  | none => (match lkp Γ i with
    | some ⟨(.fr, t), g⟩ => some ⟨.va, t, Δ, fun c ρ R k => k (g c) ρ⟩
    | some ⟨(.rd, t), g⟩ => if isFree Δ i then some ⟨.va, t, Δ, fun c ρ R k => k (g c) ρ⟩ else none
    | _ => none)
/-- both ways end alike -/
def twoV {Γ Δ : Ctx} (ms : List Nat) (T : TV Γ Δ) (cA cB : (Γ Δ : Ctx) → Option (EV Γ Δ)) : Option (EV Γ Δ) := (spl ms 0 Γ T.E).bind fun S => (cA S.G S.D).bind fun A => (cB S.G S.D).bind fun B => if isVal A.o && isVal B.o then (match jnV A.t B.t with
  | some t => (match coV A.t t, coV B.t t with
    | some a, some b => (coC A.E (jnC A.E B.E)).bind fun g => (coC B.E (jnC A.E B.E)).bind fun h => (mrg ms 0 T.E (jnC A.E B.E)).map fun m =>
      ⟨if A.o = B.o then A.o else .vf, t, m.1, fun c ρ R k => T.f c ρ R fun z ρ1 => (if z then A.f (S.f c ρ1) (S.g ρ1) _ (fun x ρ2 => some (pkB (noHas (jnC A.E B.E)) (a.1 x) (g ρ2))) else B.f (S.f c ρ1) (S.g ρ1) _ (fun x ρ2 => some (pkB (noHas (jnC A.E B.E)) (b.1 x) (h ρ2)))).bind fun z => k (upV _ z) (m.2 ρ1 (upE _ id z))⟩
    | _, _ => none)
  | none => none) else none
/-- a truth value, asked as a test -/
def asT {Γ Δ : Ctx} (A : EV Γ Δ) : Option (TV Γ Δ) := (rdV Γ A.E A.o A.t).bind fun r => (match r with
  | ⟨.py .bool, rf⟩ => some ⟨A.E, fun c ρ R k => A.f c ρ R fun x ρ1 => k (rf x c ρ1) ρ1⟩
  | _ => none)
def litB (b : Bool) (Γ Δ : Ctx) : Option (EV Γ Δ) := some ⟨.va, vb, Δ, fun _ ρ R k => k b ρ⟩
/-- a value that is a truth value -/
def bolV (cB : (Γ Δ : Ctx) → Option (EV Γ Δ)) (Γ Δ : Ctx) : Option (EV Γ Δ) := (cB Γ Δ).bind fun B => if B.t = vb ∧ isVal B.o = true then some B else none
/-- tests: both ways -/
def iteT {Γ Δ : Ctx} (ms : List Nat) (T : TV Γ Δ) (cA cB : (Γ Δ : Ctx) → Option (TV Γ Δ)) : Option (TV Γ Δ) := (spl ms 0 Γ T.E).bind fun S => (cA S.G S.D).bind fun A => (cB S.G S.D).bind fun B => (coC A.E (jnC A.E B.E)).bind fun g => (coC B.E (jnC A.E B.E)).bind fun h => (mrg ms 0 T.E (jnC A.E B.E)).map fun m =>
  ⟨m.1, fun c ρ R k => T.f c ρ R fun z ρ1 => (if z then A.f (S.f c ρ1) (S.g ρ1) _ (fun x ρ2 => some (pkB (noHas (jnC A.E B.E)) x (g ρ2))) else B.f (S.f c ρ1) (S.g ρ1) _ (fun x ρ2 => some (pkB (noHas (jnC A.E B.E)) x (h ρ2)))).bind fun z => k (upV _ z) (m.2 ρ1 (upE _ id z))⟩
def litTB (b : Bool) (Γ Δ : Ctx) : Option (TV Γ Δ) := some ⟨Δ, fun _ ρ R k => k b ρ⟩
/-- an operation of two operands -/
def binV {Γ Δ : Ctx} (A : EV Γ Δ) (B : EV Γ A.E) (F : List D → Option Od) (op : (s t : VT) → BR F [s, t]) : Option (EV Γ Δ) := (rdV Γ B.E A.o A.t).bind fun ra => (rdV Γ B.E B.o B.t).bind fun rb => (match op ra.1 rb.1 with
  | b => if isVal b.o = true then some ⟨b.o, b.r, B.E, fun c ρ R k => A.f c ρ R fun x ρ1 => B.f c ρ1 R fun y ρ2 => (b.g (ra.2 x c ρ2, rb.2 y c ρ2, ())).bind fun z => k z ρ2⟩ else none)
def unV {Γ Δ : Ctx} (A : EV Γ Δ) (F : List D → Option Od) (op : (s : VT) → Option (BR F [s])) : Option (EV Γ Δ) := (rdV Γ A.E A.o A.t).bind fun ra => (op ra.1).bind fun b => if isVal b.o = true then some ⟨b.o, b.r, A.E, fun c ρ R k => A.f c ρ R fun x ρ1 => (b.g (ra.2 x c ρ1, ())).bind fun z => k z ρ1⟩ else none
/-- a written number, if it is one -/
def litN : Ex → Option Nat
  | .lit (.int (.ofNat n)) => some n
  | _ => none
def negV {Γ Δ : Ctx} (A : EV Γ Δ) : Option (EV Γ Δ) := (rdV Γ A.E A.o A.t).bind fun ra => (match ra with
  | ⟨.py .nat, g⟩ => some ⟨.va, vi, A.E, fun c ρ R k => A.f c ρ R fun x ρ1 => k (-(Int.ofNat (g x c ρ1))) ρ1⟩
  | ⟨.py .int, g⟩ => some ⟨.va, vi, A.E, fun c ρ R k => A.f c ρ R fun x ρ1 => k (-(g x c ρ1)) ρ1⟩
  | _ => none)
def ntV {Γ Δ : Ctx} (A : EV Γ Δ) : Option (EV Γ Δ) := (rdV Γ A.E A.o A.t).bind fun ra => (match ra with
  | ⟨.py .bool, g⟩ => some ⟨.va, vb, A.E, fun c ρ R k => A.f c ρ R fun x ρ1 => k (!(g x c ρ1)) ρ1⟩
  | _ => none)
def isaV {Γ Δ : Ctx} (A : EV Γ Δ) (l : List Mi.Ty) : Option (EV Γ Δ) := (rdV Γ A.E A.o A.t).bind fun ra => (match ra with
  | ⟨.py t, g⟩ => some ⟨.va, vb, A.E, fun c ρ R k => A.f c ρ R fun x ρ1 => k (l.any (isTy (t.enc (g x c ρ1)))) ρ1⟩
  | _ => none)
def biV {Γ Δ : Ctx} (A : LV Γ Δ) (b : Bi) : Option (EV Γ Δ) := (rdL Γ A.E A.os).bind fun r => (match biT b r.1 with
  | m => if isVal m.o = true then some ⟨m.o, m.r, A.E, fun c ρ R k => A.f c ρ R fun x ρ1 => (m.g (r.2 x c ρ1)).bind fun z => k z ρ1⟩ else none)
def meV {Γ Δ : Ctx} (A : EV Γ Δ) (L : LV Γ A.E) (m : Me) : Option (EV Γ Δ) := (rdV Γ A.E A.o A.t).bind fun r0 => (rdV Γ L.E A.o A.t).bind fun ra => (rdL Γ L.E L.os).bind fun r => (match vtTup r0.1, vtTup ra.1, meT m (ra.1 :: r.1) with
  | some q, some q', b => if q = q' ∧ isVal b.o = true then some ⟨b.o, b.r, L.E, fun c ρ R k => A.f c ρ R fun x ρ1 => L.f c ρ1 R fun y ρ2 => (b.g (ra.2 x c ρ2, r.2 y c ρ2)).bind fun z => k z ρ2⟩ else none
  | _, _, _ => none)
def slV {Γ Δ : Ctx} (A : EV Γ Δ) (P : PV Γ A.E) (Q : PV Γ P.E) : Option (EV Γ Δ) := (rdV Γ Q.E A.o A.t).bind fun ra => (match slT ra.1 with
  | s => if isVal s.o = true then some ⟨s.o, s.r, Q.E, fun c ρ R k => A.f c ρ R fun x ρ1 => P.f c ρ1 R fun lo ρ2 => Q.f c ρ2 R fun hi ρ3 => (s.g (ra.2 x c ρ3) lo hi).bind fun z => k z ρ3⟩ else none)
def soV {Γ Δ : Ctx} (A : EV Γ Δ) : Option (PV Γ Δ) := (rdV Γ A.E A.o A.t).bind fun ra => (match ra with
  | ⟨.py .nat, g⟩ => some ⟨A.E, fun c ρ R k => A.f c ρ R fun x ρ1 => k (some (Int.ofNat (g x c ρ1))) ρ1⟩
  | ⟨.py .int, g⟩ => some ⟨A.E, fun c ρ R k => A.f c ρ R fun x ρ1 => k (some (g x c ρ1)) ρ1⟩
  | _ => none)
def tupV {Γ Δ : Ctx} (A : LV Γ Δ) : Option (EV Γ Δ) := (tupTo A.os).bind fun g => if A.os.length ≤ 1000 then some ⟨.va, .py g.1, A.E, fun c ρ R k => A.f c ρ R fun x ρ1 => k (g.2 x) ρ1⟩ else none
def lstV {Γ Δ : Ctx} (A : LV Γ Δ) : Option (EV Γ Δ) := (itsTo (jnAll A.os) A.os).bind fun g => if A.os.length ≤ 1000 then some ⟨.fe, .py (.lst (jnAll A.os)), A.E, fun c ρ R k => A.f c ρ R fun x ρ1 => k (g x) ρ1⟩ else none
def cm2V {Γ Δ : Ctx} (o o' : Cm) (A : EV Γ Δ) (B : EV Γ A.E) (ms : List Nat) (cC : (Γ Δ : Ctx) → Option (EV Γ Δ)) : Option (EV Γ Δ) := (spl ms 0 Γ B.E).bind fun S => (cC S.G S.D).bind fun Cc => (rdV Γ B.E A.o A.t).bind fun ra => (rdV Γ B.E B.o B.t).bind fun rb => (coC S.D (jnC S.D Cc.E)).bind fun h => (coC Cc.E (jnC S.D Cc.E)).bind fun h' => (mrg ms 0 B.E Cc.E).bind fun mm => (rdV Γ mm.1 B.o B.t).bind fun rb' => (rdV S.G Cc.E Cc.o Cc.t).bind fun rc => (mrg ms 0 B.E (jnC S.D Cc.E)).bind fun m =>
  (match cmT o ra.1 rb.1, cmT o' rb'.1 rc.1 with
  | ⟨.va, .py .bool, g, _⟩, ⟨.va, .py .bool, g', _⟩ => some
    ⟨.va, vb, m.1, fun c ρ R k => A.f c ρ R fun x ρ1 => B.f c ρ1 R fun y ρ2 => (g (ra.2 x c ρ2, rb.2 y c ρ2, ())).bind fun z => (if z then Cc.f (S.f c ρ2) (S.g ρ2) _ (fun w ρ3 => (g' (rb'.2 y c (mm.2 ρ2 ρ3), rc.2 w (S.f c ρ2) ρ3, ())).map fun z => pkB (noHas (jnC S.D Cc.E)) z (h' ρ3)) else some (pkB (noHas (jnC S.D Cc.E)) false (h (S.g ρ2)))).bind fun z => k (upV _ z) (m.2 ρ2 (upE _ id z))⟩
  | _, _ => none)
/-- a row: its items -/
structure RowV (s : Ty) where
  u : Ty
  b : Bool
  g : s.den → List u.den
  ok : ∀ v, s.enc v = if b then .list ((g v).map u.enc) else .tuple ((g v).map u.enc)
def rowV (s : Ty) : Option (RowV s) := match s with
  | .lst t => some ⟨t, true, fun v => v, fun v => rfl⟩
  | .htp t => some ⟨t, false, fun v => v, fun v => rfl⟩
  | s => (eltOf s).bind fun u => (match h : co s (.htp u) with
    | some g => some ⟨u, false, g, fun v => (co_enc h v).symm⟩
    | none => none)
/-! ### what a turn may change -/
mutual
def mE (io : Str → Bool) (b : Bool) : Ex → List Nat
  | .lit _ => []
  | .var i => if b then [] else [i]
  | .pk _ => []
  | .glo _ => []
  | .op _ x y => mE io b x ++ mE io b y
  | .neg x => mE io b x
  | .cm _ x y => mE io b x ++ mE io b y
  | .cm2 _ _ x y z => mE io b x ++ mE io b y ++ mE io b z
  | .and x y => mE io b x ++ mE io b y
  | .or x y => mE io b x ++ mE io b y
  | .nt x => mE io b x
  | .ite c x y => mT io b c ++ mE io b x ++ mE io b y
  | .tup es => mL io b es
  | .lst es => mL io b es
  | .dct0 => []
  | .ix x y => mE io b x ++ mE io b y
  | .sl x lo hi => mE io b x ++ mP io b lo ++ mP io b hi
  | .rev x => mE io b x
  | .bi _ es => mL io b es
  | .isa x _ => mE io b x
  | .cal f perm es => mL io b es ++ (if b && io f then mPk es else [])
  | .me _ x es => mE io b x ++ mL io b es
  | .pop i e => (if b then [i] else []) ++ mE io b e
  | .lc own _ _ it c e => mI io b it ++ mT io b c ++ mE io b e
  | .dc own _ _ it c k e => mI io b it ++ mT io b c ++ mE io b k ++ mE io b e
  | .lcf own i fs os => mL io b os ++ (if b && fs.any (fun f => io f.1) then mPk os else [])
  | .bad => []
def mL (io : Str → Bool) (b : Bool) : Exs → List Nat
  | .nil => []
  | .cons e es => mE io b e ++ mL io b es
def mPk : Exs → List Nat
  | .nil => []
  | .cons (.pk i) es => i :: mPk es
  | .cons _ es => mPk es
def mP (io : Str → Bool) (b : Bool) : Pt → List Nat
  | .no => []
  | .so e => mE io b e
def mT (io : Str → Bool) (b : Bool) : T → List Nat
  | .v e => mE io b e
  | .and x y => mT io b x ++ mT io b y
  | .or x y => mT io b x ++ mT io b y
  | .nt x => mT io b x
  | .ite c x y => mT io b c ++ mT io b x ++ mT io b y
  | .yes => []
def mI (io : Str → Bool) (b : Bool) : I → List Nat
  | .v e => mE io b e
  | .rng es => mL io b es
  | .enu es => mL io b es
  | .zip es => mL io b es
end
def ioOf (S : Sgs) (f : Str) : Bool := (S f [] []).any fun s => decide (s.nm = f) && s.io
/-- what changes: what is stored; what is in one hand alone and read as a whole -/
def msOf (hard soft : List Nat) (Δ : Ctx) : List Nat := hard ++ soft.filter (owAt Δ)
def isYes : T → Bool
  | .yes => true
  | _ => false
/-! ### the translation -/
mutual
def cE (S : Sgs) (gl : Str → Option PyData) : Ex → (Γ Δ : Ctx) → Option (EV Γ Δ)
  | .lit p, Γ, Δ => (litT p).map fun q => ⟨.va, .py q.1, Δ, fun _ ρ R k => k q.2 ρ⟩
  | .var i, Γ, Δ => varV Γ Δ i
  | .pk i, Γ, Δ => (lk2 Γ Δ i).map fun q => ⟨.pk i, q.1.2, Δ, fun c ρ R k => k (q.2 c ρ) ρ⟩
  | .glo x, Γ, Δ => (gl x).bind fun p => (litT p).map fun q => ⟨.va, .py q.1, Δ, fun _ ρ R k => k q.2 ρ⟩
  | .op o a b, Γ, Δ => (match litN b with
    | some k => (match (cE S gl a Γ Δ).bind fun A => unV A _ (fun t => opRT o t k) with
      | some e => some e
      | none => (cE S gl a Γ Δ).bind fun A => (cE S gl b Γ A.E).bind fun B => binV A B (fOp o) (opT o))
    | none => (match litN a with
      | some k => (match (cE S gl b Γ Δ).bind fun A => unV A _ (fun t => opLT o t k) with
        | some e => some e
        | none => (cE S gl a Γ Δ).bind fun A => (cE S gl b Γ A.E).bind fun B => binV A B (fOp o) (opT o))
      | none => (cE S gl a Γ Δ).bind fun A => (cE S gl b Γ A.E).bind fun B => binV A B (fOp o) (opT o)))
  | .neg a, Γ, Δ => (cE S gl a Γ Δ).bind negV
  | .cm o a b, Γ, Δ => (cE S gl a Γ Δ).bind fun A => (cE S gl b Γ A.E).bind fun B => binV A B (fCm o) (cmT o)
  | .cm2 o o' a b c, Γ, Δ => (cE S gl a Γ Δ).bind fun A => (cE S gl b Γ A.E).bind fun B => cm2V o o' A B (msOf (mE (ioOf S) true c) (mE (ioOf S) false c) B.E) (cE S gl c)
  | .and a b, Γ, Δ => (cE S gl a Γ Δ).bind fun A => (asT A).bind fun T => twoV (msOf (mE (ioOf S) true b) (mE (ioOf S) false b) T.E) T (bolV (cE S gl b)) (litB false)
  | .or a b, Γ, Δ => (cE S gl a Γ Δ).bind fun A => (asT A).bind fun T => twoV (msOf (mE (ioOf S) true b) (mE (ioOf S) false b) T.E) T (litB true) (bolV (cE S gl b))
  | .nt a, Γ, Δ => (cE S gl a Γ Δ).bind ntV
  | .ite c a b, Γ, Δ => (cT S gl c Γ Δ).bind fun T => twoV (msOf (mE (ioOf S) true a ++ mE (ioOf S) true b) (mE (ioOf S) false a ++ mE (ioOf S) false b) T.E) T (cE S gl a) (cE S gl b)
  | .tup es, Γ, Δ => (cL S gl es Γ Δ).bind tupV
  | .lst es, Γ, Δ => (cL S gl es Γ Δ).bind lstV
  | .dct0, Γ, Δ => some ⟨.fe, .dct .nev .nev, Δ, fun _ ρ R k => k [] ρ⟩
  | .ix a i, Γ, Δ => (match litN i with
    | some k => (match (cE S gl a Γ Δ).bind fun A => unV A _ (fun t => match t with
        | .py t => ixPT t k
        | _ => none) with
      | some e => some e
      | none => (cE S gl a Γ Δ).bind fun A => (cE S gl i Γ A.E).bind fun B => binV A B fIx ixT)
    | none => (cE S gl a Γ Δ).bind fun A => (cE S gl i Γ A.E).bind fun B => binV A B fIx ixT)
  | .sl a lo hi, Γ, Δ => (cE S gl a Γ Δ).bind fun A => (cP S gl lo Γ A.E).bind fun P => (cP S gl hi Γ P.E).bind fun Q => slV A P Q
  | .rev a, Γ, Δ => (cE S gl a Γ Δ).bind fun A => unV A fRev (fun t => some (revT t))
  | .bi f es, Γ, Δ => (cL S gl es Γ Δ).bind fun A => biV A f
  | .isa a l, Γ, Δ => (cE S gl a Γ Δ).bind fun A => isaV A l
  | .cal f perm es, Γ, Δ => (cL S gl es Γ Δ).bind fun A => callS S f perm A
  | .me m a es, Γ, Δ => (cE S gl a Γ Δ).bind fun A => (cL S gl es Γ A.E).bind fun L => meV A L m
  | .pop i e, Γ, Δ => (cE S gl e Γ Δ).bind fun A => popV i A
  | .lc own tg one it c e, Γ, Δ => (cI S gl it Γ Δ).bind fun I => lcV (msOf (mT (ioOf S) true c ++ mE (ioOf S) true e ++ tg ++ own) (mT (ioOf S) false c ++ mE (ioOf S) false e) I.E) own tg one (isYes c) I (cT S gl c) (cE S gl e)
  | .dc .., _, _ => none
  | .lcf own i fs os, Γ, Δ => if own.all (fun j => calmB (Δ.getD j .dead)) && decide (i ∈ own) && decide (i < Δ.length) && decide (fs.length ≤ 1000) then (clrs Γ Δ own).bind fun w => (fcV S own w.1 fs (cL S gl os)).bind fun r => (clrs Γ r.2.1 own).map fun z => ⟨.fe, .py (.lst r.1), z.1, fun c ρ R k => r.2.2 c (w.2 ρ) R fun x ρ1 => k x (z.2 ρ1)⟩ else none
  | .bad, _, _ => none
def cP (S : Sgs) (gl : Str → Option PyData) : Pt → (Γ Δ : Ctx) → Option (PV Γ Δ)
  | .no, Γ, Δ => some ⟨Δ, fun _ ρ R k => k none ρ⟩
  | .so e, Γ, Δ => (cE S gl e Γ Δ).bind soV
def cT (S : Sgs) (gl : Str → Option PyData) : T → (Γ Δ : Ctx) → Option (TV Γ Δ)
  | .and a b, Γ, Δ => (cT S gl a Γ Δ).bind fun A => iteT (msOf (mT (ioOf S) true b) (mT (ioOf S) false b) A.E) A (cT S gl b) (litTB false)
  | .or a b, Γ, Δ => (cT S gl a Γ Δ).bind fun A => iteT (msOf (mT (ioOf S) true b) (mT (ioOf S) false b) A.E) A (litTB true) (cT S gl b)
  | .nt a, Γ, Δ => (cT S gl a Γ Δ).map fun A => ⟨A.E, fun c ρ R k => A.f c ρ R fun x ρ1 => k (!x) ρ1⟩
  | .ite c a b, Γ, Δ => (cT S gl c Γ Δ).bind fun T => iteT (msOf (mT (ioOf S) true a ++ mT (ioOf S) true b) (mT (ioOf S) false a ++ mT (ioOf S) false b) T.E) T (cT S gl a) (cT S gl b)
  | .yes, Γ, Δ => some ⟨Δ, fun _ ρ R k => k true ρ⟩
  | .v e, Γ, Δ => (cE S gl e Γ Δ).bind fun A => (rdV Γ A.E A.o A.t).map fun r => ⟨A.E, fun c ρ R k => A.f c ρ R fun x ρ1 => ((truT r.1).1 (r.2 x c ρ1)).bind fun b => k b ρ1⟩
def cL (S : Sgs) (gl : Str → Option PyData) : Exs → (Γ Δ : Ctx) → Option (LV Γ Δ)
  | .nil, Γ, Δ => some ⟨[], Δ, fun _ ρ R k => k () ρ⟩
  | .cons e es, Γ, Δ => (cE S gl e Γ Δ).bind fun A => (cL S gl es Γ A.E).map fun L => ⟨(A.o, A.t) :: L.os, L.E, fun c ρ R k => A.f c ρ R fun x ρ1 => L.f c ρ1 R fun xs ρ2 => k (x, xs) ρ2⟩
def cI (S : Sgs) (gl : Str → Option PyData) : I → (Γ Δ : Ctx) → Option (IV Γ Δ)
  | .rng es, Γ, Δ => (cL S gl es Γ Δ).bind fun A => (rdL Γ A.E A.os).bind fun r => (rngT r.1).map fun b => ⟨b.t, A.E, fun c ρ R k => A.f c ρ R fun x ρ1 => (b.g (r.2 x c ρ1)).bind fun z => k z ρ1⟩
  | .enu es, Γ, Δ => (cL S gl es Γ Δ).bind fun A => (match A with
    | ⟨[(o, .py s)], E, f⟩ => if isVal o = true then (rowV s).map fun r => ⟨.tc .nat (.tc r.u .tn), E, fun c ρ R k => f c ρ R fun x ρ1 => k ((r.g x.1).zipIdx.map fun x => (x.2, x.1, ())) ρ1⟩ else none
    | _ => none)
  | .zip es, Γ, Δ => (cL S gl es Γ Δ).bind fun A => (match A with
    | ⟨[(o, .py s), (o', .py t)], E, f⟩ => if isVal o && isVal o' then (rowV s).bind fun r => (rowV t).bind fun r' => if r.b || !r'.b then
        some ⟨.tc r.u (.tc r'.u .tn), E, fun c ρ R k => f c ρ R fun x ρ1 => k (((r.g x.1).zip (r'.g x.2.1)).map fun x => (x.1, x.2, ())) ρ1⟩ else none else none
    | _ => none)
  | .v e, Γ, Δ => (cE S gl e Γ Δ).bind fun A => if isVal A.o = true then (match A with
    | ⟨_, .py .any, E, f⟩ => some ⟨.any, E, fun c ρ R k => f c ρ R fun x ρ1 => (anyIts x).bind fun z => k z ρ1⟩
    | ⟨_, .py s, E, f⟩ => (rowV s).map fun r => ⟨r.u, E, fun c ρ R k => f c ρ R fun x ρ1 => k (r.g x) ρ1⟩
    | _ => none) else none
end
end Ta
end
section
/-! Ta7: the translation of expressions keeps the evaluator's word: the parts. -/
namespace Ta
open PySem Mi
def EOk (C : Ct) (e : Ex) {Γ Δ : Ctx} (A : EV Γ Δ) : Prop := ∀ c ρ st R k (r : R), EnvR Γ c st → EnvR Δ ρ st → A.f c ρ R k = some r → ∃ v ρ' od st', k v ρ' = some r ∧ evE C e st = some (od, st') ∧ OdR A.o (A.t.enc v) od ∧ EnvR Γ c st' ∧ EnvR A.E ρ' st'
def TOk (C : Ct) (e : T) {Γ Δ : Ctx} (A : TV Γ Δ) : Prop := ∀ c ρ st R k (r : R), EnvR Γ c st → EnvR Δ ρ st → A.f c ρ R k = some r → ∃ v ρ' st', k v ρ' = some r ∧ evT C e st = some (v, st') ∧ EnvR Γ c st' ∧ EnvR A.E ρ' st'
def POk (C : Ct) (e : Pt) {Γ Δ : Ctx} (A : PV Γ Δ) : Prop := ∀ c ρ st R k (r : R), EnvR Γ c st → EnvR Δ ρ st → A.f c ρ R k = some r → ∃ v ρ' st', k v ρ' = some r ∧ evP C e st = some (v, st') ∧ EnvR Γ c st' ∧ EnvR A.E ρ' st'
def ODs : (os : List (Ok × VT)) → HL (os.map (·.2)) → List Od → Prop
  | [], _, l => l = []
  | (o, t) :: os, v, l => ∃ od l', l = od :: l' ∧ OdR o (t.enc v.1) od ∧ ODs os v.2 l'
def LOk (C : Ct) (e : Exs) {Γ Δ : Ctx} (A : LV Γ Δ) : Prop := ∀ c ρ st R k (r : R), EnvR Γ c st → EnvR Δ ρ st → A.f c ρ R k = some r → ∃ v ρ' ods st', k v ρ' = some r ∧ evs C e st = some (ods, st') ∧ ODs A.os v ods ∧ EnvR Γ c st' ∧ EnvR A.E ρ' st'
def IOk (C : Ct) (e : I) {Γ Δ : Ctx} (A : IV Γ Δ) : Prop := ∀ c ρ st R k (r : R), EnvR Γ c st → EnvR Δ ρ st → A.f c ρ R k = some r → ∃ v ρ' st', k v ρ' = some r ∧ evI C e st = some (v.map A.t.enc, st') ∧ EnvR Γ c st' ∧ EnvR A.E ρ' st'
def kOk : Ok → Bool → Prop
  | .va, b => b = false
  | .fe, b => b = true
  | .vf, _ => True
  | .pk _, _ => False
def LTok (io : Bool) (ts : List VT) : LT io ts → D → Prop := match io, ts with
  | true, t :: _ => fun v fin => fin = t.enc v
  | _, _ => fun _ _ => True
structure SigOk (C : Ct) (s : Sig) : Prop where
  io : C.io s.nm = s.io
  ok : ∀ a r, s.f a = some r → ∃ b fin, C.call s.nm (encs s.ts a) = some (s.rt.enc r.1, b, fin) ∧ kOk s.k b ∧ LTok s.io s.ts r.2 fin
section
variable {Γ Δ : Ctx} {C : Ct}
theorem OdR.val {o : Ok} {d : D} {od : Od} (h : OdR o d od) (hv : isVal o = true) : od.val = some d ∧ ∀ st, rd st od = some d := by
  cases o with
  | va => cases h; exact ⟨rfl, fun _ => rfl⟩
  | fe => cases h; exact ⟨rfl, fun _ => rfl⟩
  | vf => rcases h with h | h <;> (cases h; exact ⟨rfl, fun _ => rfl⟩)
  | pk i => cases hv
theorem rdV_ok {E : Ctx} {o : Ok} {t : VT} {q : Σ u : VT, t.den → HEnv Γ → HEnv E → u.den} {v : t.den} {c : HEnv Γ} {ρ : HEnv E} {st : En} {od : Od} (e : rdV Γ E o t = some q) (h : OdR o (t.enc v) od) (h1 : EnvR Γ c st) (h2 : EnvR E ρ st) :
    rd st od = some (q.1.enc (q.2 v c ρ)) := by
  unfold rdV at e
  split at e
  · rename_i i
    simp only [Option.map_eq_some_iff] at e
    obtain ⟨q0, e0, rfl⟩ := e
    cases h
    obtain ⟨s, hs, hm⟩ := lk2_ok e0 h1 h2
    show (st[i]?).bind Sl.con = _
    rw [hs]
    exact hm.con
  · rename_i hn
    cases e
    exact (h.val (by cases o with
      | pk i => exact absurd rfl (hn i)
      | _ => rfl)).2 st
theorem rdL_ok {E : Ctx} {c : HEnv Γ} {ρ : HEnv E} {st : En} (h1 : EnvR Γ c st) (h2 : EnvR E ρ st) : ∀ {os : List (Ok × VT)} {q : Σ us : List VT, HL (os.map (·.2)) → HEnv Γ → HEnv E → HL us} {v : HL (os.map (·.2))} {ods : List Od}, rdL Γ E os = some q → ODs os v ods →
    Mi.rds st ods = some (encs q.1 (q.2 v c ρ))
  | [], q, v, ods, e, h => by
    cases e; cases h; rfl
  | (o, t) :: os, q, v, ods, e, ⟨od, l', el, h, hs⟩ => by
    subst el
    simp only [rdL, Option.bind_eq_some_iff, Option.map_eq_some_iff] at e
    obtain ⟨q1, e1, q2, e2, rfl⟩ := e
    rw [rds_cons, rdV_ok e1 h h1 h2, Option.bind_some, rdL_ok h1 h2 e2 hs] <;> rfl
mutual
theorem litT_ok : ∀ {p : PyData} {q : Σ t : Ty, t.den}, litT p = some q → q.1.enc q.2 = p
  | .none, q, e => by cases e; rfl
  | .bool b, q, e => by cases e; rfl
  | .int (.ofNat n), q, e => by cases e; rfl
  | .int (.negSucc n), q, e => by cases e; rfl
  | .str s, q, e => by cases e; rfl
  | .tuple xs, q, e => by
    obtain ⟨h1, h2⟩ := litTs_ok (xs := xs) e
    rw [enc_tup q.2 h1, h2]
  | .list xs, q, e => by cases e
  | .dict xs, q, e => by cases e
theorem litTs_ok : ∀ {xs : List PyData} {q : Σ t : Ty, t.den}, litTs xs = some q → q.1.isTup = true ∧ q.1.its q.2 = xs
  | [], q, e => by cases e; exact ⟨rfl, rfl⟩
  | x :: xs, q, e => by
    simp only [litTs, Option.bind_eq_some_iff, Option.map_eq_some_iff] at e
    obtain ⟨a, ea, r, er, rfl⟩ := e
    obtain ⟨h1, h2⟩ := litTs_ok er
    refine ⟨h1, ?_⟩
    show (Ty.tc a.1 r.1).its (a.2, r.2) = _
    rw [its_tc h1, litT_ok ea, h2]
end
theorem var_ok {i : Nat} {A : EV Γ Δ} (e : varV Γ Δ i = some A) : EOk C (.var i) A := by
  intro c ρ st R k r h1 h2 hf
  unfold varV at e
  split at e
  · rename_i t g eg
    cases e
    obtain ⟨s, hs, hm⟩ := lkp_ok eg h2
    cases hm
    refine ⟨g ρ, ρ, .va (t.enc (g ρ)), st, hf, ?_, rfl, h1, h2⟩
    rw [ev_var, hs]
  · cases e
  · rename_i m t g hn1 hn2 eg
    simp only [Option.map_eq_some_iff] at e
    obtain ⟨p, ep, rfl⟩ := e
    obtain ⟨s, hs, hm⟩ := lkp_ok eg h2
    have hs2 : s = .fr (t.enc (g ρ)) ∨ s = .ow (t.enc (g ρ)) := by
      cases m with
      | fr => exact absurd rfl hn1
      | bo => exact absurd rfl hn2
      | ow => exact .inr hm
      | rd => exact hm
    rcases hs2 with rfl | rfl
    · have e0 : st.set i (.fr (t.enc (g ρ))) = st := by
        apply List.ext_getElem?
        intro j
        by_cases hj : i = j
        · subst hj
          rw [hs, List.getElem?_set_self ((List.getElem?_eq_some_iff.mp hs).1)]
        · rw [List.getElem?_set_ne hj]
      obtain ⟨k1, k2⟩ := put2_ok (s := .fr (t.enc (g ρ))) (v := g ρ) ep h1 h2 rfl
      rw [e0] at k1 k2
      exact ⟨g ρ, p.2 ρ (g ρ), .va (t.enc (g ρ)), st, hf, by rw [ev_var, hs], rfl, k1, k2⟩
    · obtain ⟨k1, k2⟩ := put2_ok (s := .fr (t.enc (g ρ))) (v := g ρ) ep h1 h2 rfl
      exact ⟨g ρ, p.2 ρ (g ρ), .va (t.enc (g ρ)), _, hf, by rw [ev_var, hs], rfl, k1, k2⟩
  · rename_i eg0
    split at e
    · rename_i t g eg
      cases e
      obtain ⟨s, hs, hm⟩ := lkp_ok eg h1
      cases hm
      refine ⟨g c, ρ, .va (t.enc (g c)), st, hf, ?_, rfl, h1, h2⟩
      rw [ev_var, hs]
    · rename_i t g eg
      split at e
      · rename_i hfree
        cases e
        obtain ⟨s, hs, hm⟩ := lkp_ok eg h1
        rcases hm with rfl | rfl
        · exact ⟨g c, ρ, .va (t.enc (g c)), st, hf, by rw [ev_var, hs], rfl, h1, h2⟩
        · refine ⟨g c, ρ, .va (t.enc (g c)), _, hf, by rw [ev_var, hs], rfl, ?_, free_ok hfree h2⟩
          exact rd_set eg h1
      · cases e
    · cases e
where
  rd_set : ∀ {Γ : Ctx} {i : Nat} {t : VT} {g : HEnv Γ → t.den} {c : HEnv Γ} {st : En}, lkp Γ i = some ⟨(.rd, t), g⟩ → EnvR Γ c st → EnvR Γ c (st.set i (.fr (t.enc (g c))))
    | [], _, _, _, _, _, e, _ => nomatch e
    | .dead :: _, 0, _, _, _, _, e, _ => nomatch e
    | .calm :: _, 0, _, _, _, _, e, _ => nomatch e
    | .has m t :: Γ, 0, _, _, c, st, e, ⟨s, st', h, h1, h2⟩ => by
      cases e; subst h
      exact ⟨_, _, rfl, .inl rfl, h2⟩
    | .dead :: Γ, i + 1, t, g, c, st, e, ⟨s, st', h, h2⟩ => by
      simp only [lkp, Option.map_eq_some_iff] at e
      obtain ⟨⟨⟨m, t'⟩, g'⟩, e0, e1⟩ := e
      cases e1
      subst h
      exact ⟨s, _, rfl, rd_set (Γ := Γ) e0 h2⟩
    | .calm :: Γ, i + 1, t, g, c, st, e, ⟨s, st', h, hc, h2⟩ => by
      simp only [lkp, Option.map_eq_some_iff] at e
      obtain ⟨⟨⟨m, t'⟩, g'⟩, e0, e1⟩ := e
      cases e1
      subst h
      exact ⟨s, _, rfl, hc, rd_set (Γ := Γ) e0 h2⟩
    | .has m u :: Γ, i + 1, t, g, c, st, e, ⟨s, st', h, hc, h2⟩ => by
      simp only [lkp, Option.map_eq_some_iff] at e
      obtain ⟨⟨⟨m', t'⟩, g'⟩, e0, e1⟩ := e
      cases e1
      subst h
      exact ⟨s, _, rfl, hc, rd_set (Γ := Γ) e0 h2⟩
theorem pk_ok {i : Nat} {q : Σ q : Md × VT, HEnv Γ → HEnv Δ → q.2.den} (e : lk2 Γ Δ i = some q) : EOk C (.pk i) (⟨.pk i, q.1.2, Δ, fun c ρ R k => k (q.2 c ρ) ρ⟩ : EV Γ Δ) := by
  intro c ρ st R k r h1 h2 hf
  obtain ⟨s, hs, hm⟩ := lk2_ok e h1 h2
  refine ⟨q.2 c ρ, ρ, .pk i, st, hf, ?_, rfl, h1, h2⟩
  rw [ev_pk, hs]
  have := hm.ne
  cases s with
  | no => exact absurd rfl this
  | _ => rfl
theorem un_ok {a e' : Ex} {A : EV Γ Δ} {B : EV Γ Δ} {F : List D → Option Od} {op : (s : VT) → Option (BR F [s])} (hA : EOk C a A) (e : unV A F op = some B)
    (hev : ∀ st st' od d od2, evE C a st = some (od, st') → rd st' od = some d → F [d] = some od2 → evE C e' st = some (od2, st')) : EOk C e' B := by
  intro c ρ st R k r h1 h2 hf
  unfold unV at e
  simp only [Option.bind_eq_some_iff] at e
  obtain ⟨ra, era, b, eb, e⟩ := e
  split at e
  · cases e
    obtain ⟨x, ρ1, od, st1, hf, k1, k2, k3, k4⟩ := hA c ρ st R _ r h1 h2 hf
    rw [Option.bind_eq_some_iff] at hf
    obtain ⟨z, e2, hf⟩ := hf
    obtain ⟨od2, j1, j2⟩ := b.ok _ _ e2
    exact ⟨z, ρ1, od2, st1, hf, hev _ _ _ _ _ k1 (rdV_ok era k2 k3 k4) j1, j2, k3, k4⟩
  · cases e
theorem bin_ok {a b e' : Ex} {A : EV Γ Δ} {B : EV Γ A.E} {Z : EV Γ Δ} {F : List D → Option Od} {op : (s t : VT) → BR F [s, t]} (hA : EOk C a A) (hB : EOk C b B) (e : binV A B F op = some Z)
    (hev : ∀ st st1 st2 oa ob x y od, evE C a st = some (oa, st1) → evE C b st1 = some (ob, st2) → rd st2 oa = some x → rd st2 ob = some y → F [x, y] = some od → evE C e' st = some (od, st2)) : EOk C e' Z := by
  intro c ρ st R k r h1 h2 hf
  unfold binV at e
  simp only [Option.bind_eq_some_iff] at e
  obtain ⟨ra, era, rb, erb, e⟩ := e
  split at e
  · cases e
    obtain ⟨x, ρ1, oa, st1, hf, k1, k2, k3, k4⟩ := hA c ρ st R _ r h1 h2 hf
    obtain ⟨y, ρ2, ob, st2, hf, j1, j2, j3, j4⟩ := hB c ρ1 st1 R _ r k3 k4 hf
    rw [Option.bind_eq_some_iff] at hf
    obtain ⟨z, e3, hf⟩ := hf
    obtain ⟨od, i1, i2⟩ := (op ra.1 rb.1).ok _ _ e3
    exact ⟨z, ρ2, od, st2, hf, hev _ _ _ _ _ _ _ _ k1 j1 (rdV_ok era k2 j3 j4) (rdV_ok erb j2 j3 j4) i1, i2, j3, j4⟩
  · cases e
theorem op_ev {o : O2} {a b : Ex} {st st1 st2 : En} {oa ob od : Od} {x y : D} (e1 : evE C a st = some (oa, st1)) (e2 : evE C b st1 = some (ob, st2)) (e3 : rd st2 oa = some x) (e4 : rd st2 ob = some y) (e5 : op2 o x y = some od) :
    evE C (.op o a b) st = some (od, st2) := by
  rw [ev_op, e1, Option.bind_some, e2, Option.bind_some, e3, Option.bind_some, e4, Option.bind_some, e5] <;> rfl
theorem cm_ev {o : Cm} {a b : Ex} {st st1 st2 : En} {oa ob od : Od} {x y : D} (e1 : evE C a st = some (oa, st1)) (e2 : evE C b st1 = some (ob, st2)) (e3 : rd st2 oa = some x) (e4 : rd st2 ob = some y) (e5 : fCm o [x, y] = some od) :
    evE C (.cm o a b) st = some (od, st2) := by
  have e5 : (cmp o x y).map ofB = some od := e5
  rw [Option.map_eq_some_iff] at e5
  obtain ⟨z, ez, rfl⟩ := e5
  rw [ev_cm, e1, Option.bind_some, e2, Option.bind_some, e3, Option.bind_some, e4, Option.bind_some, ez] <;> rfl
theorem ix_ev {a b : Ex} {st st1 st2 : En} {oa ob od : Od} {x y : D} (e1 : evE C a st = some (oa, st1)) (e2 : evE C b st1 = some (ob, st2)) (e3 : rd st2 oa = some x) (e4 : rd st2 ob = some y) (e5 : fIx [x, y] = some od) :
    evE C (.ix a b) st = some (od, st2) := by
  have e5 : (item x y).map Od.va = some od := e5
  rw [Option.map_eq_some_iff] at e5
  obtain ⟨z, ez, rfl⟩ := e5
  rw [ev_ix, e1, Option.bind_some, e2, Option.bind_some, e3, Option.bind_some, e4, Option.bind_some, ez] <;> rfl
theorem litN_ok {b : Ex} {k : Nat} (h : litN b = some k) (st : En) : evE C b st = some (.va (.py (.int (Int.ofNat k))), st) := by
  unfold litN at h
  split at h
  · cases h; rfl
  · cases h
theorem neg_ok {a : Ex} {A B : EV Γ Δ} (hA : EOk C a A) (e : negV A = some B) : EOk C (.neg a) B := by
  intro c ρ st R k r h1 h2 hf
  unfold negV at e
  simp only [Option.bind_eq_some_iff] at e
  obtain ⟨ra, era, e⟩ := e
  split at e
  · cases e
    obtain ⟨x, ρ1, od, st1, hf, k1, k2, k3, k4⟩ := hA c ρ st R _ r h1 h2 hf
    have r := rdV_ok era k2 k3 k4
    exact ⟨_, ρ1, _, st1, hf, by rw [ev_neg, k1, Option.bind_some]; simp only; rw [r] <;> rfl, rfl, k3, k4⟩
  · cases e
    obtain ⟨x, ρ1, od, st1, hf, k1, k2, k3, k4⟩ := hA c ρ st R _ r h1 h2 hf
    have r := rdV_ok era k2 k3 k4
    exact ⟨_, ρ1, _, st1, hf, by rw [ev_neg, k1, Option.bind_some]; simp only; rw [r] <;> rfl, rfl, k3, k4⟩
  · cases e
theorem nt_ok {a : Ex} {A B : EV Γ Δ} (hA : EOk C a A) (e : ntV A = some B) : EOk C (.nt a) B := by
  intro c ρ st R k r h1 h2 hf
  unfold ntV at e
  simp only [Option.bind_eq_some_iff] at e
  obtain ⟨ra, era, e⟩ := e
  split at e
  · cases e
    obtain ⟨x, ρ1, od, st1, hf, k1, k2, k3, k4⟩ := hA c ρ st R _ r h1 h2 hf
    have r := rdV_ok era k2 k3 k4
    exact ⟨_, ρ1, _, st1, hf, by rw [ev_nt, k1, Option.bind_some]; simp only; rw [r] <;> rfl, rfl, k3, k4⟩
  · cases e
theorem isa_ok {a : Ex} {l : List Mi.Ty} {A B : EV Γ Δ} (hA : EOk C a A) (e : isaV A l = some B) : EOk C (.isa a l) B := by
  intro c ρ st R k r h1 h2 hf
  unfold isaV at e
  simp only [Option.bind_eq_some_iff] at e
  obtain ⟨ra, era, e⟩ := e
  split at e
  · cases e
    obtain ⟨x, ρ1, od, st1, hf, k1, k2, k3, k4⟩ := hA c ρ st R _ r h1 h2 hf
    have r := rdV_ok era k2 k3 k4
    exact ⟨_, ρ1, _, st1, hf, by rw [ev_isa, k1, Option.bind_some]; simp only; rw [r] <;> rfl, rfl, k3, k4⟩
  · cases e
theorem asT_ok {a : Ex} {A : EV Γ Δ} {T : TV Γ Δ} (hA : EOk C a A) (e : asT A = some T) : ∀ c ρ st R k (r : R), EnvR Γ c st → EnvR Δ ρ st → T.f c ρ R k = some r → ∃ v ρ' od st', k v ρ' = some r ∧ evE C a st = some (od, st') ∧ rd st' od = some (.py (.bool v)) ∧ EnvR Γ c st' ∧ EnvR T.E ρ' st' := by
  intro c ρ st R k r h1 h2 hf
  unfold asT at e
  simp only [Option.bind_eq_some_iff] at e
  obtain ⟨ra, era, e⟩ := e
  split at e
  · cases e
    obtain ⟨x, ρ1, od, st1, hf, k1, k2, k3, k4⟩ := hA c ρ st R _ r h1 h2 hf
    exact ⟨_, ρ1, od, st1, hf, k1, rdV_ok era k2 k3 k4, k3, k4⟩
  · cases e
theorem noHas_uniq : ∀ {D : Ctx} (h : noHas D = true) (ρ : HEnv D), ρ = unitE D h
  | [], _, _ => rfl
  | .has _ _ :: _, h, _ => nomatch h
  | .dead :: D, h, ρ => noHas_uniq (D := D) h ρ
  | .calm :: D, h, ρ => noHas_uniq (D := D) h ρ
theorem up_pk {α : Type} {J : Ctx} (x : α) (ρ : HEnv J) : upV (noHas J) (pkB (noHas J) x ρ) = x ∧ upE (noHas J) id (pkB (noHas J) x ρ) = ρ := by
  have key : ∀ (b : Bool) (h : b = true → noHas J = true), upV b (pkB b x ρ) = x ∧ upE b h (pkB b x ρ) = ρ := fun b h => by
    cases b with
    | true => exact ⟨rfl, (noHas_uniq (h rfl) ρ).symm⟩
    | false => exact ⟨rfl, rfl⟩
  exact key _ id
theorem vf_of {o : Ok} {d : D} {od : Od} (hv : isVal o = true) (r : OdR o d od) : OdR .vf d od := by
  cases o with
  | va => exact .inl r
  | fe => exact .inr r
  | vf => exact r
  | pk i => cases hv
/-- both ways of a value, told from the state behind the test -/
theorem two_ok {ms : List Nat} {T : TV Γ Δ} {cA cB : (Γ Δ : Ctx) → Option (EV Γ Δ)} {Z : EV Γ Δ} {tst : En → Bool → En → Prop} {EA EB : En → Od → En → Prop}
    (hT : ∀ c ρ st R k (r : R), EnvR Γ c st → EnvR Δ ρ st → T.f c ρ R k = some r → ∃ v ρ' st', k v ρ' = some r ∧ tst st v st' ∧ EnvR Γ c st' ∧ EnvR T.E ρ' st')
    (hA : ∀ Γ Δ A, cA Γ Δ = some A → ∀ c ρ st R k (r : R), EnvR Γ c st → EnvR Δ ρ st → A.f c ρ R k = some r → ∃ v ρ' od st', k v ρ' = some r ∧ EA st od st' ∧ OdR A.o (A.t.enc v) od ∧ EnvR Γ c st' ∧ EnvR A.E ρ' st')
    (hB : ∀ Γ Δ A, cB Γ Δ = some A → ∀ c ρ st R k (r : R), EnvR Γ c st → EnvR Δ ρ st → A.f c ρ R k = some r → ∃ v ρ' od st', k v ρ' = some r ∧ EB st od st' ∧ OdR A.o (A.t.enc v) od ∧ EnvR Γ c st' ∧ EnvR A.E ρ' st')
    (e : twoV ms T cA cB = some Z) : ∀ c ρ st R k (r : R), EnvR Γ c st → EnvR Δ ρ st → Z.f c ρ R k = some r → ∃ v ρ' od st1 st' z, k v ρ' = some r ∧ tst st z st1 ∧ (z = true → EA st1 od st') ∧ (z = false → EB st1 od st') ∧ OdR Z.o (Z.t.enc v) od ∧ EnvR Γ c st' ∧ EnvR Z.E ρ' st' := by
  intro c ρ st R k r h1 h2 hf
  unfold twoV at e
  simp only [Option.bind_eq_some_iff] at e
  obtain ⟨S, eS, A, eA, B, eB, e⟩ := e
  split at e
  · rename_i hv
    rw [Bool.and_eq_true] at hv
    split at e
    · rename_i t et
      split at e
      · rename_i a b ea eb
        simp only [Option.bind_eq_some_iff, Option.map_eq_some_iff] at e
        obtain ⟨g, eg, h, eh, m, em, rfl⟩ := e
        obtain ⟨z, ρ1, st1, hf, k1, k3, k4⟩ := hT c ρ st R _ r h1 h2 hf
        rw [Option.bind_eq_some_iff] at hf
        obtain ⟨p, e2, hf⟩ := hf
        obtain ⟨p1, p2⟩ := spl_ok eS k3 k4
        split at e2
        · rename_i hz
          obtain ⟨x, ρ2, od, st2, e3, j1, j2, j3, j4⟩ := hA _ _ _ eA _ _ st1 _ _ p p1 p2 e2
          cases e3
          obtain ⟨u1, u2⟩ := up_pk (J := jnC A.E B.E) (a.1 x) (g ρ2)
          obtain ⟨n1, n2⟩ := mrg_ok eS em j3 (coC_ok eg _ _ j4)
          rw [u1, u2] at hf
          refine ⟨a.1 x, m.2 ρ1 (g ρ2), od, st1, st2, z, hf, k1, fun _ => j1, fun hz' => (by rw [hz] at hz'; cases hz'), ?_, n1, n2⟩
          simp only
          rw [a.2]
          split
          · exact j2
          · exact vf_of hv.1 j2
        · rename_i hz
          obtain ⟨x, ρ2, od, st2, e3, j1, j2, j3, j4⟩ := hB _ _ _ eB _ _ st1 _ _ p p1 p2 e2
          cases e3
          obtain ⟨u1, u2⟩ := up_pk (J := jnC A.E B.E) (b.1 x) (h ρ2)
          obtain ⟨n1, n2⟩ := mrg_ok eS em j3 (coC_ok eh _ _ j4)
          rw [u1, u2] at hf
          refine ⟨b.1 x, m.2 ρ1 (h ρ2), od, st1, st2, z, hf, k1, fun hz' => absurd hz' hz, fun _ => j1, ?_, n1, n2⟩
          simp only
          rw [b.2]
          split
          · rename_i he; rw [he]; exact j2
          · exact vf_of hv.2 j2
      · cases e
    · cases e
  · cases e
theorem litB_ok {b : Bool} {A : EV Γ Δ} (e : litB b Γ Δ = some A) : ∀ c ρ st R k (r : R), EnvR Γ c st → EnvR Δ ρ st → A.f c ρ R k = some r → ∃ v ρ' od st', k v ρ' = some r ∧ (od = ofB b ∧ st' = st) ∧ OdR A.o (A.t.enc v) od ∧ EnvR Γ c st' ∧ EnvR A.E ρ' st' := by
  intro c ρ st R k r h1 h2 hf
  cases e
  exact ⟨b, ρ, ofB b, st, hf, ⟨rfl, rfl⟩, rfl, h1, h2⟩
theorem bolV_ok {b : Ex} {cB : (Γ Δ : Ctx) → Option (EV Γ Δ)} (hB : ∀ Γ Δ A, cB Γ Δ = some A → EOk C b A) : ∀ Γ Δ A, bolV cB Γ Δ = some A → EOk C b A := fun Γ Δ A e => by
  unfold bolV at e
  simp only [Option.bind_eq_some_iff] at e
  obtain ⟨B, eB, e⟩ := e
  split at e
  · cases e; exact hB _ _ _ eB
  · cases e
theorem ite_ok {ms : List Nat} {x : T} {a b : Ex} {X : TV Γ Δ} {cA cB : (Γ Δ : Ctx) → Option (EV Γ Δ)} {Z : EV Γ Δ} (hX : TOk C x X) (hA : ∀ Γ Δ A, cA Γ Δ = some A → EOk C a A) (hB : ∀ Γ Δ A, cB Γ Δ = some A → EOk C b A) (e : twoV ms X cA cB = some Z) : EOk C (.ite x a b) Z := by
  intro c ρ st R k r h1 h2 hf
  obtain ⟨v, ρ', od, st1, st', z, q1, q2, q3, q4, q5, q6, q7⟩ := two_ok (tst := fun st v st' => evT C x st = some (v, st')) (EA := fun st od st' => evE C a st = some (od, st')) (EB := fun st od st' => evE C b st = some (od, st')) hX hA hB e c ρ st R k r h1 h2 hf
  refine ⟨v, ρ', od, st', q1, ?_, q5, q6, q7⟩
  rw [ev_ite, q2, Option.bind_some]
  cases z with
  | true => exact q3 rfl
  | false => exact q4 rfl
theorem and_ok {ms : List Nat} {a b : Ex} {A : EV Γ Δ} {T : TV Γ Δ} {cB : (Γ Δ : Ctx) → Option (EV Γ Δ)} {Z : EV Γ Δ} (hA : EOk C a A) (eT : asT A = some T) (hB : ∀ Γ Δ A, cB Γ Δ = some A → EOk C b A) (e : twoV ms T (bolV cB) (litB false) = some Z) : EOk C (.and a b) Z := by
  intro c ρ st R k r h1 h2 hf
  obtain ⟨v, ρ', od, st1, st', z, q1, ⟨o0, q2, q2'⟩, q3, q4, q5, q6, q7⟩ := two_ok (tst := fun st v st' => ∃ od, evE C a st = some (od, st') ∧ rd st' od = some (.py (.bool v))) (EA := fun st od st' => evE C b st = some (od, st')) (EB := fun st od st' => od = ofB false ∧ st' = st) (fun c ρ st R k r h1 h2 hf => by
    obtain ⟨v, ρ', od, st', a1, a2, a3, a4, a5⟩ := asT_ok hA eT c ρ st R k r h1 h2 hf
    exact ⟨v, ρ', st', a1, ⟨od, a2, a3⟩, a4, a5⟩) (bolV_ok hB) (fun Γ Δ A e => litB_ok e) e c ρ st R k r h1 h2 hf
  refine ⟨v, ρ', od, st', q1, ?_, q5, q6, q7⟩
  rw [ev_and, q2, Option.bind_some]
  simp only
  rw [q2']
  cases z with
  | true => exact q3 rfl
  | false =>
    obtain ⟨e1, e2⟩ := q4 rfl
    rw [e1, e2] <;> rfl
theorem or_ok {ms : List Nat} {a b : Ex} {A : EV Γ Δ} {T : TV Γ Δ} {cB : (Γ Δ : Ctx) → Option (EV Γ Δ)} {Z : EV Γ Δ} (hA : EOk C a A) (eT : asT A = some T) (hB : ∀ Γ Δ A, cB Γ Δ = some A → EOk C b A) (e : twoV ms T (litB true) (bolV cB) = some Z) : EOk C (.or a b) Z := by
  intro c ρ st R k r h1 h2 hf
  obtain ⟨v, ρ', od, st1, st', z, q1, ⟨o0, q2, q2'⟩, q3, q4, q5, q6, q7⟩ := two_ok (tst := fun st v st' => ∃ od, evE C a st = some (od, st') ∧ rd st' od = some (.py (.bool v))) (EB := fun st od st' => evE C b st = some (od, st')) (EA := fun st od st' => od = ofB true ∧ st' = st) (fun c ρ st R k r h1 h2 hf => by
    obtain ⟨v, ρ', od, st', a1, a2, a3, a4, a5⟩ := asT_ok hA eT c ρ st R k r h1 h2 hf
    exact ⟨v, ρ', st', a1, ⟨od, a2, a3⟩, a4, a5⟩) (fun Γ Δ A e => litB_ok e) (bolV_ok hB) e c ρ st R k r h1 h2 hf
  refine ⟨v, ρ', od, st', q1, ?_, q5, q6, q7⟩
  rw [ev_or, q2, Option.bind_some]
  simp only
  rw [q2']
  cases z with
  | true =>
    obtain ⟨e1, e2⟩ := q3 rfl
    rw [e1, e2] <;> rfl
  | false => exact q4 rfl
theorem evT_ite' {x a b : T} {st : En} : evT C (.ite x a b) st = (evT C x st).bind fun q => if q.1 then evT C a q.2 else evT C b q.2 := id rfl
/-- both ways of a test -/
theorem twoT_ok {ms : List Nat} {X : TV Γ Δ} {cA cB : (Γ Δ : Ctx) → Option (TV Γ Δ)} {Z : TV Γ Δ} {x : T} {EA EB : En → Bool → En → Prop} (hX : TOk C x X)
    (hA : ∀ Γ Δ A, cA Γ Δ = some A → ∀ c ρ st R k (r : R), EnvR Γ c st → EnvR Δ ρ st → A.f c ρ R k = some r → ∃ v ρ' st', k v ρ' = some r ∧ EA st v st' ∧ EnvR Γ c st' ∧ EnvR A.E ρ' st')
    (hB : ∀ Γ Δ A, cB Γ Δ = some A → ∀ c ρ st R k (r : R), EnvR Γ c st → EnvR Δ ρ st → A.f c ρ R k = some r → ∃ v ρ' st', k v ρ' = some r ∧ EB st v st' ∧ EnvR Γ c st' ∧ EnvR A.E ρ' st')
    (e : iteT ms X cA cB = some Z) : ∀ c ρ st R k (r : R), EnvR Γ c st → EnvR Δ ρ st → Z.f c ρ R k = some r → ∃ v ρ' st1 st' z, k v ρ' = some r ∧ evT C x st = some (z, st1) ∧ (z = true → EA st1 v st') ∧ (z = false → EB st1 v st') ∧ EnvR Γ c st' ∧ EnvR Z.E ρ' st' := by
  intro c ρ st R k r h1 h2 hf
  unfold iteT at e
  simp only [Option.bind_eq_some_iff, Option.map_eq_some_iff] at e
  obtain ⟨S, eS, A, eA, B, eB, g, eg, h, eh, m, em, rfl⟩ := e
  obtain ⟨z, ρ1, st1, hf, k1, k3, k4⟩ := hX c ρ st R _ r h1 h2 hf
  rw [Option.bind_eq_some_iff] at hf
  obtain ⟨p, e2, hf⟩ := hf
  obtain ⟨p1, p2⟩ := spl_ok eS k3 k4
  split at e2
  · rename_i hz
    obtain ⟨x, ρ2, st2, e3, j1, j3, j4⟩ := hA _ _ _ eA _ _ st1 _ _ p p1 p2 e2
    cases e3
    obtain ⟨u1, u2⟩ := up_pk (J := jnC A.E B.E) x (g ρ2)
    obtain ⟨n1, n2⟩ := mrg_ok eS em j3 (coC_ok eg _ _ j4)
    rw [u1, u2] at hf
    exact ⟨x, m.2 ρ1 (g ρ2), st1, st2, z, hf, k1, fun _ => j1, fun hz' => (by rw [hz] at hz'; cases hz'), n1, n2⟩
  · rename_i hz
    obtain ⟨x, ρ2, st2, e3, j1, j3, j4⟩ := hB _ _ _ eB _ _ st1 _ _ p p1 p2 e2
    cases e3
    obtain ⟨u1, u2⟩ := up_pk (J := jnC A.E B.E) x (h ρ2)
    obtain ⟨n1, n2⟩ := mrg_ok eS em j3 (coC_ok eh _ _ j4)
    rw [u1, u2] at hf
    exact ⟨x, m.2 ρ1 (h ρ2), st1, st2, z, hf, k1, fun hz' => absurd hz' hz, fun _ => j1, n1, n2⟩
theorem litTB_ok {b : Bool} {A : TV Γ Δ} (e : litTB b Γ Δ = some A) : ∀ c ρ st R k (r : R), EnvR Γ c st → EnvR Δ ρ st → A.f c ρ R k = some r → ∃ v ρ' st', k v ρ' = some r ∧ (v = b ∧ st' = st) ∧ EnvR Γ c st' ∧ EnvR A.E ρ' st' := by
  intro c ρ st R k r h1 h2 hf
  cases e
  exact ⟨b, ρ, st, hf, ⟨rfl, rfl⟩, h1, h2⟩
theorem andT_ok {ms : List Nat} {a b : T} {A : TV Γ Δ} {cB : (Γ Δ : Ctx) → Option (TV Γ Δ)} {Z : TV Γ Δ} (hA : TOk C a A) (hB : ∀ Γ Δ A, cB Γ Δ = some A → TOk C b A) (e : iteT ms A cB (litTB false) = some Z) : TOk C (.and a b) Z := by
  intro c ρ st R k r h1 h2 hf
  obtain ⟨v, ρ', st1, st', z, q1, q2, q3, q4, q6, q7⟩ := twoT_ok (EA := fun st v st' => evT C b st = some (v, st')) (EB := fun st v st' => v = false ∧ st' = st) hA hB (fun Γ Δ A e => litTB_ok e) e c ρ st R k r h1 h2 hf
  refine ⟨v, ρ', st', q1, ?_, q6, q7⟩
  rw [evT_and, q2, Option.bind_some]
  cases z with
  | true => exact q3 rfl
  | false =>
    obtain ⟨e1, e2⟩ := q4 rfl
    rw [e1, e2] <;> rfl
theorem orT_ok {ms : List Nat} {a b : T} {A : TV Γ Δ} {cB : (Γ Δ : Ctx) → Option (TV Γ Δ)} {Z : TV Γ Δ} (hA : TOk C a A) (hB : ∀ Γ Δ A, cB Γ Δ = some A → TOk C b A) (e : iteT ms A (litTB true) cB = some Z) : TOk C (.or a b) Z := by
  intro c ρ st R k r h1 h2 hf
  obtain ⟨v, ρ', st1, st', z, q1, q2, q3, q4, q6, q7⟩ := twoT_ok (EB := fun st v st' => evT C b st = some (v, st')) (EA := fun st v st' => v = true ∧ st' = st) hA (fun Γ Δ A e => litTB_ok e) hB e c ρ st R k r h1 h2 hf
  refine ⟨v, ρ', st', q1, ?_, q6, q7⟩
  rw [evT_or, q2, Option.bind_some]
  cases z with
  | true =>
    obtain ⟨e1, e2⟩ := q3 rfl
    rw [e1, e2] <;> rfl
  | false => exact q4 rfl
theorem iteT_ok {ms : List Nat} {x a b : T} {X : TV Γ Δ} {cA cB : (Γ Δ : Ctx) → Option (TV Γ Δ)} {Z : TV Γ Δ} (hX : TOk C x X) (hA : ∀ Γ Δ A, cA Γ Δ = some A → TOk C a A) (hB : ∀ Γ Δ A, cB Γ Δ = some A → TOk C b A) (e : iteT ms X cA cB = some Z) : TOk C (.ite x a b) Z := by
  intro c ρ st R k r h1 h2 hf
  obtain ⟨v, ρ', st1, st', z, q1, q2, q3, q4, q6, q7⟩ := twoT_ok (EA := fun st v st' => evT C a st = some (v, st')) (EB := fun st v st' => evT C b st = some (v, st')) hX hA hB e c ρ st R k r h1 h2 hf
  refine ⟨v, ρ', st', q1, ?_, q6, q7⟩
  rw [evT_ite', q2, Option.bind_some]
  cases z with
  | true => exact q3 rfl
  | false => exact q4 rfl
theorem bi_ok {b : Bi} {es : Exs} {A : LV Γ Δ} {Z : EV Γ Δ} (hA : LOk C es A) (e : biV A b = some Z) : EOk C (.bi b es) Z := by
  intro c ρ st R k r h1 h2 hf
  unfold biV at e
  simp only [Option.bind_eq_some_iff] at e
  obtain ⟨rr, er, e⟩ := e
  split at e
  · cases e
    obtain ⟨x, ρ1, ods, st1, hf, k1, k2, k3, k4⟩ := hA c ρ st R _ r h1 h2 hf
    rw [Option.bind_eq_some_iff] at hf
    obtain ⟨z, e2, hf⟩ := hf
    obtain ⟨od, j1, j2⟩ := (biT b rr.1).ok _ _ e2
    refine ⟨z, ρ1, od, st1, hf, ?_, j2, k3, k4⟩
    rw [ev_bi, k1, Option.bind_some]
    simp only
    rw [rdL_ok k3 k4 er k2, Option.bind_some, j1] <;> rfl
  · cases e
theorem me_ok {m : Me} {a : Ex} {es : Exs} {A : EV Γ Δ} {L : LV Γ A.E} {Z : EV Γ Δ} (hA : EOk C a A) (hL : LOk C es L) (e : meV A L m = some Z) : EOk C (.me m a es) Z := by
  intro c ρ st R k r h1 h2 hf
  unfold meV at e
  simp only [Option.bind_eq_some_iff] at e
  obtain ⟨r0, e0, ra, era, rr, er, e⟩ := e
  split at e
  · rename_i q q' hq hq'
    split at e
    · rename_i hc
      cases e
      obtain ⟨x, ρ1, oa, st1, hf, k1, k2, k3, k4⟩ := hA c ρ st R _ r h1 h2 hf
      obtain ⟨y, ρ2, ods, st2, hf, j1, j2, j3, j4⟩ := hL c ρ1 st1 R _ r k3 k4 hf
      rw [Option.bind_eq_some_iff] at hf
      obtain ⟨z, e3, hf⟩ := hf
      obtain ⟨od, i1, i2⟩ := (meT m (ra.1 :: rr.1)).ok _ _ e3
      have x0 := rdV_ok e0 k2 k3 k4
      have x1 := rdV_ok era k2 j3 j4
      have t0 := vtTup_ok hq (r0.2 x c ρ1)
      have t1 := vtTup_ok hq' (ra.2 x c ρ2)
      refine ⟨z, ρ2, od, st2, hf, ?_, i2, j3, j4⟩
      rw [ev_me, k1, Option.bind_some]
      simp only
      rw [x0, Option.bind_some, j1, Option.bind_some]
      simp only
      rw [x1, Option.bind_some, t0.1, t0.2, t1.1, t1.2, hc.1]
      simp only [beq_self_eq_true, Bool.and_self, if_true]
      rw [rdL_ok j3 j4 er j2, Option.bind_some]
      have i1 : meD m (ra.1.enc (ra.2 x c ρ2)) (encs rr.1 (rr.2 y c ρ2)) = some od := i1
      rw [i1] <;> rfl
    · cases e
  · cases e
theorem sl_ok {a : Ex} {lo hi : Pt} {A : EV Γ Δ} {P : PV Γ A.E} {Q : PV Γ P.E} {Z : EV Γ Δ} (hA : EOk C a A) (hP : POk C lo P) (hQ : POk C hi Q) (e : slV A P Q = some Z) : EOk C (.sl a lo hi) Z := by
  intro c ρ st R k r h1 h2 hf
  unfold slV at e
  simp only [Option.bind_eq_some_iff] at e
  obtain ⟨ra, era, e⟩ := e
  split at e
  · cases e
    obtain ⟨x, ρ1, oa, st1, hf, k1, k2, k3, k4⟩ := hA c ρ st R _ r h1 h2 hf
    obtain ⟨y, ρ2, st2, hf, j1, j3, j4⟩ := hP c ρ1 st1 R _ r k3 k4 hf
    obtain ⟨w, ρ3, st3, hf, i1, i3, i4⟩ := hQ c ρ2 st2 R _ r j3 j4 hf
    rw [Option.bind_eq_some_iff] at hf
    obtain ⟨z, e4, hf⟩ := hf
    obtain ⟨od, l1, l2⟩ := (slT ra.1).ok _ _ _ _ e4
    refine ⟨z, ρ3, od, st3, hf, ?_, l2, i3, i4⟩
    rw [ev_sl, k1, Option.bind_some]
    simp only
    rw [j1, Option.bind_some]
    simp only
    rw [i1, Option.bind_some]
    simp only
    rw [rdV_ok era k2 i3 i4, Option.bind_some, l1] <;> rfl
  · cases e
theorem so_ok {a : Ex} {A : EV Γ Δ} {P : PV Γ Δ} (hA : EOk C a A) (e : soV A = some P) : POk C (.so a) P := by
  intro c ρ st R k r h1 h2 hf
  unfold soV at e
  simp only [Option.bind_eq_some_iff] at e
  obtain ⟨ra, era, e⟩ := e
  split at e
  · cases e
    obtain ⟨x, ρ1, od, st1, hf, k1, k2, k3, k4⟩ := hA c ρ st R _ r h1 h2 hf
    have r := rdV_ok era k2 k3 k4
    exact ⟨_, ρ1, st1, hf, by rw [evP_so, k1, Option.bind_some]; simp only; rw [r] <;> rfl, k3, k4⟩
  · cases e
    obtain ⟨x, ρ1, od, st1, hf, k1, k2, k3, k4⟩ := hA c ρ st R _ r h1 h2 hf
    have r := rdV_ok era k2 k3 k4
    exact ⟨_, ρ1, st1, hf, by rw [evP_so, k1, Option.bind_some]; simp only; rw [r] <;> rfl, k3, k4⟩
  · cases e
theorem tupTo_ok : ∀ {os : List (Ok × VT)} {g : Σ t : Ty, HL (os.map (·.2)) → t.den} {v : HL (os.map (·.2))} {ods : List Od}, tupTo os = some g → ODs os v ods → g.1.isTup = true ∧ ∃ ds, vals ods = some ds ∧ pyds ds = some (g.1.its (g.2 v))
  | [], g, v, ods, e, h => by
    cases e; cases h
    exact ⟨rfl, [], rfl, rfl⟩
  | (o, .py t) :: os, g, v, ods, e, ⟨od, l', el, h, hs⟩ => by
    subst el
    simp only [tupTo] at e
    split at e
    · rename_i hv
      simp only [Option.map_eq_some_iff] at e
      obtain ⟨r, er, rfl⟩ := e
      obtain ⟨k1, ds, k2, k3⟩ := tupTo_ok er hs
      refine ⟨k1, .py (t.enc v.1) :: ds, ?_, ?_⟩
      · rw [vals_cons, (h.val hv).1, Option.bind_some, k2] <;> rfl
      · rw [pyds_cons, pyd_py, Option.bind_some, k3]
        show _ = some ((Ty.tc t r.1).its (v.1, r.2 v.2))
        rw [its_tc k1] <;> rfl
    · cases e
  | (o, .dct _ _) :: os, g, v, ods, e, _ => by simp [tupTo] at e
  | (o, .scr) :: os, g, v, ods, e, _ => by simp [tupTo] at e
theorem ODs.len : ∀ {os : List (Ok × VT)} {v : HL (os.map (·.2))} {ods : List Od}, ODs os v ods → ods.length = os.length
  | [], _, _, h => by cases h; rfl
  | (o, t) :: os, v, ods, ⟨od, l', el, h, hs⟩ => by subst el; exact congrArg Nat.succ hs.len
theorem tupTo_len : ∀ {os : List (Ok × VT)} {g : Σ t : Ty, HL (os.map (·.2)) → t.den}, tupTo os = some g → tupLen g.1 = os.length
  | [], g, e => by cases e; rfl
  | (o, .py t) :: os, g, e => by
    simp only [tupTo] at e
    split at e
    · simp only [Option.map_eq_some_iff] at e
      obtain ⟨r, er, rfl⟩ := e
      exact congrArg Nat.succ (tupTo_len er)
    · cases e
  | (o, .dct _ _) :: os, g, e => by simp [tupTo] at e
  | (o, .scr) :: os, g, e => by simp [tupTo] at e
theorem tup_ok {es : Exs} {A : LV Γ Δ} {Z : EV Γ Δ} (hA : LOk C es A) (e : tupV A = some Z) : EOk C (.tup es) Z := by
  intro c ρ st R k r h1 h2 hf
  unfold tupV at e
  simp only [Option.bind_eq_some_iff] at e
  obtain ⟨g, eg, e⟩ := e
  split at e
  · rename_i hl
    cases e
    obtain ⟨x, ρ1, ods, st1, hf, k1, k2, k3, k4⟩ := hA c ρ st R _ r h1 h2 hf
    obtain ⟨j1, ds, j2, j3⟩ := tupTo_ok eg k2
    refine ⟨g.2 x, ρ1, .va (.py (g.1.enc (g.2 x))), st1, hf, ?_, rfl, k3, k4⟩
    rw [ev_tup, k1, Option.bind_some]
    simp only
    rw [j2, Option.bind_some, j3, Option.bind_some, if_pos, enc_tup _ j1]
    rw [its_len _ j1, tupTo_len eg]
    unfold lim
    omega
  · cases e
theorem itsTo_ok {u : Ty} : ∀ {os : List (Ok × VT)} {g : HL (os.map (·.2)) → List u.den} {v : HL (os.map (·.2))} {ods : List Od}, itsTo u os = some g → ODs os v ods → ∃ ds, vals ods = some ds ∧ pyds ds = some ((g v).map u.enc) ∧ (g v).length = os.length
  | [], g, v, ods, e, h => by
    cases e; cases h
    exact ⟨[], rfl, rfl, rfl⟩
  | (o, .py t) :: os, g, v, ods, e, ⟨od, l', el, h, hs⟩ => by
    subst el
    simp only [itsTo] at e
    split at e
    · rename_i hv
      simp only [Option.bind_eq_some_iff, Option.map_eq_some_iff] at e
      obtain ⟨k, ek, r, er, rfl⟩ := e
      obtain ⟨ds, k2, k3, k4⟩ := itsTo_ok er hs
      refine ⟨.py (t.enc v.1) :: ds, ?_, ?_, ?_⟩
      · rw [vals_cons, (h.val hv).1, Option.bind_some, k2] <;> rfl
      · rw [pyds_cons, pyd_py, Option.bind_some, k3, List.map_cons, co_enc ek] <;> rfl
      · exact congrArg Nat.succ k4
    · cases e
  | (o, .dct _ _) :: os, g, v, ods, e, _ => by simp [itsTo] at e
  | (o, .scr) :: os, g, v, ods, e, _ => by simp [itsTo] at e
theorem lst_ok {es : Exs} {A : LV Γ Δ} {Z : EV Γ Δ} (hA : LOk C es A) (e : lstV A = some Z) : EOk C (.lst es) Z := by
  intro c ρ st R k r h1 h2 hf
  unfold lstV at e
  simp only [Option.bind_eq_some_iff] at e
  obtain ⟨g, eg, e⟩ := e
  split at e
  · rename_i hl
    cases e
    obtain ⟨x, ρ1, ods, st1, hf, k1, k2, k3, k4⟩ := hA c ρ st R _ r h1 h2 hf
    obtain ⟨ds, j2, j3, j4⟩ := itsTo_ok eg k2
    refine ⟨g x, ρ1, .fe (.py (.list ((g x).map (jnAll A.os).enc))), st1, hf, ?_, rfl, k3, k4⟩
    rw [ev_lst, k1, Option.bind_some]
    simp only
    rw [j2, Option.bind_some, j3, Option.bind_some, if_pos]
    rw [List.length_map, j4]
    unfold lim
    omega
  · cases e
theorem erase_map {α β : Type} (f : α → β) : ∀ (xs : List α) (i : Nat), (xs.map f).eraseIdx i = (xs.eraseIdx i).map f
  | [], _ => rfl
  | _ :: _, 0 => rfl
  | x :: xs, i + 1 => congrArg (f x :: ·) (erase_map f xs i)
theorem pop_ok {i : Nat} {a : Ex} {A Z : EV Γ Δ} (hA : EOk C a A) (e : popV i A = some Z) : EOk C (.pop i a) Z := by
  intro c ρ st R k r0 h1 h2 hf
  have lst : ∀ {m : Md} {t : Ty} {xs : List t.den} {s : Sl} {st : En}, (decide (m = .ow) || decide (m = .bo)) = true → st[i]? = some s → MdR m ((VT.py (.lst t)).enc xs) s → ∃ w, lstAt st i = some (xs.map t.enc, w) ∧ ∀ d, MdR m d (w d) := fun {m t xs s st} hm hs hr => by
    rw [Bool.or_eq_true, decide_eq_true_eq, decide_eq_true_eq] at hm
    rcases hm with rfl | rfl
    · cases hr
      exact ⟨.ow, by unfold lstAt; rw [hs] <;> rfl, fun _ => rfl⟩
    · cases hr
      exact ⟨.bo, by unfold lstAt; rw [hs] <;> rfl, fun _ => rfl⟩
  unfold popV at e
  simp only [Option.bind_eq_some_iff] at e
  obtain ⟨l0, el0, l, el, r, er, e⟩ := e
  split at e
  · rename_i hc
    rw [Bool.and_eq_true] at hc
    split at e
    · rename_i m t g m0 t0 g0 rf
      simp only [Option.map_eq_some_iff] at e
      obtain ⟨p, ep, rfl⟩ := e
      obtain ⟨x, ρ1, od, st1, hf, k1, k2, k3, k4⟩ := hA c ρ st R _ r0 h1 h2 hf
      rw [Option.bind_eq_some_iff] at hf
      obtain ⟨⟨y, ys⟩, e2, hf⟩ := hf
      obtain ⟨s0, hs0, hm0⟩ := lkp_ok el0 h2
      obtain ⟨s1, hs1, hm1⟩ := lkp_ok el k4
      obtain ⟨w0, q0, _⟩ := lst hc.2 hs0 hm0
      obtain ⟨w1, q1, q2⟩ := lst hc.1 hs1 hm1
      have rr := rdV_ok er k2 k3 k4
      unfold popN at e2
      split at e2
      · rename_i hle
        simp only [Option.map_eq_some_iff] at e2
        obtain ⟨y', ey, e3⟩ := e2
        cases e3
        have lt := (List.getElem?_eq_some_iff.mp ey).1
        have gp := put2_ok (s := w1 ((VT.py (.lst t)).enc ((g ρ1).eraseIdx (rf x c ρ1)))) (v := (g ρ1).eraseIdx (rf x c ρ1)) ep k3 k4 (q2 _)
        refine ⟨y, _, .va (.py (t.enc y)), _, hf, ?_, rfl, gp.1, gp.2⟩
        rw [ev_pop, q0, Option.bind_some, k1, Option.bind_some]
        simp only
        rw [rr, Option.bind_some, q1, Option.bind_some]
        simp only [VT.enc, Ty.enc]
        rw [if_pos (okR_nat hle), List.length_map, ixN_nat, if_pos lt, Option.bind_some, List.getElem?_map, ey, erase_map] <;> rfl
      · cases e2
    · rename_i m t g m0 t0 g0 rf
      simp only [Option.map_eq_some_iff] at e
      obtain ⟨p, ep, rfl⟩ := e
      obtain ⟨x, ρ1, od, st1, hf, k1, k2, k3, k4⟩ := hA c ρ st R _ r0 h1 h2 hf
      rw [Option.bind_eq_some_iff] at hf
      obtain ⟨⟨y, ys⟩, e2, hf⟩ := hf
      obtain ⟨s0, hs0, hm0⟩ := lkp_ok el0 h2
      obtain ⟨s1, hs1, hm1⟩ := lkp_ok el k4
      obtain ⟨w0, q0, _⟩ := lst hc.2 hs0 hm0
      obtain ⟨w1, q1, q2⟩ := lst hc.1 hs1 hm1
      have rr := rdV_ok er k2 k3 k4
      unfold popO at e2
      split at e2
      · rename_i hle
        simp only [Option.bind_eq_some_iff, Option.map_eq_some_iff] at e2
        obtain ⟨j, ej, y', ey, e3⟩ := e2
        cases e3
        have gp := put2_ok (s := w1 ((VT.py (.lst t)).enc ((g ρ1).eraseIdx j))) (v := (g ρ1).eraseIdx j) ep k3 k4 (q2 _)
        refine ⟨y, _, .va (.py (t.enc y)), _, hf, ?_, rfl, gp.1, gp.2⟩
        rw [ev_pop, q0, Option.bind_some, k1, Option.bind_some]
        simp only
        rw [rr, Option.bind_some, q1, Option.bind_some]
        simp only [VT.enc, Ty.enc]
        rw [if_pos hle, List.length_map, ej, Option.bind_some, List.getElem?_map, ey, erase_map] <;> rfl
      · cases e2
    · cases e
  · cases e
theorem cm2_ok {o o' : Cm} {a b d : Ex} {A : EV Γ Δ} {B : EV Γ A.E} {ms : List Nat} {cC : (Γ Δ : Ctx) → Option (EV Γ Δ)} {Z : EV Γ Δ} (hA : EOk C a A) (hB : EOk C b B) (hC : ∀ Γ Δ A, cC Γ Δ = some A → EOk C d A) (e : cm2V o o' A B ms cC = some Z) : EOk C (.cm2 o o' a b d) Z := by
  intro c ρ st R k r h1 h2 hf
  unfold cm2V at e
  simp only [Option.bind_eq_some_iff] at e
  obtain ⟨S, eS, Cc, eC, ra, era, rb, erb, h, eh, h', eh', mm, emm, rb', erb', rc, erc, m, em, e⟩ := e
  split at e
  · rename_i g hg g' hg' eq1 eq2
    cases e
    obtain ⟨x, ρ1, oa, st1, hf, k1, k2, k3, k4⟩ := hA c ρ st R _ r h1 h2 hf
    obtain ⟨y, ρ2, ob, st2, hf, j1, j2, j3, j4⟩ := hB c ρ1 st1 R _ r k3 k4 hf
    rw [Option.bind_eq_some_iff] at hf
    obtain ⟨z, e3, hf⟩ := hf
    rw [Option.bind_eq_some_iff] at hf
    obtain ⟨p, e4, hf⟩ := hf
    obtain ⟨od, i1, i2⟩ := hg _ _ e3
    have i3 : (cmp o (ra.1.enc (ra.2 x c ρ2)) (rb.1.enc (rb.2 y c ρ2))).map ofB = some od := i1
    cases i2
    rw [Option.map_eq_some_iff] at i3
    obtain ⟨z0, i4, i5⟩ := i3
    have hz : z0 = z := by
      injection i5 with q
      injection q with q
      injection q with q
    subst hz
    obtain ⟨p1, p2⟩ := spl_ok eS j3 j4
    split at e4
    · rename_i hz
      obtain ⟨w, ρ3, oc, st3, e5, l1, l2, l3, l4⟩ := hC _ _ _ eC _ _ st2 _ _ p p1 p2 e4
      rw [Option.map_eq_some_iff] at e5
      obtain ⟨z1, e6, e7⟩ := e5
      subst e7
      obtain ⟨n1, n2⟩ := mrg_ok eS emm l3 l4
      obtain ⟨n3, n4⟩ := mrg_ok eS em l3 (coC_ok eh' _ _ l4)
      obtain ⟨u1, u2⟩ := up_pk (J := jnC S.D Cc.E) z1 (h' ρ3)
      rw [u1, u2] at hf
      obtain ⟨od', m1, m2⟩ := hg' _ _ e6
      have m3 : (cmp o' (rb'.1.enc (rb'.2 y c (mm.2 ρ2 ρ3))) (rc.1.enc (rc.2 w (S.f c ρ2) ρ3))).map ofB = some od' := m1
      cases m2
      rw [Option.map_eq_some_iff] at m3
      obtain ⟨z2, m4, m5⟩ := m3
      have hz2 : z2 = z1 := by
        injection m5 with q
        injection q with q
        injection q with q
      subst hz2
      refine ⟨z2, _, ofB z2, st3, hf, ?_, rfl, n3, n4⟩
      rw [ev_cm2, k1, Option.bind_some]
      simp only
      rw [j1, Option.bind_some]
      simp only
      rw [rdV_ok era k2 j3 j4, Option.bind_some, rdV_ok erb j2 j3 j4, Option.bind_some, i4, Option.bind_some, if_pos hz, l1, Option.bind_some]
      simp only
      rw [rdV_ok erb' j2 n1 n2, Option.bind_some, rdV_ok erc l2 l3 l4, Option.bind_some, m4] <;> rfl
    · rename_i hz
      cases e4
      obtain ⟨n3, n4⟩ := mrg_ok eS em p1 (coC_ok eh _ _ p2)
      obtain ⟨u1, u2⟩ := up_pk (J := jnC S.D Cc.E) false (h (S.g ρ2))
      rw [u1, u2] at hf
      refine ⟨false, _, ofB false, st2, hf, ?_, rfl, n3, n4⟩
      rw [ev_cm2, k1, Option.bind_some]
      simp only
      rw [j1, Option.bind_some]
      simp only
      rw [rdV_ok era k2 j3 j4, Option.bind_some, rdV_ok erb j2 j3 j4, Option.bind_some, i4, Option.bind_some, if_neg hz]
  · cases e
end
end Ta
end
section
/-! Ta8: the translation of expressions keeps the evaluator's word: calls, comprehensions, the whole. -/
namespace Ta
open PySem Mi
section
variable {Γ Δ : Ctx} {C : Ct}
theorem nthO_ok : ∀ {os : List (Ok × VT)} {j : Nat} {q : Σ q : Ok × VT, HL (os.map (·.2)) → q.2.den} {v : HL (os.map (·.2))} {ods : List Od}, nthO os j = some q → ODs os v ods → OdR q.1.1 (q.1.2.enc (q.2 v)) (ods.getD j (.pk 0))
  | [], _, _, _, _, e, _ => nomatch e
  | (o, t) :: os, 0, q, v, ods, e, ⟨od, l', el, h, hs⟩ => by
    cases e; subst el
    exact h
  | (o, t) :: os, j + 1, q, v, ods, e, ⟨od, l', el, h, hs⟩ => by
    simp only [nthO, Option.map_eq_some_iff] at e
    obtain ⟨q0, e0, rfl⟩ := e
    subst el
    exact nthO_ok (os := os) (j := j) (q := q0) (v := v.2) e0 hs
theorem argsV_ok {w : Bool} {os : List (Ok × VT)} {v : HL (os.map (·.2))} {ods : List Od} (h : ODs os v ods) : ∀ {perm : List Nat} {ts : List VT} {a : HL (os.map (·.2)) → HL ts}, argsV w os perm ts = some a →
    vals (perm.map fun j => ods.getD j (.pk 0)) = some (encs ts (a v)) ∧ (w = true → vas (perm.map fun j => ods.getD j (.pk 0)) = some (encs ts (a v)))
  | [], [], a, e => by cases e; exact ⟨rfl, fun _ => rfl⟩
  | j :: perm, t :: ts, a, e => by
    simp only [argsV, Option.bind_eq_some_iff] at e
    obtain ⟨q, eq, e⟩ := e
    by_cases hw : (if w = true then decide (q.1.1 = .va) else isVal q.1.1) = true
    · rw [if_pos hw] at e
      split at e
      · rename_i g eg
        simp only [Option.map_eq_some_iff] at e
        obtain ⟨r, er, rfl⟩ := e
        obtain ⟨k1, k2⟩ := argsV_ok h er
        have n := nthO_ok eq h
        have hv : isVal q.1.1 = true := by
          cases w with
          | true =>
            have : q.1.1 = .va := of_decide_eq_true hw
            rw [this] <;> rfl
          | false => exact hw
        refine ⟨?_, fun hw2 => ?_⟩
        · rw [List.map_cons, vals_cons, (n.val hv).1, Option.bind_some, k1]
          simp only [Option.map_some, encs, g.2]
        · subst hw2
          have : q.1.1 = .va := of_decide_eq_true hw
          rw [this] at n
          have n : ods.getD j (.pk 0) = .va _ := n
          rw [List.map_cons, n, vas_va, k2 rfl]
          simp only [Option.map_some, encs, g.2]
      · cases e
    · rw [if_neg hw] at e
      cases e
  | [], _ :: _, _, e => nomatch e
  | _ :: _, [], _, e => nomatch e
theorem kOk_od {k : Ok} {b : Bool} {d : D} (h : kOk k b) : OdR k d (if b = true then .fe d else .va d) := by
  cases k with
  | va => cases h; rfl
  | fe => cases h; rfl
  | vf =>
    cases b with
    | true => exact .inr rfl
    | false => exact .inl rfl
  | pk i => exact h.elim
theorem call_ok {s : Sig} {perm : List Nat} {es : Exs} {A : LV Γ Δ} {Z : EV Γ Δ} (hs : SigOk C s) (hA : LOk C es A) (e : callV s perm A = some Z) : EOk C (.cal s.nm perm es) Z := by
  intro c ρ st R kk r0 h1 h2 hf
  obtain ⟨nm, ts, io, k, rt, f⟩ := s
  cases io with
  | false =>
    simp only [callV, Option.map_eq_some_iff] at e
    obtain ⟨a, ea, rfl⟩ := e
    obtain ⟨x, ρ1, ods, st1, hf, k1, k2, k3, k4⟩ := hA c ρ st R _ r0 h1 h2 hf
    rw [Option.bind_eq_some_iff] at hf
    obtain ⟨r, e2, hf⟩ := hf
    obtain ⟨b, fin, j1, j2, j3⟩ := hs.ok _ _ e2
    refine ⟨r.1, ρ1, if b = true then .fe (rt.enc r.1) else .va (rt.enc r.1), st1, hf, ?_, kOk_od j2, k3, k4⟩
    rw [ev_cal, k1, Option.bind_some]
    simp only
    rw [call_pl hs.io, (argsV_ok k2 ea).1, Option.bind_some]
    have j1 : C.call nm (encs ts (a x)) = some (rt.enc r.1, b, fin) := j1
    rw [j1] <;> rfl
  | true =>
    cases ts with
    | nil => simp [callV] at e
    | cons t ts =>
      simp only [callV] at e
      split at e
      · rename_i _ j perm
        simp only [Option.bind_eq_some_iff] at e
        obtain ⟨q, eq, e⟩ := e
        split at e
        · rename_i i hi
          simp only [Option.bind_eq_some_iff] at e
          obtain ⟨l, el, e⟩ := e
          split at e
          · rename_i hm
            split at e
            · rename_i g eg
              simp only [Option.bind_eq_some_iff, Option.map_eq_some_iff] at e
              obtain ⟨a, ea, p, ep, rfl⟩ := e
              obtain ⟨x, ρ1, ods, st1, hf, k1, k2, k3, k4⟩ := hA c ρ st R _ r0 h1 h2 hf
              rw [Option.bind_eq_some_iff] at hf
              obtain ⟨r, e2, hf⟩ := hf
              have n := nthO_ok eq k2
              rw [hi] at n
              have n : ods.getD j (.pk 0) = .pk i := n
              obtain ⟨s, hs1, hm1⟩ := lkp_ok el k4
              obtain ⟨b, fin, j1, j2, j3⟩ := hs.ok _ _ e2
              have j3 : fin = t.enc r.2 := j3
              have j1 : C.call nm (t.enc (g.1 (l.2 ρ1)) :: encs ts (a x)) = some (rt.enc r.1, b, fin) := j1
              rw [g.2] at j1
              rw [Bool.or_eq_true, decide_eq_true_eq, decide_eq_true_eq] at hm
              have va := (argsV_ok k2 ea).1
              rcases hm with hm | hm
              · rw [hm] at hm1
                cases hm1
                obtain ⟨g1, g2⟩ := put2_ok (s := .ow fin) (v := r.2) ep k3 k4 (by rw [hm, j3] <;> rfl)
                refine ⟨r.1, p.2 ρ1 r.2, if b = true then .fe (rt.enc r.1) else .va (rt.enc r.1), _, hf, ?_, kOk_od j2, g1, g2⟩
                rw [ev_cal, k1, Option.bind_some]
                unfold callE
                simp only
                rw [if_pos hs.io, List.map_cons, n]
                simp only [hs1]
                rw [va, Option.bind_some, j1] <;> rfl
              · rw [hm] at hm1
                cases hm1
                obtain ⟨g1, g2⟩ := put2_ok (s := .bo fin) (v := r.2) ep k3 k4 (by rw [hm, j3] <;> rfl)
                refine ⟨r.1, p.2 ρ1 r.2, if b = true then .fe (rt.enc r.1) else .va (rt.enc r.1), _, hf, ?_, kOk_od j2, g1, g2⟩
                rw [ev_cal, k1, Option.bind_some]
                unfold callE
                simp only
                rw [if_pos hs.io, List.map_cons, n]
                simp only [hs1]
                rw [va, Option.bind_some, j1] <;> rfl
            · cases e
          · cases e
        · rename_i hfe
          split at e
          · rename_i g eg
            simp only [Option.map_eq_some_iff] at e
            obtain ⟨a, ea, rfl⟩ := e
            obtain ⟨x, ρ1, ods, st1, hf, k1, k2, k3, k4⟩ := hA c ρ st R _ r0 h1 h2 hf
            rw [Option.bind_eq_some_iff] at hf
            obtain ⟨r, e2, hf⟩ := hf
            have n := nthO_ok eq k2
            rw [hfe] at n
            have n : ods.getD j (.pk 0) = .fe (q.1.2.enc (q.2 x)) := n
            obtain ⟨b, fin, j1, j2, j3⟩ := hs.ok _ _ e2
            have j1 : C.call nm (t.enc (g.1 (q.2 x)) :: encs ts (a x)) = some (rt.enc r.1, b, fin) := j1
            rw [g.2] at j1
            refine ⟨r.1, ρ1, if b = true then .fe (rt.enc r.1) else .va (rt.enc r.1), st1, hf, ?_, kOk_od j2, k3, k4⟩
            rw [ev_cal, k1, Option.bind_some]
            unfold callE
            simp only
            rw [if_pos hs.io, List.map_cons, n]
            simp only
            rw [(argsV_ok k2 ea).2 rfl, Option.bind_some, j1] <;> rfl
          · cases e
        · cases e
      · cases e
theorem callS_ok {S : Sgs} {f : Str} {perm : List Nat} {es : Exs} {A : LV Γ Δ} {Z : EV Γ Δ} (hS : ∀ f perm os, ∀ s ∈ S f perm os, SigOk C s) (hA : LOk C es A) (e : callS S f perm A = some Z) : EOk C (.cal f perm es) Z := by
  unfold callS at e
  obtain ⟨s, hs, e⟩ := List.exists_of_findSome?_eq_some e
  split at e
  · rename_i hn
    rw [← hn]
    exact call_ok (hS _ _ _ s hs) hA e
  · cases e
theorem bindTup_ok {c : HEnv Γ} : ∀ {Δ : Ctx} {tg : List Nat} {t : Ty} {q : Σ E : Ctx, HEnv Δ → t.den → HEnv E} {ρ : HEnv Δ} {v : t.den} {st : En}, bindTup Γ Δ tg t = some q → EnvR Γ c st → EnvR Δ ρ st →
    t.isTup = true ∧ tupLen t = tg.length ∧ EnvR Γ c ((tg.zip (t.its v)).foldl (fun s q => s.set q.1 (.fr (.py q.2))) st) ∧ EnvR q.1 (q.2 ρ v) ((tg.zip (t.its v)).foldl (fun s q => s.set q.1 (.fr (.py q.2))) st)
  | Δ, [], .tn, q, ρ, v, st, e, h1, h2 => by
    cases e
    exact ⟨rfl, rfl, h1, h2⟩
  | Δ, i :: is, .tc a r, q, ρ, v, st, e, h1, h2 => by
    simp only [bindTup, Option.bind_eq_some_iff, Option.map_eq_some_iff] at e
    obtain ⟨p, ep, q0, eq, rfl⟩ := e
    obtain ⟨g1, g2⟩ := put2_ok (t := .py a) (s := .fr (.py (a.enc v.1))) (v := v.1) ep h1 h2 rfl
    obtain ⟨k1, k2, k3, k4⟩ := bindTup_ok (v := v.2) eq g1 g2
    refine ⟨k1, congrArg Nat.succ k2, ?_⟩
    rw [show (Ty.tc a r).its v = a.enc v.1 :: r.its v.2 from its_tc (a := a) (r := r) k1 v.1 v.2, List.zip_cons_cons, List.foldl_cons]
    exact ⟨k3, k4⟩
  | _, [], .tc _ _, _, _, _, _, e, _, _ => nomatch e
  | _, _ :: _, .tn, _, _, _, _, e, _, _ => nomatch e
  | _, [], .nev, _, _, _, _, e, _, _ => nomatch e
  | _, [], .any, _, _, _, _, e, _, _ => nomatch e
  | _, [], .nat, _, _, _, _, e, _, _ => nomatch e
  | _, [], .int, _, _, _, _, e, _, _ => nomatch e
  | _, [], .bool, _, _, _, _, e, _, _ => nomatch e
  | _, [], .str, _, _, _, _, e, _, _ => nomatch e
  | _, [], .non, _, _, _, _, e, _, _ => nomatch e
  | _, [], .lst _, _, _, _, _, e, _, _ => nomatch e
  | _, [], .htp _, _, _, _, _, e, _, _ => nomatch e
  | _, [], .opt _, _, _, _, _, e, _, _ => nomatch e
  | _, _ :: _, .nev, _, _, _, _, e, _, _ => nomatch e
  | _, _ :: _, .any, _, _, _, _, e, _, _ => nomatch e
  | _, _ :: _, .nat, _, _, _, _, e, _, _ => nomatch e
  | _, _ :: _, .int, _, _, _, _, e, _, _ => nomatch e
  | _, _ :: _, .bool, _, _, _, _, e, _, _ => nomatch e
  | _, _ :: _, .str, _, _, _, _, e, _, _ => nomatch e
  | _, _ :: _, .non, _, _, _, _, e, _, _ => nomatch e
  | _, _ :: _, .lst _, _, _, _, _, e, _, _ => nomatch e
  | _, _ :: _, .htp _, _, _, _, _, e, _, _ => nomatch e
  | _, _ :: _, .opt _, _, _, _, _, e, _, _ => nomatch e
theorem tcN_tup (u : Ty) : ∀ n : Nat, (tcN u n).isTup = true
  | 0 => rfl
  | n + 1 => tcN_tup u n
theorem unL_ok {u : Ty} : ∀ {n : Nat} {xs : List u.den} {y : (tcN u n).den}, unL u n xs = some y → (tcN u n).its y = xs.map u.enc ∧ xs.length = n
  | 0, [], y, e => by cases e; exact ⟨rfl, rfl⟩
  | n + 1, x :: xs, y, e => by
    have e' : ∃ z, unL u n xs = some z ∧ ((x, z) : u.den × (tcN u n).den) = y := by
      cases ez : unL u n xs with
      | none =>
        have h : unL u (n + 1) (x :: xs) = none := by
          show (unL u n xs).map _ = _
          rw [ez] <;> rfl
        rw [h] at e
        cases e
      | some z =>
        have h : unL u (n + 1) (x :: xs) = some (x, z) := by
          show (unL u n xs).map _ = _
          rw [ez] <;> rfl
        rw [h] at e
        exact ⟨z, rfl, Option.some.inj e⟩
    obtain ⟨z, ez, rfl⟩ := e'
    obtain ⟨k1, k2⟩ := unL_ok ez
    refine ⟨?_, congrArg Nat.succ k2⟩
    show (Ty.tc u (tcN u n)).its (x, z) = _
    rw [its_tc (tcN_tup u n), k1] <;> rfl
  | 0, _ :: _, _, e => nomatch e
  | _ + 1, [], _, e => nomatch e
theorem bindT_T {tg : List Nat} {xs : List PyData} {st : En} (h : xs.length = tg.length) : bindT tg false (.tuple xs) st = some ((tg.zip xs).foldl (fun s q => s.set q.1 (.fr (.py q.2))) st) := by
  unfold bindT
  simp only [Bool.false_eq_true, if_false]
  rw [if_pos h]
theorem bindT_L {tg : List Nat} {xs : List PyData} {st : En} (h : xs.length = tg.length) : bindT tg false (.list xs) st = some ((tg.zip xs).foldl (fun s q => s.set q.1 (.fr (.py q.2))) st) := by
  unfold bindT
  simp only [Bool.false_eq_true, if_false]
  rw [if_pos h]
theorem bindV_ok {tg : List Nat} {one : Bool} {t : Ty} {q : Σ E : Ctx, HEnv Δ → t.den → Option (HEnv E)} {c : HEnv Γ} {ρ : HEnv Δ} {v : t.den} {ρ' : HEnv q.1} {st : En} (e : bindV Γ Δ tg one t = some q) (h1 : EnvR Γ c st) (h2 : EnvR Δ ρ st) (hf : q.2 ρ v = some ρ') :
    ∃ st', bindT tg one (t.enc v) st = some st' ∧ EnvR Γ c st' ∧ EnvR q.1 ρ' st' := by
  unfold bindV at e
  split at e
  · rename_i ho
    subst ho
    split at e
    · rename_i i
      simp only [Option.map_eq_some_iff] at e
      obtain ⟨p, ep, rfl⟩ := e
      cases hf
      exact ⟨_, bind_one, put2_ok (t := .py t) (s := .fr (.py (t.enc v))) (v := v) ep h1 h2 rfl⟩
    · cases e
  · rename_i ho
    have ho : one = false := by simpa using ho
    subst ho
    split at e
    · rename_i u
      simp only [Option.map_eq_some_iff] at e
      obtain ⟨p, ep, rfl⟩ := e
      simp only [Option.map_eq_some_iff] at hf
      obtain ⟨y, ey, rfl⟩ := hf
      obtain ⟨k1, k2, k3, k4⟩ := bindTup_ok (v := y) ep h1 h2
      obtain ⟨j1, j2⟩ := unL_ok ey
      rw [j1] at k3 k4
      exact ⟨_, bindT_T (by rw [List.length_map]; exact j2), k3, k4⟩
    · rename_i u
      simp only [Option.map_eq_some_iff] at e
      obtain ⟨p, ep, rfl⟩ := e
      simp only [Option.map_eq_some_iff] at hf
      obtain ⟨y, ey, rfl⟩ := hf
      obtain ⟨k1, k2, k3, k4⟩ := bindTup_ok (v := y) ep h1 h2
      obtain ⟨j1, j2⟩ := unL_ok ey
      rw [j1] at k3 k4
      exact ⟨_, bindT_L (by rw [List.length_map]; exact j2), k3, k4⟩
    · simp only [Option.map_eq_some_iff] at e
      obtain ⟨p, ep, rfl⟩ := e
      simp only [Option.bind_eq_some_iff, Option.map_eq_some_iff] at hf
      obtain ⟨xs, ex, y, ey, rfl⟩ := hf
      obtain ⟨k1, k2, k3, k4⟩ := bindTup_ok (v := y) ep h1 h2
      obtain ⟨j1, j2⟩ := unL_ok ey
      have j1 : (tcN .any tg.length).its y = xs := by rw [j1]; exact List.map_id _
      rw [j1] at k3 k4
      have v' : PyData := v
      unfold anyIts at ex
      split at ex
      · rename_i p' xs'
        cases ex
        exact ⟨_, bindT_T j2, k3, k4⟩
      · rename_i p' xs'
        cases ex
        exact ⟨_, bindT_L j2, k3, k4⟩
      · cases ex
    · simp only [Option.map_eq_some_iff] at e
      obtain ⟨p, ep, rfl⟩ := e
      cases hf
      obtain ⟨k1, k2, k3, k4⟩ := bindTup_ok (v := v) ep h1 h2
      rw [enc_tup v k1]
      exact ⟨_, bindT_T (by rw [its_len v k1]; exact k2), k3, k4⟩
theorem clrs_ok {c : HEnv Γ} : ∀ {is : List Nat} {Δ : Ctx} {q : Σ E : Ctx, HEnv Δ → HEnv E} {ρ : HEnv Δ} {st : En}, clrs Γ Δ is = some q → EnvR Γ c st → EnvR Δ ρ st → EnvR Γ c (wipe st is) ∧ EnvR q.1 (q.2 ρ) (wipe st is)
  | [], Δ, q, ρ, st, e, h1, h2 => by cases e; exact ⟨h1, h2⟩
  | i :: is, Δ, q, ρ, st, e, h1, h2 => by
    simp only [clrs, Option.bind_eq_some_iff] at e
    obtain ⟨q0, e0, e⟩ := e
    split at e
    · rename_i hf
      simp only [Option.map_eq_some_iff] at e
      obtain ⟨p, ep, rfl⟩ := e
      obtain ⟨k1, k2⟩ := clrs_ok e0 h1 h2
      exact ⟨free_ok hf k1, clr_ok (b := true) (s := .no) (fun _ => rfl) (Γ := q0.1) (q := p) (ρ := q0.2 ρ) ep k2⟩
    · cases e
theorem back_ok {c : HEnv Γ} {st0 : En} : ∀ {is : List Nat} {Δ : Ctx} {q : Σ E : Ctx, HEnv Δ → HEnv E} {ρ : HEnv Δ} {st : En}, clrs Γ Δ is = some q → (∀ i ∈ is, calmSl (st0.getD i .no) = true) → EnvR Γ c st → EnvR Δ ρ st → EnvR Γ c (back st0 st is) ∧ EnvR q.1 (q.2 ρ) (back st0 st is)
  | [], Δ, q, ρ, st, e, hc, h1, h2 => by cases e; exact ⟨h1, h2⟩
  | i :: is, Δ, q, ρ, st, e, hc, h1, h2 => by
    simp only [clrs, Option.bind_eq_some_iff] at e
    obtain ⟨q0, e0, e⟩ := e
    split at e
    · rename_i hf
      simp only [Option.map_eq_some_iff] at e
      obtain ⟨p, ep, rfl⟩ := e
      obtain ⟨k1, k2⟩ := back_ok (st0 := st0) e0 (fun j hj => hc j (List.mem_cons_of_mem _ hj)) h1 h2
      exact ⟨free_ok hf k1, clr_ok (b := true) (fun _ => hc i (List.mem_cons_self ..)) (Γ := q0.1) (q := p) (ρ := q0.2 ρ) ep k2⟩
    · cases e
theorem calmB_ok : ∀ {Δ : Ctx} {ρ : HEnv Δ} {st : En} {i : Nat}, EnvR Δ ρ st → calmB (Δ.getD i .dead) = true → calmSl (st.getD i .no) = true
  | [], ρ, st, i, h, hc => nomatch hc
  | .dead :: Δ, ρ, st, 0, ⟨s, st', e, h⟩, hc => nomatch hc
  | .calm :: Δ, ρ, st, 0, ⟨s, st', e, h, h2⟩, hc => by subst e; exact h
  | .has m t :: Δ, ρ, st, 0, ⟨s, st', e, h, h2⟩, hc => by
    subst e
    cases m with
    | fr => cases h; rfl
    | _ => cases hc
  | .dead :: Δ, ρ, st, i + 1, ⟨s, st', e, h⟩, hc => by subst e; exact calmB_ok (Δ := Δ) (i := i) h hc
  | .calm :: Δ, ρ, st, i + 1, ⟨s, st', e, _, h⟩, hc => by subst e; exact calmB_ok (Δ := Δ) (i := i) h hc
  | .has m t :: Δ, ρ, st, i + 1, ⟨s, st', e, _, h⟩, hc => by subst e; exact calmB_ok (Δ := Δ) (i := i) h hc
theorem calmA_ok {Δ : Ctx} {ρ : HEnv Δ} {st : En} {is : List Nat} (h : EnvR Δ ρ st) (hc : is.all (fun i => calmB (Δ.getD i .dead)) = true) : (is.all fun i => calmSl (st.getD i .no)) = true ∧ ∀ i ∈ is, calmSl (st.getD i .no) = true := by
  have : ∀ i ∈ is, calmSl (st.getD i .no) = true := fun i hi => calmB_ok h (List.all_eq_true.mp hc i hi)
  exact ⟨List.all_eq_true.mpr this, this⟩
/-- a turn in the evaluator -/
def turnE (C : Ct) (own tg : List Nat) (one : Bool) (cc : T) (e : Ex) (x : PyData) (acc : List PyData) (s : En) : Option (List PyData × En) := (bindT tg one x s).bind fun s1 => (evT C cc s1).bind fun qc => if qc.1 then (evE C e qc.2).bind fun qe => qe.1.val.bind fun d => d.pyd.bind fun p =>
        if acc.length < lim then some (acc ++ [p], wipe qe.2 own) else none else some (acc, wipe qc.2 own)
theorem turn_ok {D : Ctx} {t : Ty} {own tg : List Nat} {one yes : Bool} {cc : T} {e : Ex} {cT : (Γ Δ : Ctx) → Option (TV Γ Δ)} {cE : (Γ Δ : Ctx) → Option (EV Γ Δ)} {Z : TurnV Γ D t} (hT : ∀ Γ Δ A, cT Γ Δ = some A → TOk C cc A) (hE : ∀ Γ Δ A, cE Γ Δ = some A → EOk C e A)
    (h : turnLC Γ D t own tg one yes cT cE = some Z) {c : HEnv Γ} {ρ : HEnv D} {x : t.den} {R : Type} {k : Option Z.u.den → HEnv Z.E → Option R} {r : R} {st : En} (h1 : EnvR Γ c st) (h2 : EnvR D ρ st) (hf : Z.f c ρ x R k = some r) :
    ∃ v ρ' st', k v ρ' = some r ∧ (∀ acc : List PyData, acc.length < lim → turnE C own tg one cc e (t.enc x) acc st = some (acc ++ (v.toList.map Z.u.enc), st')) ∧ EnvR Γ c st' ∧ EnvR Z.E ρ' st' := by
  unfold turnLC at h
  simp only [Option.bind_eq_some_iff] at h
  obtain ⟨b, eb, cv, ec, ev, ee, h⟩ := h
  split at h
  · rename_i hv
    split at h
    · rename_i o u E ef
      simp only [Option.bind_eq_some_iff] at h
      obtain ⟨k1, ek1, k2, ek2, h⟩ := h
      split at h
      · rename_i g eg
        cases h
        rw [Option.bind_eq_some_iff] at hf
        obtain ⟨ρ1, e1, hf⟩ := hf
        obtain ⟨s1, j1, j2, j3⟩ := bindV_ok eb h1 h2 e1
        obtain ⟨bb, ρ2, s2, hf, i1, i2, i3⟩ := hT _ _ _ ec c ρ1 s1 R _ r j2 j3 hf
        split at hf
        · rename_i hb
          obtain ⟨y, ρ3, od, s3, hf, l1, l2, l3, l4⟩ := hE _ _ _ ee c ρ2 s2 R _ r i2 i3 hf
          obtain ⟨w1, w2⟩ := clrs_ok ek1 l3 l4
          refine ⟨some y, k1.2 ρ3, _, hf, fun acc hacc => ?_, w1, w2⟩
          unfold turnE
          rw [j1, Option.bind_some, i1, Option.bind_some]
          simp only at hb ⊢
          rw [if_pos hb, l1, Option.bind_some]
          simp only
          rw [(l2.val hv).1, Option.bind_some]
          show (if acc.length < lim then _ else none) = _
          rw [if_pos hacc] <;> rfl
        · rename_i hb
          obtain ⟨w1, w2⟩ := clrs_ok ek2 i2 i3
          refine ⟨none, g (k2.2 ρ2), _, hf, fun acc hacc => ?_, w1, coC_ok eg _ _ w2⟩
          unfold turnE
          rw [j1, Option.bind_some, i1, Option.bind_some]
          simp only at hb ⊢
          rw [if_neg hb]
          simp
      · cases h
    · cases h
  · cases h
theorem lcS_ok {G D : Ctx} {t u : Ty} {F : PyData → List PyData → En → Option (List PyData × En)} {f : t.den → HEnv D → Option (Option u.den × HEnv D)} {c : HEnv G}
    (hF : ∀ x s r s' st, f x s = some (r, s') → EnvR G c st → EnvR D s st → ∃ st', (∀ acc : List PyData, acc.length < lim → F (t.enc x) acc st = some (acc ++ (r.toList.map u.enc), st')) ∧ EnvR G c st' ∧ EnvR D s' st') :
    ∀ (xs : List t.den) (s : HEnv D) (r : List u.den) (s' : HEnv D) (acc : List PyData) (st : En), acc.length + xs.length ≤ lim → lcS f xs s = some (r, s') → EnvR G c st → EnvR D s st → ∃ st', lcL F (xs.map t.enc) acc st = some (acc ++ r.map u.enc, st') ∧ EnvR G c st' ∧ EnvR D s' st'
  | [], s, r, s', acc, st, hl, e, h1, h2 => by
    cases e
    exact ⟨st, by simp [lcL], h1, h2⟩
  | x :: xs, s, r, s', acc, st, hl, e, h1, h2 => by
    rw [List.length_cons] at hl
    simp only [lcS, Option.bind_eq_some_iff, Option.map_eq_some_iff] at e
    obtain ⟨⟨q, s1⟩, e1, ⟨r1, s2⟩, e2, e3⟩ := e
    cases e3
    obtain ⟨st1, k1, k2, k3⟩ := hF x s q s1 st e1 h1 h2
    have ql : q.toList.length ≤ 1 := by cases q <;> simp
    obtain ⟨st2, j1, j2, j3⟩ := lcS_ok hF xs s1 r1 s2 (acc ++ q.toList.map u.enc) st1 (by rw [List.length_append, List.length_map]; omega) e2 k2 k3
    refine ⟨st2, ?_, j2, j3⟩
    rw [List.map_cons, lcL, k1 acc (by omega), Option.bind_some]
    simp only
    rw [j1]
    simp
theorem lcP_S {α β σ : Type} (u : σ) {f : α → Option (Option β)} : ∀ (xs : List α) {r : List β}, lcP f xs = some r → lcS (fun x (_ : σ) => (f x).map fun q => (q, u)) xs u = some (r, u)
  | [], r, e => by cases e; rfl
  | x :: xs, r, e => by
    simp only [lcP, Option.bind_eq_some_iff, Option.map_eq_some_iff] at e
    obtain ⟨q, e1, r1, e2, rfl⟩ := e
    simp only [lcS, e1, Option.map_some, Option.bind_some, lcP_S u xs e2]
theorem lc_ok {ms own tg : List Nat} {one yes : Bool} {it : I} {cc : T} {e : Ex} {Iv : IV Γ Δ} {cT : (Γ Δ : Ctx) → Option (TV Γ Δ)} {cE : (Γ Δ : Ctx) → Option (EV Γ Δ)} {Z : EV Γ Δ} (hI : IOk C it Iv) (hT : ∀ Γ Δ A, cT Γ Δ = some A → TOk C cc A) (hE : ∀ Γ Δ A, cE Γ Δ = some A → EOk C e A)
    (h : lcV ms own tg one yes Iv cT cE = some Z) : EOk C (.lc own tg one it cc e) Z := by
  intro c ρ st R k r h1 h2 hf
  unfold lcV at h
  split at h
  · rename_i hc
    simp only [Option.bind_eq_some_iff] at h
    obtain ⟨w, ew, S, eS, h⟩ := h
    generalize fixC _ 4 S.D = D at h
    unfold lcD at h
    simp only [Option.bind_eq_some_iff, Option.map_eq_some_iff] at h
    obtain ⟨g0, eg0, T, eT, g1, eg1, m, em, z, ez, rfl⟩ := h
    obtain ⟨xs, ρ1, st1, hf, k1, k2, k3⟩ := hI c ρ st R _ r h1 h2 hf
    obtain ⟨c1, c2⟩ := calmA_ok k3 hc
    obtain ⟨w1, w2⟩ := clrs_ok ew k2 k3
    obtain ⟨p1, p2⟩ := spl_ok eS w1 w2
    have p3 := coC_ok eg0 _ _ p2
    have hF : ∀ x s r s' st', T.f (S.f c (w.2 ρ1)) s x _ (fun v s' => some (v, g1 s')) = some (r, s') → EnvR S.G (S.f c (w.2 ρ1)) st' → EnvR D s st' → ∃ st'', (∀ acc : List PyData, acc.length < lim → turnE C own tg one cc e (Iv.t.enc x) acc st' = some (acc ++ (r.toList.map T.u.enc), st'')) ∧ EnvR S.G (S.f c (w.2 ρ1)) st'' ∧ EnvR D s' st'' := fun x s r s' st' he q1 q2 => by
      obtain ⟨v, ρ', st'', e3, a1, a2, a3⟩ := turn_ok hT hE eT q1 q2 he
      cases e3
      exact ⟨st'', a1, a2, coC_ok eg1 _ _ a3⟩
    have fin : ∀ (r : List T.u.den) (s' : HEnv D), xs.length ≤ lim → lcS (fun x s => T.f (S.f c (w.2 ρ1)) s x _ (fun v s' => some (v, g1 s'))) xs (g0 (S.g (w.2 ρ1))) = some (r, s') →
        ∃ od st', evE C (.lc own tg one it cc e) st = some (od, st') ∧ OdR .fe ((VT.py (.lst T.u)).enc r) od ∧ EnvR Γ c st' ∧ EnvR z.1 (z.2 (m.2 (w.2 ρ1) s')) st' := fun r s' hl he => by
      obtain ⟨st2, a1, a2, a3⟩ := lcS_ok (F := turnE C own tg one cc e) hF xs _ r s' [] _ (by simpa using hl) he p1 p3
      obtain ⟨b1, b2⟩ := mrg_ok eS em a2 a3
      obtain ⟨d1, d2⟩ := back_ok (st0 := st1) ez c2 b1 b2
      refine ⟨.fe (.py (.list (r.map T.u.enc))), _, ?_, rfl, d1, d2⟩
      rw [ev_lc, k1, Option.bind_some]
      simp only
      rw [if_pos c1]
      have a1 : lcL (fun x acc s => (bindT tg one x s).bind fun s1 => (evT C cc s1).bind fun qc => if qc.1 then (evE C e qc.2).bind fun qe => qe.1.val.bind fun d => d.pyd.bind fun p =>
        if acc.length < lim then some (acc ++ [p], wipe qe.2 own) else none else some (acc, wipe qc.2 own)) (xs.map Iv.t.enc) [] (wipe st1 own) = some ([] ++ r.map T.u.enc, st2) := a1
      rw [a1] <;> rfl
    split at hf
    · rename_i hn
      rw [Option.bind_eq_some_iff] at hf
      obtain ⟨r1, e2, hf⟩ := hf
      unfold lcPO at e2
      split at e2
      · rename_i hl
        have uq : ∀ τ : HEnv D, τ = unitE D hn := fun τ => noHas_uniq hn τ
        have hF2 : ∀ x s r s' st', ((T.f (S.f c (w.2 ρ1)) (unitE D hn) x _ (fun v _ => some v)).map fun q => (q, unitE D hn)) = some (r, s') → EnvR S.G (S.f c (w.2 ρ1)) st' → EnvR D s st' → ∃ st'', (∀ acc : List PyData, acc.length < lim → turnE C own tg one cc e (Iv.t.enc x) acc st' = some (acc ++ (r.toList.map T.u.enc), st'')) ∧ EnvR S.G (S.f c (w.2 ρ1)) st'' ∧ EnvR D s' st'' := fun x s r s' st' he q1 q2 => by
          rw [Option.map_eq_some_iff] at he
          obtain ⟨q, he, e3⟩ := he
          rw [uq s] at q2
          obtain ⟨v, ρ', st'', e4, a1, a2, a3⟩ := turn_ok hT hE eT q1 q2 he
          cases e4
          cases e3
          exact ⟨st'', a1, a2, by rw [← uq (g1 ρ')]; exact coC_ok eg1 _ _ a3⟩
        have l2 := lcP_S (unitE D hn) xs e2
        rw [uq (g0 _)] at p3
        obtain ⟨st2, a1, a2, a3⟩ := lcS_ok (F := turnE C own tg one cc e) hF2 xs _ r1 _ [] _ (by simpa using hl) l2 p1 p3
        obtain ⟨b1, b2⟩ := mrg_ok eS em a2 a3
        obtain ⟨d1, d2⟩ := back_ok (st0 := st1) ez c2 b1 b2
        refine ⟨r1, _, .fe (.py (.list (r1.map T.u.enc))), _, hf, ?_, rfl, d1, d2⟩
        rw [ev_lc, k1, Option.bind_some]
        simp only
        rw [if_pos c1]
        have a1 : lcL (fun x acc s => (bindT tg one x s).bind fun s1 => (evT C cc s1).bind fun qc => if qc.1 then (evE C e qc.2).bind fun qe => qe.1.val.bind fun d => d.pyd.bind fun p =>
          if acc.length < lim then some (acc ++ [p], wipe qe.2 own) else none else some (acc, wipe qc.2 own)) (xs.map Iv.t.enc) [] (wipe st1 own) = some ([] ++ r1.map T.u.enc, st2) := a1
        rw [a1] <;> rfl
      · cases e2
    · rename_i hn
      rw [Option.bind_eq_some_iff] at hf
      obtain ⟨⟨r1, s'⟩, e2, hf⟩ := hf
      unfold lcSO at e2
      split at e2
      · rename_i hl
        obtain ⟨od, st', f1, f2, f3, f4⟩ := fin _ s' hl e2
        exact ⟨r1, _, od, st', hf, f1, f2, f3, f4⟩
      · cases e2
  · cases h
theorem fc_ok {S : Sgs} {own : List Nat} {os : Exs} {ev : (Γ Δ : Ctx) → Option (LV Γ Δ)} (hS : ∀ f perm os, ∀ s ∈ S f perm os, SigOk C s) (hL : ∀ Γ Δ A, ev Γ Δ = some A → LOk C os A) {c : HEnv Γ} : ∀ {fs : List (Str × List Nat)} {Δ : Ctx} {Z : Σ u : Ty, Σ E : Ctx, HEnv Γ → HEnv Δ → KV (List u.den) (HEnv E)}
    {ρ : HEnv Δ} {R : Type} {k : List Z.1.den → HEnv Z.2.1 → Option R} {r : R} {acc : List PyData} {st : En}, acc.length + fs.length ≤ lim → fcV S own Δ fs ev = some Z → EnvR Γ c st → EnvR Δ ρ st → Z.2.2 c ρ R k = some r →
    ∃ v ρ' st', k v ρ' = some r ∧ fcL (fun s => evs C os s) (callE C) own fs acc st = some (acc ++ v.map Z.1.enc, st') ∧ EnvR Γ c st' ∧ EnvR Z.2.1 ρ' st'
  | [], Δ, Z, ρ, R, k, r, acc, st, hl, e, h1, h2, hf => by
    cases e
    exact ⟨[], ρ, st, hf, by simp [fcL], h1, h2⟩
  | f :: fs, Δ, Z, ρ, R, k, r, acc, st, hl, e, h1, h2, hf => by
    rw [List.length_cons] at hl
    simp only [fcV, Option.bind_eq_some_iff] at e
    obtain ⟨A, eA, ev0, eE, e⟩ := e
    split at e
    · rename_i hv
      split at e
      · rename_i o t E ef
        simp only [Option.bind_eq_some_iff, Option.map_eq_some_iff] at e
        obtain ⟨kk, ek, r0, er, g, eg, g', eg', rfl⟩ := e
        obtain ⟨y, ρ1, od, st1, hf, i1, i2, i3, i4⟩ := callS_ok hS (hL _ _ _ eA) eE c ρ st R _ r h1 h2 hf
        obtain ⟨w1, w2⟩ := clrs_ok ek i3 i4
        obtain ⟨z, ρ2, st2, hf, j1, j2, j3⟩ := fc_ok (acc := acc ++ [t.enc y]) hS hL (by rw [List.length_append]; simp; omega) er w1 w2 hf
        refine ⟨_, ρ2, st2, hf, ?_, j2, j3⟩
        rw [ev_cal, Option.bind_eq_some_iff] at i1
        obtain ⟨q, i1, i5⟩ := i1
        rw [fcL, i1, Option.bind_some, i5, Option.bind_some]
        simp only
        rw [(i2.val hv).1, Option.bind_some]
        show (if acc.length < lim then fcL _ _ own fs (acc ++ [t.enc y]) _ else none) = _
        rw [if_pos (by omega), j1]
        simp only [List.map_cons, co_enc eg, List.map_map]
        have : z.map ((Ty.enc (jn t r0.1)) ∘ g') = z.map r0.1.enc := List.map_congr_left fun x _ => co_enc eg' x
        rw [this]
        simp
      · cases e
    · cases e
end
end Ta
end
section
/-! Ta9: the translation of expressions keeps the evaluator's word. -/
namespace Ta
open PySem Mi
section
variable {C : Ct} {S : Sgs} {gl : Str → Option PyData}
theorem lit_ok {Γ Δ : Ctx} {p : PyData} {q : Σ t : Ty, t.den} (e : litT p = some q) : EOk C (.lit p) (⟨.va, .py q.1, Δ, fun _ ρ R k => k q.2 ρ⟩ : EV Γ Δ) := by
  intro c ρ st R k r h1 h2 hf
  exact ⟨q.2, ρ, .va (.py p), st, hf, rfl, by rw [← litT_ok e] <;> rfl, h1, h2⟩
theorem glo_ok {Γ Δ : Ctx} {x : Str} {p : PyData} {q : Σ t : Ty, t.den} (hg : C.glo x = some p) (e : litT p = some q) : EOk C (.glo x) (⟨.va, .py q.1, Δ, fun _ ρ R k => k q.2 ρ⟩ : EV Γ Δ) := by
  intro c ρ st R k r h1 h2 hf
  refine ⟨q.2, ρ, .va (.py p), st, hf, ?_, by rw [← litT_ok e] <;> rfl, h1, h2⟩
  rw [ev_glo, hg] <;> rfl
theorem opR_ok {Γ Δ : Ctx} {o : O2} {a b : Ex} {k : Nat} {A R : EV Γ Δ} (hk : litN b = some k) (hA : EOk C a A) (e : unV A _ (fun t => opRT o t k) = some R) : EOk C (.op o a b) R :=
  un_ok hA e fun st st' od d od2 e1 e2 e3 => op_ev e1 (litN_ok hk st') e2 rfl e3
theorem opL_ok {Γ Δ : Ctx} {o : O2} {a b : Ex} {k : Nat} {A R : EV Γ Δ} (hk : litN a = some k) (hA : EOk C b A) (e : unV A _ (fun t => opLT o t k) = some R) : EOk C (.op o a b) R :=
  un_ok hA e fun st st' od d od2 e1 e2 e3 => op_ev (litN_ok hk st) e1 rfl e2 e3
theorem ixP_ok {Γ Δ : Ctx} {a b : Ex} {k : Nat} {A R : EV Γ Δ} (hk : litN b = some k) (hA : EOk C a A) (e : unV A (fIxL k) (fun t => match t with
        | .py t => ixPT t k
        | _ => none) = some R) : EOk C (.ix a b) R :=
  un_ok hA e fun st st' od d od2 e1 e2 e3 => ix_ev e1 (litN_ok hk st') e2 rfl e3
theorem enuL_ok {u : Ty} : ∀ (xs : List u.den) (k : Nat), enuL k (xs.map u.enc) = ((xs.zipIdx k).map fun x => ((x.2, x.1, ()) : (Ty.tc .nat (.tc u .tn)).den)).map (Ty.tc .nat (.tc u .tn)).enc
  | [], _ => rfl
  | x :: xs, k => by
    rw [List.map_cons, enuL, enuL_ok xs (k + 1), List.zipIdx_cons, List.map_cons, List.map_cons]
    rfl
theorem zipL_ok {u w : Ty} : ∀ (xs : List u.den) (ys : List w.den), zipL (xs.map u.enc) (ys.map w.enc) = ((xs.zip ys).map fun x => ((x.1, x.2, ()) : (Ty.tc u (.tc w .tn)).den)).map (Ty.tc u (.tc w .tn)).enc
  | [], _ => rfl
  | _ :: _, [] => rfl
  | x :: xs, y :: ys => by
    rw [List.map_cons, List.map_cons, zipL, zipL_ok xs ys, List.zip_cons_cons, List.map_cons, List.map_cons]
    rfl
mutual
theorem cE_ok (hS : ∀ f perm os, ∀ s ∈ S f perm os, SigOk C s) (hg : ∀ x p, gl x = some p → C.glo x = some p) : ∀ (e : Ex) {Γ Δ : Ctx} {A : EV Γ Δ}, cE S gl e Γ Δ = some A → EOk C e A
  | .lit p, Γ, Δ, A, h => by
    simp only [cE, Option.map_eq_some_iff] at h
    obtain ⟨q, e, rfl⟩ := h
    exact lit_ok e
  | .var i, Γ, Δ, A, h => var_ok (by simpa only [cE] using h)
  | .pk i, Γ, Δ, A, h => by
    simp only [cE, Option.map_eq_some_iff] at h
    obtain ⟨q, e, rfl⟩ := h
    exact pk_ok e
  | .glo x, Γ, Δ, A, h => by
    simp only [cE, Option.bind_eq_some_iff, Option.map_eq_some_iff] at h
    obtain ⟨p, e1, q, e, rfl⟩ := h
    exact glo_ok (hg x p e1) e
  | .op o a b, Γ, Δ, R, h => by
    have full : (cE S gl a Γ Δ).bind (fun A => (cE S gl b Γ A.E).bind fun B => binV A B (fOp o) (opT o)) = some R → EOk C (.op o a b) R := fun h => by
      simp only [Option.bind_eq_some_iff] at h
      obtain ⟨A, eA, B, eB, e⟩ := h
      exact bin_ok (cE_ok hS hg a eA) (cE_ok hS hg b eB) e fun _ _ _ _ _ _ _ _ e1 e2 e3 e4 e5 => op_ev e1 e2 e3 e4 e5
    simp only [cE] at h
    split at h
    · rename_i k hk
      split at h
      · rename_i e0 he
        cases h
        rw [Option.bind_eq_some_iff] at he
        obtain ⟨A, eA, e⟩ := he
        exact opR_ok hk (cE_ok hS hg a eA) e
      · exact full h
    · split at h
      · rename_i k hk
        split at h
        · rename_i e0 he
          cases h
          rw [Option.bind_eq_some_iff] at he
          obtain ⟨A, eA, e⟩ := he
          exact opL_ok hk (cE_ok hS hg b eA) e
        · exact full h
      · exact full h
  | .neg a, Γ, Δ, R, h => by
    simp only [cE, Option.bind_eq_some_iff] at h
    obtain ⟨A, eA, e⟩ := h
    exact neg_ok (cE_ok hS hg a eA) e
  | .cm o a b, Γ, Δ, R, h => by
    simp only [cE, Option.bind_eq_some_iff] at h
    obtain ⟨A, eA, B, eB, e⟩ := h
    exact bin_ok (cE_ok hS hg a eA) (cE_ok hS hg b eB) e fun _ _ _ _ _ _ _ _ e1 e2 e3 e4 e5 => cm_ev e1 e2 e3 e4 e5
  | .cm2 o o' a b d, Γ, Δ, R, h => by
    simp only [cE, Option.bind_eq_some_iff] at h
    obtain ⟨A, eA, B, eB, e⟩ := h
    exact cm2_ok (cE_ok hS hg a eA) (cE_ok hS hg b eB) (fun Γ Δ A hA => cE_ok hS hg d hA) e
  | .and a b, Γ, Δ, R, h => by
    simp only [cE, Option.bind_eq_some_iff] at h
    obtain ⟨A, eA, T, eT, e⟩ := h
    exact and_ok (cE_ok hS hg a eA) eT (fun Γ Δ A hA => cE_ok hS hg b hA) e
  | .or a b, Γ, Δ, R, h => by
    simp only [cE, Option.bind_eq_some_iff] at h
    obtain ⟨A, eA, T, eT, e⟩ := h
    exact or_ok (cE_ok hS hg a eA) eT (fun Γ Δ A hA => cE_ok hS hg b hA) e
  | .nt a, Γ, Δ, R, h => by
    simp only [cE, Option.bind_eq_some_iff] at h
    obtain ⟨A, eA, e⟩ := h
    exact nt_ok (cE_ok hS hg a eA) e
  | .ite x a b, Γ, Δ, R, h => by
    simp only [cE, Option.bind_eq_some_iff] at h
    obtain ⟨X, eX, e⟩ := h
    exact ite_ok (cT_ok hS hg x eX) (fun Γ Δ A hA => cE_ok hS hg a hA) (fun Γ Δ A hA => cE_ok hS hg b hA) e
  | .tup es, Γ, Δ, R, h => by
    simp only [cE, Option.bind_eq_some_iff] at h
    obtain ⟨A, eA, e⟩ := h
    exact tup_ok (cL_ok hS hg es eA) e
  | .lst es, Γ, Δ, R, h => by
    simp only [cE, Option.bind_eq_some_iff] at h
    obtain ⟨A, eA, e⟩ := h
    exact lst_ok (cL_ok hS hg es eA) e
  | .dct0, Γ, Δ, R, h => by
    simp only [cE] at h
    cases h
    intro c ρ st R k r h1 h2 hf
    exact ⟨[], ρ, .fe (.dct []), st, hf, rfl, rfl, h1, h2⟩
  | .ix a b, Γ, Δ, R, h => by
    have full : (cE S gl a Γ Δ).bind (fun A => (cE S gl b Γ A.E).bind fun B => binV A B fIx ixT) = some R → EOk C (.ix a b) R := fun h => by
      simp only [Option.bind_eq_some_iff] at h
      obtain ⟨A, eA, B, eB, e⟩ := h
      exact bin_ok (cE_ok hS hg a eA) (cE_ok hS hg b eB) e fun _ _ _ _ _ _ _ _ e1 e2 e3 e4 e5 => ix_ev e1 e2 e3 e4 e5
    simp only [cE] at h
    split at h
    · rename_i k hk
      split at h
      · rename_i e0 he
        cases h
        rw [Option.bind_eq_some_iff] at he
        obtain ⟨A, eA, e⟩ := he
        exact ixP_ok hk (cE_ok hS hg a eA) e
      · exact full h
    · exact full h
  | .sl a lo hi, Γ, Δ, R, h => by
    simp only [cE, Option.bind_eq_some_iff] at h
    obtain ⟨A, eA, P, eP, Q, eQ, e⟩ := h
    exact sl_ok (cE_ok hS hg a eA) (cP_ok hS hg lo eP) (cP_ok hS hg hi eQ) e
  | .rev a, Γ, Δ, R, h => by
    simp only [cE, Option.bind_eq_some_iff] at h
    obtain ⟨A, eA, e⟩ := h
    refine un_ok (cE_ok hS hg a eA) e fun st st' od d od2 e1 e2 e3 => ?_
    have e3 : revD d = some od2 := e3
    rw [ev_rev, e1, Option.bind_some]
    simp only
    rw [e2, Option.bind_some, e3] <;> rfl
  | .bi f es, Γ, Δ, R, h => by
    simp only [cE, Option.bind_eq_some_iff] at h
    obtain ⟨A, eA, e⟩ := h
    exact bi_ok (cL_ok hS hg es eA) e
  | .isa a l, Γ, Δ, R, h => by
    simp only [cE, Option.bind_eq_some_iff] at h
    obtain ⟨A, eA, e⟩ := h
    exact isa_ok (cE_ok hS hg a eA) e
  | .cal f perm es, Γ, Δ, R, h => by
    simp only [cE, Option.bind_eq_some_iff] at h
    obtain ⟨A, eA, e⟩ := h
    exact callS_ok hS (cL_ok hS hg es eA) e
  | .me m a es, Γ, Δ, R, h => by
    simp only [cE, Option.bind_eq_some_iff] at h
    obtain ⟨A, eA, L, eL, e⟩ := h
    exact me_ok (cE_ok hS hg a eA) (cL_ok hS hg es eL) e
  | .pop i a, Γ, Δ, R, h => by
    simp only [cE, Option.bind_eq_some_iff] at h
    obtain ⟨A, eA, e⟩ := h
    exact pop_ok (cE_ok hS hg a eA) e
  | .lc own tg one it c e, Γ, Δ, R, h => by
    simp only [cE, Option.bind_eq_some_iff] at h
    obtain ⟨I, eI, e'⟩ := h
    exact lc_ok (cI_ok hS hg it eI) (fun Γ Δ A hA => cT_ok hS hg c hA) (fun Γ Δ A hA => cE_ok hS hg e hA) e'
  | .dc .., Γ, Δ, R, h => by simp [cE] at h
  | .lcf own i fs os, Γ, Δ, R, h => by
    simp only [cE] at h
    split at h
    · rename_i hc
      simp only [Bool.and_eq_true, decide_eq_true_eq] at hc
      obtain ⟨⟨⟨hc, hi⟩, hl⟩, hn⟩ := hc
      simp only [Option.bind_eq_some_iff, Option.map_eq_some_iff] at h
      obtain ⟨w, ew, r, er, z, ez, rfl⟩ := h
      intro c ρ st R k r0 h1 h2 hf
      obtain ⟨c1, c2⟩ := calmA_ok h2 hc
      obtain ⟨w1, w2⟩ := clrs_ok ew h1 h2
      obtain ⟨y, ρ1, st1, hf, k1, k2, k3⟩ := fc_ok (acc := []) hS (fun Γ Δ A hA => cL_ok hS hg os hA) (by simp only [List.length_nil]; unfold lim; omega) er w1 w2 hf
      obtain ⟨d1, d2⟩ := back_ok (st0 := st) ez c2 k2 k3
      refine ⟨y, _, .fe (.py (.list (y.map r.1.enc))), _, hf, ?_, rfl, d1, d2⟩
      have len : i < st.length := by rw [h2.len]; exact hl
      have ev : evE C (.lcf own i fs os) st = if own.all (fun j => calmSl (st.getD j .no)) && decide (i ∈ own) && decide (i < st.length) then (fcL (fun s => evs C os s) (callE C) own fs [] (wipe st own)).map fun r => (.fe (.py (.list r.1)), back st r.2 own) else none := id rfl
      rw [ev, c1, decide_eq_true hi, decide_eq_true len]
      simp only [Bool.and_self, if_true]
      rw [k1] <;> rfl
    · cases h
  | .bad, Γ, Δ, R, h => by simp [cE] at h
theorem cP_ok (hS : ∀ f perm os, ∀ s ∈ S f perm os, SigOk C s) (hg : ∀ x p, gl x = some p → C.glo x = some p) : ∀ (e : Pt) {Γ Δ : Ctx} {A : PV Γ Δ}, cP S gl e Γ Δ = some A → POk C e A
  | .no, Γ, Δ, A, h => by
    simp only [cP] at h
    cases h
    intro c ρ st R k r h1 h2 hf
    exact ⟨none, ρ, st, hf, rfl, h1, h2⟩
  | .so a, Γ, Δ, R, h => by
    simp only [cP, Option.bind_eq_some_iff] at h
    obtain ⟨A, eA, e⟩ := h
    exact so_ok (cE_ok hS hg a eA) e
theorem cT_ok (hS : ∀ f perm os, ∀ s ∈ S f perm os, SigOk C s) (hg : ∀ x p, gl x = some p → C.glo x = some p) : ∀ (e : T) {Γ Δ : Ctx} {A : TV Γ Δ}, cT S gl e Γ Δ = some A → TOk C e A
  | .and a b, Γ, Δ, R, h => by
    simp only [cT, Option.bind_eq_some_iff] at h
    obtain ⟨A, eA, e⟩ := h
    exact andT_ok (cT_ok hS hg a eA) (fun Γ Δ A hA => cT_ok hS hg b hA) e
  | .or a b, Γ, Δ, R, h => by
    simp only [cT, Option.bind_eq_some_iff] at h
    obtain ⟨A, eA, e⟩ := h
    exact orT_ok (cT_ok hS hg a eA) (fun Γ Δ A hA => cT_ok hS hg b hA) e
  | .nt a, Γ, Δ, R, h => by
    simp only [cT, Option.map_eq_some_iff] at h
    obtain ⟨A, eA, rfl⟩ := h
    intro c ρ st R k r h1 h2 hf
    obtain ⟨y, ρ1, st1, hf, k1, k2, k3⟩ := cT_ok hS hg a eA c ρ st R _ r h1 h2 hf
    exact ⟨!y, ρ1, st1, hf, by rw [evT_nt, k1] <;> rfl, k2, k3⟩
  | .ite x a b, Γ, Δ, R, h => by
    simp only [cT, Option.bind_eq_some_iff] at h
    obtain ⟨X, eX, e⟩ := h
    exact iteT_ok (cT_ok hS hg x eX) (fun Γ Δ A hA => cT_ok hS hg a hA) (fun Γ Δ A hA => cT_ok hS hg b hA) e
  | .yes, Γ, Δ, R, h => by
    simp only [cT] at h
    cases h
    intro c ρ st R k r h1 h2 hf
    exact ⟨true, ρ, st, hf, rfl, h1, h2⟩
  | .v a, Γ, Δ, R, h => by
    simp only [cT, Option.bind_eq_some_iff, Option.map_eq_some_iff] at h
    obtain ⟨A, eA, r, er, rfl⟩ := h
    intro c ρ st R k r0 h1 h2 hf
    obtain ⟨y, ρ1, od, st1, hf, k1, k2, k3, k4⟩ := cE_ok hS hg a eA c ρ st R _ r0 h1 h2 hf
    rw [Option.bind_eq_some_iff] at hf
    obtain ⟨b, e2, hf⟩ := hf
    refine ⟨b, ρ1, st1, hf, ?_, k3, k4⟩
    rw [evT_v, k1, Option.bind_some]
    simp only
    rw [rdV_ok er k2 k3 k4, Option.bind_some, (truT r.1).2 _ _ e2] <;> rfl
theorem cL_ok (hS : ∀ f perm os, ∀ s ∈ S f perm os, SigOk C s) (hg : ∀ x p, gl x = some p → C.glo x = some p) : ∀ (e : Exs) {Γ Δ : Ctx} {A : LV Γ Δ}, cL S gl e Γ Δ = some A → LOk C e A
  | .nil, Γ, Δ, A, h => by
    simp only [cL] at h
    cases h
    intro c ρ st R k r h1 h2 hf
    exact ⟨(), ρ, [], st, hf, rfl, rfl, h1, h2⟩
  | .cons a es, Γ, Δ, R, h => by
    simp only [cL, Option.bind_eq_some_iff, Option.map_eq_some_iff] at h
    obtain ⟨A, eA, L, eL, rfl⟩ := h
    intro c ρ st R k r h1 h2 hf
    obtain ⟨y, ρ1, od, st1, hf, k1, k2, k3, k4⟩ := cE_ok hS hg a eA c ρ st R _ r h1 h2 hf
    obtain ⟨z, ρ2, ods, st2, hf, j1, j2, j3, j4⟩ := cL_ok hS hg es eL c ρ1 st1 R _ r k3 k4 hf
    refine ⟨(y, z), ρ2, od :: ods, st2, hf, ?_, ⟨od, ods, rfl, k2, j2⟩, j3, j4⟩
    rw [evs_cons, k1, Option.bind_some]
    simp only
    rw [j1] <;> rfl
theorem cI_ok (hS : ∀ f perm os, ∀ s ∈ S f perm os, SigOk C s) (hg : ∀ x p, gl x = some p → C.glo x = some p) : ∀ (e : I) {Γ Δ : Ctx} {A : IV Γ Δ}, cI S gl e Γ Δ = some A → IOk C e A
  | .rng es, Γ, Δ, R, h => by
    simp only [cI, Option.bind_eq_some_iff, Option.map_eq_some_iff] at h
    obtain ⟨A, eA, r, er, b, eb, rfl⟩ := h
    intro c ρ st R k r0 h1 h2 hf
    obtain ⟨y, ρ1, ods, st1, hf, k1, k2, k3, k4⟩ := cL_ok hS hg es eA c ρ st R _ r0 h1 h2 hf
    rw [Option.bind_eq_some_iff] at hf
    obtain ⟨z, e2, hf⟩ := hf
    refine ⟨z, ρ1, st1, hf, ?_, k3, k4⟩
    rw [evI_rng, k1, Option.bind_some]
    simp only
    rw [rdL_ok k3 k4 er k2, Option.bind_some, b.ok _ _ e2] <;> rfl
  | .enu es, Γ, Δ, R, h => by
    simp only [cI, Option.bind_eq_some_iff] at h
    obtain ⟨A, eA, e⟩ := h
    have hA := cL_ok hS hg es eA
    split at e
    · rename_i o s E f
      split at e
      · rename_i hv
        simp only [Option.map_eq_some_iff] at e
        obtain ⟨r, er, rfl⟩ := e
        intro c ρ st R k r0 h1 h2 hf
        obtain ⟨y, ρ1, ods, st1, hf, k1, ⟨od, l', el, k2, k5⟩, k3, k4⟩ := hA c ρ st R _ r0 h1 h2 hf
        cases k5
        subst el
        refine ⟨_, ρ1, st1, hf, ?_, k3, k4⟩
        have k6 := (k2.val hv).1
        rw [evI_enu, k1, Option.bind_some]
        simp only [vals_cons, vals_nil]
        rw [k6, Option.bind_some]
        simp only [Option.map_some, Option.bind_some, VT.enc]
        have rk := r.ok y.1
        rw [← enuL_ok]
        rw [rk]
        cases r.b <;> rfl
      · cases e
    · cases e
  | .zip es, Γ, Δ, R, h => by
    simp only [cI, Option.bind_eq_some_iff] at h
    obtain ⟨A, eA, e⟩ := h
    have hA := cL_ok hS hg es eA
    split at e
    · rename_i o s o' t E f
      split at e
      · rename_i hv
        rw [Bool.and_eq_true] at hv
        simp only [Option.bind_eq_some_iff] at e
        obtain ⟨r, er, r', er', e⟩ := e
        split at e
        · rename_i hb
          cases e
          intro c ρ st R k r0 h1 h2 hf
          obtain ⟨y, ρ1, ods, st1, hf, k1, ⟨od, l', el, k2, ⟨od', l'', el', k2', k5⟩⟩, k3, k4⟩ := hA c ρ st R _ r0 h1 h2 hf
          cases k5
          subst el'
          subst el
          refine ⟨_, ρ1, st1, hf, ?_, k3, k4⟩
          have k6 := (k2.val hv.1).1
          have k7 := (k2'.val hv.2).1
          rw [evI_zip, k1, Option.bind_some]
          simp only [vals_cons, vals_nil]
          rw [k6, Option.bind_some, k7]
          simp only [Option.map_some, Option.bind_some, VT.enc]
          have rk := r.ok y.1
          have rk' := r'.ok y.2.1
          rw [← zipL_ok]
          rw [rk, rk']
          cases hrb : r.b with
          | true => cases r'.b <;> rfl
          | false =>
            rw [hrb] at hb
            cases hrb' : r'.b with
            | true => rw [hrb'] at hb; cases hb
            | false => rfl
        · cases e
      · cases e
    · cases e
  | .v a, Γ, Δ, R, h => by
    simp only [cI, Option.bind_eq_some_iff] at h
    obtain ⟨A, eA, e⟩ := h
    have hA := cE_ok hS hg a eA
    split at e
    · rename_i hv
      split at e
      · rename_i o E f
        cases e
        intro c ρ st R k r0 h1 h2 hf
        obtain ⟨y, ρ1, od, st1, hf, k1, k2, k3, k4⟩ := hA c ρ st R _ r0 h1 h2 hf
        rw [Option.bind_eq_some_iff] at hf
        obtain ⟨z, e2, hf⟩ := hf
        refine ⟨z, ρ1, st1, hf, ?_, k3, k4⟩
        rw [evI_v, k1, Option.bind_some]
        simp only
        rw [(k2.val hv).1, Option.bind_some]
        have idm : ∀ l : List PyData, l.map Ty.any.enc = l := fun l => List.map_id _
        rw [idm]
        have e2 : anyIts y = some z := e2
        show (match (D.py y : D) with
          | .py (.list xs) => some (xs, st1)
          | .py (.tuple xs) => some (xs, st1)
          | _ => none) = some (z, st1)
        have e3 : ∀ p : PyData, anyIts p = some z → (match (D.py p : D) with
          | .py (.list xs) => some (xs, st1)
          | .py (.tuple xs) => some (xs, st1)
          | _ => none) = some (z, st1) := fun p hp => by
          cases p <;> cases hp <;> rfl
        exact e3 y e2
      · rename_i o s E f hn
        simp only [Option.map_eq_some_iff] at e
        obtain ⟨r, er, rfl⟩ := e
        intro c ρ st R k r0 h1 h2 hf
        obtain ⟨y, ρ1, od, st1, hf, k1, k2, k3, k4⟩ := hA c ρ st R _ r0 h1 h2 hf
        refine ⟨_, ρ1, st1, hf, ?_, k3, k4⟩
        rw [evI_v, k1, Option.bind_some]
        simp only
        rw [(k2.val hv).1, Option.bind_some]
        simp only [VT.enc]
        rw [r.ok y]
        cases r.b <;> rfl
      · cases e
    · cases e
end
end
end Ta
end
section
/-! Ta10: the translation of statements into functions on typed values. -/
namespace Ta
open PySem Mi
/-! ### what follows a branch that hands back goes into the other branch -/
mutual
def retS1 : S → Bool
  | .ret _ => true
  | .retv _ => true
  | .retN => true
  | .raise => true
  | .ifs _ a b => retS a && retS b
  | _ => false
def retS : Ss → Bool
  | .nil => false
  | .cons s ss => retS1 s || retS ss
end
mutual
def nrmS : S → S
  | .whl c b => .whl c (nrmK b .nil)
  | .fr tg one it b => .fr tg one it (nrmK b .nil)
  | s => s
def nrmK : Ss → Ss → Ss
  | .nil, k => k
  | .cons s ss, k => (match s with
    | .ifs c a b => if retS a then .cons (.ifs c (nrmK a .nil) (nrmK b (nrmK ss k))) .nil
      else if retS b then .cons (.ifs c (nrmK a (nrmK ss k)) (nrmK b .nil)) .nil
      else .cons (.ifs c (nrmK a .nil) (nrmK b .nil)) (nrmK ss k)
    | s => .cons (nrmS s) (nrmK ss k))
end
def thenK (C : Ct) (k : Ss) (r : Out × En) : Option (Out × En) := match r.1 with
  | .nx => exs C k r.2
  | .brk => some (.brk, r.2)
  | .cont => some (.cont, r.2)
  | .rt d b => some (.rt d b, r.2)
section
variable {C : Ct}
theorem thenK_nil (r : Out × En) : thenK C .nil r = some r := by
  obtain ⟨o, st⟩ := r
  cases o <;> rfl
theorem exs_consK {s : S} {ss : Ss} {st : En} : exs C (.cons s ss) st = (exS C s st).bind (thenK C ss) := id rfl
theorem bind_thenK {s : Ss} {o : Option (Out × En)} : (o.bind (thenK C .nil)) = o := by
  cases o with
  | none => rfl
  | some r => exact thenK_nil r
mutual
theorem retS1_ok : ∀ {s : S} {st : En} {r : Out × En}, retS1 s = true → exS C s st = some r → r.1 ≠ .nx
  | .ret e, st, r, h, e1 => by
    rw [ex_ret, Option.bind_eq_some_iff] at e1
    obtain ⟨q, _, e2⟩ := e1
    rw [Option.map_eq_some_iff] at e2
    obtain ⟨o, e3, rfl⟩ := e2
    intro h
    have h : o = .nx := h
    subst h
    unfold retE at e3
    split at e3 <;> cases e3
  | .retv i, st, r, h, e1 => by
    rw [ex_retv] at e1
    split at e1 <;> cases e1
    · exact fun h => nomatch h
    · exact fun h => nomatch h
  | .retN, st, r, h, e1 => by cases e1; exact fun h => nomatch h
  | .raise, st, r, h, e1 => by cases e1
  | .ifs c a b, st, r, h, e1 => by
    have h' : retS a = true ∧ retS b = true := by rw [← Bool.and_eq_true]; exact h
    rw [ex_ifs, Option.bind_eq_some_iff] at e1
    obtain ⟨q, _, e2⟩ := e1
    split at e2
    · exact retS_ok h'.1 e2
    · exact retS_ok h'.2 e2
  | .asg .., _, _, h, _ => nomatch h
  | .asgT .., _, _, h, _ => nomatch h
  | .par .., _, _, h, _ => nomatch h
  | .divI .., _, _, h, _ => nomatch h
  | .asgTT .., _, _, h, _ => nomatch h
  | .asgSS .., _, _, h, _ => nomatch h
  | .setI .., _, _, h, _ => nomatch h
  | .augI .., _, _, h, _ => nomatch h
  | .aug .., _, _, h, _ => nomatch h
  | .app .., _, _, h, _ => nomatch h
  | .ext .., _, _, h, _ => nomatch h
  | .upd .., _, _, h, _ => nomatch h
  | .sdf .., _, _, h, _ => nomatch h
  | .ex .., _, _, h, _ => nomatch h
  | .pass, _, _, h, _ => nomatch h
  | .brk, _, _, h, _ => nomatch h
  | .cont, _, _, h, _ => nomatch h
  | .whl .., _, _, h, _ => nomatch h
  | .fr .., _, _, h, _ => nomatch h
theorem retS_ok : ∀ {s : Ss} {st : En} {r : Out × En}, retS s = true → exs C s st = some r → r.1 ≠ .nx
  | .nil, _, _, h, _ => nomatch h
  | .cons s ss, st, r, h, e => by
    have h' : retS1 s = true ∨ retS ss = true := by rw [← Bool.or_eq_true]; exact h
    rw [exs_consK, Option.bind_eq_some_iff] at e
    obtain ⟨q, e1, e2⟩ := e
    obtain ⟨o, st1⟩ := q
    cases o with
    | nx =>
      rcases h' with h' | h'
      · exact absurd rfl (retS1_ok h' e1)
      · exact retS_ok h' e2
    | brk => cases e2; exact fun h => nomatch h
    | cont => cases e2; exact fun h => nomatch h
    | rt d b => cases e2; exact fun h => nomatch h
end
theorem bind_ret {a : Ss} {st : En} (h : retS a = true) (k : Ss) : (exs C a st).bind (thenK C k) = exs C a st := by
  cases e : exs C a st with
  | none => rfl
  | some r =>
    have := retS_ok h e
    obtain ⟨o, st1⟩ := r
    cases o with
    | nx => exact absurd rfl this
    | _ => rfl
theorem thenK_K {k : Ss} {ss : Ss} {o : Option (Out × En)} (h : ∀ st, exs C k st = (exs C ss st).bind (thenK C .nil)) : True := trivial
theorem thenK_assoc {a b c : Ss} {o : Option (Out × En)} (h : ∀ st, exs C a st = (exs C b st).bind (thenK C c)) : o.bind (thenK C a) = (o.bind (thenK C b)).bind (thenK C c) := by
  cases o with
  | none => rfl
  | some r =>
    obtain ⟨o, st⟩ := r
    cases o with
    | nx => exact h st
    | _ => rfl
mutual
theorem nrmS_ok : ∀ (s : S) (st : En), exS C (nrmS s) st = exS C s st
  | .whl c b, st => by
    have e : exs C (nrmK b .nil) = exs C b := funext fun st => by rw [nrmK_ok b .nil st]; exact bind_thenK (s := .nil)
    show exS C (.whl c (nrmK b .nil)) st = _
    rw [ex_whl, ex_whl, e]
  | .fr tg one it b, st => by
    have e : exs C (nrmK b .nil) = exs C b := funext fun st => by rw [nrmK_ok b .nil st]; exact bind_thenK (s := .nil)
    show exS C (.fr tg one it (nrmK b .nil)) st = _
    rw [ex_fr, ex_fr, e]
  | .asg .., _ => rfl
  | .asgT .., _ => rfl
  | .par .., _ => rfl
  | .divI .., _ => rfl
  | .asgTT .., _ => rfl
  | .asgSS .., _ => rfl
  | .setI .., _ => rfl
  | .augI .., _ => rfl
  | .aug .., _ => rfl
  | .app .., _ => rfl
  | .ext .., _ => rfl
  | .upd .., _ => rfl
  | .sdf .., _ => rfl
  | .ex .., _ => rfl
  | .ret .., _ => rfl
  | .retv .., _ => rfl
  | .retN, _ => rfl
  | .pass, _ => rfl
  | .brk, _ => rfl
  | .cont, _ => rfl
  | .raise, _ => rfl
  | .ifs .., _ => rfl
theorem nrmK_ok : ∀ (ss k : Ss) (st : En), exs C (nrmK ss k) st = (exs C ss st).bind (thenK C k)
  | .nil, k, st => by rw [nrmK, exs_nil] <;> rfl
  | .cons s ss, k, st => by
    have hk := fun st => nrmK_ok ss k st
    have plain : ∀ s', (∀ st, exS C s' st = exS C s st) → exs C (.cons s' (nrmK ss k)) st = (exs C (.cons s ss) st).bind (thenK C k) := fun s' e => by
      rw [exs_consK, exs_consK, e, thenK_assoc hk]
    cases s with
    | ifs c a b =>
      have ha := fun k st => nrmK_ok a k st
      have hb := fun k st => nrmK_ok b k st
      rw [nrmK]
      have two : ∀ (x y : Ss), (∀ st, exs C x st = (exs C a st).bind (thenK C (nrmK ss k))) → (∀ st, exs C y st = (exs C b st).bind (thenK C (nrmK ss k))) → exs C (.cons (.ifs c x y) .nil) st = (exs C (.cons (.ifs c a b) ss) st).bind (thenK C k) := fun x y hx hy => by
        rw [exs_consK, bind_thenK (s := .nil), exs_consK, ← thenK_assoc hk, ex_ifs, ex_ifs]
        cases evT C c st with
        | none => rfl
        | some q =>
          rw [Option.bind_some, Option.bind_some]
          split
          · exact hx _
          · exact hy _
      split
      · rename_i h1
        refine two _ _ (fun st => ?_) (fun st => hb _ _)
        rw [ha, bind_thenK (s := .nil), bind_ret h1]
      · split
        · rename_i h2
          refine two _ _ (fun st => ha _ _) (fun st => ?_)
          rw [hb, bind_thenK (s := .nil), bind_ret h2]
        · refine plain _ fun st => ?_
          rw [ex_ifs, ex_ifs]
          have ea : exs C (nrmK a .nil) = exs C a := funext fun st => by rw [ha]; exact bind_thenK (s := .nil)
          have eb : exs C (nrmK b .nil) = exs C b := funext fun st => by rw [hb]; exact bind_thenK (s := .nil)
          rw [ea, eb]
    | whl c b => exact plain _ (nrmS_ok (.whl c b))
    | fr tg one it b => exact plain _ (nrmS_ok (.fr tg one it b))
    | _ => exact plain _ fun _ => rfl
end
end
/-! ### what a statement does -/
structure RI where
  rt : VT
  k : Ok
  io : Bool
  lt : VT
@[reducible] def RL (io : Bool) (t : VT) : Type := match io with
  | true => t.den
  | false => Unit
@[reducible] def RV (I : RI) : Type := I.rt.den × RL I.io I.lt
inductive SV (I : RI) (Γ Δ : Ctx) where
  | N (E : Ctx) (f : HEnv Γ → HEnv Δ → (R : Type) → (HEnv E → Option R) → Option R)
  | R (l : List (VT × Ok)) (f : HEnv Γ → HEnv Δ → Option (RV I))
  | M (l : List (VT × Ok)) (E : Ctx) (f : HEnv Γ → HEnv Δ → Option (HEnv E ⊕ RV I))
def mdOf : Ok → Option Md
  | .va => some .fr
  | .fe => some .ow
  | .vf => some .rd
  | .pk _ => none
def asgV {I : RI} (i : Nat) {Γ Δ : Ctx} (A : EV Γ Δ) : Option (SV I Γ Δ) := (mdOf A.o).bind fun m => (put2 Γ A.E i m A.t).map fun p => .N p.1 fun c ρ R k => A.f c ρ R fun x ρ1 => k (p.2 ρ1 x)
def asgTV {I : RI} (is : List Nat) {Γ Δ : Ctx} (A : EV Γ Δ) : Option (SV I Γ Δ) := (rdV Γ A.E A.o A.t).bind fun r => (match r with
  | ⟨.py t, g⟩ => (bindV Γ A.E is false t).map fun b => .N b.1 fun c ρ R k => A.f c ρ R fun x ρ1 => (b.2 ρ1 (g x c ρ1)).bind fun ρ2 => k ρ2
  | _ => none)
/-- several slots take values -/
def putsV (Γ : Ctx) : (E : Ctx) → (is : List Nat) → (os : List (Ok × VT)) → Option (Σ F : Ctx, HEnv E → HL (os.map (·.2)) → HEnv F)
  | E, [], [] => some ⟨E, fun ρ _ => ρ⟩
  | E, i :: is, (o, t) :: os => (mdOf o).bind fun m => (put2 Γ E i m t).bind fun p => (putsV Γ p.1 is os).map fun r => ⟨r.1, fun ρ v => r.2 (p.2 ρ v.1) v.2⟩
  | _, _, _ => none
def parV {I : RI} (is : List Nat) {Γ Δ : Ctx} (A : LV Γ Δ) : Option (SV I Γ Δ) := (putsV Γ A.E is A.os).map fun r => .N r.1 fun c ρ R k => A.f c ρ R fun x ρ1 => k (r.2 ρ1 x)
/-- what stands in one hand -/
def objV (E : Ctx) (i : Nat) : Option (Σ q : Md × VT, HEnv E → q.2.den) := (lkp E i).bind fun l => if (decide (l.1.1 = .ow) || decide (l.1.1 = .bo)) = true then some l else none
def setN {α : Type} (xs : List α) (k : Nat) (x : α) : Option (List α) := if k < xs.length then some (xs.set k x) else none
def setI {α : Type} (xs : List α) (k : Int) (x : α) : Option (List α) := (L2.ixN xs.length k).map fun j => xs.set j x
/-- x[k] = v at types -/
structure WR (t k : VT) (v : Ty) where
  r : VT
  g : t.den → k.den → v.den → Option r.den
  ok : ∀ x y z w, g x y z = some w → putO (t.enc x) (k.enc y) (v.enc z) = some (r.enc w)
def wrLN (a v u : Ty) (f : {f : (VT.py (.lst a)).den → (VT.py (.lst u)).den // ∀ x, (VT.py (.lst u)).enc (f x) = (VT.py (.lst a)).enc x}) (g : v.den → u.den) (hg : ∀ x, u.enc (g x) = v.enc x) : WR (.py (.lst a)) vn v := ⟨.py (.lst u), fun x y z => setN (f.1 x) y (g z), fun x y z w e => by
  rw [← f.2 x]
  unfold setN at e
  split at e
  · rename_i h
    cases e
    show (L2.ixN ((f.1 x).map u.enc).length (Int.ofNat y)).map (fun j => D.py (.list (((f.1 x).map u.enc).set j (v.enc z)))) = _
    rw [List.length_map, ixN_nat, if_pos h, Option.map_some, ← hg]
    simp only [VT.enc, Ty.enc, List.map_set]
  · cases e⟩
def wrLI (a v u : Ty) (f : {f : (VT.py (.lst a)).den → (VT.py (.lst u)).den // ∀ x, (VT.py (.lst u)).enc (f x) = (VT.py (.lst a)).enc x}) (g : v.den → u.den) (hg : ∀ x, u.enc (g x) = v.enc x) : WR (.py (.lst a)) vi v := ⟨.py (.lst u), fun x y z => setI (f.1 x) y (g z), fun x y z w e => by
  rw [← f.2 x]
  unfold setI at e
  rw [Option.map_eq_some_iff] at e
  obtain ⟨j, ej, rfl⟩ := e
  show (L2.ixN ((f.1 x).map u.enc).length y).map (fun j => D.py (.list (((f.1 x).map u.enc).set j (v.enc z)))) = _
  rw [List.length_map, ej, Option.map_some, ← hg]
  simp only [VT.enc, Ty.enc, List.map_set]⟩
def dputO (k v : Ty) (kvs : List (k.den × v.den)) (x : k.den) (p : v.den) : Option (List (k.den × v.den)) := if kvs.length < lim then some (dputT k v kvs x p) else none
def wrD (a b s v u w : Ty) (hk : keyTy u = true) (f : {f : (VT.dct a b).den → (VT.dct u w).den // ∀ x, (VT.dct u w).enc (f x) = (VT.dct a b).enc x}) (g : s.den → u.den) (hg : ∀ x, u.enc (g x) = s.enc x) (h : v.den → w.den) (hh : ∀ x, w.enc (h x) = v.enc x) : WR (.dct a b) (.py s) v :=
  ⟨.dct u w, fun x y z => dputO u w (f.1 x) (g y) (h z), fun x y z r e => by
    rw [← f.2 x]
    unfold dputO at e
    split at e
    · rename_i hl
      cases e
      show (if okKey (encD u w (f.1 x)) (s.enc y) && decide ((encD u w (f.1 x)).length < lim) then some (D.dct (putKd (encD u w (f.1 x)) (s.enc y) (v.enc z))) else none) = _
      rw [← hg, ← hh, keyTy_ok hk, dputT_ok, List.length_map, decide_eq_true hl] <;> rfl
    · cases e⟩
def wrT (t k : VT) (v : Ty) : Option (WR t k v) := match t, k with
  | .py (.lst a), .py .nat => (match coV (.py (.lst a)) (.py (.lst (jn a v))), h : co v (jn a v) with
    | some f, some g => some (wrLN a v (jn a v) f g (co_enc h))
    | _, _ => none)
  | .py (.lst a), .py .int => (match coV (.py (.lst a)) (.py (.lst (jn a v))), h : co v (jn a v) with
    | some f, some g => some (wrLI a v (jn a v) f g (co_enc h))
    | _, _ => none)
  | .dct a b, .py s => if hk : keyTy (jn a s) = true then (match coV (.dct a b) (.dct (jn a s) (jn b v)), h1 : co s (jn a s), h2 : co v (jn b v) with
    | some f, some g, some h => some (wrD a b s v (jn a s) (jn b v) hk f g (co_enc h1) h (co_enc h2))
    | _, _, _ => none) else none
  | _, _ => none
/-- x.setdefault(k, v) at types -/
structure DR (t k : VT) (v : Ty) where
  r : VT
  g : t.den → k.den → v.den → Option r.den
  ok : ∀ x y z w, g x y z = some w → sdfO (t.enc x) (k.enc y) (v.enc z) = some (r.enc w)
def dsdO (k v : Ty) (kvs : List (k.den × v.den)) (x : k.den) (p : v.den) : Option (List (k.den × v.den)) := if kvs.length < lim then some (if (dgetT k v kvs x).isSome then kvs else dputT k v kvs x p) else none
def sdD (a b s v u w : Ty) (hk : keyTy u = true) (f : {f : (VT.dct a b).den → (VT.dct u w).den // ∀ x, (VT.dct u w).enc (f x) = (VT.dct a b).enc x}) (g : s.den → u.den) (hg : ∀ x, u.enc (g x) = s.enc x) (h : v.den → w.den) (hh : ∀ x, w.enc (h x) = v.enc x) : DR (.dct a b) (.py s) v :=
  ⟨.dct u w, fun x y z => dsdO u w (f.1 x) (g y) (h z), fun x y z r e => by
    rw [← f.2 x]
    unfold dsdO at e
    split at e
    · rename_i hl
      cases e
      show (if okKey (encD u w (f.1 x)) (s.enc y) && decide ((encD u w (f.1 x)).length < lim) then some (if (getK (encD u w (f.1 x)) (s.enc y)).isSome then D.dct (encD u w (f.1 x)) else D.dct (putKd (encD u w (f.1 x)) (s.enc y) (v.enc z))) else none) = _
      rw [← hg, ← hh, keyTy_ok hk, dputT_ok, dgetT_ok, Option.isSome_map, List.length_map, decide_eq_true hl]
      simp only [Bool.and_self, if_true]
      split <;> rfl
    · cases e⟩
def sdT (t k : VT) (v : Ty) : Option (DR t k v) := match t, k with
  | .dct a b, .py s => if hk : keyTy (jn a s) = true then (match coV (.dct a b) (.dct (jn a s) (jn b v)), h1 : co s (jn a s), h2 : co v (jn b v) with
    | some f, some g, some h => some (sdD a b s v (jn a s) (jn b v) hk f g (co_enc h1) h (co_enc h2))
    | _, _, _ => none) else none
  | _, _ => none
def setIV {I : RI} (i : Nat) {Γ Δ : Ctx} (A : EV Γ Δ) (K : EV Γ A.E) : Option (SV I Γ Δ) := if isVal A.o = true then (objV A.E i).bind fun _ => (objV K.E i).bind fun l => (rdV Γ K.E K.o K.t).bind fun rk => (match A with
  | ⟨_, .py v, AE, af⟩ => (wrT l.1.2 rk.1 v).bind fun w => (put2 Γ K.E i l.1.1 w.r).map fun p => .N p.1 fun c ρ R k => af c ρ R fun x ρ1 => K.f c ρ1 R fun y ρ2 => (w.g (l.2 ρ2) (rk.2 y c ρ2) x).bind fun z => k (p.2 ρ2 z)
  | _ => none) else none
def sdfV {I : RI} (i : Nat) {Γ Δ : Ctx} (K : EV Γ Δ) (A : EV Γ K.E) : Option (SV I Γ Δ) := if isVal A.o = true then (objV Δ i).bind fun l0 => (objV A.E i).bind fun l => (rdV Γ K.E K.o K.t).bind fun rk => (match l0, A with
  | ⟨(_, .dct _ _), _⟩, ⟨_, .py v, AE, af⟩ => (sdT l.1.2 rk.1 v).bind fun w => (put2 Γ AE i l.1.1 w.r).map fun p => .N p.1 fun c ρ R k => K.f c ρ R fun y ρ1 => af c ρ1 R fun x ρ2 => (w.g (l.2 ρ2) (rk.2 y c ρ1) x).bind fun z => k (p.2 ρ2 z)
  | _, _ => none) else none
def augIV {I : RI} (i : Nat) {Γ Δ : Ctx} (K : EV Γ Δ) (A : EV Γ K.E) : Option (SV I Γ Δ) := (objV Δ i).bind fun _ => (objV K.E i).bind fun l1 => (objV A.E i).bind fun l => (rdV Γ K.E K.o K.t).bind fun rk => (rdV Γ A.E A.o A.t).bind fun ra => (match rk with
  | ⟨.py kt, kf⟩ => (match ixT l1.1.2 (.py kt), ra with
    | ⟨_, .py .nat, g, _⟩, ⟨.py .nat, rf⟩ => (wrT l.1.2 (.py kt) .nat).bind fun w => (put2 Γ A.E i l.1.1 w.r).map fun p => .N p.1 fun c ρ R k => K.f c ρ R fun y ρ1 => (g (l1.2 ρ1, kf y c ρ1, ())).bind fun x => A.f c ρ1 R fun v ρ2 => (w.g (l.2 ρ2) (kf y c ρ1) (x + rf v c ρ2)).bind fun z => k (p.2 ρ2 z)
    | ⟨_, .py .int, g, _⟩, ⟨.py .int, rf⟩ => (wrT l.1.2 (.py kt) .int).bind fun w => (put2 Γ A.E i l.1.1 w.r).map fun p => .N p.1 fun c ρ R k => K.f c ρ R fun y ρ1 => (g (l1.2 ρ1, kf y c ρ1, ())).bind fun x => A.f c ρ1 R fun v ρ2 => (w.g (l.2 ρ2) (kf y c ρ1) (x + rf v c ρ2)).bind fun z => k (p.2 ρ2 z)
    | ⟨_, .py .int, g, _⟩, ⟨.py .nat, rf⟩ => (wrT l.1.2 (.py kt) .int).bind fun w => (put2 Γ A.E i l.1.1 w.r).map fun p => .N p.1 fun c ρ R k => K.f c ρ R fun y ρ1 => (g (l1.2 ρ1, kf y c ρ1, ())).bind fun x => A.f c ρ1 R fun v ρ2 => (w.g (l.2 ρ2) (kf y c ρ1) (x + Int.ofNat (rf v c ρ2))).bind fun z => k (p.2 ρ2 z)
    | _, _ => none)
  | _ => none)
def augV {I : RI} (i : Nat) (o : O2) {Γ Δ : Ctx} (A : EV Γ Δ) : Option (SV I Γ Δ) := (lkp Δ i).bind fun l => (rdV Γ A.E A.o A.t).bind fun ra => (match o, l, ra with
  | .add, ⟨(.fr, .py .nat), g⟩, ⟨.py .nat, rf⟩ => (put2 Γ A.E i .fr vn).map fun p => .N p.1 fun c ρ R k => A.f c ρ R fun x ρ1 => k (p.2 ρ1 (g ρ + rf x c ρ1))
  | .add, ⟨(.fr, .py .int), g⟩, ⟨.py .int, rf⟩ => (put2 Γ A.E i .fr vi).map fun p => .N p.1 fun c ρ R k => A.f c ρ R fun x ρ1 => k (p.2 ρ1 (g ρ + rf x c ρ1))
  | .add, ⟨(.fr, .py .int), g⟩, ⟨.py .nat, rf⟩ => (put2 Γ A.E i .fr vi).map fun p => .N p.1 fun c ρ R k => A.f c ρ R fun x ρ1 => k (p.2 ρ1 (g ρ + Int.ofNat (rf x c ρ1)))
  | .add, ⟨(.fr, .py .nat), g⟩, ⟨.py .int, rf⟩ => (put2 Γ A.E i .fr vi).map fun p => .N p.1 fun c ρ R k => A.f c ρ R fun x ρ1 => k (p.2 ρ1 (Int.ofNat (g ρ) + rf x c ρ1))
  | .sub, ⟨(.fr, .py .nat), g⟩, ⟨.py .nat, rf⟩ => (put2 Γ A.E i .fr vi).map fun p => .N p.1 fun c ρ R k => A.f c ρ R fun x ρ1 => k (p.2 ρ1 (Int.ofNat (g ρ) - Int.ofNat (rf x c ρ1)))
  | .sub, ⟨(.fr, .py .int), g⟩, ⟨.py .nat, rf⟩ => (put2 Γ A.E i .fr vi).map fun p => .N p.1 fun c ρ R k => A.f c ρ R fun x ρ1 => k (p.2 ρ1 (g ρ - Int.ofNat (rf x c ρ1)))
  | .sub, ⟨(.fr, .py .int), g⟩, ⟨.py .int, rf⟩ => (put2 Γ A.E i .fr vi).map fun p => .N p.1 fun c ρ R k => A.f c ρ R fun x ρ1 => k (p.2 ρ1 (g ρ - rf x c ρ1))
  | _, _, _ => none)
def pushO {α : Type} (xs : List α) (x : α) : Option (List α) := if xs.length < lim then some (xs ++ [x]) else none
def extO {α : Type} (xs ys : List α) : Option (List α) := if xs.length + ys.length < lim then some (xs ++ ys) else none
def appV {I : RI} (i : Nat) {Γ Δ : Ctx} (A : EV Γ Δ) : Option (SV I Γ Δ) := if isVal A.o = true then (objV Δ i).bind fun l0 => (objV A.E i).bind fun l => (match l0, l, A.t, A.f with
  | ⟨(_, .py (.lst _)), _⟩, ⟨(m, .py (.lst a)), g⟩, .py v, af => (match coV (.py (.lst a)) (.py (.lst (jn a v))), co v (jn a v) with
    | some f, some h => (put2 Γ A.E i m (.py (.lst (jn a v)))).map fun p => .N p.1 fun c ρ R k => af c ρ R fun x ρ1 => (pushO (f.1 (g ρ1)) (h x)).bind fun z => k (p.2 ρ1 z)
    | _, _ => none)
  | _, _, _, _ => none) else none
def extV {I : RI} (i : Nat) {Γ Δ : Ctx} (A : EV Γ Δ) : Option (SV I Γ Δ) := (objV Δ i).bind fun l0 => (objV A.E i).bind fun l => (rdV Γ A.E A.o A.t).bind fun ra => (match l0, l, ra with
  | ⟨(_, .py (.lst _)), _⟩, ⟨(m, .py (.lst a)), g⟩, ⟨.py (.lst v), rf⟩ => (match coV (.py (.lst a)) (.py (.lst (jn a v))), coV (.py (.lst v)) (.py (.lst (jn a v))) with
    | some f, some h => (put2 Γ A.E i m (.py (.lst (jn a v)))).map fun p => .N p.1 fun c ρ R k => A.f c ρ R fun x ρ1 => (extO (f.1 (g ρ1)) (h.1 (rf x c ρ1))).bind fun z => k (p.2 ρ1 z)
    | _, _ => none)
  | _, _, _ => none)
/-- x[k], y = .. (k written) -/
def divIV {I : RI} (i : Nat) (k : Int) (j : Nat) {Γ Δ : Ctx} (A : EV Γ Δ) : Option (SV I Γ Δ) := (objV A.E i).bind fun l => (rdV Γ A.E A.o A.t).bind fun ra => (match l, ra with
  | ⟨(m, .py (.lst a)), g⟩, ⟨.py (.tc v (.tc u .tn)), rf⟩ => (match coV (.py (.lst a)) (.py (.lst (jn a v))), co v (jn a v) with
    | some f, some h => (put2 Γ A.E i m (.py (.lst (jn a v)))).bind fun p => (put2 Γ p.1 j .fr (.py u)).map fun p2 => .N p2.1 fun c ρ R kk => A.f c ρ R fun x ρ1 => (match k with
      | .ofNat n => (setN (f.1 (g ρ1)) n (h (rf x c ρ1).1)).bind fun z => kk (p2.2 (p.2 ρ1 z) (rf x c ρ1).2.1)
      | k => (setI (f.1 (g ρ1)) k (h (rf x c ρ1).1)).bind fun z => kk (p2.2 (p.2 ρ1 z) (rf x c ρ1).2.1))
    | _, _ => none)
  | _, _ => none)
def asgTTV {I : RI} (is js : List Nat) {Γ Δ : Ctx} (A : EV Γ Δ) : Option (SV I Γ Δ) := (rdV Γ A.E A.o A.t).bind fun ra => (match ra with
  | ⟨.py (.tc a (.tc b .tn)), rf⟩ => (bindV Γ A.E is false a).bind fun p => (bindV Γ p.1 js false b).map fun p2 => .N p2.1 fun c ρ R k => A.f c ρ R fun x ρ1 => (p.2 ρ1 (rf x c ρ1).1).bind fun ρ2 => (p2.2 ρ2 (rf x c ρ1).2.1).bind fun ρ3 => k ρ3
  | _ => none)
/-- x[k], y[l] = .. -/
def asgSSV {I : RI} (i j : Nat) {Γ Δ : Ctx} (A : EV Γ Δ) (cK : (Γ Δ : Ctx) → Option (EV Γ Δ)) (cL : (Γ Δ : Ctx) → Option (EV Γ Δ)) : Option (SV I Γ Δ) := (rdV Γ A.E A.o A.t).bind fun ra => (match ra with
  | ⟨.py (.tc a (.tc b .tn)), rf⟩ => (objV A.E i).bind fun _ => (cK Γ A.E).bind fun K => (rdV Γ K.E K.o K.t).bind fun rk => (objV K.E i).bind fun l => (wrT l.1.2 rk.1 a).bind fun w => (put2 Γ K.E i l.1.1 w.r).bind fun p =>
      (objV p.1 j).bind fun _ => (cL Γ p.1).bind fun L => (rdV Γ L.E L.o L.t).bind fun rl => (objV L.E j).bind fun l2 => (wrT l2.1.2 rl.1 b).bind fun w2 => (put2 Γ L.E j l2.1.1 w2.r).map fun p2 =>
      .N p2.1 fun c ρ R k => A.f c ρ R fun x ρ1 => K.f c ρ1 R fun y ρ2 => (w.g (l.2 ρ2) (rk.2 y c ρ2) (rf x c ρ1).1).bind fun z => L.f c (p.2 ρ2 z) R fun y2 ρ3 => (w2.g (l2.2 ρ3) (rl.2 y2 c ρ3) (rf x c ρ1).2.1).bind fun z2 => k (p2.2 ρ3 z2)
  | _ => none)
/-- what is handed back -/
def kFit (o k : Ok) : Bool := match o, k with
  | .va, .va => true
  | .fe, .fe => true
  | .pk _, _ => false
  | _, .vf => true
  | _, _ => false
def lentV (I : RI) (Γ E : Ctx) : Option (HEnv Γ → HEnv E → RL I.io I.lt) := match I with
  | ⟨_, _, true, t⟩ => (match lk2 Γ E 0 with
    | some ⟨(.bo, u), g⟩ => (match coV u t with
      | some f => some fun c ρ => f.1 (g c ρ)
      | none => none)
    | _ => none)
  | ⟨_, _, false, _⟩ => some fun _ _ => ()
def retV (I : RI) {Γ Δ : Ctx} (A : EV Γ Δ) : Option (SV I Γ Δ) := if kFit A.o I.k = true then (match coV A.t I.rt with
  | some f => (lentV I Γ A.E).map fun g => .R [(A.t, A.o)] fun c ρ => A.f c ρ _ fun x ρ1 => some (f.1 x, g c ρ1)
  | none => none) else none
def okMd : Md → Option Ok
  | .fr => some .va
  | .ow => some .fe
  | .rd => some .vf
  | .bo => none
def retvV (I : RI) (Γ Δ : Ctx) (i : Nat) : Option (SV I Γ Δ) := (lk2 Γ Δ i).bind fun l => (okMd l.1.1).bind fun o => if (kFit o I.k && (!I.io || decide (i ≠ 0))) = true then (match coV l.1.2 I.rt with
  | some f => (lentV I Γ Δ).map fun g => .R [(l.1.2, o)] fun c ρ => some (f.1 (l.2 c ρ), g c ρ)
  | none => none) else none
def retNV (I : RI) (Γ Δ : Ctx) : Option (SV I Γ Δ) := if kFit .va I.k = true then (match coV (.py .non) I.rt with
  | some f => (lentV I Γ Δ).map fun g => .R [(.py .non, .va)] fun c ρ => some (f.1 (), g c ρ)
  | none => none) else none
/-! ### one behind the other, one or the other, again and again -/
/-- to go on, or to hand back -/
def goOn {σ ρ τ : Type} (x : σ ⊕ ρ) (f : σ → Option τ) (g : ρ → Option τ) : Option τ := match x with
  | .inl s => f s
  | .inr r => g r
def seqV {I : RI} {Γ Δ : Ctx} (X : SV I Γ Δ) (k : (E : Ctx) → Option (SV I Γ E)) : Option (SV I Γ Δ) := match X with
  | .N E f => (k E).map fun Y => (match Y with
    | .N E2 g => .N E2 fun c ρ R h => f c ρ R fun ρ1 => g c ρ1 R h
    | .R l g => .R l fun c ρ => f c ρ _ fun ρ1 => g c ρ1
    | .M l E2 g => .M l E2 fun c ρ => f c ρ _ fun ρ1 => g c ρ1)
  | .R l f => some (.R l f)
  | .M l E f => (k E).map fun Y => (match Y with
    | .N E2 g => .M l E2 fun c ρ => (f c ρ).bind fun x => goOn x (fun ρ1 => g c ρ1 _ fun ρ2 => some (.inl ρ2)) (fun r => some (.inr r))
    | .R l2 g => .R (l ++ l2) fun c ρ => (f c ρ).bind fun x => goOn x (fun ρ1 => g c ρ1) (fun r => some r)
    | .M l2 E2 g => .M (l ++ l2) E2 fun c ρ => (f c ρ).bind fun x => goOn x (fun ρ1 => g c ρ1) (fun r => some (.inr r)))
def ifV {I : RI} {Γ Δ : Ctx} (ms : List Nat) (T : TV Γ Δ) (cX cY : (Γ Δ : Ctx) → Option (SV I Γ Δ)) : Option (SV I Γ Δ) := (spl ms 0 Γ T.E).bind fun S => (cX S.G S.D).bind fun X => (cY S.G S.D).bind fun Y => (match X, Y with
  | .N E f, .N F g => (coC E (jnC E F)).bind fun a => (coC F (jnC E F)).bind fun b => (mrg ms 0 T.E (jnC E F)).map fun m => .N m.1 fun c ρ R k => T.f c ρ R fun z ρ1 => (if z then f (S.f c ρ1) (S.g ρ1) _ (fun ρ2 => some (a ρ2)) else g (S.f c ρ1) (S.g ρ1) _ (fun ρ2 => some (b ρ2))).bind fun ρ2 => k (m.2 ρ1 ρ2)
  | .R l f, .R l2 g => some (.R (l ++ l2) fun c ρ => T.f c ρ _ fun z ρ1 => if z then f (S.f c ρ1) (S.g ρ1) else g (S.f c ρ1) (S.g ρ1))
  | .N E f, .R l g => (mrg ms 0 T.E E).map fun m => .M l m.1 fun c ρ => T.f c ρ _ fun z ρ1 => if z then f (S.f c ρ1) (S.g ρ1) _ (fun ρ2 => some (.inl (m.2 ρ1 ρ2))) else (g (S.f c ρ1) (S.g ρ1)).map .inr
  | .R l f, .N E g => (mrg ms 0 T.E E).map fun m => .M l m.1 fun c ρ => T.f c ρ _ fun z ρ1 => if z then (f (S.f c ρ1) (S.g ρ1)).map .inr else g (S.f c ρ1) (S.g ρ1) _ (fun ρ2 => some (.inl (m.2 ρ1 ρ2)))
  | .M l E f, .R l2 g => (mrg ms 0 T.E E).map fun m => .M (l ++ l2) m.1 fun c ρ => T.f c ρ _ fun z ρ1 => if z then (f (S.f c ρ1) (S.g ρ1)).bind (fun x => goOn x (fun ρ2 => some (.inl (m.2 ρ1 ρ2))) (fun r => some (.inr r))) else (g (S.f c ρ1) (S.g ρ1)).map .inr
  | .R l f, .M l2 E g => (mrg ms 0 T.E E).map fun m => .M (l ++ l2) m.1 fun c ρ => T.f c ρ _ fun z ρ1 => if z then (f (S.f c ρ1) (S.g ρ1)).map .inr else (g (S.f c ρ1) (S.g ρ1)).bind (fun x => goOn x (fun ρ2 => some (.inl (m.2 ρ1 ρ2))) (fun r => some (.inr r)))
  | .N E f, .M l F g => (coC E (jnC E F)).bind fun a => (coC F (jnC E F)).bind fun b => (mrg ms 0 T.E (jnC E F)).map fun m => .M l m.1 fun c ρ => T.f c ρ _ fun z ρ1 => if z then f (S.f c ρ1) (S.g ρ1) _ (fun ρ2 => some (.inl (m.2 ρ1 (a ρ2)))) else (g (S.f c ρ1) (S.g ρ1)).bind (fun x => goOn x (fun ρ2 => some (.inl (m.2 ρ1 (b ρ2)))) (fun r => some (.inr r)))
  | .M l E f, .N F g => (coC E (jnC E F)).bind fun a => (coC F (jnC E F)).bind fun b => (mrg ms 0 T.E (jnC E F)).map fun m => .M l m.1 fun c ρ => T.f c ρ _ fun z ρ1 => if z then (f (S.f c ρ1) (S.g ρ1)).bind (fun x => goOn x (fun ρ2 => some (.inl (m.2 ρ1 (a ρ2)))) (fun r => some (.inr r))) else g (S.f c ρ1) (S.g ρ1) _ (fun ρ2 => some (.inl (m.2 ρ1 (b ρ2))))
  | .M l E f, .M l2 F g => (coC E (jnC E F)).bind fun a => (coC F (jnC E F)).bind fun b => (mrg ms 0 T.E (jnC E F)).map fun m => .M (l ++ l2) m.1 fun c ρ => T.f c ρ _ fun z ρ1 => if z then (f (S.f c ρ1) (S.g ρ1)).bind (fun x => goOn x (fun ρ2 => some (.inl (m.2 ρ1 (a ρ2)))) (fun r => some (.inr r))) else (g (S.f c ρ1) (S.g ρ1)).bind (fun x => goOn x (fun ρ2 => some (.inl (m.2 ρ1 (b ρ2)))) (fun r => some (.inr r))))
/-- where a turn may end -/
def SV.end? {I : RI} {Γ Δ : Ctx} : SV I Γ Δ → Ctx
  | .N E _ => E
  | .R _ _ => Δ
  | .M _ E _ => E
/-- a turn of a loop, its item taken -/
structure BV (I : RI) (Γ D : Ctx) (t : Ty) where
  B : Ctx
  b : HEnv D → t.den → Option (HEnv B)
  X : SV I Γ B
def bodyV {I : RI} (Γ D : Ctx) (t : Ty) (tg : List Nat) (one : Bool) (cB : (Γ Δ : Ctx) → Option (SV I Γ Δ)) : Option (BV I Γ D t) := (bindV Γ D tg one t).bind fun b => (cB Γ b.1).map fun X => ⟨b.1, b.2, X⟩
def forD {I : RI} {Γ Δ : Ctx} (ms tg : List Nat) (one : Bool) (Iv : IV Γ Δ) (cB : (Γ Δ : Ctx) → Option (SV I Γ Δ)) (S : SpT Γ Iv.E) (D : Ctx) : Option (SV I Γ Δ) := (coC S.D D).bind fun g0 => (bodyV S.G D Iv.t tg one cB).bind fun B => (mrg ms 0 Iv.E D).bind fun m => (match B with
    | ⟨_, b, .N E f⟩ => (coC E D).map fun g1 => .N m.1 fun c ρ R k => Iv.f c ρ R fun xs ρ1 => (forN (fun x s => (b s x).bind fun s1 => f (S.f c ρ1) s1 _ (fun e => some (g1 e))) xs (g0 (S.g ρ1))).bind fun s => k (m.2 ρ1 s)
    | ⟨_, b, .M l E f⟩ => (coC E D).map fun g1 => .M l m.1 fun c ρ => Iv.f c ρ _ fun xs ρ1 => (forR (fun x s => (b s x).bind fun s1 => (f (S.f c ρ1) s1).bind fun z => goOn z (fun e => some (.inl (g1 e))) (fun r => some (.inr r))) xs (g0 (S.g ρ1))).bind fun z => goOn z (fun s => some (.inl (m.2 ρ1 s))) (fun r => some (.inr r))
    | ⟨_, b, .R l f⟩ => some (.M l m.1 fun c ρ => Iv.f c ρ _ fun xs ρ1 => (forR (fun x s => (b s x).bind fun s1 => (f (S.f c ρ1) s1).map .inr) xs (g0 (S.g ρ1))).bind fun z => goOn z (fun s => some (.inl (m.2 ρ1 s))) (fun r => some (.inr r))))
def forV {I : RI} {Γ Δ : Ctx} (ms tg : List Nat) (one : Bool) (Iv : IV Γ Δ) (cB : (Γ Δ : Ctx) → Option (SV I Γ Δ)) : Option (SV I Γ Δ) := (spl ms 0 Γ Iv.E).bind fun R =>
  forD ms tg one Iv cB R (fixC (fun D => (bodyV R.G D Iv.t tg one cB).bind fun B => match B.X with
    | .R _ _ => some D
    | X => some X.end?) 4 R.D)
def whlD {I : RI} (fu : Nat) {Γ Δ : Ctx} (ms : List Nat) (cT : (Γ Δ : Ctx) → Option (TV Γ Δ)) (cB : (Γ Δ : Ctx) → Option (SV I Γ Δ)) (S : SpT Γ Δ) (D : Ctx) : Option (SV I Γ Δ) := (coC S.D D).bind fun g0 => (cT S.G D).bind fun T => (mrg ms 0 Δ T.E).bind fun m => (cB S.G T.E).bind fun X => (match X with
    | .N E f => (coC E D).map fun g1 => .N m.1 fun c ρ R k => (whlN (fun s => T.f (S.f c ρ) s _ (fun z s1 => some (z, s1))) (fun s => f (S.f c ρ) s _ (fun e => some (g1 e))) fu (g0 (S.g ρ))).bind fun s => k (m.2 ρ s)
    | .M l E f => (coC E D).map fun g1 => .M l m.1 fun c ρ => (whlR (fun s => T.f (S.f c ρ) s _ (fun z s1 => some (z, s1))) (fun s => (f (S.f c ρ) s).bind fun z => goOn z (fun e => some (.inl (g1 e))) (fun r => some (.inr r))) fu (g0 (S.g ρ))).bind fun z => goOn z (fun s => some (.inl (m.2 ρ s))) (fun r => some (.inr r))
    | .R _ _ => none)
def whlV {I : RI} (fu : Nat) {Γ Δ : Ctx} (ms : List Nat) (cT : (Γ Δ : Ctx) → Option (TV Γ Δ)) (cB : (Γ Δ : Ctx) → Option (SV I Γ Δ)) : Option (SV I Γ Δ) := (spl ms 0 Γ Δ).bind fun R =>
  whlD fu ms cT cB R (fixC (fun D => (cT R.G D).bind fun T => (cB R.G T.E).map fun X => match X with
    | .R _ _ => D
    | X => X.end?) 4 R.D)
/-! what a turn may change -/
mutual
def mS (io : Str → Bool) (b : Bool) : S → List Nat
  | .asg i e => (if b then [i] else []) ++ mE io b e
  | .asgT is e => (if b then is else []) ++ mE io b e
  | .par is es => (if b then is else []) ++ mL io b es
  | .divI i _ j e => (if b then [i, j] else []) ++ mE io b e
  | .asgTT is js e => (if b then is ++ js else []) ++ mE io b e
  | .asgSS i k j l e => (if b then [i, j] else []) ++ mE io b k ++ mE io b l ++ mE io b e
  | .setI i k e => (if b then [i] else []) ++ mE io b k ++ mE io b e
  | .augI i k e => (if b then [i] else []) ++ mE io b k ++ mE io b e
  | .aug i _ e => (if b then [i] else []) ++ mE io b e
  | .app i e => (if b then [i] else []) ++ mE io b e
  | .ext i e => (if b then [i] else []) ++ mE io b e
  | .upd i e => (if b then [i] else []) ++ mE io b e
  | .sdf i k e => (if b then [i] else []) ++ mE io b k ++ mE io b e
  | .ex e => mE io b e
  | .ret e => mE io b e
  | .retv i => if b then [] else [i]
  | .ifs c x y => mT io b c ++ mSs io b x ++ mSs io b y
  | .whl c x => mT io b c ++ mSs io b x
  | .fr tg _ it x => (if b then tg else []) ++ mI io b it ++ mSs io b x
  | _ => []
def mSs (io : Str → Bool) (b : Bool) : Ss → List Nat
  | .nil => []
  | .cons s ss => mS io b s ++ mSs io b ss
end
mutual
def cS (S : Sgs) (gl : Str → Option PyData) (fu : Nat) (I : RI) : Mi.S → (Γ Δ : Ctx) → Option (SV I Γ Δ)
  | .asg i e, Γ, Δ => (cE S gl e Γ Δ).bind fun A => asgV i A
  | .asgT is e, Γ, Δ => (cE S gl e Γ Δ).bind fun A => asgTV is A
  | .par is es, Γ, Δ => (cL S gl es Γ Δ).bind fun A => parV is A
  | .divI i k j e, Γ, Δ => (cE S gl e Γ Δ).bind fun A => divIV i k j A
  | .asgTT is js e, Γ, Δ => (cE S gl e Γ Δ).bind fun A => asgTTV is js A
  | .asgSS i k j l e, Γ, Δ => (cE S gl e Γ Δ).bind fun A => asgSSV i j A (cE S gl k) (cE S gl l)
  | .setI i k e, Γ, Δ => (cE S gl e Γ Δ).bind fun A => (cE S gl k Γ A.E).bind fun K => setIV i A K
  | .augI i k e, Γ, Δ => (cE S gl k Γ Δ).bind fun K => (cE S gl e Γ K.E).bind fun A => augIV i K A
  | .aug i o e, Γ, Δ => (cE S gl e Γ Δ).bind fun A => augV i o A
  | .app i e, Γ, Δ => (cE S gl e Γ Δ).bind fun A => appV i A
  | .ext i e, Γ, Δ => (cE S gl e Γ Δ).bind fun A => extV i A
  | .upd _ _, _, _ => none
  | .sdf i k e, Γ, Δ => (cE S gl k Γ Δ).bind fun K => (cE S gl e Γ K.E).bind fun A => sdfV i K A
  | .ex e, Γ, Δ => (cE S gl e Γ Δ).map fun A => .N A.E fun c ρ R k => A.f c ρ R fun _ ρ1 => k ρ1
  | .ret e, Γ, Δ => (cE S gl e Γ Δ).bind fun A => retV I A
  | .retv i, Γ, Δ => retvV I Γ Δ i
  | .retN, Γ, Δ => retNV I Γ Δ
  | .pass, Γ, Δ => some (.N Δ fun _ ρ R k => k ρ)
  | .brk, _, _ => none
  | .cont, _, _ => none
  | .raise, Γ, Δ => some (.R [] fun _ _ => none)
  | .ifs t a b, Γ, Δ => (cT S gl t Γ Δ).bind fun T => ifV (msOf (mSs (ioOf S) true a ++ mSs (ioOf S) true b) (mSs (ioOf S) false a ++ mSs (ioOf S) false b) T.E) T (cSs S gl fu I a) (cSs S gl fu I b)
  | .whl t b, Γ, Δ => whlV fu (msOf (mT (ioOf S) true t ++ mSs (ioOf S) true b) (mT (ioOf S) false t ++ mSs (ioOf S) false b) Δ) (cT S gl t) (cSs S gl fu I b)
  | .fr tg one it b, Γ, Δ => (cI S gl it Γ Δ).bind fun Iv => forV (msOf (tg ++ mSs (ioOf S) true b) (mSs (ioOf S) false b) Iv.E) tg one Iv (cSs S gl fu I b)
def cSs (S : Sgs) (gl : Str → Option PyData) (fu : Nat) (I : RI) : Ss → (Γ Δ : Ctx) → Option (SV I Γ Δ)
  | .nil, Γ, Δ => some (.N Δ fun _ ρ R k => k ρ)
  | .cons s .nil, Γ, Δ => cS S gl fu I s Γ Δ
  | .cons s (.cons s2 ss), Γ, Δ => (cS S gl fu I s Γ Δ).bind fun X => seqV X fun E => cSs S gl fu I (.cons s2 ss) Γ E
end
/-! ### a def -/
def calmC : Nat → Ctx
  | 0 => []
  | n + 1 => .calm :: calmC n
def calmE : (n : Nat) → HEnv (calmC n)
  | 0 => ()
  | n + 1 => calmE n
def inR : List VT → Nat → Ctx
  | [], n => calmC n
  | t :: ts, n => .has .fr t :: inR ts (n - 1)
def inRE : (ts : List VT) → (n : Nat) → HL ts → HEnv (inR ts n)
  | [], n, _ => calmE n
  | t :: ts, n, v => (v.1, inRE ts (n - 1) v.2)
def deadC : Nat → Ctx
  | 0 => []
  | n + 1 => .dead :: deadC n
def deadE : (n : Nat) → HEnv (deadC n)
  | 0 => ()
  | n + 1 => deadE n
/-- a def that borrows nothing -/
def cF0 (S : Sgs) (gl : Str → Option PyData) (fu : Nat) (F : Fd) (ts : List VT) (rt : VT) (k : Ok) : Option (List (VT × Ok) × (HL ts → Option (rt.den × Unit))) :=
  (spl (msOf (mSs (ioOf S) true F.body) (mSs (ioOf S) false F.body) (inR ts F.n)) 0 (deadC F.n) (inR ts F.n)).bind fun Q => (match cSs S gl fu ⟨rt, k, false, .scr⟩ (nrmK F.body .nil) Q.G Q.D with
  | some (.R l f) => some (l, fun a => f (Q.f (deadE F.n) (inRE ts F.n a)) (Q.g (inRE ts F.n a)))
  | some (.N E f) => if kFit .va k = true then (match coV (.py .non) rt with
    | some g => some ([(.py .non, .va)], fun a => f (Q.f (deadE F.n) (inRE ts F.n a)) (Q.g (inRE ts F.n a)) _ fun _ => some (g.1 (), ()))
    | none => none) else none
  | some (.M l E f) => if kFit .va k = true then (match coV (.py .non) rt with
    | some g => some ((.py .non, .va) :: l, fun a => (f (Q.f (deadE F.n) (inRE ts F.n a)) (Q.g (inRE ts F.n a))).bind fun z => goOn z (fun _ => some (g.1 (), ())) (fun r => some r))
    | none => none) else none
  | none => none)
/-- a def whose first parameter is lent -/
def cF1 (S : Sgs) (gl : Str → Option PyData) (fu : Nat) (F : Fd) (t : VT) (ts : List VT) (rt : VT) (k : Ok) : Option (List (VT × Ok) × (HL (t :: ts) → Option (rt.den × t.den))) :=
  (spl (msOf (mSs (ioOf S) true F.body) (mSs (ioOf S) false F.body) (.has .bo t :: inR ts (F.n - 1))) 0 (deadC F.n) (.has .bo t :: inR ts (F.n - 1))).bind fun Q => (match cSs S gl fu ⟨rt, k, true, t⟩ (nrmK F.body .nil) Q.G Q.D with
  | some (.R l f) => some (l, fun a => f (Q.f (deadE F.n) (a.1, inRE ts (F.n - 1) a.2)) (Q.g (a.1, inRE ts (F.n - 1) a.2)))
  | some (.N E f) => if kFit .va k = true then (match coV (.py .non) rt, lentV ⟨rt, k, true, t⟩ Q.G E with
    | some g, some h => some ([(.py .non, .va)], fun a => f (Q.f (deadE F.n) (a.1, inRE ts (F.n - 1) a.2)) (Q.g (a.1, inRE ts (F.n - 1) a.2)) _ fun ρ => some (g.1 (), h (Q.f (deadE F.n) (a.1, inRE ts (F.n - 1) a.2)) ρ))
    | _, _ => none) else none
  | some (.M l E f) => if kFit .va k = true then (match coV (.py .non) rt, lentV ⟨rt, k, true, t⟩ Q.G E with
    | some g, some h => some ((.py .non, .va) :: l, fun a => (f (Q.f (deadE F.n) (a.1, inRE ts (F.n - 1) a.2)) (Q.g (a.1, inRE ts (F.n - 1) a.2))).bind fun z => goOn z (fun ρ => some (g.1 (), h (Q.f (deadE F.n) (a.1, inRE ts (F.n - 1) a.2)) ρ)) (fun r => some r))
    | _, _ => none) else none
  | none => none)
end Ta
end
section
/-! Ta11: the translation of statements keeps the evaluator's word: the parts. -/
namespace Ta
open PySem Mi
structure RetOk (I : RI) (r : RV I) (d : D) (b : Bool) (st : En) : Prop where
  d : d = I.rt.enc r.1
  b : kOk I.k b
  l : (fun io (l : RL io I.lt) => match io, l with
    | true, l => st[0]? = some (.bo (I.lt.enc l))
    | false, _ => True) I.io r.2
/-- a statement goes on, a statement hands back -/
def GoR (C : Ct) (s : Mi.S) (I : RI) (st : En) (r : RV I) : Prop := ∃ d b st', exS C s st = some (.rt d b, st') ∧ RetOk I r d b st'
def GoN (C : Ct) (s : Mi.S) {Γ : Ctx} (c : HEnv Γ) (st : En) {E : Ctx} (ρ' : HEnv E) : Prop := ∃ st', exS C s st = some (.nx, st') ∧ EnvR Γ c st' ∧ EnvR E ρ' st'
def SOk (C : Ct) (s : Mi.S) {I : RI} {Γ Δ : Ctx} : SV I Γ Δ → Prop
  | .N E f => ∀ c ρ st R k (r : R), EnvR Γ c st → EnvR Δ ρ st → f c ρ R k = some r → ∃ ρ', k ρ' = some r ∧ GoN C s c st ρ'
  | .R _ f => ∀ c ρ st r, EnvR Γ c st → EnvR Δ ρ st → f c ρ = some r → GoR C s I st r
  | .M _ E f => ∀ c ρ st x, EnvR Γ c st → EnvR Δ ρ st → f c ρ = some x → match x with
    | .inl ρ' => GoN C s c st ρ'
    | .inr r => GoR C s I st r
def GsN (C : Ct) (s : Ss) {Γ : Ctx} (c : HEnv Γ) (st : En) {E : Ctx} (ρ' : HEnv E) : Prop := ∃ st', exs C s st = some (.nx, st') ∧ EnvR Γ c st' ∧ EnvR E ρ' st'
def GsR (C : Ct) (s : Ss) (I : RI) (st : En) (r : RV I) : Prop := ∃ d b st', exs C s st = some (.rt d b, st') ∧ RetOk I r d b st'
def SsOk (C : Ct) (s : Ss) {I : RI} {Γ Δ : Ctx} : SV I Γ Δ → Prop
  | .N E f => ∀ c ρ st R k (r : R), EnvR Γ c st → EnvR Δ ρ st → f c ρ R k = some r → ∃ ρ', k ρ' = some r ∧ GsN C s c st ρ'
  | .R _ f => ∀ c ρ st r, EnvR Γ c st → EnvR Δ ρ st → f c ρ = some r → GsR C s I st r
  | .M _ E f => ∀ c ρ st x, EnvR Γ c st → EnvR Δ ρ st → f c ρ = some x → match x with
    | .inl ρ' => GsN C s c st ρ'
    | .inr r => GsR C s I st r
section
variable {C : Ct} {I : RI} {Γ Δ : Ctx}
theorem mdOf_ok {o : Ok} {m : Md} {d : D} {od : Od} (h : mdOf o = some m) (r : OdR o d od) : ∃ s, od.slot = some s ∧ MdR m d s := by
  cases o with
  | va => cases h; cases r; exact ⟨_, rfl, rfl⟩
  | fe => cases h; cases r; exact ⟨_, rfl, rfl⟩
  | vf =>
    cases h
    rcases r with r | r
    · cases r; exact ⟨_, rfl, .inl rfl⟩
    · cases r; exact ⟨_, rfl, .inr rfl⟩
  | pk i => cases h
theorem asg_ok {i : Nat} {e : Ex} {A : EV Γ Δ} {X : SV I Γ Δ} (hA : EOk C e A) (h : asgV i A = some X) : SOk C (.asg i e) X := by
  unfold asgV at h
  simp only [Option.bind_eq_some_iff, Option.map_eq_some_iff] at h
  obtain ⟨m, em, p, ep, rfl⟩ := h
  intro c ρ st R k r0 h1 h2 hf
  obtain ⟨v, ρ1, od, st1, hf, k1, k2, k3, k4⟩ := hA c ρ st R _ r0 h1 h2 hf
  obtain ⟨s, es, hm⟩ := mdOf_ok em k2
  obtain ⟨g1, g2⟩ := put2_ok (v := v) ep k3 k4 hm
  refine ⟨_, hf, _, ?_, g1, g2⟩
  rw [ex_asg, k1, Option.bind_some]
  simp only
  rw [es] <;> rfl
theorem asgT_ok {is : List Nat} {e : Ex} {A : EV Γ Δ} {X : SV I Γ Δ} (hA : EOk C e A) (h : asgTV is A = some X) : SOk C (.asgT is e) X := by
  unfold asgTV at h
  simp only [Option.bind_eq_some_iff] at h
  obtain ⟨r, er, h⟩ := h
  split at h
  · simp only [Option.map_eq_some_iff] at h
    obtain ⟨b, eb, rfl⟩ := h
    intro c ρ st R k r0 h1 h2 hf
    obtain ⟨v, ρ1, od, st1, hf, k1, k2, k3, k4⟩ := hA c ρ st R _ r0 h1 h2 hf
    rw [Option.bind_eq_some_iff] at hf
    obtain ⟨ρ2, e2, hf⟩ := hf
    have rr := rdV_ok er k2 k3 k4
    obtain ⟨st2, j1, j2, j3⟩ := bindV_ok eb k3 k4 e2
    refine ⟨ρ2, hf, st2, ?_, j2, j3⟩
    rw [ex_asgT, k1, Option.bind_some]
    simp only
    rw [rr, Option.bind_some]
    simp only [VT.enc, pyd_py, Option.bind_some]
    rw [j1] <;> rfl
  · cases h
theorem puts_ok {c : HEnv Γ} : ∀ {E : Ctx} {is : List Nat} {os : List (Ok × VT)} {r : Σ F : Ctx, HEnv E → HL (os.map (·.2)) → HEnv F} {ρ : HEnv E} {v : HL (os.map (·.2))} {ods : List Od} {st : En}, putsV Γ E is os = some r → ODs os v ods → EnvR Γ c st → EnvR E ρ st →
    ∃ ss, slots ods = some ss ∧ ss.length = is.length ∧ EnvR Γ c (setSl st is ss) ∧ EnvR r.1 (r.2 ρ v) (setSl st is ss)
  | E, [], [], r, ρ, v, ods, st, e, h, h1, h2 => by
    cases e; cases h
    exact ⟨[], rfl, rfl, h1, h2⟩
  | E, i :: is, (o, t) :: os, r, ρ, v, ods, st, e, ⟨od, l', el, h, hs⟩, h1, h2 => by
    subst el
    simp only [putsV, Option.bind_eq_some_iff, Option.map_eq_some_iff] at e
    obtain ⟨m, em, p, ep, r0, er, rfl⟩ := e
    obtain ⟨s, es, hm⟩ := mdOf_ok em h
    obtain ⟨g1, g2⟩ := put2_ok (v := v.1) ep h1 h2 hm
    obtain ⟨ss, k1, k2, k3, k4⟩ := puts_ok er hs g1 g2
    refine ⟨s :: ss, ?_, congrArg Nat.succ k2, k3, k4⟩
    rw [slots_cons, es, Option.bind_some, k1] <;> rfl
  | _, [], _ :: _, _, _, _, _, _, e, _, _, _ => nomatch e
  | _, _ :: _, [], _, _, _, _, _, e, _, _, _ => nomatch e
theorem par_ok {is : List Nat} {es : Exs} {A : LV Γ Δ} {X : SV I Γ Δ} (hA : LOk C es A) (h : parV is A = some X) : SOk C (.par is es) X := by
  unfold parV at h
  simp only [Option.map_eq_some_iff] at h
  obtain ⟨r, er, rfl⟩ := h
  intro c ρ st R k r0 h1 h2 hf
  obtain ⟨v, ρ1, ods, st1, hf, k1, k2, k3, k4⟩ := hA c ρ st R _ r0 h1 h2 hf
  obtain ⟨ss, j1, j2, j3, j4⟩ := puts_ok er k2 k3 k4
  refine ⟨_, hf, _, ?_, j3, j4⟩
  rw [ex_par, k1, Option.bind_some]
  simp only
  rw [j1, Option.bind_some, if_pos j2]
theorem objV_ok {E : Ctx} {i : Nat} {l : Σ q : Md × VT, HEnv E → q.2.den} {ρ : HEnv E} {st : En} (e : objV E i = some l) (h : EnvR E ρ st) : ∃ w : D → Sl, objAt st i = some (l.1.2.enc (l.2 ρ), w) ∧ ∀ d, MdR l.1.1 d (w d) := by
  unfold objV at e
  simp only [Option.bind_eq_some_iff] at e
  obtain ⟨l0, e0, e⟩ := e
  split at e
  · rename_i hm
    cases e
    rw [Bool.or_eq_true, decide_eq_true_eq, decide_eq_true_eq] at hm
    obtain ⟨s, hs, hr⟩ := lkp_ok e0 h
    rcases hm with hm | hm
    · rw [hm] at hr ⊢
      cases hr
      exact ⟨.ow, by unfold objAt; rw [hs] <;> rfl, fun _ => rfl⟩
    · rw [hm] at hr ⊢
      cases hr
      exact ⟨.bo, by unfold objAt; rw [hs] <;> rfl, fun _ => rfl⟩
  · cases e
theorem lstAt_obj {st : En} {i : Nat} {xs : List PyData} {w : D → Sl} (h : objAt st i = some (.py (.list xs), w)) : lstAt st i = some (xs, w) := by
  unfold objAt at h
  unfold lstAt
  split at h
  · rename_i d hs
    cases h
    rw [hs]
  · rename_i d hs
    cases h
    rw [hs]
  · cases h
theorem setI_ok {i : Nat} {k e : Ex} {A : EV Γ Δ} {K : EV Γ A.E} {X : SV I Γ Δ} (hA : EOk C e A) (hK : EOk C k K) (h : setIV i A K = some X) : SOk C (.setI i k e) X := by
  unfold setIV at h
  split at h
  · rename_i hv
    simp only [Option.bind_eq_some_iff] at h
    obtain ⟨l0, el0, l, el, rk, erk, h⟩ := h
    split at h
    · rename_i o v AE af _ _
      simp only [Option.bind_eq_some_iff, Option.map_eq_some_iff] at h
      obtain ⟨w, ew, p, ep, rfl⟩ := h
      intro c ρ st R k r0 h1 h2 hf
      obtain ⟨x, ρ1, od, st1, hf, k1, k2, k3, k4⟩ := hA c ρ st R _ r0 h1 h2 hf
      obtain ⟨y, ρ2, ok, st2, hf, j1, j2, j3, j4⟩ := hK c ρ1 st1 R _ r0 k3 k4 hf
      rw [Option.bind_eq_some_iff] at hf
      obtain ⟨z, e3, hf⟩ := hf
      obtain ⟨w0, q0, _⟩ := objV_ok el0 k4
      obtain ⟨w1, q1, m1⟩ := objV_ok el j4
      have rr := rdV_ok erk j2 j3 j4
      have wr := w.ok _ _ _ _ e3
      obtain ⟨g1, g2⟩ := put2_ok (v := z) ep j3 j4 (m1 _)
      refine ⟨_, hf, _, ?_, g1, g2⟩
      rw [ex_setI, k1, Option.bind_some]
      simp only
      rw [(k2.val hv).1, Option.bind_some]
      simp only [VT.enc, pyd_py, Option.bind_some]
      rw [q0, Option.bind_some, j1, Option.bind_some]
      simp only
      rw [rr, Option.bind_some, q1, Option.bind_some]
      simp only
      rw [wr] <;> rfl
    · cases h
  · cases h
theorem sdf_ok {i : Nat} {k e : Ex} {K : EV Γ Δ} {A : EV Γ K.E} {X : SV I Γ Δ} (hK : EOk C k K) (hA : EOk C e A) (h : sdfV i K A = some X) : SOk C (.sdf i k e) X := by
  unfold sdfV at h
  split at h
  · rename_i hv
    simp only [Option.bind_eq_some_iff] at h
    obtain ⟨l0, el0, l, el, rk, erk, h⟩ := h
    split at h
    · rename_i m0 a0 b0 g0 o v AE af _ _
      simp only [Option.bind_eq_some_iff, Option.map_eq_some_iff] at h
      obtain ⟨w, ew, p, ep, rfl⟩ := h
      intro c ρ st R k r0 h1 h2 hf
      obtain ⟨y, ρ1, ok, st1, hf, j1, j2, j3, j4⟩ := hK c ρ st R _ r0 h1 h2 hf
      obtain ⟨x, ρ2, od, st2, hf, k1, k2, k3, k4⟩ := hA c ρ1 st1 R _ r0 j3 j4 hf
      rw [Option.bind_eq_some_iff] at hf
      obtain ⟨z, e3, hf⟩ := hf
      obtain ⟨w0, q0, _⟩ := objV_ok el0 h2
      obtain ⟨w1, q1, m1⟩ := objV_ok el k4
      have rr := rdV_ok erk j2 j3 j4
      have wr := w.ok _ _ _ _ e3
      obtain ⟨g1, g2⟩ := put2_ok (v := z) ep k3 k4 (m1 _)
      refine ⟨_, hf, _, ?_, g1, g2⟩
      rw [ex_sdf, q0, Option.bind_some]
      simp only
      rw [if_pos (show D.isDct _ = true from rfl), j1, Option.bind_some]
      simp only
      rw [rr, Option.bind_some, k1, Option.bind_some]
      simp only
      rw [(k2.val hv).1, Option.bind_some, show D.pyd _ = some _ from rfl, Option.bind_some, q1, Option.bind_some]
      simp only
      rw [wr] <;> rfl
    · cases h
  · cases h
theorem aug_ok {i : Nat} {o : O2} {e : Ex} {A : EV Γ Δ} {X : SV I Γ Δ} (hA : EOk C e A) (h : augV i o A = some X) : SOk C (.aug i o e) X := by
  unfold augV at h
  simp only [Option.bind_eq_some_iff] at h
  obtain ⟨l, el, ra, era, h⟩ := h
  split at h
  all_goals first
    | (cases h; done)
    | (simp only [Option.map_eq_some_iff] at h
       obtain ⟨p, ep, rfl⟩ := h
       intro c ρ st R k r0 h1 h2 hf
       obtain ⟨x, ρ1, od, st1, hf, k1, k2, k3, k4⟩ := hA c ρ st R _ r0 h1 h2 hf
       obtain ⟨s, hs, hm⟩ := lkp_ok el h2
       cases hm
       have rr := rdV_ok era k2 k3 k4
       refine ⟨_, hf, _, ?_, put2_ok ep k3 k4 rfl⟩
       rw [ex_aug, hs]
       simp only [VT.enc, Ty.enc]
       rw [k1, Option.bind_some]
       simp only
       rw [rr] <;> rfl)
theorem app_ok {i : Nat} {e : Ex} {A : EV Γ Δ} {X : SV I Γ Δ} (hA : EOk C e A) (h : appV i A = some X) : SOk C (.app i e) X := by
  unfold appV at h
  split at h
  · rename_i hv
    simp only [Option.bind_eq_some_iff] at h
    obtain ⟨l0, el0, l, el, h⟩ := h
    obtain ⟨o, t, E, f⟩ := A
    split at h
    · rename_i m0 a0 g0 m a g v af ht hf0
      subst ht
      cases hf0
      split at h
      · rename_i f1 h1 ef eh
        simp only [Option.map_eq_some_iff] at h
        obtain ⟨p, ep, rfl⟩ := h
        intro c ρ st R k r0 h1' h2 hf
        obtain ⟨x, ρ1, od, st1, hf, k1, k2, k3, k4⟩ := hA c ρ st R _ r0 h1' h2 hf
        rw [Option.bind_eq_some_iff] at hf
        obtain ⟨z, e2, hf⟩ := hf
        obtain ⟨w0, q0, _⟩ := objV_ok el0 h2
        obtain ⟨w1, q1, m1⟩ := objV_ok el k4
        unfold pushO at e2
        split at e2
        · rename_i hl
          cases e2
          obtain ⟨g1, g2⟩ := put2_ok (v := f1.1 (g ρ1) ++ [h1 x]) ep k3 k4 (m1 _)
          refine ⟨_, hf, _, ?_, g1, g2⟩
          have fe := f1.2 (g ρ1)
          have fe' : ((f1.1 (g ρ1)).map (jn a v).enc) = (g ρ1).map a.enc := by
            injection fe with q
            injection q
          rw [ex_app, lstAt_obj q0, Option.bind_some, k1, Option.bind_some]
          simp only
          rw [(k2.val hv).1, Option.bind_some]
          simp only [VT.enc, pyd_py, Option.bind_some]
          rw [lstAt_obj q1, Option.bind_some]
          simp only
          rw [← fe', if_pos (by rw [List.length_map]; exact hl)]
          simp only [Ty.enc, List.map_append, List.map_cons, List.map_nil, co_enc eh]
        · cases e2
      · cases h
    · cases h
  · cases h
theorem ext_ok {i : Nat} {e : Ex} {A : EV Γ Δ} {X : SV I Γ Δ} (hA : EOk C e A) (h : extV i A = some X) : SOk C (.ext i e) X := by
  unfold extV at h
  simp only [Option.bind_eq_some_iff] at h
  obtain ⟨l0, el0, l, el, ra, era, h⟩ := h
  split at h
  · rename_i m0 a0 g0 m a g v rf
    split at h
    · rename_i f1 h1 ef eh
      simp only [Option.map_eq_some_iff] at h
      obtain ⟨p, ep, rfl⟩ := h
      intro c ρ st R k r0 h1' h2 hf
      obtain ⟨x, ρ1, od, st1, hf, k1, k2, k3, k4⟩ := hA c ρ st R _ r0 h1' h2 hf
      rw [Option.bind_eq_some_iff] at hf
      obtain ⟨z, e2, hf⟩ := hf
      obtain ⟨w0, q0, _⟩ := objV_ok el0 h2
      obtain ⟨w1, q1, m1⟩ := objV_ok el k4
      have rr := rdV_ok era k2 k3 k4
      unfold extO at e2
      split at e2
      · rename_i hl
        cases e2
        obtain ⟨g1, g2⟩ := put2_ok (v := f1.1 (g ρ1) ++ h1.1 (rf x c ρ1)) ep k3 k4 (m1 _)
        refine ⟨_, hf, _, ?_, g1, g2⟩
        have fe' : ((f1.1 (g ρ1)).map (jn a v).enc) = (g ρ1).map a.enc := by
          have fe := f1.2 (g ρ1)
          injection fe with q
          injection q
        have he' : ((h1.1 (rf x c ρ1)).map (jn a v).enc) = (rf x c ρ1).map v.enc := by
          have fe := h1.2 (rf x c ρ1)
          injection fe with q
          injection q
        rw [ex_ext, lstAt_obj q0, Option.bind_some, k1, Option.bind_some]
        simp only
        rw [rr, Option.bind_some, lstAt_obj q1, Option.bind_some]
        simp only [VT.enc, Ty.enc]
        rw [← fe', ← he', if_pos (by rw [List.length_map, List.length_map]; exact hl)]
        simp only [List.map_append]
      · cases e2
    · cases h
  · cases h
theorem divI_ok {i j : Nat} {k : Int} {e : Ex} {A : EV Γ Δ} {X : SV I Γ Δ} (hA : EOk C e A) (h : divIV i k j A = some X) : SOk C (.divI i k j e) X := by
  unfold divIV at h
  simp only [Option.bind_eq_some_iff] at h
  obtain ⟨l, el, ra, era, h⟩ := h
  split at h
  · rename_i m a g v u rf
    split at h
    · rename_i f1 h1 ef eh
      simp only [Option.bind_eq_some_iff, Option.map_eq_some_iff] at h
      obtain ⟨p, ep, p2, ep2, rfl⟩ := h
      intro c ρ st R kk r0 h1' h2 hf
      obtain ⟨x, ρ1, od, st1, e2, k1, k2, k3, k4⟩ := hA c ρ st R _ r0 h1' h2 hf
      obtain ⟨w1, q1, m1⟩ := objV_ok el k4
      have rr := rdV_ok era k2 k3 k4
      have fe' : ((f1.1 (g ρ1)).map (jn a v).enc) = (g ρ1).map a.enc := by
        have fe := f1.2 (g ρ1)
        injection fe with q
        injection q
      have main : ∀ n, L2.ixN (f1.1 (g ρ1)).length k = some n → GoN C (.divI i k j e) c st (p2.2 (p.2 ρ1 ((f1.1 (g ρ1)).set n (h1 (rf x c ρ1).1))) (rf x c ρ1).2.1) := fun n hn => by
        obtain ⟨g1, g2⟩ := put2_ok (v := (f1.1 (g ρ1)).set n (h1 (rf x c ρ1).1)) ep k3 k4 (m1 _)
        obtain ⟨g3, g4⟩ := put2_ok (t := .py u) (s := .fr (.py (u.enc (rf x c ρ1).2.1))) (v := (rf x c ρ1).2.1) ep2 g1 g2 rfl
        refine ⟨_, ?_, g3, g4⟩
        rw [ex_divI, k1, Option.bind_some]
        simp only
        rw [rr, Option.bind_some, lstAt_obj q1, Option.bind_some]
        simp only [VT.enc, Ty.enc]
        rw [← fe', List.length_map, hn, Option.map_some, ← co_enc eh]
        simp only [List.map_set]
      split at e2
      · rename_i n
        rw [Option.bind_eq_some_iff] at e2
        obtain ⟨z, e2, hf⟩ := e2
        unfold setN at e2
        split at e2
        · rename_i hl
          cases e2
          exact ⟨_, hf, main n (by rw [ixN_nat, if_pos hl])⟩
        · cases e2
      · rw [Option.bind_eq_some_iff] at e2
        obtain ⟨z, e2, hf⟩ := e2
        unfold setI at e2
        rw [Option.map_eq_some_iff] at e2
        obtain ⟨n, hn, rfl⟩ := e2
        exact ⟨_, hf, main n hn⟩
    · cases h
  · cases h
theorem asgTT_ok {is js : List Nat} {e : Ex} {A : EV Γ Δ} {X : SV I Γ Δ} (hA : EOk C e A) (h : asgTTV is js A = some X) : SOk C (.asgTT is js e) X := by
  unfold asgTTV at h
  simp only [Option.bind_eq_some_iff] at h
  obtain ⟨ra, era, h⟩ := h
  split at h
  · rename_i a b rf
    simp only [Option.bind_eq_some_iff, Option.map_eq_some_iff] at h
    obtain ⟨p, ep, p2, ep2, rfl⟩ := h
    intro c ρ st R k r0 h1' h2 hf
    obtain ⟨x, ρ1, od, st1, hf, k1, k2, k3, k4⟩ := hA c ρ st R _ r0 h1' h2 hf
    rw [Option.bind_eq_some_iff] at hf
    obtain ⟨ρ2, e2, hf⟩ := hf
    rw [Option.bind_eq_some_iff] at hf
    obtain ⟨ρ3, e3, hf⟩ := hf
    have rr := rdV_ok era k2 k3 k4
    obtain ⟨st2, j1, j2, j3⟩ := bindV_ok ep k3 k4 e2
    obtain ⟨st3, i1, i2, i3⟩ := bindV_ok ep2 j2 j3 e3
    refine ⟨ρ3, hf, st3, ?_, i2, i3⟩
    rw [ex_asgTT, k1, Option.bind_some]
    simp only
    rw [rr, Option.bind_some]
    simp only [VT.enc, Ty.enc]
    rw [j1, Option.bind_some, i1] <;> rfl
  · cases h
theorem asgSS_ok {i j : Nat} {k l e : Ex} {A : EV Γ Δ} {cK cL : (Γ Δ : Ctx) → Option (EV Γ Δ)} {X : SV I Γ Δ} (hA : EOk C e A) (hK : ∀ Γ Δ A, cK Γ Δ = some A → EOk C k A) (hL : ∀ Γ Δ A, cL Γ Δ = some A → EOk C l A) (h : asgSSV i j A cK cL = some X) : SOk C (.asgSS i k j l e) X := by
  unfold asgSSV at h
  simp only [Option.bind_eq_some_iff] at h
  obtain ⟨ra, era, h⟩ := h
  split at h
  · rename_i a b rf
    simp only [Option.bind_eq_some_iff, Option.map_eq_some_iff] at h
    obtain ⟨l0, el0, K, eK, rk, erk, l1, el1, w, ew, p, ep, l2, el2, L, eL, rl, erl, l3, el3, w2, ew2, p2, ep2, rfl⟩ := h
    intro c ρ st R kk r0 h1' h2 hf
    obtain ⟨x, ρ1, od, st1, hf, k1, k2, k3, k4⟩ := hA c ρ st R _ r0 h1' h2 hf
    have rr := rdV_ok era k2 k3 k4
    obtain ⟨w0, q0, _⟩ := objV_ok el0 k4
    obtain ⟨y, ρ2, ok, st2, hf, j1, j2, j3, j4⟩ := hK _ _ _ eK c ρ1 st1 R _ r0 k3 k4 hf
    rw [Option.bind_eq_some_iff] at hf
    obtain ⟨z, e3, hf⟩ := hf
    obtain ⟨w1, q1, m1⟩ := objV_ok el1 j4
    have rrk := rdV_ok erk j2 j3 j4
    have wr := w.ok _ _ _ _ e3
    obtain ⟨g1, g2⟩ := put2_ok (v := z) ep j3 j4 (m1 _)
    obtain ⟨w2', q2, _⟩ := objV_ok el2 g2
    obtain ⟨y2, ρ3, ol, st3, hf, i1, i2, i3, i4⟩ := hL _ _ _ eL c _ _ R _ r0 g1 g2 hf
    rw [Option.bind_eq_some_iff] at hf
    obtain ⟨z2, e5, hf⟩ := hf
    obtain ⟨w3, q3, m3⟩ := objV_ok el3 i4
    have rrl := rdV_ok erl i2 i3 i4
    have wr2 := w2.ok _ _ _ _ e5
    obtain ⟨g3, g4⟩ := put2_ok (v := z2) ep2 i3 i4 (m3 _)
    refine ⟨_, hf, _, ?_, g3, g4⟩
    rw [ex_asgSS, k1, Option.bind_some]
    simp only
    rw [rr, Option.bind_some]
    simp only [VT.enc, Ty.enc]
    rw [q0, Option.bind_some, j1, Option.bind_some]
    simp only
    rw [rrk, Option.bind_some, q1, Option.bind_some]
    simp only
    rw [wr, Option.bind_some, q2, Option.bind_some, i1, Option.bind_some]
    simp only
    rw [rrl, Option.bind_some, q3, Option.bind_some]
    simp only
    rw [wr2] <;> rfl
  · cases h
theorem augI_ok {i : Nat} {k e : Ex} {K : EV Γ Δ} {A : EV Γ K.E} {X : SV I Γ Δ} (hK : EOk C k K) (hA : EOk C e A) (h : augIV i K A = some X) : SOk C (.augI i k e) X := by
  have ex : ∀ st, exS C (.augI i k e) st = (objAt st i).bind fun _ => (evE C k st).bind fun qk => (rd qk.2 qk.1).bind fun kd => (objAt qk.2 i).bind fun m => (match item m.1 kd with
    | some (.py (.int x)) => (evE C e qk.2).bind fun q => (rd q.2 q.1).bind fun d => (objAt q.2 i).bind fun m2 => (match kd, d with
      | .py kp, .py (.int y) => (putO m2.1 (.py kp) (.int (x + y))).map fun d' => (.nx, q.2.set i (m2.2 d'))
      | _, _ => none)
    | _ => none) := fun st => id rfl
  unfold augIV at h
  simp only [Option.bind_eq_some_iff] at h
  obtain ⟨l0, el0, l1, el1, l, el, rk, erk, ra, era, h⟩ := h
  split at h
  · rename_i kt kf
    split at h
    all_goals first
      | (cases h; done)
      | (rename_i g hg rf heq
         simp only [Option.bind_eq_some_iff, Option.map_eq_some_iff] at h
         obtain ⟨w, ew, p, ep, rfl⟩ := h
         intro c ρ st R kk r0 h1 h2 hf
         obtain ⟨y, ρ1, ok, st1, hf, j1, j2, j3, j4⟩ := hK c ρ st R _ r0 h1 h2 hf
         rw [Option.bind_eq_some_iff] at hf
         obtain ⟨x, e2, hf⟩ := hf
         obtain ⟨z, ρ2, od, st2, hf, k1, k2, k3, k4⟩ := hA c ρ1 st1 R _ r0 j3 j4 hf
         rw [Option.bind_eq_some_iff] at hf
         obtain ⟨z2, e4, hf⟩ := hf
         obtain ⟨w0, q0, _⟩ := objV_ok el0 h2
         obtain ⟨w1, q1, _⟩ := objV_ok el1 j4
         obtain ⟨w2, q2, m2⟩ := objV_ok el k4
         have rrk := rdV_ok erk j2 j3 j4
         have rra := rdV_ok era k2 k3 k4
         have wr := w.ok _ _ _ _ e4
         obtain ⟨odx, i1, i2⟩ := hg _ _ e2
         have i4 : (item (l1.1.2.enc (l1.2 ρ1)) ((VT.py kt).enc (kf y c ρ1))).map Od.va = some odx := i1
         rw [Option.map_eq_some_iff] at i4
         obtain ⟨dx, i5, i3⟩ := i4
         subst i3
         have hx : dx = (VT.enc _ x) := by
           have := (OdR.val i2 (by cases ‹Ok› <;> first | rfl | (exact nomatch i2))).1
           injection this
         obtain ⟨g1, g2⟩ := put2_ok (v := z2) ep k3 k4 (m2 _)
         refine ⟨_, hf, _, ?_, g1, g2⟩
         rw [ex, q0, Option.bind_some, j1, Option.bind_some]
         simp only
         rw [rrk, Option.bind_some, q1, Option.bind_some]
         simp only
         rw [i5, hx]
         simp only [VT.enc, Ty.enc]
         rw [k1, Option.bind_some]
         simp only
         rw [rra, Option.bind_some, q2, Option.bind_some]
         simp only [VT.enc, Ty.enc] at wr ⊢
         first
           | (rw [wr] <;> rfl)
           | (have wr' := wr; rw [show Int.ofNat x + Int.ofNat (rf z c ρ2) = Int.ofNat (x + rf z c ρ2) from rfl, wr'] <;> rfl))
  · cases h
end
end Ta
end
section
/-! Ta12: statements, loops, defs. -/
namespace Ta
open PySem Mi
section
variable {C : Ct} {I : RI} {Γ Δ : Ctx}
theorem lent_ok {I : RI} {E : Ctx} {g : HEnv Γ → HEnv E → RL I.io I.lt} {c : HEnv Γ} {ρ : HEnv E} {st : En} (h : lentV I Γ E = some g) (h1 : EnvR Γ c st) (h2 : EnvR E ρ st) :
    (fun io (l : RL io I.lt) => match io, l with
    | true, l => st[0]? = some (.bo (I.lt.enc l))
    | false, _ => True) I.io (g c ρ) := by
  obtain ⟨rt, k, io, t⟩ := I
  cases io with
  | false => trivial
  | true =>
    simp only [lentV] at h
    split at h
    · rename_i u g0 e0
      split at h
      · rename_i f ef
        cases h
        obtain ⟨s, hs, hm⟩ := lk2_ok e0 h1 h2
        cases hm
        show st[0]? = some (.bo (t.enc (f.1 (g0 c ρ))))
        rw [hs, f.2]
      · cases h
    · cases h
theorem kFit_ok {o k : Ok} {b : Bool} (h : kFit o k = true) (hb : (o = .va → b = false) ∧ (o = .fe → b = true)) : kOk k b := by
  cases o <;> cases k <;> first
    | (cases h; done)
    | exact hb.1 rfl
    | exact hb.2 rfl
    | trivial
theorem ret_ok {e : Ex} {A : EV Γ Δ} {X : SV I Γ Δ} (hA : EOk C e A) (h : retV I A = some X) : SOk C (.ret e) X := by
  unfold retV at h
  split at h
  · rename_i hk
    split at h
    · rename_i f ef
      simp only [Option.map_eq_some_iff] at h
      obtain ⟨g, eg, rfl⟩ := h
      intro c ρ st r h1 h2 hf
      obtain ⟨v, ρ1, od, st1, hf, k1, k2, k3, k4⟩ := hA c ρ st _ _ r h1 h2 hf
      cases hf
      have hr : ∃ b, retE od = some (.rt (A.t.enc v) b) ∧ (A.o = .va → b = false) ∧ (A.o = .fe → b = true) := by
        generalize A.o = o at k2 hk
        cases o with
        | va => cases k2; exact ⟨false, rfl, fun _ => rfl, fun h => nomatch h⟩
        | fe => cases k2; exact ⟨true, rfl, fun h => (nomatch h), fun _ => rfl⟩
        | vf =>
          rcases k2 with k2 | k2
          · cases k2; exact ⟨false, rfl, fun _ => rfl, fun h => nomatch h⟩
          · cases k2; exact ⟨true, rfl, fun h => (nomatch h), fun h => nomatch h⟩
        | pk i => cases hk
      obtain ⟨b, hr, hb⟩ := hr
      refine ⟨A.t.enc v, b, st1, ?_, (f.2 v).symm, kFit_ok hk hb, lent_ok eg k3 k4⟩
      rw [ex_ret, k1, Option.bind_some]
      simp only
      rw [hr] <;> rfl
    · cases h
  · cases h
theorem get_set_ne {st : En} {i : Nat} {s : Sl} (h : i ≠ 0) : (st.set i s)[0]? = st[0]? := List.getElem?_set_ne h
theorem retv_ok {i : Nat} {X : SV I Γ Δ} (h : retvV I Γ Δ i = some X) : SOk C (.retv i) X := by
  unfold retvV at h
  simp only [Option.bind_eq_some_iff] at h
  obtain ⟨l, el, o, eo, h⟩ := h
  split at h
  · rename_i hk
    rw [Bool.and_eq_true] at hk
    split at h
    · rename_i f ef
      simp only [Option.map_eq_some_iff] at h
      obtain ⟨g, eg, rfl⟩ := h
      intro c ρ st r h1 h2 hf
      cases hf
      obtain ⟨s, hs, hm⟩ := lk2_ok el h1 h2
      have lo := lent_ok eg h1 h2
      have hs' : (s = .fr (l.1.2.enc (l.2 c ρ)) ∧ (o = .va ∨ o = .vf)) ∨ (s = .ow (l.1.2.enc (l.2 c ρ)) ∧ (o = .fe ∨ o = .vf)) := by
        generalize l.1.1 = m at hm eo
        cases m with
        | fr => cases eo; exact .inl ⟨hm, .inl rfl⟩
        | ow => cases eo; exact .inr ⟨hm, .inl rfl⟩
        | rd =>
          cases eo
          rcases hm with hm | hm
          · exact .inl ⟨hm, .inr rfl⟩
          · exact .inr ⟨hm, .inr rfl⟩
        | bo => cases eo
      rcases hs' with ⟨rfl, ho⟩ | ⟨rfl, ho⟩
      · refine ⟨l.1.2.enc (l.2 c ρ), false, st, ?_, (f.2 _).symm, kFit_ok hk.1 ⟨fun _ => rfl, fun h => ?_⟩, lo⟩
        · rw [ex_retv, hs]
        · rcases ho with ho | ho <;> (rw [ho] at h; cases h)
      · refine ⟨l.1.2.enc (l.2 c ρ), true, st.set i .no, ?_, (f.2 _).symm, kFit_ok hk.1 ⟨fun h => ?_, fun _ => rfl⟩, ?_⟩
        · rw [ex_retv, hs]
        · rcases ho with ho | ho <;> (rw [ho] at h; cases h)
        · obtain ⟨rt, k, io, t⟩ := I
          cases io with
          | false => trivial
          | true =>
            have hi : i ≠ 0 := by simpa using hk.2
            show (st.set i .no)[0]? = _
            rw [get_set_ne hi]
            exact lo
    · cases h
  · cases h
theorem retN_ok {X : SV I Γ Δ} (h : retNV I Γ Δ = some X) : SOk C .retN X := by
  unfold retNV at h
  split at h
  · rename_i hk
    split at h
    · rename_i f ef
      simp only [Option.map_eq_some_iff] at h
      obtain ⟨g, eg, rfl⟩ := h
      intro c ρ st r h1 h2 hf
      cases hf
      exact ⟨.py .none, false, st, rfl, (f.2 ()).symm, kFit_ok hk ⟨fun _ => rfl, fun h => nomatch h⟩, lent_ok eg h1 h2⟩
    · cases h
  · cases h
theorem exs_nx {s : Mi.S} {ss : Ss} {st st1 : En} (h : exS C s st = some (.nx, st1)) : exs C (.cons s ss) st = exs C ss st1 := by
  rw [exs_consK, h] <;> rfl
theorem exs_rt {s : Mi.S} {ss : Ss} {st st1 : En} {d : D} {b : Bool} (h : exS C s st = some (.rt d b, st1)) : exs C (.cons s ss) st = some (.rt d b, st1) := by
  rw [exs_consK, h] <;> rfl
theorem seq_ok {s : Mi.S} {ss : Ss} {X Z : SV I Γ Δ} {k : (E : Ctx) → Option (SV I Γ E)} (hX : SOk C s X) (hk : ∀ E Y, k E = some Y → SsOk C ss Y) (h : seqV X k = some Z) : SsOk C (.cons s ss) Z := by
  cases X with
  | N E f =>
    simp only [seqV, Option.map_eq_some_iff] at h
    obtain ⟨Y, eY, rfl⟩ := h
    have hY := hk _ _ eY
    cases Y with
    | N E2 g =>
      intro c ρ st R k r h1 h2 hf
      obtain ⟨ρ1, hf, st1, k1, k2, k3⟩ := hX c ρ st R _ r h1 h2 hf
      obtain ⟨ρ2, hf, st2, j1, j2, j3⟩ := hY c ρ1 st1 R _ r k2 k3 hf
      exact ⟨ρ2, hf, st2, by rw [exs_nx k1]; exact j1, j2, j3⟩
    | R l g =>
      intro c ρ st r h1 h2 hf
      obtain ⟨ρ1, hf, st1, k1, k2, k3⟩ := hX c ρ st _ _ r h1 h2 hf
      obtain ⟨d, b, st2, j1, j2⟩ := hY c ρ1 st1 r k2 k3 hf
      exact ⟨d, b, st2, by rw [exs_nx k1]; exact j1, j2⟩
    | M l E2 g =>
      intro c ρ st x h1 h2 hf
      obtain ⟨ρ1, hf, st1, k1, k2, k3⟩ := hX c ρ st _ _ x h1 h2 hf
      have := hY c ρ1 st1 x k2 k3 hf
      cases x with
      | inl ρ' =>
        obtain ⟨st2, j1, j2, j3⟩ := this
        exact ⟨st2, by rw [exs_nx k1]; exact j1, j2, j3⟩
      | inr r =>
        obtain ⟨d, b, st2, j1, j2⟩ := this
        exact ⟨d, b, st2, by rw [exs_nx k1]; exact j1, j2⟩
  | R l f =>
    simp only [seqV] at h
    cases h
    intro c ρ st r h1 h2 hf
    obtain ⟨d, b, st2, j1, j2⟩ := hX c ρ st r h1 h2 hf
    exact ⟨d, b, st2, exs_rt j1, j2⟩
  | M l E f =>
    simp only [seqV, Option.map_eq_some_iff] at h
    obtain ⟨Y, eY, rfl⟩ := h
    have hY := hk _ _ eY
    cases Y with
    | N E2 g =>
      intro c ρ st x h1 h2 hf
      simp only [Option.bind_eq_some_iff] at hf
      obtain ⟨x1, e1, e2⟩ := hf
      have := hX c ρ st x1 h1 h2 e1
      cases x1 with
      | inl ρ1 =>
        obtain ⟨st1, k1, k2, k3⟩ := this
        obtain ⟨ρ2, e2, st2, j1, j2, j3⟩ := hY c ρ1 st1 _ _ x k2 k3 e2
        cases e2
        exact ⟨st2, by rw [exs_nx k1]; exact j1, j2, j3⟩
      | inr r =>
        cases e2
        obtain ⟨d, b, st2, j1, j2⟩ := this
        exact ⟨d, b, st2, exs_rt j1, j2⟩
    | R l2 g =>
      intro c ρ st r h1 h2 hf
      simp only [Option.bind_eq_some_iff] at hf
      obtain ⟨x1, e1, e2⟩ := hf
      have := hX c ρ st x1 h1 h2 e1
      cases x1 with
      | inl ρ1 =>
        obtain ⟨st1, k1, k2, k3⟩ := this
        obtain ⟨d, b, st2, j1, j2⟩ := hY c ρ1 st1 r k2 k3 e2
        exact ⟨d, b, st2, by rw [exs_nx k1]; exact j1, j2⟩
      | inr r =>
        cases e2
        obtain ⟨d, b, st2, j1, j2⟩ := this
        exact ⟨d, b, st2, exs_rt j1, j2⟩
    | M l2 E2 g =>
      intro c ρ st x h1 h2 hf
      simp only [Option.bind_eq_some_iff] at hf
      obtain ⟨x1, e1, e2⟩ := hf
      have := hX c ρ st x1 h1 h2 e1
      cases x1 with
      | inl ρ1 =>
        obtain ⟨st1, k1, k2, k3⟩ := this
        have := hY c ρ1 st1 x k2 k3 e2
        cases x with
        | inl ρ' =>
          obtain ⟨st2, j1, j2, j3⟩ := this
          exact ⟨st2, by rw [exs_nx k1]; exact j1, j2, j3⟩
        | inr r =>
          obtain ⟨d, b, st2, j1, j2⟩ := this
          exact ⟨d, b, st2, by rw [exs_nx k1]; exact j1, j2⟩
      | inr r =>
        cases e2
        obtain ⟨d, b, st2, j1, j2⟩ := this
        exact ⟨d, b, st2, exs_rt j1, j2⟩
theorem one_ok {s : Mi.S} {X : SV I Γ Δ} (hX : SOk C s X) : SsOk C (.cons s .nil) X := by
  have e : ∀ st, exs C (.cons s .nil) st = exS C s st := fun st => by rw [exs_consK]; exact bind_thenK (s := .nil)
  cases X with
  | N E f =>
    intro c ρ st R k r h1 h2 hf
    obtain ⟨ρ', hf, st1, k1, k2⟩ := hX c ρ st R k r h1 h2 hf
    exact ⟨ρ', hf, st1, by rw [e]; exact k1, k2⟩
  | R l f =>
    intro c ρ st r h1 h2 hf
    obtain ⟨d, b, st1, k1, k2⟩ := hX c ρ st r h1 h2 hf
    exact ⟨d, b, st1, by rw [e]; exact k1, k2⟩
  | M l E f =>
    intro c ρ st x h1 h2 hf
    have := hX c ρ st x h1 h2 hf
    cases x with
    | inl ρ' =>
      obtain ⟨st1, k1, k2⟩ := this
      exact ⟨st1, by rw [e]; exact k1, k2⟩
    | inr r =>
      obtain ⟨d, b, st1, k1, k2⟩ := this
      exact ⟨d, b, st1, by rw [e]; exact k1, k2⟩
theorem ifT1 {t : T} {a b : Ss} {st st1 : En} (h : evT C t st = some (true, st1)) : exS C (.ifs t a b) st = exs C a st1 := by
  rw [ex_ifs, h] <;> rfl
theorem ifT0 {t : T} {a b : Ss} {st st1 : En} (h : evT C t st = some (false, st1)) : exS C (.ifs t a b) st = exs C b st1 := by
  rw [ex_ifs, h] <;> rfl
section
variable {t : T} {a b : Ss} {st st1 : En} {c : HEnv Γ} {G E J : Ctx} {c' : HEnv G} {ρ' : HEnv E} {ρ2 : HEnv J} {r : RV I}
theorem ifN1 (k : evT C t st = some (true, st1)) (hu : ∀ st, EnvR G c' st → EnvR E ρ' st → EnvR Γ c st ∧ EnvR J ρ2 st) (h : GsN C a c' st1 ρ') : GoN C (.ifs t a b) c st ρ2 := by
  obtain ⟨st2, j1, j2, j3⟩ := h
  obtain ⟨u1, u2⟩ := hu _ j2 j3
  exact ⟨st2, by rw [ifT1 k]; exact j1, u1, u2⟩
theorem ifN0 (k : evT C t st = some (false, st1)) (hu : ∀ st, EnvR G c' st → EnvR E ρ' st → EnvR Γ c st ∧ EnvR J ρ2 st) (h : GsN C b c' st1 ρ') : GoN C (.ifs t a b) c st ρ2 := by
  obtain ⟨st2, j1, j2, j3⟩ := h
  obtain ⟨u1, u2⟩ := hu _ j2 j3
  exact ⟨st2, by rw [ifT0 k]; exact j1, u1, u2⟩
theorem ifR1 (k : evT C t st = some (true, st1)) (h : GsR C a I st1 r) : GoR C (.ifs t a b) I st r := by
  obtain ⟨d, bb, st2, j1, j2⟩ := h
  exact ⟨d, bb, st2, by rw [ifT1 k]; exact j1, j2⟩
theorem ifR0 (k : evT C t st = some (false, st1)) (h : GsR C b I st1 r) : GoR C (.ifs t a b) I st r := by
  obtain ⟨d, bb, st2, j1, j2⟩ := h
  exact ⟨d, bb, st2, by rw [ifT0 k]; exact j1, j2⟩
end
theorem ifs_ok {t : T} {a b : Ss} {ms : List Nat} {T : TV Γ Δ} {cX cY : (Γ Δ : Ctx) → Option (SV I Γ Δ)} {Z : SV I Γ Δ} (hT : TOk C t T) (hX : ∀ Γ Δ X, cX Γ Δ = some X → SsOk C a X) (hY : ∀ Γ Δ X, cY Γ Δ = some X → SsOk C b X) (h : ifV ms T cX cY = some Z) : SOk C (.ifs t a b) Z := by
  unfold ifV at h
  simp only [Option.bind_eq_some_iff] at h
  obtain ⟨S, eS, X, eX, Y, eY, h⟩ := h
  have hX := hX _ _ _ eX
  have hY := hY _ _ _ eY
  cases X with
  | N E f =>
    cases Y with
    | N F g =>
      simp only [Option.bind_eq_some_iff, Option.map_eq_some_iff] at h
      obtain ⟨u, eu, v, ev, m, em, rfl⟩ := h
      intro c ρ st R k r h1 h2 hf
      obtain ⟨z, ρ1, st1, hf, k1, k2, k3⟩ := hT c ρ st R _ r h1 h2 hf
      obtain ⟨p1, p2⟩ := spl_ok eS k2 k3
      rw [Option.bind_eq_some_iff] at hf
      obtain ⟨ρ2, e2, hf⟩ := hf
      refine ⟨_, hf, ?_⟩
      cases z with
      | true =>
        obtain ⟨ρ3, e3, q⟩ := hX _ _ _ _ _ _ p1 p2 e2
        cases e3
        exact ifN1 k1 (fun st w1 w2 => mrg_ok eS em w1 (coC_ok eu _ _ w2)) q
      | false =>
        obtain ⟨ρ3, e3, q⟩ := hY _ _ _ _ _ _ p1 p2 e2
        cases e3
        exact ifN0 k1 (fun st w1 w2 => mrg_ok eS em w1 (coC_ok ev _ _ w2)) q
    | R l2 g =>
      simp only [Option.map_eq_some_iff] at h
      obtain ⟨m, em, rfl⟩ := h
      intro c ρ st x h1 h2 hf
      obtain ⟨z, ρ1, st1, hf, k1, k2, k3⟩ := hT c ρ st _ _ x h1 h2 hf
      obtain ⟨p1, p2⟩ := spl_ok eS k2 k3
      cases z with
      | true =>
        obtain ⟨ρ3, e3, q⟩ := hX _ _ _ _ _ _ p1 p2 hf
        cases e3
        exact ifN1 k1 (fun st w1 w2 => mrg_ok eS em w1 (w2)) q
      | false =>
        obtain ⟨r, e3, e4⟩ := Option.map_eq_some_iff.mp hf
        cases e4
        exact ifR0 k1 (hY _ _ _ _ p1 p2 e3)
    | M l2 F g =>
      simp only [Option.bind_eq_some_iff, Option.map_eq_some_iff] at h
      obtain ⟨u, eu, v, ev, m, em, rfl⟩ := h
      intro c ρ st x h1 h2 hf
      obtain ⟨z, ρ1, st1, hf, k1, k2, k3⟩ := hT c ρ st _ _ x h1 h2 hf
      obtain ⟨p1, p2⟩ := spl_ok eS k2 k3
      cases z with
      | true =>
        obtain ⟨ρ3, e3, q⟩ := hX _ _ _ _ _ _ p1 p2 hf
        cases e3
        exact ifN1 k1 (fun st w1 w2 => mrg_ok eS em w1 (coC_ok eu _ _ w2)) q
      | false =>
        obtain ⟨x1, e3, e4⟩ := Option.bind_eq_some_iff.mp hf
        have q := hY _ _ _ _ p1 p2 e3
        cases x1 with
        | inl ρ2 =>
          cases e4
          exact ifN0 k1 (fun st w1 w2 => mrg_ok eS em w1 (coC_ok ev _ _ w2)) q
        | inr r =>
          cases e4
          exact ifR0 k1 q
  | R l f =>
    cases Y with
    | N F g =>
      simp only [Option.map_eq_some_iff] at h
      obtain ⟨m, em, rfl⟩ := h
      intro c ρ st x h1 h2 hf
      obtain ⟨z, ρ1, st1, hf, k1, k2, k3⟩ := hT c ρ st _ _ x h1 h2 hf
      obtain ⟨p1, p2⟩ := spl_ok eS k2 k3
      cases z with
      | true =>
        obtain ⟨r, e3, e4⟩ := Option.map_eq_some_iff.mp hf
        cases e4
        exact ifR1 k1 (hX _ _ _ _ p1 p2 e3)
      | false =>
        obtain ⟨ρ3, e3, q⟩ := hY _ _ _ _ _ _ p1 p2 hf
        cases e3
        exact ifN0 k1 (fun st w1 w2 => mrg_ok eS em w1 (w2)) q
    | R l2 g =>
      cases h
      intro c ρ st r h1 h2 hf
      obtain ⟨z, ρ1, st1, hf, k1, k2, k3⟩ := hT c ρ st _ _ r h1 h2 hf
      obtain ⟨p1, p2⟩ := spl_ok eS k2 k3
      cases z with
      | true =>
        exact ifR1 k1 (hX _ _ _ _ p1 p2 hf)
      | false =>
        exact ifR0 k1 (hY _ _ _ _ p1 p2 hf)
    | M l2 F g =>
      simp only [Option.map_eq_some_iff] at h
      obtain ⟨m, em, rfl⟩ := h
      intro c ρ st x h1 h2 hf
      obtain ⟨z, ρ1, st1, hf, k1, k2, k3⟩ := hT c ρ st _ _ x h1 h2 hf
      obtain ⟨p1, p2⟩ := spl_ok eS k2 k3
      cases z with
      | true =>
        obtain ⟨r, e3, e4⟩ := Option.map_eq_some_iff.mp hf
        cases e4
        exact ifR1 k1 (hX _ _ _ _ p1 p2 e3)
      | false =>
        obtain ⟨x1, e3, e4⟩ := Option.bind_eq_some_iff.mp hf
        have q := hY _ _ _ _ p1 p2 e3
        cases x1 with
        | inl ρ2 =>
          cases e4
          exact ifN0 k1 (fun st w1 w2 => mrg_ok eS em w1 (w2)) q
        | inr r =>
          cases e4
          exact ifR0 k1 q
  | M l E f =>
    cases Y with
    | N F g =>
      simp only [Option.bind_eq_some_iff, Option.map_eq_some_iff] at h
      obtain ⟨u, eu, v, ev, m, em, rfl⟩ := h
      intro c ρ st x h1 h2 hf
      obtain ⟨z, ρ1, st1, hf, k1, k2, k3⟩ := hT c ρ st _ _ x h1 h2 hf
      obtain ⟨p1, p2⟩ := spl_ok eS k2 k3
      cases z with
      | true =>
        obtain ⟨x1, e3, e4⟩ := Option.bind_eq_some_iff.mp hf
        have q := hX _ _ _ _ p1 p2 e3
        cases x1 with
        | inl ρ2 =>
          cases e4
          exact ifN1 k1 (fun st w1 w2 => mrg_ok eS em w1 (coC_ok eu _ _ w2)) q
        | inr r =>
          cases e4
          exact ifR1 k1 q
      | false =>
        obtain ⟨ρ3, e3, q⟩ := hY _ _ _ _ _ _ p1 p2 hf
        cases e3
        exact ifN0 k1 (fun st w1 w2 => mrg_ok eS em w1 (coC_ok ev _ _ w2)) q
    | R l2 g =>
      simp only [Option.map_eq_some_iff] at h
      obtain ⟨m, em, rfl⟩ := h
      intro c ρ st x h1 h2 hf
      obtain ⟨z, ρ1, st1, hf, k1, k2, k3⟩ := hT c ρ st _ _ x h1 h2 hf
      obtain ⟨p1, p2⟩ := spl_ok eS k2 k3
      cases z with
      | true =>
        obtain ⟨x1, e3, e4⟩ := Option.bind_eq_some_iff.mp hf
        have q := hX _ _ _ _ p1 p2 e3
        cases x1 with
        | inl ρ2 =>
          cases e4
          exact ifN1 k1 (fun st w1 w2 => mrg_ok eS em w1 (w2)) q
        | inr r =>
          cases e4
          exact ifR1 k1 q
      | false =>
        obtain ⟨r, e3, e4⟩ := Option.map_eq_some_iff.mp hf
        cases e4
        exact ifR0 k1 (hY _ _ _ _ p1 p2 e3)
    | M l2 F g =>
      simp only [Option.bind_eq_some_iff, Option.map_eq_some_iff] at h
      obtain ⟨u, eu, v, ev, m, em, rfl⟩ := h
      intro c ρ st x h1 h2 hf
      obtain ⟨z, ρ1, st1, hf, k1, k2, k3⟩ := hT c ρ st _ _ x h1 h2 hf
      obtain ⟨p1, p2⟩ := spl_ok eS k2 k3
      cases z with
      | true =>
        obtain ⟨x1, e3, e4⟩ := Option.bind_eq_some_iff.mp hf
        have q := hX _ _ _ _ p1 p2 e3
        cases x1 with
        | inl ρ2 =>
          cases e4
          exact ifN1 k1 (fun st w1 w2 => mrg_ok eS em w1 (coC_ok eu _ _ w2)) q
        | inr r =>
          cases e4
          exact ifR1 k1 q
      | false =>
        obtain ⟨x1, e3, e4⟩ := Option.bind_eq_some_iff.mp hf
        have q := hY _ _ _ _ p1 p2 e3
        cases x1 with
        | inl ρ2 =>
          cases e4
          exact ifN0 k1 (fun st w1 w2 => mrg_ok eS em w1 (coC_ok ev _ _ w2)) q
        | inr r =>
          cases e4
          exact ifR0 k1 q
/-! ### loops -/
theorem forN_ok {G D : Ctx} {t : Ty} {F : PyData → En → Option (Out × En)} {f : t.den → HEnv D → Option (HEnv D)} {c : HEnv G} (hF : ∀ x s s' st, f x s = some s' → EnvR G c st → EnvR D s st → ∃ st', F (t.enc x) st = some (.nx, st') ∧ EnvR G c st' ∧ EnvR D s' st') :
    ∀ (xs : List t.den) (s s' : HEnv D) (st : En), forN f xs s = some s' → EnvR G c st → EnvR D s st → ∃ st', frL F (xs.map t.enc) st = some (.nx, st') ∧ EnvR G c st' ∧ EnvR D s' st'
  | [], s, s', st, e, h1, h2 => by
    cases e
    exact ⟨st, rfl, h1, h2⟩
  | x :: xs, s, s', st, e, h1, h2 => by
    simp only [forN, Option.bind_eq_some_iff] at e
    obtain ⟨s1, e1, e2⟩ := e
    obtain ⟨st1, k1, k2, k3⟩ := hF x s s1 st e1 h1 h2
    obtain ⟨st2, j1, j2, j3⟩ := forN_ok hF xs s1 s' st1 e2 k2 k3
    exact ⟨st2, by rw [List.map_cons, frL, k1]; exact j1, j2, j3⟩
theorem forR_ok {G D : Ctx} {t : Ty} {F : PyData → En → Option (Out × En)} {f : t.den → HEnv D → Option (HEnv D ⊕ RV I)} {c : HEnv G} (hF : ∀ x s z st, f x s = some z → EnvR G c st → EnvR D s st → match z with
      | .inl s' => ∃ st', F (t.enc x) st = some (.nx, st') ∧ EnvR G c st' ∧ EnvR D s' st'
      | .inr r => ∃ d b st', F (t.enc x) st = some (.rt d b, st') ∧ RetOk I r d b st') :
    ∀ (xs : List t.den) (s : HEnv D) (z : HEnv D ⊕ RV I) (st : En), forR f xs s = some z → EnvR G c st → EnvR D s st → match z with
      | .inl s' => ∃ st', frL F (xs.map t.enc) st = some (.nx, st') ∧ EnvR G c st' ∧ EnvR D s' st'
      | .inr r => ∃ d b st', frL F (xs.map t.enc) st = some (.rt d b, st') ∧ RetOk I r d b st'
  | [], s, z, st, e, h1, h2 => by
    cases e
    exact ⟨st, rfl, h1, h2⟩
  | x :: xs, s, z, st, e, h1, h2 => by
    simp only [forR, Option.bind_eq_some_iff] at e
    obtain ⟨z1, e1, e2⟩ := e
    have := hF x s z1 st e1 h1 h2
    cases z1 with
    | inl s1 =>
      obtain ⟨st1, k1, k2, k3⟩ := this
      have := forR_ok hF xs s1 z st1 e2 k2 k3
      cases z with
      | inl s' =>
        obtain ⟨st2, j1, j2, j3⟩ := this
        exact ⟨st2, by rw [List.map_cons, frL, k1]; exact j1, j2, j3⟩
      | inr r =>
        obtain ⟨d, b, st2, j1, j2⟩ := this
        exact ⟨d, b, st2, by rw [List.map_cons, frL, k1]; exact j1, j2⟩
    | inr r =>
      cases e2
      obtain ⟨d, b, st1, k1, k2⟩ := this
      exact ⟨d, b, st1, by rw [List.map_cons, frL, k1] <;> rfl, k2⟩
theorem body_ok {G D : Ctx} {t : Ty} {tg : List Nat} {one : Bool} {cB : (Γ Δ : Ctx) → Option (SV I Γ Δ)} {b : Ss} {B : BV I G D t} (hB : ∀ Γ Δ X, cB Γ Δ = some X → SsOk C b X) (h : bodyV G D t tg one cB = some B) :
    SsOk C b B.X ∧ ∀ c ρ st x ρ', B.b ρ x = some ρ' → EnvR G c st → EnvR D ρ st → ∃ st', bindT tg one (t.enc x) st = some st' ∧ EnvR G c st' ∧ EnvR B.B ρ' st' := by
  unfold bodyV at h
  simp only [Option.bind_eq_some_iff, Option.map_eq_some_iff] at h
  obtain ⟨q, eq, X, eX, rfl⟩ := h
  exact ⟨hB _ _ _ eX, fun c ρ st x ρ' e h1 h2 => bindV_ok eq h1 h2 e⟩
theorem for_ok {ms tg : List Nat} {one : Bool} {it : Mi.I} {Iv : IV Γ Δ} {cB : (Γ Δ : Ctx) → Option (SV I Γ Δ)} {b : Ss} {X : SV I Γ Δ} (hI : IOk C it Iv) (hB : ∀ Γ Δ X, cB Γ Δ = some X → SsOk C b X) (h : forV ms tg one Iv cB = some X) : SOk C (.fr tg one it b) X := by
  unfold forV at h
  rw [Option.bind_eq_some_iff] at h
  obtain ⟨R, eR, h⟩ := h
  generalize fixC _ 4 R.D = D at h
  unfold forD at h
  simp only [Option.bind_eq_some_iff] at h
  obtain ⟨g0, eg0, B, eB, m, em, h⟩ := h
  obtain ⟨hX, hb⟩ := body_ok hB eB
  split at h
  · rename_i Bc bb E f
    simp only [Option.map_eq_some_iff] at h
    obtain ⟨g1, eg1, rfl⟩ := h
    intro c ρ st R' k r h1 h2 hf
    obtain ⟨xs, ρ1, st1, hf, k1, k2, k3⟩ := hI c ρ st R' _ r h1 h2 hf
    obtain ⟨s, e2, hf⟩ := Option.bind_eq_some_iff.mp hf
    obtain ⟨p1, p2⟩ := spl_ok eR k2 k3
    obtain ⟨st2, j1, j2, j3⟩ := forN_ok (F := fun x s => (bindT tg one x s).bind (exs C b)) (fun x s s' st e q1 q2 => by
      obtain ⟨s1, e1, e2⟩ := Option.bind_eq_some_iff.mp e
      obtain ⟨st3, i1, i2, i3⟩ := hb _ _ _ _ _ e1 q1 q2
      obtain ⟨s3, e3, st4, l1, l2, l3⟩ := hX _ _ _ _ _ _ i2 i3 e2
      cases e3
      exact ⟨st4, by rw [i1]; exact l1, l2, coC_ok eg1 _ _ l3⟩) xs _ s st1 e2 p1 (coC_ok eg0 _ _ p2)
    obtain ⟨n1, n2⟩ := mrg_ok eR em j2 j3
    exact ⟨_, hf, st2, by rw [ex_fr, k1]; exact j1, n1, n2⟩
  · rename_i Bc bb l E f
    simp only [Option.map_eq_some_iff] at h
    obtain ⟨g1, eg1, rfl⟩ := h
    intro c ρ st z h1 h2 hf
    obtain ⟨xs, ρ1, st1, hf, k1, k2, k3⟩ := hI c ρ st _ _ z h1 h2 hf
    obtain ⟨z1, e2, hf⟩ := Option.bind_eq_some_iff.mp hf
    obtain ⟨p1, p2⟩ := spl_ok eR k2 k3
    have := forR_ok (F := fun x s => (bindT tg one x s).bind (exs C b)) (fun x s z st e q1 q2 => by
      obtain ⟨s1, e1, e2⟩ := Option.bind_eq_some_iff.mp e
      obtain ⟨z2, e2, e5⟩ := Option.bind_eq_some_iff.mp e2
      obtain ⟨st3, i1, i2, i3⟩ := hb _ _ _ _ _ e1 q1 q2
      have := hX _ _ _ _ i2 i3 e2
      cases z2 with
      | inl s2 =>
        cases e5
        obtain ⟨st4, l1, l2, l3⟩ := this
        exact ⟨st4, by rw [i1]; exact l1, l2, coC_ok eg1 _ _ l3⟩
      | inr r =>
        cases e5
        obtain ⟨d, bb, st4, l1, l2⟩ := this
        exact ⟨d, bb, st4, by rw [i1]; exact l1, l2⟩) xs _ z1 st1 e2 p1 (coC_ok eg0 _ _ p2)
    cases z1 with
    | inl s =>
      cases hf
      obtain ⟨st2, j1, j2, j3⟩ := this
      obtain ⟨n1, n2⟩ := mrg_ok eR em j2 j3
      exact ⟨st2, by rw [ex_fr, k1]; exact j1, n1, n2⟩
    | inr r =>
      cases hf
      obtain ⟨d, bb, st2, j1, j2⟩ := this
      exact ⟨d, bb, st2, by rw [ex_fr, k1]; exact j1, j2⟩
  · rename_i Bc bb l f
    cases h
    intro c ρ st z h1 h2 hf
    obtain ⟨xs, ρ1, st1, hf, k1, k2, k3⟩ := hI c ρ st _ _ z h1 h2 hf
    obtain ⟨z1, e2, hf⟩ := Option.bind_eq_some_iff.mp hf
    obtain ⟨p1, p2⟩ := spl_ok eR k2 k3
    have := forR_ok (F := fun x s => (bindT tg one x s).bind (exs C b)) (fun x s z st e q1 q2 => by
      obtain ⟨s1, e1, e2⟩ := Option.bind_eq_some_iff.mp e
      obtain ⟨r, e6, e5⟩ := Option.map_eq_some_iff.mp e2
      cases e5
      obtain ⟨st3, i1, i2, i3⟩ := hb _ _ _ _ _ e1 q1 q2
      obtain ⟨d, bb, st4, l1, l2⟩ := hX _ _ _ _ i2 i3 e6
      exact ⟨d, bb, st4, by rw [i1]; exact l1, l2⟩) xs _ z1 st1 e2 p1 (coC_ok eg0 _ _ p2)
    cases z1 with
    | inl s =>
      cases hf
      obtain ⟨st2, j1, j2, j3⟩ := this
      obtain ⟨n1, n2⟩ := mrg_ok eR em j2 j3
      exact ⟨st2, by rw [ex_fr, k1]; exact j1, n1, n2⟩
    | inr r =>
      cases hf
      obtain ⟨d, bb, st2, j1, j2⟩ := this
      exact ⟨d, bb, st2, by rw [ex_fr, k1]; exact j1, j2⟩
theorem whlN_ok {G D E : Ctx} {cc : En → Option (Bool × En)} {ff : En → Option (Out × En)} {tf : HEnv D → Option (Bool × HEnv E)} {f : HEnv E → Option (HEnv D)} {c : HEnv G}
    (hT : ∀ s z s' st, tf s = some (z, s') → EnvR G c st → EnvR D s st → ∃ st', cc st = some (z, st') ∧ EnvR G c st' ∧ EnvR E s' st')
    (hF : ∀ s s' st, f s = some s' → EnvR G c st → EnvR E s st → ∃ st', ff st = some (.nx, st') ∧ EnvR G c st' ∧ EnvR D s' st') :
    ∀ (n : Nat) (s : HEnv D) (s' : HEnv E) (st : En), whlN tf f n s = some s' → EnvR G c st → EnvR D s st → ∃ st', whL cc ff n st = some (.nx, st') ∧ EnvR G c st' ∧ EnvR E s' st'
  | 0, _, _, _, e, _, _ => nomatch e
  | n + 1, s, s', st, e, h1, h2 => by
    simp only [whlN, Option.bind_eq_some_iff] at e
    obtain ⟨⟨z, s1⟩, e1, e2⟩ := e
    obtain ⟨st1, k1, k2, k3⟩ := hT s z s1 st e1 h1 h2
    cases z with
    | false =>
      cases e2
      exact ⟨st1, by rw [whL, k1] <;> rfl, k2, k3⟩
    | true =>
      simp only [if_true, Option.bind_eq_some_iff] at e2
      obtain ⟨s2, e2, e3⟩ := e2
      obtain ⟨st2, j1, j2, j3⟩ := hF s1 s2 st1 e2 k2 k3
      obtain ⟨st3, i1, i2, i3⟩ := whlN_ok hT hF n s2 s' st2 e3 j2 j3
      refine ⟨st3, ?_, i2, i3⟩
      rw [whL, k1, Option.bind_some]
      simp only [if_true]
      rw [j1, Option.bind_some]
      exact i1
theorem whlR_ok {G D E : Ctx} {cc : En → Option (Bool × En)} {ff : En → Option (Out × En)} {tf : HEnv D → Option (Bool × HEnv E)} {f : HEnv E → Option (HEnv D ⊕ RV I)} {c : HEnv G}
    (hT : ∀ s z s' st, tf s = some (z, s') → EnvR G c st → EnvR D s st → ∃ st', cc st = some (z, st') ∧ EnvR G c st' ∧ EnvR E s' st')
    (hF : ∀ s x st, f s = some x → EnvR G c st → EnvR E s st → match x with
      | .inl s' => ∃ st', ff st = some (.nx, st') ∧ EnvR G c st' ∧ EnvR D s' st'
      | .inr r => ∃ d b st', ff st = some (.rt d b, st') ∧ RetOk I r d b st') :
    ∀ (n : Nat) (s : HEnv D) (x : HEnv E ⊕ RV I) (st : En), whlR tf f n s = some x → EnvR G c st → EnvR D s st → match x with
      | .inl s' => ∃ st', whL cc ff n st = some (.nx, st') ∧ EnvR G c st' ∧ EnvR E s' st'
      | .inr r => ∃ d b st', whL cc ff n st = some (.rt d b, st') ∧ RetOk I r d b st'
  | 0, _, _, _, e, _, _ => nomatch e
  | n + 1, s, x, st, e, h1, h2 => by
    simp only [whlR, Option.bind_eq_some_iff] at e
    obtain ⟨⟨z, s1⟩, e1, e2⟩ := e
    obtain ⟨st1, k1, k2, k3⟩ := hT s z s1 st e1 h1 h2
    cases z with
    | false =>
      cases e2
      exact ⟨st1, by rw [whL, k1] <;> rfl, k2, k3⟩
    | true =>
      simp only [if_true, Option.bind_eq_some_iff] at e2
      obtain ⟨x2, e2, e3⟩ := e2
      have := hF s1 x2 st1 e2 k2 k3
      cases x2 with
      | inl s2 =>
        obtain ⟨st2, j1, j2, j3⟩ := this
        have := whlR_ok hT hF n s2 x st2 e3 j2 j3
        cases x with
        | inl s' =>
          obtain ⟨st3, i1, i2, i3⟩ := this
          refine ⟨st3, ?_, i2, i3⟩
          rw [whL, k1, Option.bind_some]
          simp only [if_true]
          rw [j1, Option.bind_some]
          exact i1
        | inr r =>
          obtain ⟨d, b, st3, i1, i2⟩ := this
          refine ⟨d, b, st3, ?_, i2⟩
          rw [whL, k1, Option.bind_some]
          simp only [if_true]
          rw [j1, Option.bind_some]
          exact i1
      | inr r =>
        cases e3
        obtain ⟨d, b, st2, j1, j2⟩ := this
        refine ⟨d, b, st2, ?_, j2⟩
        rw [whL, k1, Option.bind_some]
        simp only [if_true]
        rw [j1] <;> rfl
theorem whl_ok {fu : Nat} {ms : List Nat} {cT : (Γ Δ : Ctx) → Option (TV Γ Δ)} {cB : (Γ Δ : Ctx) → Option (SV I Γ Δ)} {t : T} {b : Ss} {X : SV I Γ Δ} (hfu : C.fuel = fu) (hT : ∀ Γ Δ A, cT Γ Δ = some A → TOk C t A) (hB : ∀ Γ Δ X, cB Γ Δ = some X → SsOk C b X)
    (h : whlV fu ms cT cB = some X) : SOk C (.whl t b) X := by
  unfold whlV at h
  rw [Option.bind_eq_some_iff] at h
  obtain ⟨R, eR, h⟩ := h
  generalize fixC _ 4 R.D = D at h
  unfold whlD at h
  simp only [Option.bind_eq_some_iff] at h
  obtain ⟨g0, eg0, T, eT, m, em, Y, eY, h⟩ := h
  have hX := hB _ _ _ eY
  have hTT := hT _ _ _ eT
  split at h
  · rename_i E f
    simp only [Option.map_eq_some_iff] at h
    obtain ⟨g1, eg1, rfl⟩ := h
    intro c ρ st R' k r h1 h2 hf
    obtain ⟨s, e2, hf⟩ := Option.bind_eq_some_iff.mp hf
    obtain ⟨p1, p2⟩ := spl_ok eR h1 h2
    obtain ⟨st2, j1, j2, j3⟩ := whlN_ok (cc := evT C t) (ff := exs C b) (fun s z s' st e q1 q2 => by
      obtain ⟨v, s2, st3, e3, i1, i2, i3⟩ := hTT _ _ _ _ _ _ q1 q2 e
      cases e3
      exact ⟨st3, i1, i2, i3⟩) (fun s s' st e q1 q2 => by
      obtain ⟨s2, e2, st4, l1, l2, l3⟩ := hX _ _ _ _ _ _ q1 q2 e
      cases e2
      exact ⟨st4, l1, l2, coC_ok eg1 _ _ l3⟩) fu _ s st e2 p1 (coC_ok eg0 _ _ p2)
    obtain ⟨n1, n2⟩ := mrg_ok eR em j2 j3
    exact ⟨_, hf, st2, by rw [ex_whl, hfu]; exact j1, n1, n2⟩
  · rename_i l E f
    simp only [Option.map_eq_some_iff] at h
    obtain ⟨g1, eg1, rfl⟩ := h
    intro c ρ st z h1 h2 hf
    obtain ⟨z1, e2, hf⟩ := Option.bind_eq_some_iff.mp hf
    obtain ⟨p1, p2⟩ := spl_ok eR h1 h2
    have := whlR_ok (cc := evT C t) (ff := exs C b) (fun s z s' st e q1 q2 => by
      obtain ⟨v, s2, st3, e3, i1, i2, i3⟩ := hTT _ _ _ _ _ _ q1 q2 e
      cases e3
      exact ⟨st3, i1, i2, i3⟩) (fun s x st e q1 q2 => by
      obtain ⟨z2, e2, e5⟩ := Option.bind_eq_some_iff.mp e
      have := hX _ _ _ _ q1 q2 e2
      cases z2 with
      | inl s2 =>
        cases e5
        obtain ⟨st4, l1, l2, l3⟩ := this
        exact ⟨st4, l1, l2, coC_ok eg1 _ _ l3⟩
      | inr r =>
        cases e5
        exact this) fu _ z1 st e2 p1 (coC_ok eg0 _ _ p2)
    cases z1 with
    | inl s =>
      cases hf
      obtain ⟨st2, j1, j2, j3⟩ := this
      obtain ⟨n1, n2⟩ := mrg_ok eR em j2 j3
      exact ⟨st2, by rw [ex_whl, hfu]; exact j1, n1, n2⟩
    | inr r =>
      cases hf
      obtain ⟨d, bb, st2, j1, j2⟩ := this
      exact ⟨d, bb, st2, by rw [ex_whl, hfu]; exact j1, j2⟩
  · cases h
end
end Ta
end
section
/-! Ta13: the translation of defs keeps the evaluator's word. -/
namespace Ta
open PySem Mi
section
variable {C : Ct} {S : Sgs} {gl : Str → Option PyData} {fu : Nat} {I : RI}
mutual
theorem cS_ok (hS : ∀ f perm os, ∀ s ∈ S f perm os, SigOk C s) (hg : ∀ x p, gl x = some p → C.glo x = some p) (hfu : C.fuel = fu) : ∀ (s : Mi.S) {Γ Δ : Ctx} {X : SV I Γ Δ}, cS S gl fu I s Γ Δ = some X → SOk C s X
  | .asg i e, Γ, Δ, X, h => by
    simp only [cS, Option.bind_eq_some_iff] at h
    obtain ⟨A, eA, h⟩ := h
    exact asg_ok (cE_ok hS hg e eA) h
  | .asgT is e, Γ, Δ, X, h => by
    simp only [cS, Option.bind_eq_some_iff] at h
    obtain ⟨A, eA, h⟩ := h
    exact asgT_ok (cE_ok hS hg e eA) h
  | .par is es, Γ, Δ, X, h => by
    simp only [cS, Option.bind_eq_some_iff] at h
    obtain ⟨A, eA, h⟩ := h
    exact par_ok (cL_ok hS hg es eA) h
  | .divI i k j e, Γ, Δ, X, h => by
    simp only [cS, Option.bind_eq_some_iff] at h
    obtain ⟨A, eA, h⟩ := h
    exact divI_ok (cE_ok hS hg e eA) h
  | .asgTT is js e, Γ, Δ, X, h => by
    simp only [cS, Option.bind_eq_some_iff] at h
    obtain ⟨A, eA, h⟩ := h
    exact asgTT_ok (cE_ok hS hg e eA) h
  | .asgSS i k j l e, Γ, Δ, X, h => by
    simp only [cS, Option.bind_eq_some_iff] at h
    obtain ⟨A, eA, h⟩ := h
    exact asgSS_ok (cE_ok hS hg e eA) (fun Γ Δ A hA => cE_ok hS hg k hA) (fun Γ Δ A hA => cE_ok hS hg l hA) h
  | .setI i k e, Γ, Δ, X, h => by
    simp only [cS, Option.bind_eq_some_iff] at h
    obtain ⟨A, eA, K, eK, h⟩ := h
    exact setI_ok (cE_ok hS hg e eA) (cE_ok hS hg k eK) h
  | .augI i k e, Γ, Δ, X, h => by
    simp only [cS, Option.bind_eq_some_iff] at h
    obtain ⟨K, eK, A, eA, h⟩ := h
    exact augI_ok (cE_ok hS hg k eK) (cE_ok hS hg e eA) h
  | .aug i o e, Γ, Δ, X, h => by
    simp only [cS, Option.bind_eq_some_iff] at h
    obtain ⟨A, eA, h⟩ := h
    exact aug_ok (cE_ok hS hg e eA) h
  | .app i e, Γ, Δ, X, h => by
    simp only [cS, Option.bind_eq_some_iff] at h
    obtain ⟨A, eA, h⟩ := h
    exact app_ok (cE_ok hS hg e eA) h
  | .ext i e, Γ, Δ, X, h => by
    simp only [cS, Option.bind_eq_some_iff] at h
    obtain ⟨A, eA, h⟩ := h
    exact ext_ok (cE_ok hS hg e eA) h
  | .upd _ _, Γ, Δ, X, h => by simp [cS] at h
  | .sdf i k e, Γ, Δ, X, h => by
    simp only [cS, Option.bind_eq_some_iff] at h
    obtain ⟨K, eK, A, eA, h⟩ := h
    exact sdf_ok (cE_ok hS hg k eK) (cE_ok hS hg e eA) h
  | .ex e, Γ, Δ, X, h => by
    simp only [cS, Option.map_eq_some_iff] at h
    obtain ⟨A, eA, rfl⟩ := h
    intro c ρ st R k r h1 h2 hf
    obtain ⟨v, ρ1, od, st1, hf, k1, k2, k3, k4⟩ := cE_ok hS hg e eA c ρ st R _ r h1 h2 hf
    exact ⟨ρ1, hf, st1, by rw [ex_ex, k1] <;> rfl, k3, k4⟩
  | .ret e, Γ, Δ, X, h => by
    simp only [cS, Option.bind_eq_some_iff] at h
    obtain ⟨A, eA, h⟩ := h
    exact ret_ok (cE_ok hS hg e eA) h
  | .retv i, Γ, Δ, X, h => retv_ok (by simpa only [cS] using h)
  | .retN, Γ, Δ, X, h => retN_ok (by simpa only [cS] using h)
  | .pass, Γ, Δ, X, h => by
    simp only [cS] at h
    cases h
    intro c ρ st R k r h1 h2 hf
    exact ⟨ρ, hf, st, rfl, h1, h2⟩
  | .brk, Γ, Δ, X, h => by simp [cS] at h
  | .cont, Γ, Δ, X, h => by simp [cS] at h
  | .raise, Γ, Δ, X, h => by
    simp only [cS] at h
    cases h
    intro c ρ st r h1 h2 hf
    cases hf
  | .ifs t a b, Γ, Δ, X, h => by
    simp only [cS, Option.bind_eq_some_iff] at h
    obtain ⟨T, eT, h⟩ := h
    exact ifs_ok (cT_ok hS hg t eT) (fun Γ Δ X hX => cSs_ok hS hg hfu a hX) (fun Γ Δ X hX => cSs_ok hS hg hfu b hX) h
  | .whl t b, Γ, Δ, X, h => by
    simp only [cS] at h
    exact whl_ok hfu (fun Γ Δ A hA => cT_ok hS hg t hA) (fun Γ Δ X hX => cSs_ok hS hg hfu b hX) h
  | .fr tg one it b, Γ, Δ, X, h => by
    simp only [cS, Option.bind_eq_some_iff] at h
    obtain ⟨Iv, eI, h⟩ := h
    exact for_ok (cI_ok hS hg it eI) (fun Γ Δ X hX => cSs_ok hS hg hfu b hX) h
theorem cSs_ok (hS : ∀ f perm os, ∀ s ∈ S f perm os, SigOk C s) (hg : ∀ x p, gl x = some p → C.glo x = some p) (hfu : C.fuel = fu) : ∀ (s : Ss) {Γ Δ : Ctx} {X : SV I Γ Δ}, cSs S gl fu I s Γ Δ = some X → SsOk C s X
  | .nil, Γ, Δ, X, h => by
    simp only [cSs] at h
    cases h
    intro c ρ st R k r h1 h2 hf
    exact ⟨ρ, hf, st, rfl, h1, h2⟩
  | .cons s .nil, Γ, Δ, X, h => by
    simp only [cSs] at h
    exact one_ok (cS_ok hS hg hfu s h)
  | .cons s (.cons s2 ss), Γ, Δ, X, h => by
    rw [cSs, Option.bind_eq_some_iff] at h
    obtain ⟨Y, eY, h⟩ := h
    exact seq_ok (cS_ok hS hg hfu s eY) (fun E Z hZ => cSs_ok hS hg hfu (.cons s2 ss) hZ) h
end
end
/-! ### defs -/
theorem dead_ok : ∀ (n : Nat) (st : En), st.length = n → EnvR (deadC n) (deadE n) st
  | 0, st, h => List.eq_nil_of_length_eq_zero h
  | n + 1, s :: st, h => ⟨s, st, rfl, dead_ok n st (by simpa using h)⟩
theorem calm_ok : ∀ (n : Nat), EnvR (calmC n) (calmE n) (List.replicate n Sl.no)
  | 0 => rfl
  | n + 1 => ⟨.no, List.replicate n .no, rfl, rfl, calm_ok n⟩
theorem encs_len : ∀ {ts : List VT} {a : HL ts}, (encs ts a).length = ts.length
  | [], _ => rfl
  | t :: ts, a => congrArg Nat.succ (encs_len (ts := ts))
theorem in_ok : ∀ {ts : List VT} {n : Nat} (a : HL ts), ts.length ≤ n → EnvR (inR ts n) (inRE ts n a) ((encs ts a).map Sl.fr ++ List.replicate (n - ts.length) Sl.no)
  | [], n, a, _ => calm_ok n
  | t :: ts, n, a, h => by
    rw [List.length_cons] at h
    refine ⟨_, _, rfl, rfl, ?_⟩
    have := in_ok (ts := ts) (n := n - 1) a.2 (by omega)
    rw [show n - (t :: ts).length = n - 1 - ts.length by rw [List.length_cons]; omega]
    exact this
/-- a sig that holds wherever calls may go so deep -/
def SgOk (T : Tab) (fu lv : Nat) (s : Sig) : Prop := ∀ n, lv ≤ n → SigOk (T.ct fu (run T fu n)) s
theorem SgOk.mono {T : Tab} {fu a b : Nat} {s : Sig} (h : SgOk T fu a s) (le : a ≤ b) : SgOk T fu b s := fun n hn => h n (Nat.le_trans le hn)
/-- the sigs of a list, by name and types -/
def sgs (L : List Sig) : Sgs := fun f perm os => match os with
  | [] => L.filter fun s => decide (s.nm = f)
  | os => L.filter fun s => decide (s.nm = f) && decide (s.ts = perm.map fun j => (os.getD j (.va, .scr)).2)
theorem sgs_mem {L : List Sig} {f : Str} {perm : List Nat} {os : List (Ok × VT)} {s : Sig} (h : s ∈ sgs L f perm os) : s ∈ L := by
  unfold sgs at h
  split at h
  · exact (List.mem_filter.mp h).1
  · exact (List.mem_filter.mp h).1
theorem ct_glo' {T : Tab} {fu : Nat} {g : Str → List D → Option (D × Bool × D)} {x : Str} : (T.ct fu g).glo x = T.glos.lookup x := rfl
def glT (T : Tab) (x : Str) : Option PyData := T.glos.lookup x
theorem fn0_ok {T : Tab} {fu lv : Nat} {nm : Str} {F : Fd} {L : List Sig} {ts : List VT} {rt : VT} {k : Ok} {l : List (VT × Ok)} {f : HL ts → Option (rt.den × Unit)} (lk : T.fds.lookup nm = some F) (hio : F.io = false) (hps : F.ps.length = ts.length) (hn : ts.length ≤ F.n)
    (hL : ∀ s ∈ L, SgOk T fu lv s) (h : cF0 (sgs L) (glT T) fu F ts rt k = some (l, f)) : SgOk T fu (lv + 1) ⟨nm, ts, false, k, rt, f⟩ := by
  intro n hn2
  refine ⟨by rw [ct_io lk, hio], fun a r hf => ?_⟩
  obtain ⟨n, rfl⟩ : ∃ m, n = m + 1 := ⟨n - 1, by omega⟩
  have hS : ∀ f perm os, ∀ s ∈ sgs L f perm os, SigOk (T.ct fu (run T fu n)) s := fun f perm os s hs => hL s (sgs_mem hs) n (by omega)
  have hg : ∀ x p, glT T x = some p → (T.ct fu (run T fu n)).glo x = some p := fun x p e => e
  have hds : (encs ts a).length = F.ps.length := by rw [encs_len, hps]
  have en : enter F (encs ts a) = (encs ts a).map Sl.fr ++ List.replicate (F.n - ts.length) Sl.no := by
    unfold enter
    rw [hio, encs_len] <;> rfl
  have len : ((encs ts a).map Sl.fr ++ List.replicate (F.n - ts.length) Sl.no).length = F.n := by
    rw [List.length_append, List.length_map, List.length_replicate, encs_len]
    omega
  have h1 := dead_ok F.n _ len
  have h2 := in_ok a hn
  show ∃ b fin, run T fu (n + 1) nm (encs ts a) = some (rt.enc r.1, b, fin) ∧ _ ∧ _
  rw [run_of lk hds, hio, en]
  have nk : ∀ st, exs (T.ct fu (run T fu n)) F.body st = exs (T.ct fu (run T fu n)) (nrmK F.body .nil) st := fun st => by
    rw [nrmK_ok, bind_thenK (s := .nil)]
  rw [nk]
  unfold cF0 at h
  obtain ⟨Q, eQ, h⟩ := Option.bind_eq_some_iff.mp h
  obtain ⟨h3, h4⟩ := spl_ok eQ h1 h2
  split at h
  · rename_i l0 f0 e0
    cases h
    have hX := cSs_ok hS hg rfl _ e0
    obtain ⟨d, b, st', j1, j2⟩ := hX _ _ _ _ h3 h4 hf
    refine ⟨b, .py .none, ?_, j2.b, trivial⟩
    rw [j1, Option.bind_some, lent_f, Option.bind_some, j2.d] <;> rfl
  · rename_i E f0 e0
    split at h
    · rename_i hk
      split at h
      · rename_i g eg
        cases h
        have hX := cSs_ok hS hg rfl _ e0
        obtain ⟨ρ', hf, st', j1, j2⟩ := hX _ _ _ _ _ _ h3 h4 hf
        cases hf
        refine ⟨false, .py .none, ?_, kFit_ok hk ⟨fun _ => rfl, fun h => nomatch h⟩, trivial⟩
        rw [j1, Option.bind_some, lent_f, Option.bind_some]
        exact congrArg (fun z => some (z, false, D.py .none)) (g.2 ()).symm
      · cases h
    · cases h
  · rename_i l0 E f0 e0
    split at h
    · rename_i hk
      split at h
      · rename_i g eg
        cases h
        obtain ⟨z, hf, e2⟩ := Option.bind_eq_some_iff.mp hf
        have hX := cSs_ok hS hg rfl _ e0
        have := hX _ _ _ _ h3 h4 hf
        cases z with
        | inl ρ' =>
          cases e2
          obtain ⟨st', j1, j2⟩ := this
          refine ⟨false, .py .none, ?_, kFit_ok hk ⟨fun _ => rfl, fun h => nomatch h⟩, trivial⟩
          rw [j1, Option.bind_some, lent_f, Option.bind_some]
          exact congrArg (fun z => some (z, false, D.py .none)) (g.2 ()).symm
        | inr r' =>
          cases e2
          obtain ⟨d, b, st', j1, j2⟩ := this
          refine ⟨b, .py .none, ?_, j2.b, trivial⟩
          rw [j1, Option.bind_some, lent_f, Option.bind_some, j2.d] <;> rfl
      · cases h
    · cases h
  · cases h
theorem lent_bo {d : D} {st : En} (h : st[0]? = some (.bo d)) : lentE true st = some d := by
  cases st with
  | nil => cases h
  | cons s st =>
    have : s = .bo d := by simpa using h
    subst this
    rfl
theorem fn1_ok {T : Tab} {fu lv : Nat} {nm : Str} {F : Fd} {L : List Sig} {t : VT} {ts : List VT} {rt : VT} {k : Ok} {l : List (VT × Ok)} {f : HL (t :: ts) → Option (rt.den × t.den)} (lk : T.fds.lookup nm = some F) (hio : F.io = true) (hps : F.ps.length = ts.length + 1) (hn : ts.length + 1 ≤ F.n)
    (hL : ∀ s ∈ L, SgOk T fu lv s) (h : cF1 (sgs L) (glT T) fu F t ts rt k = some (l, f)) : SgOk T fu (lv + 1) ⟨nm, t :: ts, true, k, rt, f⟩ := by
  intro n hn2
  refine ⟨by rw [ct_io lk, hio], fun a r hf => ?_⟩
  obtain ⟨n, rfl⟩ : ∃ m, n = m + 1 := ⟨n - 1, by omega⟩
  have hS : ∀ f perm os, ∀ s ∈ sgs L f perm os, SigOk (T.ct fu (run T fu n)) s := fun f perm os s hs => hL s (sgs_mem hs) n (by omega)
  have hg : ∀ x p, glT T x = some p → (T.ct fu (run T fu n)).glo x = some p := fun x p e => e
  have hds : (encs (t :: ts) a).length = F.ps.length := by rw [encs_len, hps] <;> rfl
  have en : enter F (encs (t :: ts) a) = Sl.bo (t.enc a.1) :: ((encs ts a.2).map Sl.fr ++ List.replicate (F.n - 1 - ts.length) Sl.no) := by
    unfold enter
    rw [hio]
    show Sl.bo (t.enc a.1) :: (encs ts a.2).map Sl.fr ++ List.replicate (F.n - (encs (t :: ts) a).length) Sl.no = _
    rw [encs_len, List.length_cons, show F.n - (ts.length + 1) = F.n - 1 - ts.length by omega] <;> rfl
  have len : (Sl.bo (t.enc a.1) :: ((encs ts a.2).map Sl.fr ++ List.replicate (F.n - 1 - ts.length) Sl.no)).length = F.n := by
    rw [List.length_cons, List.length_append, List.length_map, List.length_replicate, encs_len]
    omega
  have h1 := dead_ok F.n _ len
  have h2 : EnvR (.has .bo t :: inR ts (F.n - 1)) (a.1, inRE ts (F.n - 1) a.2) (Sl.bo (t.enc a.1) :: ((encs ts a.2).map Sl.fr ++ List.replicate (F.n - 1 - ts.length) Sl.no)) := ⟨_, _, rfl, rfl, in_ok a.2 (by omega)⟩
  show ∃ b fin, run T fu (n + 1) nm (encs (t :: ts) a) = some (rt.enc r.1, b, fin) ∧ _ ∧ _
  rw [run_of lk hds, hio, en]
  have nk : ∀ st, exs (T.ct fu (run T fu n)) F.body st = exs (T.ct fu (run T fu n)) (nrmK F.body .nil) st := fun st => by
    rw [nrmK_ok, bind_thenK (s := .nil)]
  rw [nk]
  unfold cF1 at h
  obtain ⟨Q, eQ, h⟩ := Option.bind_eq_some_iff.mp h
  obtain ⟨h3, h4⟩ := spl_ok eQ h1 h2
  split at h
  · rename_i l0 f0 e0
    cases h
    have hX := cSs_ok hS hg rfl _ e0
    obtain ⟨d, b, st', j1, j2⟩ := hX _ _ _ _ h3 h4 hf
    have jl : st'[0]? = some (.bo (t.enc r.2)) := j2.l
    refine ⟨b, t.enc r.2, ?_, j2.b, rfl⟩
    rw [j1, Option.bind_some, lent_bo jl, Option.bind_some, j2.d] <;> rfl
  · rename_i E f0 e0
    split at h
    · rename_i hk
      split at h
      · rename_i g h0 eg eh
        cases h
        have hX := cSs_ok hS hg rfl _ e0
        obtain ⟨ρ', hf, st', j1, j2, j3⟩ := hX _ _ _ _ _ _ h3 h4 hf
        cases hf
        have jl : st'[0]? = some (.bo (t.enc (h0 (Q.f (deadE F.n) (a.1, inRE ts (F.n - 1) a.2)) ρ'))) := lent_ok eh j2 j3
        refine ⟨false, t.enc (h0 (Q.f (deadE F.n) (a.1, inRE ts (F.n - 1) a.2)) ρ'), ?_, kFit_ok hk ⟨fun _ => rfl, fun h => nomatch h⟩, rfl⟩
        rw [j1, Option.bind_some, lent_bo jl, Option.bind_some]
        exact congrArg (fun z => some (z, false, t.enc (h0 (Q.f (deadE F.n) (a.1, inRE ts (F.n - 1) a.2)) ρ'))) (g.2 ()).symm
      · cases h
    · cases h
  · rename_i l0 E f0 e0
    split at h
    · rename_i hk
      split at h
      · rename_i g h0 eg eh
        cases h
        obtain ⟨z, hf, e2⟩ := Option.bind_eq_some_iff.mp hf
        have hX := cSs_ok hS hg rfl _ e0
        have := hX _ _ _ _ h3 h4 hf
        cases z with
        | inl ρ' =>
          cases e2
          obtain ⟨st', j1, j2, j3⟩ := this
          have jl : st'[0]? = some (.bo (t.enc (h0 (Q.f (deadE F.n) (a.1, inRE ts (F.n - 1) a.2)) ρ'))) := lent_ok eh j2 j3
          refine ⟨false, t.enc (h0 (Q.f (deadE F.n) (a.1, inRE ts (F.n - 1) a.2)) ρ'), ?_, kFit_ok hk ⟨fun _ => rfl, fun h => nomatch h⟩, rfl⟩
          rw [j1, Option.bind_some, lent_bo jl, Option.bind_some]
          exact congrArg (fun z => some (z, false, t.enc (h0 (Q.f (deadE F.n) (a.1, inRE ts (F.n - 1) a.2)) ρ'))) (g.2 ()).symm
        | inr r' =>
          cases e2
          obtain ⟨d, b, st', j1, j2⟩ := this
          have jl : st'[0]? = some (.bo (t.enc r.2)) := j2.l
          refine ⟨b, t.enc r.2, ?_, j2.b, rfl⟩
          rw [j1, Option.bind_some, lent_bo jl, Option.bind_some, j2.d] <;> rfl
      · cases h
    · cases h
  · cases h
/-- what a law needs: it gives True at every script -/
theorem law_run {T : Tab} {fu lv : Nat} {k : Ok} {f : HL [.scr] → Option (VT.den (.py .bool) × Unit)} (h : SgOk T fu lv ⟨Str.ofString "law", [.scr], false, k, .py .bool, f⟩) (ns : List Int) (hf : f (ns, ()) = some (true, ())) (n : Nat) (hn : lv ≤ n) :
    ∃ b fin, run T fu n (Str.ofString "law") [.scr ns] = some (.py (.bool true), b, fin) := by
  obtain ⟨b, fin, h1, _, _⟩ := (h n hn).ok _ _ hf
  exact ⟨b, fin, h1⟩
end Ta
namespace Ta
theorem allC {α : Type _} {p : α → Prop} {a : α} {l : List α} (h : p a) (t : ∀ s ∈ l, p s) : ∀ s ∈ a :: l, p s := fun s hs => (List.mem_cons.mp hs).elim (fun e => e ▸ h) (t s)
end Ta
namespace Ta
open PySem Mi
theorem fn0_get {T : Tab} {fu lv : Nat} {nm : Str} {F : Fd} {L : List Sig} {ts : List VT} {rt : VT} {k : Ok} {Z : Option (List (VT × Ok) × (HL ts → Option (rt.den × Unit)))} (hz : Z.isSome = true) (e : Z = cF0 (sgs L) (glT T) fu F ts rt k) (lk : T.fds.lookup nm = some F) (hio : F.io = false) (hps : F.ps.length = ts.length) (hn : ts.length ≤ F.n)
    (hL : ∀ s ∈ L, SgOk T fu lv s) : SgOk T fu (lv + 1) ⟨nm, ts, false, k, rt, (Z.get hz).2⟩ := by
  subst e
  exact fn0_ok (l := (Option.get _ hz).1) lk hio hps hn hL (Option.some_get hz).symm
theorem fn1_get {T : Tab} {fu lv : Nat} {nm : Str} {F : Fd} {L : List Sig} {t : VT} {ts : List VT} {rt : VT} {k : Ok} {Z : Option (List (VT × Ok) × (HL (t :: ts) → Option (rt.den × t.den)))} (hz : Z.isSome = true) (e : Z = cF1 (sgs L) (glT T) fu F t ts rt k) (lk : T.fds.lookup nm = some F) (hio : F.io = true) (hps : F.ps.length = ts.length + 1) (hn : ts.length + 1 ≤ F.n)
    (hL : ∀ s ∈ L, SgOk T fu lv s) : SgOk T fu (lv + 1) ⟨nm, t :: ts, true, k, rt, (Z.get hz).2⟩ := by
  subst e
  exact fn1_ok (l := (Option.get _ hz).1) lk hio hps hn hL (Option.some_get hz).symm
end Ta
end
section
/-! Nm: letters named as they come; the least of some rows. -/
namespace Nm
open PySem Mi
abbrev jN (n : Nat) : PyData := .int (n : Int)
/-! ### names -/
def stp (a : List Nat × List Nat) (x : Nat) : List Nat × List Nat :=
  let s := if x ∈ a.1 then a.1 else a.1 ++ [x]
  (s, a.2 ++ [s.idxOf x])
def nmF (W : List Nat) : List Nat × List Nat := W.foldl stp ([], [])
/-- the letters as they come -/
def seen (W : List Nat) : List Nat := (nmF W).1
def nm (W : List Nat) : List Nat := (nmF W).2
theorem nmF_snoc (W : List Nat) (x : Nat) : nmF (W ++ [x]) = stp (nmF W) x := by
  unfold nmF
  rw [List.foldl_append]
  rfl
theorem seen_snoc (W : List Nat) (x : Nat) : seen (W ++ [x]) = if x ∈ seen W then seen W else seen W ++ [x] := by
  unfold seen
  rw [nmF_snoc]
  rfl
theorem nm_snoc (W : List Nat) (x : Nat) : nm (W ++ [x]) = nm W ++ [(seen (W ++ [x])).idxOf x] := by
  unfold nm seen
  rw [nmF_snoc]
  rfl
theorem snocR {α : Type} {P : List α → Prop} (h0 : P []) (h1 : ∀ l x, P l → P (l ++ [x])) (l : List α) : P l := by
  rw [← List.reverse_reverse (as := l)]
  generalize l.reverse = m
  induction m with
  | nil => exact h0
  | cons x m ih => rw [List.reverse_cons]; exact h1 _ _ ih
theorem mem_seen (W : List Nat) (x : Nat) : x ∈ seen W ↔ x ∈ W := by
  refine snocR (P := fun W => x ∈ seen W ↔ x ∈ W) (by simp [seen, nmF]) (fun W y ih => ?_) W
  rw [seen_snoc]
  split
  · rename_i h
    rw [ih, List.mem_append, List.mem_singleton]
    constructor
    · exact .inl
    · rintro (h' | rfl)
      · exact h'
      · exact ih.mp h
  · rw [List.mem_append, List.mem_append, ih]
theorem nodup_seen (W : List Nat) : (seen W).Nodup := by
  refine snocR (P := fun W => (seen W).Nodup) (by simp [seen, nmF]) (fun W y ih => ?_) W
  rw [seen_snoc]
  split
  · exact ih
  · rename_i h
    rw [List.nodup_append]
    refine ⟨ih, by simp, fun a ha b hb => ?_⟩
    rw [List.mem_singleton] at hb
    subst hb
    exact fun e => h (e ▸ ha)
/-- what has come stays in its place -/
theorem seen_pre (W V : List Nat) : ∃ t, seen (W ++ V) = seen W ++ t := by
  refine snocR (P := fun V => ∃ t, seen (W ++ V) = seen W ++ t) ⟨[], by simp⟩ (fun V y ih => ?_) V
  obtain ⟨t, ht⟩ := ih
  rw [← List.append_assoc, seen_snoc]
  split
  · exact ⟨t, ht⟩
  · exact ⟨t ++ [y], by rw [ht, List.append_assoc]⟩
theorem idx_pre {s t : List Nat} {x : Nat} (h : x ∈ s) : (s ++ t).idxOf x = s.idxOf x := by
  rw [List.idxOf_append, if_pos h]
theorem nm_eq (W : List Nat) : nm W = W.map fun x => (seen W).idxOf x := by
  refine snocR (P := fun W => nm W = W.map fun x => (seen W).idxOf x) rfl (fun W y ih => ?_) W
  rw [nm_snoc, ih, List.map_append]
  congr 1
  refine List.map_congr_left fun x hx => ?_
  obtain ⟨t, ht⟩ := seen_pre W [y]
  rw [ht, idx_pre ((mem_seen W x).mpr hx)]
theorem nm_len (W : List Nat) : (nm W).length = W.length := by rw [nm_eq, List.length_map]
/-- other letters for letters -/
theorem seen_map {g : Nat → Nat} (W : List Nat) (hg : ∀ x ∈ W, ∀ y ∈ W, g x = g y → x = y) : seen (W.map g) = (seen W).map g := by
  revert hg
  refine snocR (P := fun W => (∀ x ∈ W, ∀ y ∈ W, g x = g y → x = y) → seen (W.map g) = (seen W).map g) (fun _ => rfl) (fun W y ih hg => ?_) W
  have ih' := ih fun a ha b hb => hg a (List.mem_append_left _ ha) b (List.mem_append_left _ hb)
  rw [List.map_append, List.map_singleton, seen_snoc, seen_snoc, ih']
  have e : g y ∈ (seen W).map g ↔ y ∈ seen W := by
    rw [List.mem_map]
    constructor
    · rintro ⟨a, ha, e⟩
      have := hg a (List.mem_append_left _ ((mem_seen W a).mp ha)) y (by simp) e
      subst this
      exact ha
    · exact fun h => ⟨y, h, rfl⟩
  by_cases h : y ∈ seen W
  · rw [if_pos h, if_pos (e.mpr h)]
  · rw [if_neg h, if_neg fun q => h (e.mp q), List.map_append, List.map_singleton]
theorem idx_map {g : Nat → Nat} : ∀ (s : List Nat) (x : Nat), (∀ y ∈ s, g y = g x → y = x) → (s.map g).idxOf (g x) = s.idxOf x
  | [], _, _ => rfl
  | y :: s, x, h => by
    rw [List.map_cons, List.idxOf_cons, List.idxOf_cons, idx_map s x fun z hz => h z (List.mem_cons_of_mem _ hz)]
    by_cases e : y = x
    · subst e; simp
    · have e2 : ¬ g y = g x := fun q => e (h y (List.mem_cons_self ..) q)
      have b1 : (y == x) = false := by simpa using e
      have b2 : (g y == g x) = false := by simpa using e2
      rw [b1, b2]
theorem nm_map {g : Nat → Nat} (W : List Nat) (hg : ∀ x ∈ W, ∀ y ∈ W, g x = g y → x = y) : nm (W.map g) = nm W := by
  rw [nm_eq, nm_eq, seen_map W hg, List.map_map]
  refine List.map_congr_left fun x hx => ?_
  exact idx_map _ x fun y hy => hg y ((mem_seen W y).mp hy) x hx
theorem idx_inj {s : List Nat} {x y : Nat} (hx : x ∈ s) (hy : y ∈ s) (e : s.idxOf x = s.idxOf y) : x = y := by
  have h1 := List.idxOf_lt_length_of_mem hx
  have h2 := List.idxOf_lt_length_of_mem hy
  have e1 : s[s.idxOf x] = x := List.getElem_idxOf h1
  have e2 : s[s.idxOf y] = y := List.getElem_idxOf h2
  have q : s[s.idxOf x]? = s[s.idxOf y]? := by rw [e]
  rw [List.getElem?_eq_getElem h1, List.getElem?_eq_getElem h2, e1, e2] at q
  exact Option.some.inj q
/-- a turned row -/
def trn (W : List Nat) (k : Nat) : List Nat := W.drop k ++ W.take k
theorem trn_mem {W : List Nat} {k x : Nat} : x ∈ trn W k ↔ x ∈ W := by
  unfold trn
  rw [List.mem_append, Or.comm, ← List.mem_append, List.take_append_drop]
theorem trn_map {g : Nat → Nat} {W : List Nat} {k : Nat} : trn (W.map g) k = (trn W k).map g := by
  unfold trn
  rw [List.map_append, List.map_drop, List.map_take]
theorem trn_len {W : List Nat} {k : Nat} : (trn W k).length = W.length := by
  unfold trn
  rw [List.length_append, List.length_drop, List.length_take]
  omega
/-! ### the least one -/
def tI (l : List Int) : PyData := .tuple (l.map .int)
def minL (x : List Int) (xs : List (List Int)) : List Int := xs.foldl (fun a y => if y < a then y else a) x
theorem lt_tI (a b : List Int) : PySem.W.dataLt (tI a) (tI b) = decide (a < b) := PySem.W.dataLt_ints a b
theorem minD_tI : ∀ (xs : List (List Int)) (x : List Int), PySem.W.minD (tI x) (xs.map tI) = tI (minL x xs)
  | [], x => rfl
  | y :: xs, x => by
    show PySem.W.minD (if PySem.W.dataLt (tI y) (tI x) = true then tI y else tI x) (xs.map tI) = tI (minL (if y < x then y else x) xs)
    rw [lt_tI]
    by_cases h : y < x
    · rw [if_pos h, if_pos (decide_eq_true h), minD_tI xs y]
    · rw [if_neg h, if_neg (by rw [decide_eq_false h]; exact Bool.false_ne_true), minD_tI xs x]
theorem minL_mem : ∀ (xs : List (List Int)) (x : List Int), minL x xs ∈ x :: xs
  | [], x => by simp [minL]
  | y :: xs, x => by
    show minL (if y < x then y else x) xs ∈ _
    have := minL_mem xs (if y < x then y else x)
    rw [List.mem_cons] at this
    rcases this with h | h
    · rw [h]
      split <;> simp
    · simp [h]
theorem minL_le : ∀ (xs : List (List Int)) (x : List Int), ∀ y ∈ x :: xs, ¬ y < minL x xs
  | [], x, y, hy => by
    rw [List.mem_singleton] at hy
    subst hy
    exact List.lt_irrefl y
  | z :: xs, x, y, hy => by
    show ¬ y < minL (if z < x then z else x) xs
    have ih := minL_le xs (if z < x then z else x)
    have hm := ih (if z < x then z else x) (List.mem_cons_self ..)
    rcases List.mem_cons.mp hy with rfl | hy
    · by_cases h : z < y
      · rw [if_pos h] at hm ih ⊢
        intro q
        exact hm (List.lt_trans h q)
      · rw [if_neg h] at hm ih ⊢
        exact hm
    · rcases List.mem_cons.mp hy with rfl | hy
      · by_cases h : y < x
        · rw [if_pos h] at hm ih ⊢
          exact hm
        · rw [if_neg h] at hm ih ⊢
          intro q
          exact hm (List.lt_of_le_of_lt (List.not_lt.mp h) q)
      · exact ih y (List.mem_cons_of_mem _ hy)
/-- the least one hangs on the members alone -/
theorem minL_same {x y : List Int} {xs ys : List (List Int)} (h : ∀ a, a ∈ x :: xs ↔ a ∈ y :: ys) : minL x xs = minL y ys := by
  have h1 := minL_le ys y _ ((h _).mp (minL_mem xs x))
  have h2 := minL_le xs x _ ((h _).mpr (minL_mem ys y))
  exact List.le_antisymm (List.not_lt.mp h2) (List.not_lt.mp h1)
theorem alike_tI : ∀ (a b : List Int), PySem.W.alikeAll (a.map .int) (b.map .int) = true
  | [], _ => by simp [PySem.W.alikeAll]
  | x :: a, [] => by simp [PySem.W.alikeAll]
  | x :: a, y :: b => by
    rw [List.map_cons, List.map_cons, PySem.W.alikeAll, alike_tI a b]
    simp [PySem.W.alike]
theorem min_rows {L : List (List Nat)} {x : List Nat} {xs : List (List Nat)} (e : L = x :: xs) (hs : ∀ l ∈ L, ∀ v ∈ l, v < 100) :
    biD .min [.py (.list (L.map fun l => .tuple (l.map jN)))] = some (.va (.py (tI (minL (x.map fun (n : Nat) => (n : Int)) (xs.map fun l => l.map fun (n : Nat) => (n : Int)))))) := by
  subst e
  have c : ∀ l : List Nat, PyData.tuple (l.map jN) = tI (l.map fun (n : Nat) => (n : Int)) := fun l => by
    unfold tI
    rw [List.map_map]
    rfl
  have c0 : ((x :: xs).map fun l => PyData.tuple (l.map jN)) = tI (x.map fun (n : Nat) => (n : Int)) :: (xs.map fun l => l.map fun (n : Nat) => (n : Int)).map tI := by
    rw [List.map_cons, List.map_map, c]
    congr 1
    exact List.map_congr_left fun l _ => c l
  have ok : okDp (.list ((x :: xs).map fun l => PyData.tuple (l.map jN))) = true :=
    (Sz.lst (SzA.map (k := (((x :: xs).map List.length).sum)) (d := 1) fun l hl => (Sz.tup (SzA.map (k := 0) (d := 0) fun v hv => Sz.nat (hs l hl v hv))).mono (by
      have : ∀ (ll : List (List Nat)) (l : List Nat), l ∈ ll → l.length ≤ (ll.map List.length).sum := by
        intro ll
        induction ll with
        | nil => intro l h; cases h
        | cons a ll ih =>
          intro l h
          rw [List.map_cons, List.sum_cons]
          rcases List.mem_cons.mp h with rfl | h
          · omega
          · have := ih l h; omega
      have := this _ _ hl
      omega) (Nat.le_refl _))).ok (by omega)
  rw [c0] at ok ⊢
  have a1 : alikeB (tI (x.map fun (n : Nat) => (n : Int)) :: (xs.map fun l => l.map fun (n : Nat) => (n : Int)).map tI) = true := by
    rw [← List.map_cons (f := tI) (a := x.map fun (n : Nat) => (n : Int))]
    unfold alikeB
    rw [List.all_eq_true]
    intro p hp
    rw [List.all_eq_true]
    intro q hq
    obtain ⟨a, _, rfl⟩ := List.mem_map.mp hp
    obtain ⟨b, _, rfl⟩ := List.mem_map.mp hq
    unfold tI
    rw [PySem.W.alike]
    exact alike_tI a b
  have a2 : ((tI (x.map fun (n : Nat) => (n : Int)) :: (xs.map fun l => l.map fun (n : Nat) => (n : Int)).map tI).all fun z => !isNn z) = true := by
    rw [← List.map_cons (f := tI) (a := x.map fun (n : Nat) => (n : Int)), List.all_eq_true]
    intro p hp
    obtain ⟨a, _, rfl⟩ := List.mem_map.mp hp
    rfl
  show (if _ && _ && _ then some (Od.va (.py (PySem.W.minD _ _))) else none) = _
  rw [a1, a2, ok, minD_tI]
  rfl
end Nm
end
section
/-! Nm2: readings of a word, the least of them. -/
namespace Nm
open PySem Mi
def Rot (A B : List Nat) : Prop := ∃ k, k ≤ A.length ∧ B = trn A k
theorem trn_trn {R : List Nat} {a k : Nat} (ha : a ≤ R.length) (hk : k ≤ R.length) : trn (trn R a) k = if a + k ≤ R.length then trn R (a + k) else trn R (a + k - R.length) := by
  unfold trn
  have l1 : (R.drop a).length = R.length - a := List.length_drop
  by_cases h : a + k ≤ R.length
  · rw [if_pos h, List.drop_append, List.take_append, l1, List.drop_drop, show k - (R.length - a) = 0 by omega, List.drop_zero, List.take_zero, List.append_nil]
    have e : R.take (a + k) = R.take a ++ (R.drop a).take k := by
      rw [← List.take_append_drop a (R.take (a + k)), List.take_take, List.drop_take, Nat.min_eq_left (by omega), show a + k - a = k by omega]
    rw [e, List.append_assoc]
  · have d1 : (R.drop a).drop k = [] := List.drop_of_length_le (by rw [l1]; omega)
    have t1 : (R.drop a).take k = R.drop a := List.take_of_length_le (by rw [l1]; omega)
    rw [if_neg h, List.drop_append, List.take_append, l1, d1, t1, List.nil_append]
    have e1 : k - (R.length - a) = a + k - R.length := by omega
    rw [e1, List.take_take, Nat.min_eq_left (by omega)]
    have e2 : R.drop (a + k - R.length) = (R.take a).drop (a + k - R.length) ++ R.drop a := by
      have e3 := List.take_append_drop a R
      rw [show R.drop (a + k - R.length) = (R.take a ++ R.drop a).drop (a + k - R.length) by rw [e3], List.drop_append, show a + k - R.length - (R.take a).length = 0 by rw [List.length_take]; omega, List.drop_zero]
    rw [e2, List.append_assoc]
theorem trn_zero {R : List Nat} : trn R 0 = R := by simp [trn]
theorem trn_full {R : List Nat} : trn R R.length = R := by simp [trn]
theorem trn_rev {R : List Nat} {a : Nat} (ha : a ≤ R.length) : (trn R a).reverse = trn R.reverse (R.length - a) := by
  unfold trn
  rw [List.reverse_append, List.drop_reverse, List.take_reverse, show R.length - (R.length - a) = a by omega]
theorem Rot.refl (A : List Nat) : Rot A A := ⟨0, Nat.zero_le _, trn_zero.symm⟩
theorem Rot.trans {A B D : List Nat} (h : Rot A B) (g : Rot B D) : Rot A D := by
  obtain ⟨a, ha, rfl⟩ := h
  obtain ⟨k, hk, rfl⟩ := g
  rw [trn_len] at hk
  rw [trn_trn ha hk]
  split
  · rename_i q; exact ⟨_, q, rfl⟩
  · exact ⟨_, by omega, rfl⟩
theorem Rot.symm {A B : List Nat} (h : Rot A B) : Rot B A := by
  obtain ⟨a, ha, rfl⟩ := h
  refine ⟨A.length - a, by rw [trn_len]; omega, ?_⟩
  rw [trn_trn ha (by omega), if_pos (by omega), show a + (A.length - a) = A.length by omega, trn_full]
theorem Rot.rev {A B : List Nat} (h : Rot A B) : Rot A.reverse B.reverse := by
  obtain ⟨a, ha, rfl⟩ := h
  exact ⟨A.length - a, by rw [List.length_reverse]; omega, trn_rev ha⟩
theorem Rot.len {A B : List Nat} (h : Rot A B) : B.length = A.length := by
  obtain ⟨a, ha, rfl⟩ := h
  exact trn_len
/-- the readings, m from each side -/
def rds (W : List Nat) (m : Nat) : List (List Nat) := ((List.range m).map fun k => nm (trn W k)) ++ ((List.range m).map fun k => nm (trn W.reverse k))
theorem mem_rds {W : List Nat} {m : Nat} (hm : (m = max W.length 1) ∨ m = W.length + 1) (a : List Nat) : a ∈ rds W m ↔ ∃ V, (Rot W V ∨ Rot W.reverse V) ∧ a = nm V := by
  have one : ∀ R : List Nat, R.length = W.length → (a ∈ ((List.range m).map fun k => nm (trn R k)) ↔ ∃ V, Rot R V ∧ a = nm V) := fun R hR => by
    rw [List.mem_map]
    constructor
    · rintro ⟨k, hk, rfl⟩
      rw [List.mem_range] at hk
      refine ⟨trn R k, ?_, rfl⟩
      by_cases h : k ≤ R.length
      · exact ⟨k, h, rfl⟩
      · exact absurd (show k ≤ R.length by rcases hm with h | h <;> omega) h
    · rintro ⟨V, ⟨k, hk, rfl⟩, rfl⟩
      rw [hR] at hk
      by_cases h : k < m
      · exact ⟨k, List.mem_range.mpr h, rfl⟩
      · refine ⟨0, List.mem_range.mpr (by rcases hm with h | h <;> omega), ?_⟩
        have : k = R.length := by rcases hm with h | h <;> omega
        rw [this, trn_full, trn_zero]
  unfold rds
  rw [List.mem_append, one W rfl, one W.reverse (List.length_reverse ..)]
  constructor
  · rintro (⟨V, h, e⟩ | ⟨V, h, e⟩)
    · exact ⟨V, .inl h, e⟩
    · exact ⟨V, .inr h, e⟩
  · rintro ⟨V, h | h, e⟩
    · exact .inl ⟨V, h, e⟩
    · exact .inr ⟨V, h, e⟩
def castL (l : List Nat) : List Int := l.map fun (n : Nat) => (n : Int)
def leastI : List (List Nat) → List Int
  | [] => []
  | x :: xs => minL (castL x) (xs.map castL)
theorem least_same {L L' : List (List Nat)} (h : ∀ a, a ∈ L ↔ a ∈ L') (n : L ≠ []) (n' : L' ≠ []) : leastI L = leastI L' := by
  cases L with
  | nil => exact absurd rfl n
  | cons x xs =>
    cases L' with
    | nil => exact absurd rfl n'
    | cons y ys =>
      refine minL_same fun a => ?_
      rw [← List.map_cons, ← List.map_cons, List.mem_map, List.mem_map]
      exact ⟨fun ⟨b, hb, e⟩ => ⟨b, (h b).mp hb, e⟩, fun ⟨b, hb, e⟩ => ⟨b, (h b).mpr hb, e⟩⟩
theorem min_least {L : List (List Nat)} (n : L ≠ []) (hs : ∀ l ∈ L, ∀ v ∈ l, v < 100) : biD .min [.py (.list (L.map fun l => .tuple (l.map jN)))] = some (.va (.py (tI (leastI L)))) := by
  cases L with
  | nil => exact absurd rfl n
  | cons x xs => exact min_rows rfl hs
theorem rds_ne {W : List Nat} {m : Nat} (hm : 0 < m) : rds W m ≠ [] := by
  unfold rds
  cases m with
  | zero => omega
  | succ m => rw [List.range_succ]; simp
/-- the normal word -/
def norm (W : List Nat) : List Int := leastI (rds W (W.length + 1))
theorem norm_max (W : List Nat) : leastI (rds W (max W.length 1)) = norm W := by
  refine least_same (fun a => ?_) (rds_ne (by omega)) (rds_ne (by omega))
  rw [mem_rds (.inl rfl), mem_rds (.inr rfl)]
theorem norm_map {g : Nat → Nat} {W : List Nat} (hg : ∀ x ∈ W, ∀ y ∈ W, g x = g y → x = y) : norm (W.map g) = norm W := by
  have e : rds (W.map g) (W.length + 1) = rds W (W.length + 1) := by
    unfold rds
    congr 1
    · refine List.map_congr_left fun k _ => ?_
      rw [trn_map, nm_map _ fun x hx y hy => hg x (trn_mem.mp hx) y (trn_mem.mp hy)]
    · refine List.map_congr_left fun k _ => ?_
      rw [← List.map_reverse, trn_map, nm_map _ fun x hx y hy => hg x (List.mem_reverse.mp (trn_mem.mp hx)) y (List.mem_reverse.mp (trn_mem.mp hy))]
  unfold norm
  rw [List.length_map, e]
theorem norm_nm (W : List Nat) : norm (nm W) = norm W := by
  rw [nm_eq]
  exact norm_map fun x hx y hy e => idx_inj ((mem_seen W x).mpr hx) ((mem_seen W y).mpr hy) e
theorem norm_rot {W V : List Nat} (h : Rot W V ∨ Rot W.reverse V) : norm V = norm W := by
  have len : V.length = W.length := by
    rcases h with h | h
    · exact h.len
    · rw [h.len, List.length_reverse]
  unfold norm
  refine least_same (fun a => ?_) (rds_ne (by omega)) (rds_ne (by omega))
  rw [mem_rds (.inr rfl), mem_rds (.inr rfl)]
  have key : ∀ U, (Rot V U ∨ Rot V.reverse U) ↔ (Rot W U ∨ Rot W.reverse U) := fun U => by
    rcases h with h | h
    · exact ⟨fun z => z.elim (fun z => .inl (h.trans z)) fun z => .inr (h.rev.trans z), fun z => z.elim (fun z => .inl (h.symm.trans z)) fun z => .inr (h.rev.symm.trans z)⟩
    · have h2 : Rot W V.reverse := by have := h.rev; rwa [List.reverse_reverse] at this
      exact ⟨fun z => z.elim (fun z => .inr (h.trans z)) fun z => .inl (h2.trans z), fun z => z.elim (fun z => .inr (h2.symm.trans z)) fun z => .inl (h.symm.trans z)⟩
  exact ⟨fun ⟨U, z, e⟩ => ⟨U, (key U).mp z, e⟩, fun ⟨U, z, e⟩ => ⟨U, (key U).mpr z, e⟩⟩
/-- names are low -/
theorem nm_low {W : List Nat} {v : Nat} (h : v ∈ nm W) : v < (seen W).length := by
  rw [nm_eq] at h
  obtain ⟨x, hx, rfl⟩ := List.mem_map.mp h
  exact List.idxOf_lt_length_of_mem ((mem_seen W x).mpr hx)
theorem seen_le (L : List Nat) : (seen L).length ≤ L.length := by
  refine snocR (P := fun L => (seen L).length ≤ L.length) (by simp [seen, nmF]) (fun L y ih => ?_) L
  rw [seen_snoc]
  split
  · rw [List.length_append]; omega
  · rw [List.length_append, List.length_append]; simpa using ih
theorem rds_low {W : List Nat} {m : Nat} : ∀ l ∈ rds W m, ∀ v ∈ l, v < W.length := by
  intro l hl v hv
  unfold rds at hl
  rw [List.mem_append, List.mem_map, List.mem_map] at hl
  rcases hl with ⟨k, _, rfl⟩ | ⟨k, _, rfl⟩
  · have h1 := nm_low hv
    have h2 := seen_le (trn W k)
    rw [trn_len] at h2
    omega
  · have h1 := nm_low hv
    have h2 := seen_le (trn W.reverse k)
    rw [trn_len, List.length_reverse] at h2
    omega
/-- how often a named letter stands -/
theorem nm_count {W : List Nat} {i : Nat} (hi : i < (seen W).length) : (nm W).count i = W.count (seen W)[i] := by
  have hm : (seen W)[i] ∈ seen W := List.getElem_mem hi
  have hx : ∀ x ∈ W, ((seen W).idxOf x = i ↔ x = (seen W)[i]) := fun x hx => by
    constructor
    · intro e
      subst e
      exact (List.getElem_idxOf hi).symm
    · intro e
      have h1 := nodup_seen W
      rw [e]
      exact List.Nodup.idxOf_getElem h1 i hi
  rw [nm_eq, List.count_eq_countP, List.count_eq_countP, List.countP_map]
  refine List.countP_congr fun x hxW => ?_
  simp only [Function.comp, beq_iff_eq]
  exact hx x hxW
end Nm
end
section
/-! Pc: orbits of a permutation of the first n numbers (plain). -/
namespace Pc
theorem nodup_len : ∀ {n : Nat} {l : List Nat}, l.Nodup → (∀ x ∈ l, x < n) → l.length ≤ n
  | 0, l, _, hs => by
    cases l with
    | nil => exact Nat.le_refl _
    | cons x l => exact absurd (hs x (List.mem_cons_self ..)) (Nat.not_lt_zero _)
  | n + 1, l, h, hs => by
    have h1 : (l.filter (· ≠ n)).length ≤ n := nodup_len (h.filter _) fun x hx => by
      have := List.mem_filter.mp hx
      have a := hs x this.1
      have b : x ≠ n := by simpa using this.2
      omega
    have h2 : (l.filter (· = n)).length ≤ 1 := by
      have hn := h.filter (fun x => decide (x = n))
      match e : l.filter (fun x => decide (x = n)) with
      | [] => simp
      | [x] => simp
      | x :: y :: r =>
        rw [e] at hn
        have hx : x = n := by
          have : x ∈ l.filter (fun x => decide (x = n)) := by rw [e]; simp
          simpa using (List.mem_filter.mp this).2
        have hy : y = n := by
          have : y ∈ l.filter (fun x => decide (x = n)) := by rw [e]; simp
          simpa using (List.mem_filter.mp this).2
        subst hx
        subst hy
        simp at hn
    have h3 := List.length_eq_countP_add_countP (fun x => decide (x = n)) (l := l)
    rw [List.countP_eq_length_filter, List.countP_eq_length_filter] at h3
    have e : (l.filter fun a => decide ¬(decide (a = n) = true)) = l.filter (· ≠ n) := by
      refine List.filter_congr fun a _ => ?_
      simp
    rw [e] at h3
    omega
def it (f : Nat → Nat) : Nat → Nat → Nat
  | 0, x => x
  | k + 1, x => f (it f k x)
structure Pm (n : Nat) (f : Nat → Nat) : Prop where
  lt : ∀ x, x < n → f x < n
  inj : ∀ x y, x < n → y < n → f x = f y → x = y
theorem it_lt {n : Nat} {f : Nat → Nat} (p : Pm n f) {x : Nat} (h : x < n) : ∀ k, it f k x < n
  | 0 => h
  | k + 1 => p.lt _ (it_lt p h k)
theorem it_add (f : Nat → Nat) (x j : Nat) : ∀ k, it f (k + j) x = it f k (it f j x)
  | 0 => by rw [Nat.zero_add] <;> rfl
  | k + 1 => by
    rw [show k + 1 + j = (k + j) + 1 by omega]
    exact congrArg f (it_add f x j k)
theorem it_inj {n : Nat} {f : Nat → Nat} (p : Pm n f) : ∀ (k : Nat) {x y : Nat}, x < n → y < n → it f k x = it f k y → x = y
  | 0, _, _, _, _, e => e
  | k + 1, x, y, hx, hy, e => it_inj p k hx hy (p.inj _ _ (it_lt p hx k) (it_lt p hy k) e)
/-- every number comes back -/
theorem ret {n : Nat} {f : Nat → Nat} (p : Pm n f) {x : Nat} (h : x < n) : ∃ k, 0 < k ∧ k ≤ n ∧ it f k x = x := by
  by_cases hh : ∃ k, 0 < k ∧ k ≤ n ∧ it f k x = x
  · exact hh
  · exfalso
    have nd : ((List.range (n + 1)).map fun k => it f k x).Nodup := by
      refine List.pairwise_map.mpr (List.Pairwise.imp_of_mem ?_ List.pairwise_lt_range)
      intro a b ha hb hab e
      have hb' : b < n + 1 := List.mem_range.mp hb
      refine hh ⟨b - a, by omega, by omega, ?_⟩
      have e2 : it f b x = it f a (it f (b - a) x) := by
        rw [← it_add, show a + (b - a) = b by omega]
      rw [e2] at e
      exact (it_inj p a h (it_lt p h _) e).symm
    have := nodup_len nd (n := n) fun y hy => by
      obtain ⟨k, _, rfl⟩ := List.mem_map.mp hy
      exact it_lt p h k
    simp at this
    omega
/-! ### classes of a relation, counted by their least -/
/-- the least of its class -/
def Lst (R : Nat → Nat → Prop) (x : Nat) : Prop := ∀ y, y < x → ¬ R y x
open Classical in
noncomputable def cls (n : Nat) (R : Nat → Nat → Prop) : Nat := ((List.range n).filter fun x => decide (Lst R x)).length
structure Eqv (n : Nat) (R : Nat → Nat → Prop) : Prop where
  rf : ∀ x, x < n → R x x
  sy : ∀ x y, R x y → R y x
  tr : ∀ x y z, R x y → R y z → R x z
  lt : ∀ x y, R x y → x < n
theorem least {n : Nat} {R : Nat → Nat → Prop} (h : Eqv n R) : ∀ (x : Nat), x < n → ∃ r, R r x ∧ Lst R r ∧ r ≤ x := by
  intro x
  induction x using Nat.strongRecOn with
  | _ x ih =>
    intro hx
    by_cases hl : Lst R x
    · exact ⟨x, h.rf x hx, hl, Nat.le_refl _⟩
    · have : ∃ y, y < x ∧ R y x := by
        refine Classical.byContradiction fun hn => hl fun y hy hr => hn ⟨y, hy, hr⟩
      obtain ⟨y, hy, hr⟩ := this
      obtain ⟨r, h1, h2, h3⟩ := ih y hy (by omega)
      exact ⟨r, h.tr _ _ _ h1 hr, h2, by omega⟩
theorem lst_one {n : Nat} {R : Nat → Nat → Prop} (h : Eqv n R) {r s : Nat} (hr : Lst R r) (hs : Lst R s) (e : R r s) : r = s := by
  rcases Nat.lt_trichotomy r s with hlt | heq | hgt
  · exact absurd e (hs r hlt)
  · exact heq
  · exact absurd (h.sy _ _ e) (hr s hgt)
/-- two classes made one -/
def Mrg (R : Nat → Nat → Prop) (a b : Nat) (x y : Nat) : Prop := R x y ∨ (R x a ∧ R b y) ∨ (R x b ∧ R a y)
theorem filt_ne {p q : Nat → Bool} {r : Nat} : ∀ {l : List Nat}, l.Nodup → r ∈ l → p r = true → q r = false → (∀ x ∈ l, x ≠ r → p x = q x) → (l.filter p).length = (l.filter q).length + 1
  | [], _, h, _, _, _ => nomatch h
  | x :: l, nd, h, hp, hq, hx => by
    rw [List.nodup_cons] at nd
    by_cases e : x = r
    · subst e
      have e2 : l.filter p = l.filter q := List.filter_congr fun y hy => hx y (List.mem_cons_of_mem _ hy) fun h => nd.1 (h ▸ hy)
      rw [List.filter_cons_of_pos hp, List.filter_cons_of_neg (by rw [hq]; exact Bool.false_ne_true), e2] <;> rfl
    · have hm : r ∈ l := by
        rcases List.mem_cons.mp h with h | h
        · exact absurd h.symm e
        · exact h
      have ih := filt_ne nd.2 hm hp hq fun y hy hne => hx y (List.mem_cons_of_mem _ hy) hne
      have ex := hx x (List.mem_cons_self ..) e
      cases hpx : p x with
      | true => rw [List.filter_cons_of_pos hpx, List.filter_cons_of_pos (ex ▸ hpx), List.length_cons, List.length_cons, ih]
      | false => rw [List.filter_cons_of_neg (by rw [hpx]; exact Bool.false_ne_true), List.filter_cons_of_neg (by rw [← ex, hpx]; exact Bool.false_ne_true), ih]
theorem Mrg.comm {R : Nat → Nat → Prop} {a b x y : Nat} (h : Mrg R a b x y) : Mrg R b a x y := by
  rcases h with h | h | h
  · exact .inl h
  · exact .inr (.inr h)
  · exact .inr (.inl h)
theorem mrg_lst {n : Nat} {R : Nat → Nat → Prop} (h : Eqv n R) {a b ra rb : Nat} (ea : R ra a) (eb : R rb b) (la : Lst R ra) (lb : Lst R rb) (hlt : ra < rb) (x : Nat) (hx : x ≠ rb) : Lst (Mrg R a b) x ↔ Lst R x := by
  constructor
  · exact fun l y hy hr => l y hy (.inl hr)
  · intro l y hy hr
    rcases hr with hr | ⟨h1, h2⟩ | ⟨h1, h2⟩
    · exact l y hy hr
    · -- x in b's class, least: x = rb
      exact hx (lst_one h l lb (h.tr _ _ _ (h.sy _ _ h2) (h.sy _ _ eb)))
    · -- x in a's class, least: x = ra; y in b's class, y < ra < rb
      have e : x = ra := lst_one h l la (h.tr _ _ _ (h.sy _ _ h2) (h.sy _ _ ea))
      subst e
      exact lb y (by omega) (h.tr _ _ _ h1 (h.sy _ _ eb))
theorem cls_mrg_lt {n : Nat} {R : Nat → Nat → Prop} (h : Eqv n R) {a b ra rb : Nat} (ea : R ra a) (eb : R rb b) (la : Lst R ra) (lb : Lst R rb) (hlt : ra < rb) : cls n R = cls n (Mrg R a b) + 1 := by
  unfold cls
  refine filt_ne (r := rb) List.nodup_range (List.mem_range.mpr (h.lt _ _ eb)) (by simpa using lb) ?_ fun x _ hx => ?_
  · have : ¬ Lst (Mrg R a b) rb := fun l => l ra hlt (.inr (.inl ⟨ea, h.sy _ _ eb⟩))
    simpa using this
  · exact decide_eq_decide.mpr (mrg_lst h ea eb la lb hlt x hx).symm
/-- two classes made one: one class less -/
theorem cls_mrg {n : Nat} {R : Nat → Nat → Prop} (h : Eqv n R) {a b : Nat} (ha : a < n) (hb : b < n) (hn : ¬ R a b) : cls n R = cls n (Mrg R a b) + 1 := by
  obtain ⟨ra, ea, la, _⟩ := least h a ha
  obtain ⟨rb, eb, lb, _⟩ := least h b hb
  rcases Nat.lt_trichotomy ra rb with hlt | heq | hgt
  · exact cls_mrg_lt h ea eb la lb hlt
  · subst heq
    exact absurd (h.tr _ _ _ (h.sy _ _ ea) eb) hn
  · have e := cls_mrg_lt h eb ea lb la hgt
    have e2 : Mrg R b a = Mrg R a b := funext fun x => funext fun y => propext ⟨Mrg.comm, Mrg.comm⟩
    rw [e, e2]
/-! ### orbits -/
def Orb (n : Nat) (f : Nat → Nat) (x y : Nat) : Prop := x < n ∧ ∃ k, it f k x = y
theorem it_mul {f : Nat → Nat} {p x : Nat} (h : it f p x = x) : ∀ k, it f (k * p) x = x
  | 0 => by rw [Nat.zero_mul] <;> rfl
  | k + 1 => by rw [Nat.succ_mul, it_add, h, it_mul h k]
theorem orb_eqv {n : Nat} {f : Nat → Nat} (p : Pm n f) : Eqv n (Orb n f) where
  rf := fun x h => ⟨h, 0, rfl⟩
  lt := fun x y h => h.1
  tr := fun x y z ⟨h1, k, e1⟩ ⟨h2, j, e2⟩ => ⟨h1, j + k, by rw [it_add, e1, e2]⟩
  sy := fun x y ⟨h1, k, e1⟩ => by
    obtain ⟨q, q1, q2, q3⟩ := ret p h1
    refine ⟨by rw [← e1]; exact it_lt p h1 k, k * q - k, ?_⟩
    rw [← e1, ← it_add]
    have : k ≤ k * q := Nat.le_mul_of_pos_right k q1
    rw [show k * q - k + k = k * q by omega]
    exact it_mul q3 k
/-- how many orbits -/
noncomputable def orbs (n : Nat) (f : Nat → Nat) : Nat := cls n (Orb n f)
def sw (a b x : Nat) : Nat := if x = a then b else if x = b then a else x
theorem sw_a {a b : Nat} : sw a b a = b := if_pos rfl
theorem sw_b {a b : Nat} : sw a b b = a := by
  unfold sw
  by_cases h : b = a
  · rw [if_pos h, h]
  · rw [if_neg h, if_pos rfl]
theorem sw_o {a b x : Nat} (h1 : x ≠ a) (h2 : x ≠ b) : sw a b x = x := by
  unfold sw
  rw [if_neg h1, if_neg h2]
theorem sw_sw (a b x : Nat) : sw a b (sw a b x) = x := by
  by_cases h1 : x = a
  · subst h1; rw [sw_a, sw_b]
  · by_cases h2 : x = b
    · subst h2; rw [sw_b, sw_a]
    · rw [sw_o h1 h2, sw_o h1 h2]
theorem sw_lt {n a b x : Nat} (ha : a < n) (hb : b < n) (h : x < n) : sw a b x < n := by
  by_cases h1 : x = a
  · subst h1; rw [sw_a]; exact hb
  · by_cases h2 : x = b
    · subst h2; rw [sw_b]; exact ha
    · rw [sw_o h1 h2]; exact h
theorem pm_sw {n : Nat} {f : Nat → Nat} (p : Pm n f) {a b : Nat} (ha : a < n) (hb : b < n) : Pm n (fun x => f (sw a b x)) where
  lt := fun x h => p.lt _ (sw_lt ha hb h)
  inj := fun x y hx hy e => by
    have := p.inj _ _ (sw_lt ha hb hx) (sw_lt ha hb hy) e
    rw [← sw_sw a b x, this, sw_sw]
theorem min_ex {P : Nat → Prop} (h : ∃ k, P k) : ∃ k, P k ∧ ∀ j, j < k → ¬ P j := by
  obtain ⟨k, hk⟩ := h
  induction k using Nat.strongRecOn with
  | _ k ih =>
    by_cases hh : ∃ j, j < k ∧ P j
    · obtain ⟨j, hj, pj⟩ := hh
      exact ih j hj pj
    · exact ⟨k, hk, fun j hj pj => hh ⟨j, hj, pj⟩⟩
/-- along a way that meets neither a nor b, the swap is not seen -/
theorem it_sw {f : Nat → Nat} {a b x y : Nat} (h0 : f (sw a b x) = f y) : ∀ (k : Nat), (∀ i, 0 < i → i < k + 1 → it f i y ≠ a ∧ it f i y ≠ b) → it (fun x => f (sw a b x)) (k + 1) x = it f (k + 1) y
  | 0, _ => h0
  | k + 1, h => by
    have ih := it_sw h0 k fun i h1 h2 => h i h1 (by omega)
    have hk := h (k + 1) (by omega) (by omega)
    show f (sw a b (it _ (k + 1) x)) = f (it f (k + 1) y)
    rw [ih, sw_o hk.1 hk.2]
/-- two orbits are joined by the swap -/
theorem sw_join {n : Nat} {f : Nat → Nat} (p : Pm n f) {a b : Nat} (ha : a < n) (hb : b < n) (hn : ¬ Orb n f a b) : Orb n (fun x => f (sw a b x)) a b := by
  obtain ⟨q, q1, q2, q3⟩ := ret p hb
  obtain ⟨k, ⟨k1, k2⟩, km⟩ := min_ex (P := fun k => 0 < k ∧ it f k b = b) ⟨q, q1, q3⟩
  obtain ⟨j, rfl⟩ : ∃ j, k = j + 1 := ⟨k - 1, by omega⟩
  refine ⟨ha, j + 1, ?_⟩
  rw [it_sw (y := b) (by rw [sw_a]) j fun i h1 h2 => ⟨fun e => hn ((orb_eqv p).sy _ _ ⟨hb, i, e⟩), fun e => km i h2 ⟨h1, e⟩⟩]
  exact k2
/-- an orbit is cut by the swap -/
theorem sw_cut {n : Nat} {f : Nat → Nat} (p : Pm n f) {a b : Nat} (ha : a < n) (hb : b < n) (hab : a ≠ b) (ho : Orb n f a b) : ¬ Orb n (fun x => f (sw a b x)) a b := by
  obtain ⟨_, k0, e0⟩ := ho
  obtain ⟨k, k2, km⟩ := min_ex (P := fun k => it f k a = b) ⟨k0, e0⟩
  have kp : k ≠ 0 := fun h => by subst h; exact hab k2
  obtain ⟨j, rfl⟩ : ∃ j, k = j + 1 := ⟨k - 1, by omega⟩
  have way : ∀ i, 0 < i → i < j + 1 → it f i a ≠ a ∧ it f i a ≠ b := fun i h1 h2 => ⟨fun e => km (j + 1 - i) (by omega) (by
    have : it f (j + 1) a = it f (j + 1 - i) (it f i a) := by rw [← it_add, show j + 1 - i + i = j + 1 by omega]
    rw [e] at this
    rw [← this]; exact k2), km i h2⟩
  have steps : ∀ i, i < j + 1 → it (fun x => f (sw a b x)) (i + 1) b = it f (i + 1) a := fun i hi => it_sw (y := a) (by rw [sw_b]) i fun i2 h1 h2 => way i2 h1 (by omega)
  have back : it (fun x => f (sw a b x)) (j + 1) b = b := (steps j (by omega)).trans k2
  intro hh
  obtain ⟨_, m, em⟩ := (orb_eqv (pm_sw p ha hb)).sy _ _ hh
  have e1 : it (fun x => f (sw a b x)) (m % (j + 1)) b = a := by
    have : it (fun x => f (sw a b x)) m b = it (fun x => f (sw a b x)) (m % (j + 1)) (it (fun x => f (sw a b x)) (m / (j + 1) * (j + 1)) b) := by
      rw [← it_add]
      congr 1
      have := Nat.mod_add_div m (j + 1)
      rw [Nat.mul_comm (m / (j + 1))]
      exact this.symm
    rw [it_mul back] at this
    rw [← this]; exact em
  have hl := Nat.mod_lt m (Nat.succ_pos j)
  cases hm : m % (j + 1) with
  | zero => rw [hm] at e1; exact hab e1.symm
  | succ i =>
    rw [hm] at e1 hl
    rw [steps i (by omega)] at e1
    exact (way (i + 1) (by omega) (by omega)).1 e1
theorem orb_1 {n : Nat} {f : Nat → Nat} {x : Nat} (h : x < n) : Orb n f x (f x) := ⟨h, 1, rfl⟩
theorem orb_sw {n : Nat} {f : Nat → Nat} (p : Pm n f) {a b : Nat} (ha : a < n) (hb : b < n) (hn : ¬ Orb n f a b) : Orb n (fun x => f (sw a b x)) = Mrg (Orb n f) a b := by
  have E := orb_eqv p
  have E' := orb_eqv (pm_sw p ha hb)
  have J := sw_join p ha hb hn
  have up : ∀ z, z < n → Orb n (fun x => f (sw a b x)) z (f z) := fun z hz => by
    by_cases h1 : z = a
    · subst h1
      have := orb_1 (f := fun x => f (sw z b x)) hb
      simp only [sw_b] at this
      exact E'.tr _ _ _ J this
    · by_cases h2 : z = b
      · subst h2
        have := orb_1 (f := fun x => f (sw a z x)) ha
        simp only [sw_a] at this
        exact E'.tr _ _ _ (E'.sy _ _ J) this
      · have := orb_1 (f := fun x => f (sw a b x)) hz
        simp only [sw_o h1 h2] at this
        exact this
  have sub : ∀ x y, Orb n f x y → Orb n (fun x => f (sw a b x)) x y := fun x y ⟨hx, k, e⟩ => by
    subst e
    induction k with
    | zero => exact E'.rf x hx
    | succ k ih => exact E'.tr _ _ _ (ih ⟨hx, k, rfl⟩) (up _ (it_lt p hx k))
  funext x y
  refine propext ⟨fun ⟨hx, k, e⟩ => ?_, fun h => ?_⟩
  · subst e
    induction k with
    | zero => exact .inl (E.rf x hx)
    | succ k ih =>
      have ih := ih ⟨hx, k, rfl⟩
      generalize hz : it (fun x => f (sw a b x)) k x = z at ih
      have zl : z < n := hz ▸ it_lt (pm_sw p ha hb) hx k
      show Mrg (Orb n f) a b x (f (sw a b (it (fun x => f (sw a b x)) k x)))
      rw [hz]
      by_cases h1 : z = a
      · subst h1
        rw [sw_a]
        rcases ih with h | ⟨h, _⟩ | ⟨h, _⟩
        · exact .inr (.inl ⟨h, orb_1 hb⟩)
        · exact .inr (.inl ⟨h, orb_1 hb⟩)
        · exact .inl (E.tr _ _ _ h (orb_1 hb))
      · by_cases h2 : z = b
        · subst h2
          rw [sw_b]
          rcases ih with h | ⟨h, _⟩ | ⟨h, _⟩
          · exact .inr (.inr ⟨h, orb_1 ha⟩)
          · exact .inl (E.tr _ _ _ h (orb_1 ha))
          · exact .inr (.inr ⟨h, orb_1 ha⟩)
        · rw [sw_o h1 h2]
          rcases ih with h | ⟨h, h'⟩ | ⟨h, h'⟩
          · exact .inl (E.tr _ _ _ h (orb_1 zl))
          · exact .inr (.inl ⟨h, E.tr _ _ _ h' (orb_1 zl)⟩)
          · exact .inr (.inr ⟨h, E.tr _ _ _ h' (orb_1 zl)⟩)
  · rcases h with h | ⟨h, h'⟩ | ⟨h, h'⟩
    · exact sub _ _ h
    · exact E'.tr _ _ _ (E'.tr _ _ _ (sub _ _ h) J) (sub _ _ h')
    · exact E'.tr _ _ _ (E'.tr _ _ _ (sub _ _ h) (E'.sy _ _ J)) (sub _ _ h')
/-- a swap changes the number of orbits by one -/
theorem orbs_sw {n : Nat} {f : Nat → Nat} (p : Pm n f) {a b : Nat} (ha : a < n) (hb : b < n) (hab : a ≠ b) :
    orbs n f = orbs n (fun x => f (sw a b x)) + 1 ∨ orbs n (fun x => f (sw a b x)) = orbs n f + 1 := by
  by_cases hn : Orb n f a b
  · refine .inr ?_
    have hc := sw_cut p ha hb hab hn
    have e := cls_mrg (orb_eqv (pm_sw p ha hb)) ha hb hc
    rw [← orb_sw (pm_sw p ha hb) ha hb hc] at e
    have e2 : (fun x => (fun x => f (sw a b x)) (sw a b x)) = f := funext fun x => congrArg f (sw_sw a b x)
    rw [e2] at e
    exact e
  · refine .inl ?_
    have e := cls_mrg (orb_eqv p) ha hb hn
    rw [← orb_sw p ha hb hn] at e
    exact e
/-! ### the orbits as they are found -/
def stp (way : Nat → List Nat) (s : Nat × List Nat) (e : Nat) : Nat × List Nat := if e ∈ s.2 then s else (s.1 + 1, s.2 ++ way e)
open Classical in
theorem found {n : Nat} {f : Nat → Nat} (p : Pm n f) {way : Nat → List Nat} (hw : ∀ e, e < n → ∀ y, y ∈ way e ↔ Orb n f e y) : ∀ (k : Nat), k ≤ n →
    ((List.range k).foldl (stp way) (0, [])).1 = ((List.range k).filter fun x => decide (Lst (Orb n f) x)).length ∧ ∀ y, y ∈ ((List.range k).foldl (stp way) (0, [])).2 ↔ ∃ e, e < k ∧ Orb n f e y
  | 0, _ => ⟨rfl, fun y => ⟨(fun h => nomatch h), fun ⟨e, h, _⟩ => absurd h (Nat.not_lt_zero _)⟩⟩
  | k + 1, hk => by
    obtain ⟨h1, h2⟩ := found p hw k (by omega)
    have E := orb_eqv p
    rw [List.range_succ, List.foldl_append, List.filter_append, List.length_append]
    generalize (List.range k).foldl (stp way) (0, []) = s at h1 h2
    show (stp way s k).1 = _ ∧ ∀ y, y ∈ (stp way s k).2 ↔ _
    by_cases hm : k ∈ s.2
    · obtain ⟨e, he, ho⟩ := (h2 k).mp hm
      have hl : ¬ Lst (Orb n f) k := fun l => l e he ho
      unfold stp
      rw [if_pos hm, List.filter_cons_of_neg (by simpa using hl)]
      refine ⟨by simpa using h1, fun y => (h2 y).trans ?_⟩
      constructor
      · rintro ⟨e, h, o⟩
        exact ⟨e, by omega, o⟩
      · rintro ⟨e2, h, o⟩
        by_cases hh : e2 = k
        · subst hh; exact ⟨e, he, E.tr _ _ _ ho o⟩
        · exact ⟨e2, by omega, o⟩
    · have hl : Lst (Orb n f) k := fun y hy ho => hm ((h2 k).mpr ⟨y, hy, ho⟩)
      unfold stp
      rw [if_neg hm, List.filter_cons_of_pos (by simpa using hl)]
      refine ⟨by simp [h1], fun y => ?_⟩
      simp only [List.mem_append, h2, hw k (by omega)]
      constructor
      · rintro (⟨e, h, o⟩ | o)
        · exact ⟨e, by omega, o⟩
        · exact ⟨k, by omega, o⟩
      · rintro ⟨e, h, o⟩
        by_cases hh : e = k
        · subst hh; exact .inr o
        · exact .inl ⟨e, by omega, o⟩
theorem found_all {n : Nat} {f : Nat → Nat} (p : Pm n f) {way : Nat → List Nat} (hw : ∀ e, e < n → ∀ y, y ∈ way e ↔ Orb n f e y) : ((List.range n).foldl (stp way) (0, [])).1 = orbs n f := (found p hw n (Nat.le_refl _)).1
end Pc
namespace Pc
theorem nodup_len' {α : Type} [DecidableEq α] : ∀ {l s : List α}, l.Nodup → (∀ x ∈ l, x ∈ s) → l.length ≤ s.length
  | [], _, _, _ => Nat.zero_le _
  | x :: l, s, hn, hs => by
    rw [List.nodup_cons] at hn
    have hx := hs x (List.mem_cons_self ..)
    have := nodup_len' (l := l) (s := s.erase x) hn.2 fun y hy => by
      have hne : y ≠ x := fun e => hn.1 (e ▸ hy)
      exact (List.mem_erase_of_ne hne).mpr (hs y (List.mem_cons_of_mem _ hy))
    rw [List.length_erase_of_mem hx] at this
    have hp : 0 < s.length := List.length_pos_of_mem hx
    rw [List.length_cons]
    omega
end Pc
end
section
/-! Pw: going along a permutation of arrows till the start comes again (plain). -/
namespace Pw
open Pc
abbrev Ar := Nat × Bool × Unit
def itA (F : Ar → Ar) : Nat → Ar → Ar
  | 0, x => x
  | k + 1, x => F (itA F k x)
structure PA (n : Nat) (F : Ar → Ar) : Prop where
  lt : ∀ a : Ar, a.1 < n → (F a).1 < n
  inj : ∀ a b : Ar, a.1 < n → b.1 < n → F a = F b → a = b
def cd (a : Ar) : Nat := 2 * a.1 + (if a.2.1 then 1 else 0)
def dc (x : Nat) : Ar := (x / 2, decide (x % 2 = 1), ())
theorem dc_cd (a : Ar) : dc (cd a) = a := by
  obtain ⟨p, b, u⟩ := a
  cases b <;> simp [dc, cd] <;> omega
theorem cd_dc (x : Nat) : cd (dc x) = x := by
  by_cases h : x % 2 = 1 <;> simp [dc, cd, h] <;> omega
theorem cd_lt {n : Nat} (a : Ar) (h : a.1 < n) : cd a < 2 * n := by
  obtain ⟨p, b, u⟩ := a
  cases b <;> simp [cd] at h ⊢ <;> omega
theorem dc_lt {n x : Nat} (h : x < 2 * n) : (dc x).1 < n := by
  simp [dc]; omega
def cF (F : Ar → Ar) (x : Nat) : Nat := cd (F (dc x))
theorem PA.pm {n : Nat} {F : Ar → Ar} (h : PA n F) : Pm (2 * n) (cF F) where
  lt := fun x hx => cd_lt _ (h.lt _ (dc_lt hx))
  inj := fun x y hx hy e => by
    have := h.inj _ _ (dc_lt hx) (dc_lt hy) (by rw [← dc_cd (F (dc x)), ← dc_cd (F (dc y))]; exact congrArg dc e)
    rw [← cd_dc x, this, cd_dc]
theorem it_cF (F : Ar → Ar) (a : Ar) : ∀ k, it (cF F) k (cd a) = cd (itA F k a)
  | 0 => rfl
  | k + 1 => by
    show cF F (it (cF F) k (cd a)) = cd (F (itA F k a))
    rw [it_cF F a k, cF, dc_cd]
theorem itA_lt {n : Nat} {F : Ar → Ar} (h : PA n F) {a : Ar} (ha : a.1 < n) : ∀ k, (itA F k a).1 < n
  | 0 => ha
  | k + 1 => h.lt _ (itA_lt h ha k)
/-- the first time at which the start comes again -/
theorem per {n : Nat} {F : Ar → Ar} (h : PA n F) {a : Ar} (ha : a.1 < n) : ∃ p, 0 < p ∧ p ≤ 2 * n ∧ itA F p a = a ∧ ∀ j, 0 < j → j < p → itA F j a ≠ a := by
  obtain ⟨q, q1, q2, q3⟩ := ret h.pm (cd_lt a ha)
  obtain ⟨p, ⟨p1, p2⟩, pm⟩ := min_ex (P := fun k => 0 < k ∧ itA F k a = a) ⟨q, q1, by rw [← dc_cd (itA F q a), ← it_cF, q3, dc_cd]⟩
  refine ⟨p, p1, ?_, p2, fun j h1 h2 e => pm j h2 ⟨h1, e⟩⟩
  by_cases hh : p ≤ q
  · omega
  · exact absurd ⟨q1, by rw [← dc_cd (itA F q a), ← it_cF, q3, dc_cd]⟩ (pm q (by omega))
/-- the way from one on -/
def way (F : Ar → Ar) (p : Nat) (a : Ar) : List Ar := (List.range p).map fun k => itA F k a
/-- all but a step of arrows that stay ahead -/
theorem itA_tt {F : Ar → Ar} {f : Nat → Nat} (h : ∀ p, F (p, true, ()) = (f p, true, ())) (e : Nat) : ∀ k, itA F k (e, true, ()) = (it f k e, true, ())
  | 0 => rfl
  | k + 1 => by
    show F (itA F k (e, true, ())) = _
    rw [itA_tt h e k, h]
    rfl
theorem it_per {f : Nat → Nat} {p x : Nat} (hp : 0 < p) (h : it f p x = x) (k : Nat) : ∃ j, j < p ∧ it f j x = it f k x := by
  refine ⟨k % p, Nat.mod_lt _ hp, ?_⟩
  have e : it f k x = it f (k % p) (it f (k / p * p) x) := by
    rw [← it_add]
    congr 1
    have := Nat.mod_add_div k p
    rw [Nat.mul_comm (k / p)]
    exact this.symm
  rw [e, it_mul h]
theorem mem_way {n p e : Nat} {f : Nat → Nat} (he : e < n) (hp : 0 < p) (h : it f p e = e) (y : Nat) : y ∈ (List.range p).map (fun k => it f k e) ↔ Orb n f e y := by
  rw [List.mem_map]
  constructor
  · rintro ⟨k, _, rfl⟩
    exact ⟨he, k, rfl⟩
  · rintro ⟨_, k, rfl⟩
    obtain ⟨j, j1, j2⟩ := it_per hp h k
    exact ⟨j, List.mem_range.mpr j1, j2⟩
end Pw
end
section
/-! Wp: places of letters, arrows that follow (plain). -/
namespace Wp
open Pc Pw
structure Wd (W : List Nat) : Prop where
  ev : W.length % 2 = 0
  few : W.length ≤ 20
  low : ∀ x ∈ W, x < W.length / 2
  two : ∀ i, i < W.length / 2 → W.count i = 2
def fp (W : List Nat) (i : Nat) : Nat := W.idxOf i
def sp (W : List Nat) (i : Nat) : Nat := fp W i + 1 + (W.drop (fp W i + 1)).idxOf i
theorem split2 {W : List Nat} {i : Nat} (h : W.count i = 2) : ∃ A B C, W = A ++ i :: (B ++ i :: C) ∧ i ∉ A ∧ i ∉ B ∧ i ∉ C := by
  obtain ⟨A, R, e, hA⟩ := List.eq_append_cons_of_mem (List.count_pos_iff.mp (by omega : 0 < W.count i))
  subst e
  rw [List.count_append, List.count_eq_zero.mpr hA, List.count_cons_self] at h
  obtain ⟨B, C, e, hB⟩ := List.eq_append_cons_of_mem (List.count_pos_iff.mp (by omega : 0 < R.count i))
  subst e
  rw [List.count_append, List.count_eq_zero.mpr hB, List.count_cons_self] at h
  exact ⟨A, B, C, rfl, hA, hB, List.count_eq_zero.mp (by omega)⟩
theorem idx_app {A R : List Nat} {i : Nat} (h : i ∉ A) : (A ++ i :: R).idxOf i = A.length := by
  rw [List.idxOf_append, if_neg h, List.idxOf_cons_self, Nat.zero_add]
structure Pl (W : List Nat) (i a b : Nat) : Prop where
  lt : a < b
  lo : b < W.length
  at_ : ∀ p, W[p]? = some i ↔ p = a ∨ p = b
theorem pl {W : List Nat} {i : Nat} (h : W.count i = 2) : Pl W i (fp W i) (sp W i) ∧ (W.drop (fp W i + 1)).idxOf? i = some (sp W i - (fp W i + 1)) := by
  obtain ⟨A, B, C, rfl, hA, hB, hC⟩ := split2 h
  have e1 : fp (A ++ i :: (B ++ i :: C)) i = A.length := idx_app hA
  have e2 : (A ++ i :: (B ++ i :: C)).drop (A.length + 1) = B ++ i :: C := by
    rw [show A ++ i :: (B ++ i :: C) = (A ++ [i]) ++ (B ++ i :: C) by simp]
    rw [List.drop_append_of_le_length (by simp), List.drop_of_length_le (by simp)]
    rfl
  have e3 : sp (A ++ i :: (B ++ i :: C)) i = A.length + 1 + B.length := by
    unfold sp
    rw [e1, e2, idx_app hB]
  have no : ∀ {L : List Nat} {p}, i ∉ L → L[p]? ≠ some i := fun hL e => hL (List.mem_of_getElem? e)
  refine ⟨⟨by omega, by rw [e3]; simp; omega, fun p => ?_⟩, ?_⟩
  · rw [e1, e3]
    by_cases h1 : p < A.length
    · rw [List.getElem?_append_left h1]
      exact ⟨fun e => absurd e (no hA), fun e => by omega⟩
    · rw [List.getElem?_append_right (by omega)]
      obtain ⟨q, rfl⟩ : ∃ q, p = A.length + q := ⟨p - A.length, by omega⟩
      rw [Nat.add_sub_cancel_left]
      cases q with
      | zero => exact ⟨fun _ => .inl rfl, fun _ => rfl⟩
      | succ q =>
        rw [List.getElem?_cons_succ]
        by_cases h2 : q < B.length
        · rw [List.getElem?_append_left h2]
          exact ⟨fun e => absurd e (no hB), fun e => by omega⟩
        · rw [List.getElem?_append_right (by omega)]
          obtain ⟨r, rfl⟩ : ∃ r, q = B.length + r := ⟨q - B.length, by omega⟩
          rw [Nat.add_sub_cancel_left]
          cases r with
          | zero => exact ⟨fun _ => .inr (by omega), fun _ => rfl⟩
          | succ r =>
            rw [List.getElem?_cons_succ]
            exact ⟨fun e => absurd e (no hC), fun e => by omega⟩
  · rw [e1, e2, e3, show A.length + 1 + B.length - (A.length + 1) = B.length by omega]
    rw [List.idxOf?_eq_some_iff]
    refine ⟨by simp, by simp, fun j hj => ?_⟩
    rw [List.getElem_append_left hj]
    have : B[j] ≠ i := fun e => hB (e ▸ List.getElem_mem hj)
    simpa using this
/-- the other place -/
def oth (W : List Nat) (p : Nat) : Nat := if p = fp W (W.getD p 0) then sp W (W.getD p 0) else fp W (W.getD p 0)
structure Oth (W : List Nat) (p : Nat) : Prop where
  lt : oth W p < W.length
  ne : oth W p ≠ p
  let_ : W.getD (oth W p) 0 = W.getD p 0
  bk : oth W (oth W p) = p
theorem Wd.at {W : List Nat} (h : Wd W) {p : Nat} (hp : p < W.length) : W.getD p 0 < W.length / 2 ∧ W[p]? = some (W.getD p 0) := by
  rw [List.getD_eq_getElem?_getD, List.getElem?_eq_getElem hp]
  exact ⟨h.low _ (List.getElem_mem hp), rfl⟩
theorem getD_some {W : List Nat} {p i : Nat} (h : W[p]? = some i) : W.getD p 0 = i := by
  rw [List.getD_eq_getElem?_getD, h] <;> rfl
theorem Wd.oth {W : List Nat} (h : Wd W) {p : Nat} (hp : p < W.length) : Oth W p := by
  obtain ⟨hi, hg⟩ := h.at hp
  obtain ⟨P, _⟩ := pl (h.two _ hi)
  have hlt := P.lt
  have hlo := P.lo
  have ga := getD_some ((P.at_ _).mpr (.inl rfl))
  have gb := getD_some ((P.at_ _).mpr (.inr rfl))
  generalize hI : W.getD p 0 = i at *
  by_cases e : p = fp W i
  · have o : Wp.oth W p = sp W i := by unfold Wp.oth; rw [hI, if_pos e]
    refine ⟨by rw [o]; omega, by rw [o]; omega, by rw [o, gb, hI], ?_⟩
    rw [o]
    unfold Wp.oth
    rw [gb, if_neg (by omega), e]
  · have e2 : p = sp W i := ((P.at_ p).mp hg).resolve_left e
    have o : Wp.oth W p = fp W i := by unfold Wp.oth; rw [hI, if_neg e]
    refine ⟨by rw [o]; omega, by rw [o]; omega, by rw [o, ga, hI], ?_⟩
    rw [o]
    unfold Wp.oth
    rw [ga, if_pos rfl, e2]
/-- the arrow that follows: cuts 0 through, 1 along, 2 across -/
def gol (n : Nat) (a : Ar) : Nat := if a.2.1 then (a.1 + 1) % n else (a.1 + n - 1) % n
def fol (W s : List Nat) (a : Ar) : Ar :=
  let q := gol W.length a
  let c := s.getD (W.getD q 0) 0
  if c = 0 then (q, a.2.1, ()) else (oth W q, if c = 1 then a.2.1 else !a.2.1, ())
theorem gol_lt {n : Nat} {a : Ar} (h : a.1 < n) : gol n a < n := by
  unfold gol
  split <;> exact Nat.mod_lt _ (by omega)
theorem up_inj {n x y : Nat} (hx : x < n) (hy : y < n) (e : (x + 1) % n = (y + 1) % n) : x = y := by
  by_cases h1 : x + 1 = n
  · by_cases h2 : y + 1 = n
    · omega
    · rw [h1, Nat.mod_self, Nat.mod_eq_of_lt (by omega)] at e; omega
  · rw [Nat.mod_eq_of_lt (a := x + 1) (by omega)] at e
    by_cases h2 : y + 1 = n
    · rw [h2, Nat.mod_self] at e; omega
    · rw [Nat.mod_eq_of_lt (by omega)] at e; omega
theorem down {n x : Nat} (hx : x < n) : (x + n - 1) % n = if x = 0 then n - 1 else x - 1 := by
  by_cases h : x = 0
  · subst h; rw [if_pos rfl, Nat.mod_eq_of_lt (by omega)]; omega
  · rw [if_neg h, show x + n - 1 = (x - 1) + n by omega, Nat.add_mod_right, Nat.mod_eq_of_lt (by omega)]
theorem gol_inj {n : Nat} {a b : Ar} (ha : a.1 < n) (hb : b.1 < n) (hd : a.2.1 = b.2.1) (e : gol n a = gol n b) : a = b := by
  obtain ⟨x, d, u⟩ := a
  obtain ⟨y, d', u'⟩ := b
  subst hd
  simp only [gol] at e
  cases d with
  | true =>
    have : x = y := up_inj ha hb e
    rw [this]
  | false =>
    simp only [Bool.false_eq_true, if_false] at e
    rw [down ha, down hb] at e
    have : x = y := by
      simp only at ha hb
      split at e <;> split at e <;> omega
    rw [this]
theorem fol_pa {W s : List Nat} (h : Wd W) : PA W.length (fol W s) where
  lt := fun a ha => by
    have g := gol_lt ha
    unfold fol
    simp only
    split
    · exact g
    · exact (h.oth g).lt
  inj := fun a b ha hb e => by
    have ga := gol_lt ha
    have gb := gol_lt hb
    have oa := h.oth ga
    have ob := h.oth gb
    refine gol_inj ha hb ?_ ?_ <;> (
      simp only [fol] at e
      generalize hq : gol W.length a = q at *
      generalize hr : gol W.length b = r at *
      -- the letter is the same
      have key : W.getD q 0 = W.getD r 0 := by
        by_cases c1 : s.getD (W.getD q 0) 0 = 0 <;> by_cases c2 : s.getD (W.getD r 0) 0 = 0
        · rw [if_pos c1, if_pos c2, Prod.mk.injEq] at e; rw [e.1]
        · rw [if_pos c1, if_neg c2, Prod.mk.injEq] at e; rw [e.1, ob.let_]
        · rw [if_neg c1, if_pos c2, Prod.mk.injEq] at e; rw [← e.1, oa.let_]
        · rw [if_neg c1, if_neg c2, Prod.mk.injEq] at e; rw [← oa.let_, e.1, ob.let_]
      rw [key] at e
      by_cases c2 : s.getD (W.getD r 0) 0 = 0
      · rw [if_pos c2, if_pos c2, Prod.mk.injEq, Prod.mk.injEq] at e
        first | exact e.2.1 | exact e.1
      · rw [if_neg c2, if_neg c2, Prod.mk.injEq, Prod.mk.injEq] at e
        first
        | exact (oa.bk.symm.trans (congrArg (oth W) e.1)).trans ob.bk
        | (have := e.2.1; split at this <;> simpa using this))
end Wp
end
section
/-! Wq: loops counted (plain). -/
namespace Wp
open Pc Pw
def same (x y : Ar) : Bool := Nat.beq x.1 y.1 && (x.2.1 == y.2.1)
theorem same_iff (x y : Ar) : same x y = decide (x = y) := by
  obtain ⟨p, b, u⟩ := x
  obtain ⟨q, c, v⟩ := y
  by_cases h : p = q
  · subst h
    cases b <;> cases c <;> simp [same]
  · have : Nat.beq p q = false := by
      cases e : Nat.beq p q with
      | true => exact absurd (Nat.eq_of_beq_eq_true e) h
      | false => rfl
    simp [same, this, h]
def wy (F : Ar → Ar) (a : Ar) : Nat → Ar → List Ar
  | 0, _ => []
  | k + 1, h => if same h a then [] else h :: wy F a k (F h)
def ways (F : Ar → Ar) (n : Nat) (a : Ar) : List Ar := a :: wy F a (2 * n) (F a)
theorem wy_eq {F : Ar → Ar} {a : Ar} {p : Nat} (h1 : itA F p a = a) (h2 : ∀ j, 0 < j → j < p → itA F j a ≠ a) : ∀ (k j : Nat), 0 < j → j ≤ p → p < j + k → wy F a k (itA F j a) = (List.range' j (p - j)).map fun i => itA F i a
  | 0, j, _, _, h => by omega
  | k + 1, j, hj, hp, hk => by
    rw [wy, same_iff]
    by_cases e : j = p
    · subst e
      rw [h1, if_pos (by simp), Nat.sub_self] <;> rfl
    · have := h2 j hj (by omega)
      rw [if_neg (by simpa using this), show p - j = (p - (j + 1)) + 1 by omega, List.range'_succ, List.map_cons]
      congr 1
      exact wy_eq h1 h2 k (j + 1) (by omega) (by omega) (by omega)
theorem ways_eq {F : Ar → Ar} {n : Nat} {a : Ar} {p : Nat} (hp : 0 < p) (hn : p ≤ 2 * n) (h1 : itA F p a = a) (h2 : ∀ j, 0 < j → j < p → itA F j a ≠ a) : ways F n a = way F p a := by
  unfold ways way
  rw [show F a = itA F 1 a from rfl, wy_eq h1 h2 (2 * n) 1 (by omega) (by omega) (by omega)]
  rw [List.range_eq_range', show p = (p - 1) + 1 by omega, List.range'_succ, List.map_cons]
  rfl
def edg (n : Nat) (a : Ar) : Nat := if a.2.1 then a.1 else (a.1 + n - 1) % n
def lop (W s : List Nat) (e : Nat) : List Nat := (ways (fol W s) W.length (e, true, ())).map (edg W.length)
def cnt (W s : List Nat) : Nat := ((List.range W.length).foldl (stp (lop W s)) (0, [])).1
/-! ### through and along alone -/
def nxt (W s : List Nat) (p : Nat) : Nat := (fol W s (p, true, ())).1
theorem fol_tt {W s : List Nat} (h : ∀ i, s.getD i 0 ≤ 1) (p : Nat) : fol W s (p, true, ()) = (nxt W s p, true, ()) := by
  unfold nxt fol
  simp only
  generalize W.getD (gol W.length (p, true, ())) 0 = i
  have := h i
  by_cases e : s.getD i 0 = 0
  · rw [if_pos e]
  · have e2 : s.getD i 0 = 1 := by omega
    rw [if_neg e, if_pos e2]
theorem nxt_pm {W s : List Nat} (w : Wd W) (h : ∀ i, s.getD i 0 ≤ 1) : Pm W.length (nxt W s) where
  lt := fun p hp => (fol_pa w).lt (p, true, ()) hp
  inj := fun p q hp hq e => by
    have := (fol_pa (s := s) w).inj (p, true, ()) (q, true, ()) hp hq (by rw [fol_tt h, fol_tt h, e])
    exact (Prod.mk.inj this).1
theorem lop_orb {W s : List Nat} (w : Wd W) (h : ∀ i, s.getD i 0 ≤ 1) {e : Nat} (he : e < W.length) (y : Nat) : y ∈ lop W s e ↔ Orb W.length (nxt W s) e y := by
  obtain ⟨p, p1, p2, p3, p4⟩ := per (fol_pa (s := s) w) (a := (e, true, ())) he
  have t := itA_tt (F := fol W s) (f := nxt W s) (fol_tt h) e
  unfold lop
  rw [ways_eq p1 p2 p3 p4, way, List.map_map]
  have e2 : (List.range p).map (edg W.length ∘ fun k => itA (fol W s) k (e, true, ())) = (List.range p).map fun k => it (nxt W s) k e := List.map_congr_left fun k _ => by
    show edg W.length (itA (fol W s) k (e, true, ())) = _
    rw [t]; rfl
  rw [e2]
  refine mem_way he p1 ?_ y
  rw [t] at p3
  exact (Prod.mk.inj p3).1
theorem cnt_orbs {W s : List Nat} (w : Wd W) (h : ∀ i, s.getD i 0 ≤ 1) : cnt W s = orbs W.length (nxt W s) := found_all (nxt_pm w h) fun e he y => lop_orb w h he y
theorem it_congr {n : Nat} {f g : Nat → Nat} (p : Pm n f) (h : ∀ x, x < n → f x = g x) {x : Nat} (hx : x < n) : ∀ k, it f k x = it g k x
  | 0 => rfl
  | k + 1 => by
    show f (it f k x) = g (it g k x)
    rw [← it_congr p h hx k]
    exact h _ (it_lt p hx k)
theorem orbs_congr {n : Nat} {f g : Nat → Nat} (p : Pm n f) (h : ∀ x, x < n → f x = g x) : orbs n f = orbs n g := by
  have : Orb n f = Orb n g := by
    funext x y
    refine propext ⟨fun ⟨hx, k, e⟩ => ⟨hx, k, by rw [← it_congr p h hx]; exact e⟩, fun ⟨hx, k, e⟩ => ⟨hx, k, by rw [it_congr p h hx]; exact e⟩⟩
  unfold orbs
  rw [this]
/-- one place back -/
def bck (n x : Nat) : Nat := if x = 0 then n - 1 else x - 1
theorem bck_lt {n x : Nat} (h : x < n) : bck n x < n := by unfold bck; split <;> omega
theorem bck_up {n x : Nat} (h : x < n) : (bck n x + 1) % n = x := by
  unfold bck
  by_cases e : x = 0
  · rw [if_pos e, show n - 1 + 1 = n by omega, Nat.mod_self, e]
  · rw [if_neg e, show x - 1 + 1 = x by omega, Nat.mod_eq_of_lt h]
theorem nxt_eq {W s : List Nat} (h : ∀ i, s.getD i 0 ≤ 1) (p : Nat) : nxt W s p = if s.getD (W.getD ((p + 1) % W.length) 0) 0 = 0 then (p + 1) % W.length else oth W ((p + 1) % W.length) := by
  unfold nxt fol
  simp only [gol, if_true]
  split <;> rfl
theorem set_le {s : List Nat} (h : ∀ i, s.getD i 0 ≤ 1) {l c : Nat} (hc : c ≤ 1) (i : Nat) : (s.set l c).getD i 0 ≤ 1 := by
  have := h i
  rw [List.getD_eq_getElem?_getD] at this ⊢
  rw [List.getElem?_set]
  split
  · split
    · simpa using hc
    · simp
  · exact this
theorem set_at {s : List Nat} {l c i : Nat} (hl : l < s.length) : (s.set l c).getD i 0 = if l = i then c else s.getD i 0 := by
  rw [List.getD_eq_getElem?_getD, List.getElem?_set]
  by_cases e : l = i
  · rw [if_pos e, if_pos e, if_pos hl]; rfl
  · rw [if_neg e, if_neg e, List.getD_eq_getElem?_getD]
/-- one letter from through to along -/
theorem cnt_flip {W s : List Nat} (w : Wd W) (h : ∀ i, s.getD i 0 ≤ 1) {l : Nat} (hl : l < s.length) (hw : l < W.length / 2) :
    cnt W (s.set l 0) = cnt W (s.set l 1) + 1 ∨ cnt W (s.set l 1) = cnt W (s.set l 0) + 1 := by
  have h0 := set_le h (l := l) (c := 0) (by omega)
  have h1 := set_le h (l := l) (c := 1) (by omega)
  rw [cnt_orbs w h0, cnt_orbs w h1]
  obtain ⟨P, _⟩ := pl (w.two l hw)
  have hlt := P.lt
  have hlo := P.lo
  have hlo2 : fp W l < W.length := by omega
  have ga := getD_some ((P.at_ _).mpr (.inl rfl))
  have gb := getD_some ((P.at_ _).mpr (.inr rfl))
  have ea : oth W (fp W l) = sp W l := by unfold oth; rw [ga, if_pos rfl]
  have eb : oth W (sp W l) = fp W l := by unfold oth; rw [gb, if_neg (by omega)]
  have A := bck_up hlo2
  have B := bck_up hlo
  have ne : bck W.length (fp W l) ≠ bck W.length (sp W l) := fun e => by rw [e, B] at A; omega
  have key : ∀ x, x < W.length → nxt W (s.set l 1) x = nxt W (s.set l 0) (sw (bck W.length (fp W l)) (bck W.length (sp W l)) x) := fun x hx => by
    rw [nxt_eq h1, nxt_eq h0]
    by_cases e1 : x = bck W.length (fp W l)
    · subst e1
      rw [sw_a, A, B, ga, gb, set_at hl, set_at hl, if_pos rfl, if_pos rfl, if_neg (by omega), if_pos rfl, ea]
    · by_cases e2 : x = bck W.length (sp W l)
      · subst e2
        rw [sw_b, A, B, ga, gb, set_at hl, set_at hl, if_pos rfl, if_pos rfl, if_neg (by omega), if_pos rfl, eb]
      · rw [sw_o e1 e2]
        have hq : (x + 1) % W.length < W.length := Nat.mod_lt _ (by omega)
        have nl : l ≠ W.getD ((x + 1) % W.length) 0 := fun e => by
          have := (w.at hq).2
          rw [← e] at this
          rcases (P.at_ _).mp this with g | g
          · exact e1 (up_inj hx (bck_lt hlo2) (by rw [A, g]))
          · exact e2 (up_inj hx (bck_lt hlo) (by rw [B, g]))
        rw [set_at hl, set_at hl, if_neg nl, if_neg nl]
  rw [orbs_congr (nxt_pm w h1) key]
  exact orbs_sw (nxt_pm w h0) (bck_lt hlo2) (bck_lt hlo) ne
end Wp
end
section
/-! Sp: laws of the typed operations, for the plain proofs. -/
namespace Sp
open PySem Mi Ta
variable {α β σ τ ρ : Type}
theorem lim_eq : lim = 1000000 := rfl
theorem rangeO_eq {n : Nat} (h : n ≤ 1000000) : rangeO n = some (List.range n) := if_pos h
theorem pushO_eq {xs : List α} {x : α} (h : xs.length < 1000000) : pushO xs x = some (xs ++ [x]) := if_pos h
theorem extO_eq {xs ys : List α} (h : xs.length + ys.length < 1000000) : extO xs ys = some (xs ++ ys) := if_pos h
theorem catO_eq {xs ys : List α} (h : xs.length + ys.length ≤ 1000000) : catO xs ys = some (xs ++ ys) := if_pos h
theorem repO_eq {xs : List α} {k : Nat} (h : k ≤ 1000) (h2 : xs.length ≤ 1000) : repO xs k = some (List.replicate k xs).flatten := if_pos ⟨h, h2⟩
theorem popN_eq {xs : List α} {k : Nat} (h : k < xs.length) (h2 : k ≤ 1000000) : popN xs k = some (xs[k], xs.eraseIdx k) := by
  unfold popN
  rw [if_pos h2, List.getElem?_eq_getElem h] <;> rfl
theorem lcP_eq {f : α → Option (Option β)} {g : α → Option β} : ∀ {l : List α}, (∀ x ∈ l, f x = some (g x)) → lcP f l = some (l.flatMap fun x => (g x).toList)
  | [], _ => rfl
  | x :: l, h => by
    rw [lcP, h x (List.mem_cons_self ..), Option.bind_some, lcP_eq fun y hy => h y (List.mem_cons_of_mem _ hy)]
    rfl
theorem lcPO_map {f : α → Option (Option β)} {g : α → β} {l : List α} (hl : l.length ≤ 1000000) (h : ∀ x ∈ l, f x = some (some (g x))) : lcPO f l = some (l.map g) := by
  unfold lcPO
  rw [if_pos (show l.length ≤ lim from hl), lcP_eq h]
  congr 1
  induction l with
  | nil => rfl
  | cons x l ih => rw [List.flatMap_cons, ih (by simp at hl ⊢; omega) fun y hy => h y (List.mem_cons_of_mem _ hy)] <;> rfl
theorem lcPO_filter {f : α → Option (Option α)} {p : α → Bool} {l : List α} (hl : l.length ≤ 1000000) (h : ∀ x ∈ l, f x = some (if p x then some x else none)) : lcPO f l = some (l.filter p) := by
  unfold lcPO
  rw [if_pos (show l.length ≤ lim from hl), lcP_eq h]
  congr 1
  induction l with
  | nil => rfl
  | cons x l ih =>
    rw [List.flatMap_cons, ih (by simp at hl ⊢; omega) fun y hy => h y (List.mem_cons_of_mem _ hy), List.filter_cons]
    cases p x <;> rfl
/-- a loop with an invariant -/
theorem forN_J {f : α → σ → Option σ} (J : Nat → σ → Prop) : ∀ (l : List α) (m : Nat) (s : σ), J m s → (∀ k x s, l[k]? = some x → J (m + k) s → ∃ s', f x s = some s' ∧ J (m + k + 1) s') → ∃ s', forN f l s = some s' ∧ J (m + l.length) s'
  | [], m, s, h, _ => ⟨s, rfl, h⟩
  | x :: l, m, s, h, H => by
    obtain ⟨s1, e1, j1⟩ := H 0 x s rfl h
    obtain ⟨s2, e2, j2⟩ := forN_J J l (m + 1) s1 j1 fun k y s hk hj => by
      have := H (k + 1) y s hk (by rw [show m + (k + 1) = m + 1 + k by omega]; exact hj)
      rw [show m + (k + 1) + 1 = m + 1 + k + 1 by omega] at this
      exact this
    refine ⟨s2, ?_, by rw [List.length_cons, show m + (l.length + 1) = m + 1 + l.length by omega]; exact j2⟩
    rw [forN, e1, Option.bind_some, e2]
theorem forN_fold {f : α → σ → Option σ} {g : σ → α → σ} (I : σ → Prop) : ∀ (l : List α) (s : σ), I s → (∀ x ∈ l, ∀ s, I s → f x s = some (g s x) ∧ I (g s x)) → forN f l s = some (l.foldl g s) ∧ I (l.foldl g s)
  | [], s, h, _ => ⟨rfl, h⟩
  | x :: l, s, h, H => by
    obtain ⟨e, h1⟩ := H x (List.mem_cons_self ..) s h
    obtain ⟨e2, h2⟩ := forN_fold I l (g s x) h1 fun y hy => H y (List.mem_cons_of_mem _ hy)
    exact ⟨by rw [forN, e, Option.bind_some, e2] <;> rfl, h2⟩
theorem forN_congr {f g : α → σ → Option σ} : ∀ {l : List α} {s : σ}, (∀ x ∈ l, ∀ s, f x s = g x s) → forN f l s = forN g l s
  | [], _, _ => rfl
  | x :: l, s, h => by
    rw [forN, forN, h x (List.mem_cons_self ..)]
    congr 1
    funext s'
    exact forN_congr fun y hy => h y (List.mem_cons_of_mem _ hy)
/-- all turns of a loop that may return go on -/
theorem forR_J {f : α → σ → Option (σ ⊕ ρ)} (J : σ → Prop) : ∀ (l : List α) (s : σ), J s → (∀ x ∈ l, ∀ s, J s → ∃ s', f x s = some (.inl s') ∧ J s') → ∃ s', forR f l s = some (.inl s') ∧ J s'
  | [], s, h, _ => ⟨s, rfl, h⟩
  | x :: l, s, h, H => by
    obtain ⟨s1, e1, j1⟩ := H x (List.mem_cons_self ..) s h
    obtain ⟨s2, e2, j2⟩ := forR_J J l s1 j1 fun y hy => H y (List.mem_cons_of_mem _ hy)
    exact ⟨s2, by rw [forR, e1, Option.bind_some]; exact e2, j2⟩
theorem whl_it {c : σ → Option (Bool × τ)} {f : τ → Option σ} (S : Nat → σ) (T : Nat → τ) (p : Nat) (hc : ∀ j, j < p → c (S j) = some (true, T j)) (hf : ∀ j, j < p → f (T j) = some (S (j + 1))) (he : c (S p) = some (false, T p)) :
    ∀ (n j : Nat), j ≤ p → p < j + n → whlN c f n (S j) = some (T p)
  | 0, j, h1, h2 => by omega
  | n + 1, j, h1, h2 => by
    rw [whlN]
    by_cases e : j = p
    · subst e
      rw [he] <;> rfl
    · rw [hc j (by omega), Option.bind_some, if_pos rfl, hf j (by omega), Option.bind_some]
      exact whl_it S T p hc hf he n (j + 1) (by omega) (by omega)
/-- drawn one after another -/
theorem lcS_J {f : α → σ → Option (Option β × σ)} (P : β → Prop) (J : σ → Prop) : ∀ (l : List α) (s : σ), J s → (∀ x ∈ l, ∀ s, J s → ∃ y s', f x s = some (some y, s') ∧ P y ∧ J s') → ∃ r s', lcS f l s = some (r, s') ∧ r.length = l.length ∧ (∀ y ∈ r, P y) ∧ J s'
  | [], s, h, _ => ⟨[], s, rfl, rfl, (fun _ h => nomatch h), h⟩
  | x :: l, s, h, H => by
    obtain ⟨y, s1, e1, hy, j1⟩ := H x (List.mem_cons_self ..) s h
    obtain ⟨r, s2, e2, hl, hr, j2⟩ := lcS_J P J l s1 j1 fun z hz => H z (List.mem_cons_of_mem _ hz)
    refine ⟨y :: r, s2, by rw [lcS, e1, Option.bind_some, e2] <;> rfl, by rw [List.length_cons, List.length_cons, hl], fun z hz => ?_, j2⟩
    rcases List.mem_cons.mp hz with h | h
    · exact h ▸ hy
    · exact hr z h
theorem lcSO_J {f : α → σ → Option (Option β × σ)} (P : β → Prop) (J : σ → Prop) {l : List α} {s : σ} (hl : l.length ≤ 1000000) (h : J s) (H : ∀ x ∈ l, ∀ s, J s → ∃ y s', f x s = some (some y, s') ∧ P y ∧ J s') : ∃ r s', lcSO f l s = some (r, s') ∧ r.length = l.length ∧ (∀ y ∈ r, P y) ∧ J s' := by
  unfold lcSO
  rw [if_pos (show l.length ≤ lim from hl)]
  exact lcS_J P J l s h H
theorem beq_nat {x y : Nat} : beqT .nat x y = decide (x = y) := rfl
theorem mem_nat {x : Nat} {l : List Nat} : memT .nat x l = decide (x ∈ l) := by
  unfold memT
  induction l with
  | nil => rfl
  | cons y l ih =>
    rw [List.any_cons, ih]
    by_cases e : y = x
    · subst e; simp [beqT]
    · have : ¬ x = y := fun h => e h.symm
      simp [beqT, e, this]
theorem mem_str {x : Str} {l : List Str} : memT .str x l = decide (x ∈ l) := by
  unfold memT
  induction l with
  | nil => rfl
  | cons y l ih =>
    rw [List.any_cons, ih]
    by_cases e : y = x
    · subst e; simp [beqT]
    · have : ¬ x = y := fun h => e h.symm
      simp [beqT, e, this]
theorem cnt_nat {l : List Nat} {x : Nat} : cntT .nat l x = l.count x := rfl
theorem idx_nat {l : List Nat} {x : Nat} : idxT .nat l x = l.idxOf? x := rfl
theorem idxFrom_nat {l : List Nat} {x a : Nat} (h : a ≤ 1000000) : idxFrom .nat l x a = ((l.drop a).idxOf? x).map (a + ·) := if_pos h
theorem idxOf_some : ∀ {l : List Nat} {x : Nat}, x ∈ l → l.idxOf? x = some (l.idxOf x)
  | [], _, h => nomatch h
  | y :: l, x, h => by
    rw [List.idxOf?_cons, List.idxOf_cons]
    by_cases e : y = x
    · subst e; simp
    · have hm : x ∈ l := by
        rcases List.mem_cons.mp h with h | h
        · exact absurd h.symm e
        · exact h
      have e2 : (y == x) = false := by simpa using e
      rw [e2, idxOf_some hm]
      rfl
theorem cut_to {xs : List α} {k : Nat} (h : k ≤ xs.length) : cutL xs none (some (Int.ofNat k)) = xs.take k := by
  have e : HT.sIx xs.length xs.length (some (Int.ofNat k)) = k := by
    show HT.sIx xs.length xs.length (some (k : Int)) = k
    rw [HT.sIx_nat]
    omega
  have e0 : HT.sIx xs.length 0 none = 0 := rfl
  unfold cutL
  rw [e, e0]
  simp
theorem cut_from {xs : List α} {k : Nat} (h : k ≤ xs.length) : cutL xs (some (Int.ofNat k)) none = xs.drop k := by
  have e : HT.sIx xs.length 0 (some (Int.ofNat k)) = k := by
    show HT.sIx xs.length 0 (some (k : Int)) = k
    rw [HT.sIx_nat]
    omega
  have e0 : HT.sIx xs.length xs.length none = xs.length := rfl
  unfold cutL
  rw [e, e0]
  exact List.take_of_length_le (by simp)
theorem forN_map {γ : Type} {f : α → σ → Option σ} {g : γ → α} : ∀ {l : List γ} {s : σ}, forN f (l.map g) s = forN (fun x => f (g x)) l s
  | [], _ => rfl
  | x :: l, s => by
    rw [List.map_cons, forN, forN]
    congr 1
    funext s'
    exact forN_map
/-! ### sorting -/
theorem alike_i (a b : Int) : PySem.W.alike (.int a) (.int b) = true := by simp [PySem.W.alike]
theorem dep_all {t : Ta.Ty} {d : Nat} : ∀ {xs : List t.den}, (∀ x ∈ xs, (t.enc x).depth ≤ d) → PyData.depthAll (xs.map t.enc) ≤ d
  | [], _ => Nat.zero_le _
  | x :: xs, h => Nat.max_le.mpr ⟨h x (List.mem_cons_self ..), dep_all fun y hy => h y (List.mem_cons_of_mem _ hy)⟩
def srt (xs : List Nat) : List Nat := xs.mergeSort (leT .nat)
def srtR (xs : List (List Nat)) : List (List Nat) := xs.mergeSort (leT (.htp .nat))
theorem sortO_nat {xs : List Nat} (h : xs.length ≤ 1000000) : sortO .nat xs = some (srt xs) := by
  refine if_pos ?_
  rw [Bool.and_eq_true, Bool.and_eq_true, Bool.and_eq_true]
  refine ⟨⟨⟨?_, ?_⟩, ?_⟩, ?_⟩
  · unfold alikeB
    rw [List.all_eq_true]
    intro x hx
    rw [List.all_eq_true]
    intro y hy
    obtain ⟨a, _, rfl⟩ := List.mem_map.mp hx
    obtain ⟨b, _, rfl⟩ := List.mem_map.mp hy
    exact alike_i _ _
  · unfold sortB
    rw [Bool.or_eq_true]
    refine .inr ?_
    rw [List.all_eq_true]
    intro x hx
    obtain ⟨a, _, rfl⟩ := List.mem_map.mp hx
    rfl
  · refine decide_eq_true ?_
    show PyData.depthAll _ + 1 ≤ 30
    have := dep_all (t := .nat) (d := 0) (xs := xs) fun x _ => Nat.le_refl 0
    omega
  · rw [List.length_map]
    exact decide_eq_true h
theorem sortO_rows {xs : List (List Nat)} (h : xs.length ≤ 1000000) (hn : ∀ x ∈ xs, x ≠ []) : sortO (.htp .nat) xs = some (srtR xs) := by
  refine if_pos ?_
  rw [Bool.and_eq_true, Bool.and_eq_true, Bool.and_eq_true]
  refine ⟨⟨⟨?_, ?_⟩, ?_⟩, ?_⟩
  · unfold alikeB
    rw [List.all_eq_true]
    intro x hx
    rw [List.all_eq_true]
    intro y hy
    obtain ⟨a, _, rfl⟩ := List.mem_map.mp hx
    obtain ⟨b, _, rfl⟩ := List.mem_map.mp hy
    have := Nm.alike_tI (a.map Int.ofNat) (b.map Int.ofNat)
    rw [List.map_map, List.map_map] at this
    exact this
  · unfold sortB
    rw [Bool.or_eq_true]
    refine .inl ?_
    rw [List.all_eq_true]
    intro x hx
    obtain ⟨a, ha, rfl⟩ := List.mem_map.mp hx
    cases a with
    | nil => exact absurd rfl (hn _ ha)
    | cons a l => rfl
  · refine decide_eq_true ?_
    show PyData.depthAll _ + 1 ≤ 30
    have := dep_all (t := .htp .nat) (d := 1) (xs := xs) fun x _ => by
      show PyData.depthAll (x.map (Ty.enc .nat)) + 1 ≤ 1
      have := dep_all (t := .nat) (d := 0) (xs := x) fun x _ => Nat.le_refl 0
      omega
    omega
  · rw [List.length_map]
    exact decide_eq_true h
theorem srt_len {xs : List Nat} : (srt xs).length = xs.length := List.length_mergeSort xs
theorem srtR_len {xs : List (List Nat)} : (srtR xs).length = xs.length := List.length_mergeSort xs
theorem srt_mem {xs : List Nat} {x : Nat} : x ∈ srt xs ↔ x ∈ xs := List.mem_mergeSort
theorem srt_perm (xs : List Nat) : (srt xs).Perm xs := List.mergeSort_perm ..
theorem leT_nat (x y : Nat) : leT .nat x y = decide (x ≤ y) := by
  have e : leT .nat x y = (!decide ((y : Int) < (x : Int))) := congrArg (!·) (PySem.W.dataLt_int (Int.ofNat y) (Int.ofNat x))
  rw [e]
  by_cases h : x ≤ y
  · rw [decide_eq_true h, decide_eq_false (by omega)] <;> rfl
  · rw [decide_eq_false h, decide_eq_true (by omega)] <;> rfl
theorem srt_of {xs : List Nat} (h : xs.Pairwise (· ≤ ·)) : srt xs = xs := by
  unfold srt
  refine List.mergeSort_of_pairwise (h.imp fun {a b} hab => ?_)
  rw [leT_nat]
  exact decide_eq_true hab
theorem srt_range (n : Nat) : srt (List.range n) = List.range n := srt_of (List.pairwise_le_range)
theorem srtR_one (x : List Nat) : srtR [x] = [x] := by
  have := List.mergeSort_perm [x] (leT (.htp .nat))
  exact List.perm_singleton.mp this
end Sp
end
section
/-! Sp2: words drawn and renamed, as laws do it. -/
namespace Sp
open PySem Mi Ta Wp
theorem perm_erase {α : Type} : ∀ (l : List α) (r : Nat) (h : r < l.length), (l[r] :: l.eraseIdx r).Perm l
  | [], _, h => by cases h
  | _ :: _, 0, _ => .refl _
  | x :: l, r + 1, h => by
    have h' : r < l.length := by simpa using h
    exact (List.Perm.swap x l[r] (l.eraseIdx r)).trans (List.Perm.cons x (perm_erase l r h'))
theorem cnt_range (j : Nat) : ∀ m : Nat, List.count j (List.range m) = if j < m then 1 else 0
  | 0 => rfl
  | m + 1 => by
    rw [List.range_succ, List.count_append, cnt_range j m, List.count_singleton]
    by_cases h : j = m
    · subst h; simp
    · by_cases h2 : j < m
      · have : ¬ m = j := fun e => h e.symm
        simp [h2, this]; omega
      · have : ¬ m = j := fun e => h e.symm
        simp [h2, this]; omega
/-- a list of numbers that holds each below m twice -/
abbrev Two (m : Nat) (W : List Nat) : Prop := W.Perm (List.range m ++ List.range m)
theorem Two.len {m : Nat} {W : List Nat} (h : Two m W) : W.length = 2 * m := by rw [h.length_eq]; simp; omega
theorem Two.wd {m : Nat} {W : List Nat} (h : Two m W) (hm : m ≤ 10) : Wd W := by
  have l := h.len
  refine ⟨by omega, by omega, fun z hz => ?_, fun j hj => ?_⟩
  · have := h.mem_iff.mp hz
    simp at this
    omega
  · rw [h.count_eq, List.count_append]
    have := cnt_range j m
    rw [if_pos (by omega)] at this
    omega
theorem perm_len {l s : List Nat} (h1 : l.Nodup) (h2 : s.Nodup) (h : ∀ x, x ∈ l ↔ x ∈ s) : l.length = s.length := by
  have a : ∀ {l s : List Nat}, l.Nodup → (∀ x ∈ l, x ∈ s) → l.length ≤ s.length := by
    intro l
    induction l with
    | nil => intro s _ _; exact Nat.zero_le _
    | cons x l ih =>
      intro s hn hs
      rw [List.nodup_cons] at hn
      have hx := hs x (List.mem_cons_self ..)
      have := ih (s := s.erase x) hn.2 fun y hy => by
        have hne : y ≠ x := fun e => hn.1 (e ▸ hy)
        exact (List.mem_erase_of_ne hne).mpr (hs y (List.mem_cons_of_mem _ hy))
      rw [List.length_erase_of_mem hx] at this
      have hp : 0 < s.length := List.length_pos_of_mem hx
      rw [List.length_cons]
      omega
  exact Nat.le_antisymm (a h1 fun x hx => (h x).mp hx) (a h2 fun x hx => (h x).mpr hx)
theorem has {W : List Nat} (h : Wd W) {i : Nat} (hi : i < W.length / 2) : i ∈ W := by
  have := h.two i hi
  exact List.count_pos_iff.mp (by omega)
theorem seen_half {W : List Nat} (h : Wd W) : (Nm.seen W).length = W.length / 2 := by
  have := perm_len (Nm.nodup_seen W) (List.nodup_range (n := W.length / 2)) fun x => by
    rw [Nm.mem_seen, List.mem_range]
    exact ⟨h.low x, fun hx => has h hx⟩
  rw [this, List.length_range]
theorem wd_nm {W : List Nat} (h : Wd W) : Wd (Nm.nm W) := by
  have e := Nm.nm_len W
  refine ⟨by rw [e]; exact h.ev, by rw [e]; exact h.few, fun x hx => ?_, fun i hi => ?_⟩
  · have := Nm.nm_low hx
    rw [seen_half h] at this
    rw [e]
    exact this
  · rw [e] at hi
    have hi2 : i < (Nm.seen W).length := by rw [seen_half h]; exact hi
    rw [Nm.nm_count hi2]
    have hm : (Nm.seen W)[i] ∈ W := (Nm.mem_seen W _).mp (List.getElem_mem hi2)
    exact h.two _ (h.low _ hm)
/-- names given as they come -/
def kv : Nat → List Nat → List (Nat × Nat)
  | _, [] => []
  | k, x :: s => (x, k) :: kv (k + 1) s
theorem kv_len : ∀ (s : List Nat) (k : Nat), (kv k s).length = s.length
  | [], _ => rfl
  | _ :: s, k => congrArg Nat.succ (kv_len s (k + 1))
theorem kv_snoc : ∀ (s : List Nat) (k x : Nat), kv k s ++ [(x, k + s.length)] = kv k (s ++ [x])
  | [], _, _ => rfl
  | y :: s, k, x => by
    show (y, k) :: (kv (k + 1) s ++ [(x, k + (s.length + 1))]) = (y, k) :: kv (k + 1) (s ++ [x])
    rw [← kv_snoc s (k + 1) x, show k + 1 + s.length = k + (s.length + 1) by omega]
theorem kv_get : ∀ (s : List Nat) (k x : Nat), dgetT .nat .nat (kv k s) x = if x ∈ s then some (k + s.idxOf x) else none
  | [], _, _ => by simp [dgetT, kv]
  | y :: s, k, x => by
    have ih := kv_get s (k + 1) x
    unfold dgetT at ih ⊢
    show (((y, k) :: kv (k + 1) s).find? _).map _ = _
    rw [List.find?_cons]
    by_cases e : y = x
    · subst e
      have : beqT .nat y y = true := by rw [beq_nat]; simp
      simp only [this, if_pos (List.mem_cons_self ..)]
      simp
    · have : beqT .nat y x = false := by rw [beq_nat]; simpa using e
      simp only [this]
      rw [ih]
      have e2 : ¬ x = y := fun h => e h.symm
      by_cases h : x ∈ s
      · rw [if_pos h, if_pos (List.mem_cons_of_mem _ h), List.idxOf_cons]
        have : (y == x) = false := by simpa using e
        rw [this, cond_false]
        congr 1
        omega
      · rw [if_neg h, if_neg (by simp [e2, h])]
theorem kv_put {s : List Nat} {x : Nat} (h : x ∉ s) (hl : s.length < 1000000) : dputO .nat .nat (kv 0 s) x s.length = some (kv 0 (s ++ [x])) := by
  have e := kv_get s 0 x
  rw [if_neg h] at e
  unfold dputO
  rw [if_pos (by rw [kv_len]; exact hl)]
  unfold dputT
  have na : ((kv 0 s).any fun q => beqT .nat q.1 x) = false := by
    cases c : (kv 0 s).any fun q => beqT .nat q.1 x with
    | false => rfl
    | true =>
      exfalso
      unfold dgetT at e
      rw [Option.map_eq_none_iff, List.find?_eq_none] at e
      obtain ⟨q, hq, hx⟩ := List.any_eq_true.mp c
      exact e q hq hx
  rw [if_neg (by rw [na]; exact Bool.false_ne_true), ← kv_snoc, Nat.zero_add]
/-- renaming, as laws do it -/
theorem relab {f : Nat → List (Nat × Nat) × List Nat × Unit → Option (List (Nat × Nat) × List Nat × Unit)} (hf : ∀ x y, f x y = (if (!(Option.isSome (dgetT .nat .nat y.1 x))) = true then (dputO .nat .nat y.1 x (List.length y.1)).bind fun z => some ((z, ())) else some ((y.1, ()))).bind fun u => (dgetT .nat .nat u.1 x).bind fun v => (pushO y.2.1 v).bind fun w => some ((u.1, (w, ()))))
    {W : List Nat} (hl : W.length ≤ 1000) : forN f W ([], ([], ())) = some (kv 0 (Nm.seen W), (Nm.nm W, ())) := by
  obtain ⟨s', e, j⟩ := forN_J (f := f) (fun k s => s = (kv 0 (Nm.seen (W.take k)), (Nm.nm (W.take k), ()))) W 0 ([], ([], ())) rfl fun k x s hk hs => by
    have kl := (List.getElem?_eq_some_iff.mp hk).1
    have tk : W.take (k + 1) = W.take k ++ [x] := by
      rw [List.take_succ, hk] <;> rfl
    rw [Nat.zero_add] at hs ⊢
    subst hs
    have lenS : (Nm.seen (W.take k)).length ≤ k := by
      have h1 := Pc.nodup_len' (Nm.nodup_seen (W.take k)) (fun y hy => (Nm.mem_seen _ y).mp hy)
      have : (W.take k).length ≤ k := by rw [List.length_take]; omega
      omega
    have lenN : (Nm.nm (W.take k)).length ≤ k := by rw [Nm.nm_len, List.length_take]; omega
    refine ⟨_, ?_, rfl⟩
    rw [hf, tk, Nm.nm_snoc, Nm.seen_snoc]
    simp only
    rw [kv_get]
    by_cases h : x ∈ Nm.seen (W.take k)
    · rw [if_pos h]
      simp only [Option.isSome_some, Bool.not_true, Bool.false_eq_true, if_false, Option.bind_some]
      rw [kv_get, if_pos h, if_pos h, Option.bind_some, pushO_eq (by omega), Nat.zero_add] <;> rfl
    · rw [if_neg h]
      simp only [Option.isSome_none, Bool.not_false, if_true]
      rw [kv_len, kv_put h (by omega), if_neg h]
      simp only [Option.bind_some]
      rw [kv_get, if_pos (by simp), Option.bind_some, pushO_eq (by omega), Nat.zero_add] <;> rfl
  rw [e, j, Nat.zero_add, List.take_length]
end Sp
end
section
namespace K46
open PySem Mi
def F_is_integer : Fd := ⟨["value"], 1, false, (.cons (.ret (.and (.isa (.pk 0) [.int]) (.nt (.isa (.pk 0) [.bool])))) .nil)⟩
def F_is_count : Fd := ⟨["value"], 1, false, (.cons (.ret (.and (.cal "is_integer" [0] (.cons (.var 0) .nil)) (.cm .ge (.pk 0) (.lit (.int (0)))))) .nil)⟩
def F_is_below : Fd := ⟨["value", "many"], 2, false, (.cons (.ret (.and (.cal "is_count" [0] (.cons (.var 0) .nil)) (.cm .lt (.pk 0) (.pk 1)))) .nil)⟩
def F_is_row : Fd := ⟨["value", "many"], 2, false, (.cons (.ret (.and (.isa (.pk 0) [.tuple]) (.cm .eq (.bi .len (.cons (.pk 0) .nil)) (.pk 1)))) .nil)⟩
def F_want_many : Fd := ⟨["value", "least", "most"], 3, false, (.cons (.ifs (.or (.nt (.v (.cal "is_count" [0] (.cons (.var 0) .nil)))) (.nt (.v (.cm2 .le .le (.pk 1) (.pk 0) (.pk 2))))) (.cons .raise .nil) .nil) (.cons (.retv 0) .nil))⟩
def F_is_word_of : Fd := ⟨["value"], 5, false, (.cons (.ifs (.or (.nt (.v (.isa (.pk 0) [.tuple]))) (.or (.v (.cm .eq (.op .mod (.bi .len (.cons (.pk 0) .nil)) (.lit (.int (2)))) (.lit (.int (1))))) (.v (.cm .gt (.bi .len (.cons (.pk 0) .nil)) (.op .mul (.lit (.int (2))) (.glo "MOST_LETTERS")))))) (.cons (.ret (.lit (.bool false))) .nil) .nil) (.cons (.asg 1 (.op .fdiv (.bi .len (.cons (.pk 0) .nil)) (.lit (.int (2))))) (.cons (.ret (.and (.bi .all (.cons (.lc [2, 3] [3] true (.v (.var 0)) .yes (.cal "is_below" [0, 1] (.cons (.var 3) (.cons (.var 1) .nil)))) .nil)) (.bi .all (.cons (.lc [2, 4] [4] true (.rng (.cons (.pk 1) .nil)) .yes (.cm .eq (.me .count (.pk 0) (.cons (.pk 4) .nil)) (.lit (.int (2))))) .nil)))) .nil)))⟩
def F_many_of : Fd := ⟨["word"], 1, false, (.cons (.ret (.op .fdiv (.bi .len (.cons (.pk 0) .nil)) (.lit (.int (2))))) .nil)⟩
def F_places_of : Fd := ⟨["word", "letter"], 3, false, (.cons (.asg 2 (.me .index (.pk 0) (.cons (.pk 1) .nil))) (.cons (.ret (.tup (.cons (.var 2) (.cons (.me .index (.pk 0) (.cons (.pk 1) (.cons (.op .add (.pk 2) (.lit (.int (1)))) .nil))) .nil)))) .nil))⟩
def F_other_place : Fd := ⟨["word", "position"], 4, false, (.cons (.asgT [2, 3] (.cal "places_of" [0, 1] (.cons (.var 0) (.cons (.ix (.pk 0) (.pk 1)) .nil)))) (.cons (.ret (.ite (.v (.cm .eq (.pk 1) (.pk 2))) (.var 3) (.var 2))) .nil))⟩
def F_clover_of : Fd := ⟨["many"], 1, false, (.cons (.ret (.op .add (.bi .trange (.cons (.pk 0) .nil)) (.bi .trange (.cons (.pk 0) .nil)))) .nil)⟩
def F_curls_of : Fd := ⟨["many"], 3, false, (.cons (.asg 1 (.lst .nil)) (.cons (.fr [2] true (.rng (.cons (.pk 0) .nil)) (.cons (.ext 1 (.lst (.cons (.var 2) (.cons (.var 2) .nil)))) .nil)) (.cons (.ret (.bi .tuple (.cons (.pk 1) .nil))) .nil)))⟩
def F_nest_of : Fd := ⟨["many"], 1, false, (.cons (.ret (.op .add (.bi .trange (.cons (.pk 0) .nil)) (.bi .trange (.cons (.op .sub (.pk 0) (.lit (.int (1)))) (.cons (.neg (.lit (.int (1)))) (.cons (.neg (.lit (.int (1)))) .nil)))))) .nil)⟩
def F_want_word : Fd := ⟨["value"], 1, false, (.cons (.ifs (.nt (.v (.cal "is_word_of" [0] (.cons (.var 0) .nil)))) (.cons .raise .nil) .nil) (.cons (.retv 0) .nil))⟩
def F_clover : Fd := ⟨["many"], 1, false, (.cons (.ret (.cal "clover_of" [0] (.cons (.cal "want_many" [0, 1, 2] (.cons (.var 0) (.cons (.lit (.int (0))) (.cons (.glo "MOST_LETTERS") .nil)))) .nil))) .nil)⟩
def F_curls : Fd := ⟨["many"], 1, false, (.cons (.ret (.cal "curls_of" [0] (.cons (.cal "want_many" [0, 1, 2] (.cons (.var 0) (.cons (.lit (.int (0))) (.cons (.glo "MOST_LETTERS") .nil)))) .nil))) .nil)⟩
def F_nest : Fd := ⟨["many"], 1, false, (.cons (.ret (.cal "nest_of" [0] (.cons (.cal "want_many" [0, 1, 2] (.cons (.var 0) (.cons (.lit (.int (0))) (.cons (.glo "MOST_LETTERS") .nil)))) .nil))) .nil)⟩
def F_goal_of : Fd := ⟨["word", "arrow"], 4, false, (.cons (.asgT [2, 3] (.pk 1)) (.cons (.ret (.ite (.v (.pk 3)) (.op .mod (.op .add (.pk 2) (.lit (.int (1)))) (.bi .len (.cons (.pk 0) .nil))) (.op .mod (.op .sub (.pk 2) (.lit (.int (1)))) (.bi .len (.cons (.pk 0) .nil))))) .nil))⟩
def F_is_cut : Fd := ⟨["value"], 1, false, (.cons (.ret (.and (.isa (.pk 0) [.str]) (.cm .isin (.pk 0) (.glo "CUTS")))) .nil)⟩
def F_is_state_of : Fd := ⟨["word", "value"], 4, false, (.cons (.ret (.and (.cal "is_row" [0, 1] (.cons (.var 1) (.cons (.cal "many_of" [0] (.cons (.var 0) .nil)) .nil))) (.bi .all (.cons (.lc [2, 3] [3] true (.v (.var 1)) .yes (.cal "is_cut" [0] (.cons (.var 3) .nil))) .nil)))) .nil)⟩
def F_edge_of : Fd := ⟨["word", "arrow"], 4, false, (.cons (.asgT [2, 3] (.pk 1)) (.cons (.ret (.ite (.v (.pk 3)) (.var 2) (.op .mod (.op .sub (.pk 2) (.lit (.int (1)))) (.bi .len (.cons (.pk 0) .nil))))) .nil))⟩
def F_follower : Fd := ⟨["word", "state", "arrow"], 6, false, (.cons (.par [3, 4] (.cons (.cal "goal_of" [0, 1] (.cons (.var 0) (.cons (.var 2) .nil))) (.cons (.ix (.pk 2) (.lit (.int (1)))) .nil))) (.cons (.asg 5 (.ix (.pk 1) (.ix (.pk 0) (.pk 3)))) (.cons (.ifs (.v (.cm .eq (.pk 5) (.glo "THROUGH"))) (.cons (.ret (.tup (.cons (.var 3) (.cons (.var 4) .nil)))) .nil) .nil) (.cons (.ret (.tup (.cons (.cal "other_place" [0, 1] (.cons (.var 0) (.cons (.var 3) .nil))) (.cons (.ite (.v (.cm .eq (.pk 5) (.glo "ALONG"))) (.var 4) (.nt (.pk 4))) .nil)))) .nil))))⟩
def F_way_from : Fd := ⟨["word", "state", "start"], 5, false, (.cons (.asg 3 (.lst (.cons (.var 2) .nil))) (.cons (.asg 4 (.cal "follower" [0, 1, 2] (.cons (.var 0) (.cons (.var 1) (.cons (.var 2) .nil))))) (.cons (.whl (.v (.cm .ne (.pk 4) (.pk 2))) (.cons (.app 3 (.var 4)) (.cons (.asg 4 (.cal "follower" [0, 1, 2] (.cons (.var 0) (.cons (.var 1) (.cons (.var 4) .nil))))) .nil))) (.cons (.retv 3) .nil))))⟩
def F_loops_of : Fd := ⟨["word", "state"], 8, false, (.cons (.ifs (.v (.cm .eq (.pk 0) (.tup .nil))) (.cons (.ret (.lst (.cons (.tup .nil) .nil))) .nil) .nil) (.cons (.par [2, 3] (.cons (.lst .nil) (.cons (.lst .nil) .nil))) (.cons (.fr [4] true (.rng (.cons (.bi .len (.cons (.pk 0) .nil)) .nil)) (.cons (.ifs (.v (.cm .notin (.pk 4) (.pk 3))) (.cons (.asg 5 (.lc [6, 7] [7] true (.v (.cal "way_from" [0, 1, 2] (.cons (.var 0) (.cons (.var 1) (.cons (.tup (.cons (.var 4) (.cons (.lit (.bool true)) .nil))) .nil))))) .yes (.cal "edge_of" [0, 1] (.cons (.var 0) (.cons (.var 7) .nil))))) (.cons (.ext 3 (.pk 5)) (.cons (.app 2 (.bi .tuple (.cons (.bi .sorted (.cons (.pk 5) .nil)) .nil))) .nil))) .nil) .nil)) (.cons (.ret (.bi .sorted (.cons (.pk 2) .nil))) .nil))))⟩
def F_want_state : Fd := ⟨["word", "value"], 2, false, (.cons (.ifs (.nt (.v (.cal "is_state_of" [0, 1] (.cons (.var 0) (.cons (.var 1) .nil))))) (.cons .raise .nil) .nil) (.cons (.retv 1) .nil))⟩
def F_loops : Fd := ⟨["word", "state"], 2, false, (.cons (.ex (.cal "want_state" [0, 1] (.cons (.cal "want_word" [0] (.cons (.var 0) .nil)) (.cons (.var 1) .nil)))) (.cons (.ret (.cal "loops_of" [0, 1] (.cons (.var 0) (.cons (.var 1) .nil)))) .nil))⟩
def F_full_states : Fd := ⟨["many"], 7, false, (.cons (.asg 1 (.lst (.cons (.tup .nil) .nil))) (.cons (.fr [2] true (.rng (.cons (.pk 0) .nil)) (.cons (.asg 3 (.lst .nil)) (.cons (.fr [4] true (.v (.var 1)) (.cons (.ext 3 (.lc [5, 6] [6] true (.v (.tup (.cons (.glo "ACROSS") (.cons (.glo "ALONG") .nil)))) .yes (.op .add (.pk 4) (.tup (.cons (.var 6) .nil))))) .nil)) (.cons (.asg 1 (.var 3)) .nil)))) (.cons (.retv 1) .nil)))⟩
def F_numbers_of : Fd := ⟨["word"], 4, false, (.cons (.asg 1 (.lst .nil)) (.cons (.fr [2] true (.v (.cal "full_states" [0] (.cons (.cal "many_of" [0] (.cons (.var 0) .nil)) .nil))) (.cons (.asg 3 (.bi .len (.cons (.cal "loops_of" [0, 1] (.cons (.var 0) (.cons (.var 2) .nil))) .nil))) (.cons (.ext 1 (.op .mul (.lst (.cons (.lit (.int (0))) .nil)) (.op .sub (.pk 3) (.bi .len (.cons (.pk 1) .nil))))) (.cons (.augI 1 (.op .sub (.pk 3) (.lit (.int (1)))) (.lit (.int (1)))) .nil)))) (.cons (.retv 1) .nil)))⟩
def F_along_of : Fd := ⟨["word"], 1, false, (.cons (.ret (.bi .len (.cons (.cal "loops_of" [0, 1] (.cons (.var 0) (.cons (.op .mul (.tup (.cons (.glo "ALONG") .nil)) (.cal "many_of" [0] (.cons (.var 0) .nil))) .nil))) .nil))) .nil)⟩
def F_loop_number : Fd := ⟨["word", "state"], 2, false, (.cons (.ex (.cal "want_state" [0, 1] (.cons (.cal "want_word" [0] (.cons (.var 0) .nil)) (.cons (.var 1) .nil)))) (.cons (.ret (.bi .len (.cons (.cal "loops_of" [0, 1] (.cons (.var 0) (.cons (.var 1) .nil))) .nil))) .nil))⟩
def F_loop_numbers : Fd := ⟨["word"], 1, false, (.cons (.ret (.cal "numbers_of" [0] (.cons (.cal "want_word" [0] (.cons (.var 0) .nil)) .nil))) .nil)⟩
def F_along_number : Fd := ⟨["word"], 1, false, (.cons (.ret (.cal "along_of" [0] (.cons (.cal "want_word" [0] (.cons (.var 0) .nil)) .nil))) .nil)⟩
def F__law_pot : Fd := ⟨["script", "k"], 3, false, (.cons (.asg 2 (.ite (.v (.cm .lt (.pk 1) (.bi .len (.cons (.pk 0) .nil)))) (.bi .abs (.cons (.ix (.pk 0) (.pk 1)) .nil)) (.op .add (.op .mul (.lit (.int (3907))) (.pk 1)) (.lit (.int (2711)))))) (.cons (.ret (.lst (.cons (.bi .max (.cons (.lit (.int (0))) (.cons (.op .sub (.pk 2) (.op .pow (.lit (.int (10))) (.lit (.int (18))))) .nil))) (.cons (.op .add (.op .mod (.bi .int (.cons (.op .add (.op .add (.op .mul (.op .mod (.bi .int (.cons (.pk 2) .nil)) (.lit (.int (2147483549)))) (.lit (.int (40014)))) (.op .mul (.lit (.int (1997))) (.pk 1))) (.lit (.int (3511)))) .nil)) (.lit (.int (2147483563)))) (.lit (.int (1)))) .nil)))) .nil))⟩
def F__law_draw : Fd := ⟨["pot", "many"], 3, true, (.cons (.ifs (.v (.cm .gt (.ix (.pk 0) (.lit (.int (0)))) (.lit (.int (0))))) (.cons (.divI 0 (0) 2 (.bi .divmod (.cons (.ix (.pk 0) (.lit (.int (0)))) (.cons (.pk 1) .nil)))) (.cons (.retv 2) .nil)) .nil) (.cons (.setI 0 (.lit (.int (1))) (.op .mod (.bi .int (.cons (.op .add (.op .mul (.ix (.pk 0) (.lit (.int (1)))) (.lit (.int (40692)))) (.lit (.int (5711)))) .nil)) (.lit (.int (2147483587))))) (.cons (.ret (.op .mod (.bi .int (.cons (.op .fdiv (.op .mod (.bi .int (.cons (.op .mul (.ix (.pk 0) (.lit (.int (1)))) (.ix (.pk 0) (.lit (.int (1))))) .nil)) (.lit (.int (2147483549)))) (.lit (.int (17)))) .nil)) (.pk 1))) .nil)))⟩
def F__law_pick : Fd := ⟨["pot", "some"], 2, true, (.cons (.ret (.ix (.pk 1) (.cal "_law_draw" [0, 1] (.cons (.pk 0) (.cons (.bi .len (.cons (.pk 1) .nil)) .nil))))) .nil)⟩
def F__law_relabelled : Fd := ⟨["letters"], 4, false, (.cons (.par [1, 2] (.cons .dct0 (.cons (.lst .nil) .nil))) (.cons (.fr [3] true (.v (.var 0)) (.cons (.ifs (.v (.cm .notin (.pk 3) (.pk 1))) (.cons (.setI 1 (.pk 3) (.bi .len (.cons (.pk 1) .nil))) .nil) .nil) (.cons (.app 2 (.ix (.pk 1) (.pk 3))) .nil))) (.cons (.ret (.bi .tuple (.cons (.pk 2) .nil))) .nil)))⟩
def F__law_word : Fd := ⟨["pot", "many"], 5, true, (.cons (.par [2, 3] (.cons (.bi .sorted (.cons (.op .add (.bi .lrange (.cons (.pk 1) .nil)) (.bi .lrange (.cons (.pk 1) .nil))) .nil)) (.cons (.lst .nil) .nil))) (.cons (.fr [4] true (.rng (.cons (.op .mul (.lit (.int (2))) (.pk 1)) .nil)) (.cons (.app 3 (.pop 2 (.cal "_law_draw" [0, 1] (.cons (.pk 0) (.cons (.bi .len (.cons (.pk 2) .nil)) .nil))))) .nil)) (.cons (.ret (.cal "_law_relabelled" [0] (.cons (.var 3) .nil))) .nil)))⟩
def F__law_state : Fd := ⟨["pot", "many", "is_full"], 5, true, (.cons (.ret (.bi .tuple (.cons (.lc [3, 4] [4] true (.rng (.cons (.pk 1) .nil)) .yes (.cal "_law_pick" [0, 1] (.cons (.pk 0) (.cons (.ite (.v (.pk 2)) (.lst (.cons (.lit (.str "along")) (.cons (.lit (.str "across")) .nil))) (.lst (.cons (.lit (.str "through")) (.cons (.lit (.str "along")) (.cons (.lit (.str "across")) .nil))))) .nil)))) .nil))) .nil)⟩
def F__law_choose : Fd := ⟨["many", "few"], 4, false, (.cons (.asg 2 (.lit (.int (1)))) (.cons (.fr [3] true (.rng (.cons (.pk 1) .nil)) (.cons (.asg 2 (.op .fdiv (.op .mul (.pk 2) (.op .sub (.pk 0) (.pk 3))) (.op .add (.pk 3) (.lit (.int (1)))))) .nil)) (.cons (.retv 2) .nil)))⟩
def F__law_right : Fd := ⟨["pot"], 12, true, (.cons (.asg 1 (.cal "_law_draw" [0, 1] (.cons (.pk 0) (.cons (.lit (.int (8))) .nil)))) (.cons (.fr [2] true (.v (.tup (.cons (.cal "curls" [0] (.cons (.var 1) .nil)) (.cons (.cal "nest" [0] (.cons (.var 1) .nil)) .nil)))) (.cons (.asg 3 (.cal "_law_state" [0, 1, 2] (.cons (.pk 0) (.cons (.var 1) (.cons (.lit (.bool false)) .nil))))) (.cons (.ifs (.or (.v (.cm .ne (.cal "loop_number" [0, 1] (.cons (.var 2) (.cons (.var 3) .nil))) (.op .add (.lit (.int (1))) (.bi .len (.cons (.lc [8, 9] [9] true (.v (.var 3)) (.v (.cm .eq (.pk 9) (.lit (.str "along")))) (.var 9)) .nil))))) (.v (.cm .ne (.cal "loop_numbers" [0] (.cons (.var 2) .nil)) (.lc [8, 10] [10] true (.rng (.cons (.op .add (.pk 1) (.lit (.int (1)))) .nil)) .yes (.cal "_law_choose" [0, 1] (.cons (.var 1) (.cons (.var 10) .nil))))))) (.cons (.ret (.lit (.bool false))) .nil) .nil) .nil))) (.cons (.asg 4 (.cal "_law_draw" [0, 1] (.cons (.pk 0) (.cons (.lit (.int (10))) .nil)))) (.cons (.ifs (.or (.v (.cm .ne (.cal "along_number" [0] (.cons (.cal "clover" [0] (.cons (.var 4) .nil)) .nil)) (.ite (.v (.cm .eq (.op .mod (.bi .int (.cons (.pk 4) .nil)) (.lit (.int (2)))) (.lit (.int (0))))) (.lit (.int (1))) (.lit (.int (2)))))) (.v (.cm .ne (.cal "loops" [0, 1] (.cons (.cal "clover" [0] (.cons (.var 4) .nil)) (.cons (.op .mul (.tup (.cons (.lit (.str "through")) .nil)) (.pk 4)) .nil))) (.lst (.cons (.bi .trange (.cons (.op .mul (.lit (.int (2))) (.pk 4)) .nil)) .nil))))) (.cons (.ret (.lit (.bool false))) .nil) .nil) (.cons (.ifs (.and (.v (.cm .gt (.pk 4) (.lit (.int (0))))) (.v (.cm .ne (.cal "loop_number" [0, 1] (.cons (.cal "clover" [0] (.cons (.var 4) .nil)) (.cons (.op .mul (.tup (.cons (.lit (.str "across")) .nil)) (.pk 4)) .nil))) (.pk 4)))) (.cons (.ret (.lit (.bool false))) .nil) .nil) (.cons (.asg 2 (.cal "_law_word" [0, 1] (.cons (.pk 0) (.cons (.op .add (.lit (.int (1))) (.cal "_law_draw" [0, 1] (.cons (.pk 0) (.cons (.lit (.int (9))) .nil)))) .nil)))) (.cons (.asg 5 (.cal "_law_draw" [0, 1] (.cons (.pk 0) (.cons (.op .fdiv (.bi .len (.cons (.pk 2) .nil)) (.lit (.int (2)))) .nil)))) (.cons (.asg 3 (.bi .tuple (.cons (.lc [8, 11] [11] true (.rng (.cons (.op .fdiv (.bi .len (.cons (.pk 2) .nil)) (.lit (.int (2)))) .nil)) .yes (.cal "_law_pick" [0, 1] (.cons (.pk 0) (.cons (.lst (.cons (.lit (.str "through")) (.cons (.lit (.str "along")) .nil))) .nil)))) .nil))) (.cons (.par [6, 7] (.cons (.op .add (.op .add (.sl (.pk 3) .no (.so (.pk 5))) (.tup (.cons (.lit (.str "through")) .nil))) (.sl (.pk 3) (.so (.op .add (.pk 5) (.lit (.int (1))))) .no)) (.cons (.op .add (.op .add (.sl (.pk 3) .no (.so (.pk 5))) (.tup (.cons (.lit (.str "along")) .nil))) (.sl (.pk 3) (.so (.op .add (.pk 5) (.lit (.int (1))))) .no)) .nil))) (.cons (.ret (.cm .eq (.bi .abs (.cons (.op .sub (.cal "loop_number" [0, 1] (.cons (.var 2) (.cons (.var 6) .nil))) (.cal "loop_number" [0, 1] (.cons (.var 2) (.cons (.var 7) .nil)))) .nil)) (.lit (.int (1))))) .nil))))))))))⟩
def F_law : Fd := ⟨["script"], 3, false, (.cons (.ret (.bi .all (.cons (.lc [1, 2] [2] true (.rng (.cons (.bi .max (.cons (.lit (.int (1))) (.cons (.bi .min (.cons (.lit (.int (2))) (.cons (.bi .len (.cons (.pk 0) .nil)) .nil))) .nil))) .nil)) .yes (.cal "_law_right" [0] (.cons (.cal "_law_pot" [0, 1] (.cons (.var 0) (.cons (.var 2) .nil))) .nil))) .nil))) .nil)⟩
def tab : Tab := ⟨[(Str.ofString "is_integer", F_is_integer), (Str.ofString "is_count", F_is_count), (Str.ofString "is_below", F_is_below), (Str.ofString "is_row", F_is_row), (Str.ofString "want_many", F_want_many), (Str.ofString "is_word_of", F_is_word_of), (Str.ofString "many_of", F_many_of), (Str.ofString "places_of", F_places_of), (Str.ofString "other_place", F_other_place), (Str.ofString "clover_of", F_clover_of), (Str.ofString "curls_of", F_curls_of), (Str.ofString "nest_of", F_nest_of), (Str.ofString "want_word", F_want_word), (Str.ofString "clover", F_clover), (Str.ofString "curls", F_curls), (Str.ofString "nest", F_nest), (Str.ofString "goal_of", F_goal_of), (Str.ofString "is_cut", F_is_cut), (Str.ofString "is_state_of", F_is_state_of), (Str.ofString "edge_of", F_edge_of), (Str.ofString "follower", F_follower), (Str.ofString "way_from", F_way_from), (Str.ofString "loops_of", F_loops_of), (Str.ofString "want_state", F_want_state), (Str.ofString "loops", F_loops), (Str.ofString "full_states", F_full_states), (Str.ofString "numbers_of", F_numbers_of), (Str.ofString "along_of", F_along_of), (Str.ofString "loop_number", F_loop_number), (Str.ofString "loop_numbers", F_loop_numbers), (Str.ofString "along_number", F_along_number), (Str.ofString "_law_pot", F__law_pot), (Str.ofString "_law_draw", F__law_draw), (Str.ofString "_law_pick", F__law_pick), (Str.ofString "_law_relabelled", F__law_relabelled), (Str.ofString "_law_word", F__law_word), (Str.ofString "_law_state", F__law_state), (Str.ofString "_law_choose", F__law_choose), (Str.ofString "_law_right", F__law_right), (Str.ofString "law", F_law)], [(Str.ofString "MOST_LETTERS", (.int (10))), (Str.ofString "THROUGH", (.str "through")), (Str.ofString "ALONG", (.str "along")), (Str.ofString "ACROSS", (.str "across")), (Str.ofString "CUTS", (.tuple [(.str "through"), (.str "along"), (.str "across")]))]⟩
theorem lk_is_integer : tab.fds.lookup (Str.ofString "is_integer") = some F_is_integer := by rfl
theorem lk_is_count : tab.fds.lookup (Str.ofString "is_count") = some F_is_count := by rfl
theorem lk_is_below : tab.fds.lookup (Str.ofString "is_below") = some F_is_below := by rfl
theorem lk_is_row : tab.fds.lookup (Str.ofString "is_row") = some F_is_row := by rfl
theorem lk_want_many : tab.fds.lookup (Str.ofString "want_many") = some F_want_many := by rfl
theorem lk_is_word_of : tab.fds.lookup (Str.ofString "is_word_of") = some F_is_word_of := by rfl
theorem lk_many_of : tab.fds.lookup (Str.ofString "many_of") = some F_many_of := by rfl
theorem lk_places_of : tab.fds.lookup (Str.ofString "places_of") = some F_places_of := by rfl
theorem lk_other_place : tab.fds.lookup (Str.ofString "other_place") = some F_other_place := by rfl
theorem lk_clover_of : tab.fds.lookup (Str.ofString "clover_of") = some F_clover_of := by rfl
theorem lk_curls_of : tab.fds.lookup (Str.ofString "curls_of") = some F_curls_of := by rfl
theorem lk_nest_of : tab.fds.lookup (Str.ofString "nest_of") = some F_nest_of := by rfl
theorem lk_want_word : tab.fds.lookup (Str.ofString "want_word") = some F_want_word := by rfl
theorem lk_clover : tab.fds.lookup (Str.ofString "clover") = some F_clover := by rfl
theorem lk_curls : tab.fds.lookup (Str.ofString "curls") = some F_curls := by rfl
theorem lk_nest : tab.fds.lookup (Str.ofString "nest") = some F_nest := by rfl
theorem lk_goal_of : tab.fds.lookup (Str.ofString "goal_of") = some F_goal_of := by rfl
theorem lk_is_cut : tab.fds.lookup (Str.ofString "is_cut") = some F_is_cut := by rfl
theorem lk_is_state_of : tab.fds.lookup (Str.ofString "is_state_of") = some F_is_state_of := by rfl
theorem lk_edge_of : tab.fds.lookup (Str.ofString "edge_of") = some F_edge_of := by rfl
theorem lk_follower : tab.fds.lookup (Str.ofString "follower") = some F_follower := by rfl
theorem lk_way_from : tab.fds.lookup (Str.ofString "way_from") = some F_way_from := by rfl
theorem lk_loops_of : tab.fds.lookup (Str.ofString "loops_of") = some F_loops_of := by rfl
theorem lk_want_state : tab.fds.lookup (Str.ofString "want_state") = some F_want_state := by rfl
theorem lk_loops : tab.fds.lookup (Str.ofString "loops") = some F_loops := by rfl
theorem lk_full_states : tab.fds.lookup (Str.ofString "full_states") = some F_full_states := by rfl
theorem lk_numbers_of : tab.fds.lookup (Str.ofString "numbers_of") = some F_numbers_of := by rfl
theorem lk_along_of : tab.fds.lookup (Str.ofString "along_of") = some F_along_of := by rfl
theorem lk_loop_number : tab.fds.lookup (Str.ofString "loop_number") = some F_loop_number := by rfl
theorem lk_loop_numbers : tab.fds.lookup (Str.ofString "loop_numbers") = some F_loop_numbers := by rfl
theorem lk_along_number : tab.fds.lookup (Str.ofString "along_number") = some F_along_number := by rfl
theorem lk__law_pot : tab.fds.lookup (Str.ofString "_law_pot") = some F__law_pot := by rfl
theorem lk__law_draw : tab.fds.lookup (Str.ofString "_law_draw") = some F__law_draw := by rfl
theorem lk__law_pick : tab.fds.lookup (Str.ofString "_law_pick") = some F__law_pick := by rfl
theorem lk__law_relabelled : tab.fds.lookup (Str.ofString "_law_relabelled") = some F__law_relabelled := by rfl
theorem lk__law_word : tab.fds.lookup (Str.ofString "_law_word") = some F__law_word := by rfl
theorem lk__law_state : tab.fds.lookup (Str.ofString "_law_state") = some F__law_state := by rfl
theorem lk__law_choose : tab.fds.lookup (Str.ofString "_law_choose") = some F__law_choose := by rfl
theorem lk__law_right : tab.fds.lookup (Str.ofString "_law_right") = some F__law_right := by rfl
theorem lk_law : tab.fds.lookup (Str.ofString "law") = some F_law := by rfl
abbrev lw := PySem.Challenge.rw_passedtwice_k46_whole_loops_known_by_han
theorem tab_eq : Mi.tabOf (Mi.dfsOf lw.prog.main.body) (Mi.glosOf [] lw.prog.main.body) (Mi.blOf lw.prog.main.body) 60 = tab := by kernel_rfl
end K46
end
section
namespace K46
open PySem Mi Ta
def Z__law_pot (fu : Nat) := cF0 (sgs []) (glT tab) fu F__law_pot [.scr, .py .nat] (.py (.lst .nat)) .fe
theorem z__law_pot (fu : Nat) : (Z__law_pot fu).isSome = true := by kernel_rfl
def G__law_pot (fu : Nat) : Sig := ⟨Str.ofString "_law_pot", [.scr, .py .nat], false, .fe, .py (.lst .nat), ((Z__law_pot fu).get (z__law_pot fu)).2⟩
theorem g__law_pot (fu : Nat) : SgOk tab fu 1 (G__law_pot fu) := fn0_get (Z := Z__law_pot fu) (z__law_pot fu) rfl lk__law_pot rfl rfl (by decide) (fun _ h => nomatch h)
def Z__law_draw (fu : Nat) := cF1 (sgs []) (glT tab) fu F__law_draw (.py (.lst .nat)) [.py .nat] (.py .nat) .va
theorem z__law_draw (fu : Nat) : (Z__law_draw fu).isSome = true := by kernel_rfl
def G__law_draw (fu : Nat) : Sig := ⟨Str.ofString "_law_draw", [.py (.lst .nat), .py .nat], true, .va, .py .nat, ((Z__law_draw fu).get (z__law_draw fu)).2⟩
theorem g__law_draw (fu : Nat) : SgOk tab fu 1 (G__law_draw fu) := fn1_get (Z := Z__law_draw fu) (z__law_draw fu) rfl lk__law_draw rfl rfl (by decide) (fun _ h => nomatch h)
def Z_is_integer (fu : Nat) := cF0 (sgs []) (glT tab) fu F_is_integer [.py .nat] (.py .bool) .va
theorem z_is_integer (fu : Nat) : (Z_is_integer fu).isSome = true := by kernel_rfl
def G_is_integer (fu : Nat) : Sig := ⟨Str.ofString "is_integer", [.py .nat], false, .va, .py .bool, ((Z_is_integer fu).get (z_is_integer fu)).2⟩
theorem g_is_integer (fu : Nat) : SgOk tab fu 1 (G_is_integer fu) := fn0_get (Z := Z_is_integer fu) (z_is_integer fu) rfl lk_is_integer rfl rfl (by decide) (fun _ h => nomatch h)
def Z_is_count (fu : Nat) := cF0 (sgs [G_is_integer fu]) (glT tab) fu F_is_count [.py .nat] (.py .bool) .va
theorem z_is_count (fu : Nat) : (Z_is_count fu).isSome = true := by kernel_rfl
def G_is_count (fu : Nat) : Sig := ⟨Str.ofString "is_count", [.py .nat], false, .va, .py .bool, ((Z_is_count fu).get (z_is_count fu)).2⟩
theorem g_is_count (fu : Nat) : SgOk tab fu 2 (G_is_count fu) := fn0_get (Z := Z_is_count fu) (z_is_count fu) rfl lk_is_count rfl rfl (by decide) (allC ((g_is_integer fu).mono (by decide)) (fun _ h => nomatch h))
def Z_want_many (fu : Nat) := cF0 (sgs [G_is_count fu]) (glT tab) fu F_want_many [.py .nat, .py .nat, .py .nat] (.py .nat) .va
theorem z_want_many (fu : Nat) : (Z_want_many fu).isSome = true := by kernel_rfl
def G_want_many (fu : Nat) : Sig := ⟨Str.ofString "want_many", [.py .nat, .py .nat, .py .nat], false, .va, .py .nat, ((Z_want_many fu).get (z_want_many fu)).2⟩
theorem g_want_many (fu : Nat) : SgOk tab fu 3 (G_want_many fu) := fn0_get (Z := Z_want_many fu) (z_want_many fu) rfl lk_want_many rfl rfl (by decide) (allC ((g_is_count fu).mono (by decide)) (fun _ h => nomatch h))
def Z_curls_of (fu : Nat) := cF0 (sgs []) (glT tab) fu F_curls_of [.py .nat] (.py (.htp .nat)) .va
theorem z_curls_of (fu : Nat) : (Z_curls_of fu).isSome = true := by kernel_rfl
def G_curls_of (fu : Nat) : Sig := ⟨Str.ofString "curls_of", [.py .nat], false, .va, .py (.htp .nat), ((Z_curls_of fu).get (z_curls_of fu)).2⟩
theorem g_curls_of (fu : Nat) : SgOk tab fu 1 (G_curls_of fu) := fn0_get (Z := Z_curls_of fu) (z_curls_of fu) rfl lk_curls_of rfl rfl (by decide) (fun _ h => nomatch h)
def Z_curls (fu : Nat) := cF0 (sgs [G_curls_of fu, G_want_many fu]) (glT tab) fu F_curls [.py .nat] (.py (.htp .nat)) .va
theorem z_curls (fu : Nat) : (Z_curls fu).isSome = true := by kernel_rfl
def G_curls (fu : Nat) : Sig := ⟨Str.ofString "curls", [.py .nat], false, .va, .py (.htp .nat), ((Z_curls fu).get (z_curls fu)).2⟩
theorem g_curls (fu : Nat) : SgOk tab fu 4 (G_curls fu) := fn0_get (Z := Z_curls fu) (z_curls fu) rfl lk_curls rfl rfl (by decide) (allC ((g_curls_of fu).mono (by decide)) (allC ((g_want_many fu).mono (by decide)) (fun _ h => nomatch h)))
def Z_nest_of (fu : Nat) := cF0 (sgs []) (glT tab) fu F_nest_of [.py .nat] (.py (.htp .nat)) .va
theorem z_nest_of (fu : Nat) : (Z_nest_of fu).isSome = true := by kernel_rfl
def G_nest_of (fu : Nat) : Sig := ⟨Str.ofString "nest_of", [.py .nat], false, .va, .py (.htp .nat), ((Z_nest_of fu).get (z_nest_of fu)).2⟩
theorem g_nest_of (fu : Nat) : SgOk tab fu 1 (G_nest_of fu) := fn0_get (Z := Z_nest_of fu) (z_nest_of fu) rfl lk_nest_of rfl rfl (by decide) (fun _ h => nomatch h)
def Z_nest (fu : Nat) := cF0 (sgs [G_nest_of fu, G_want_many fu]) (glT tab) fu F_nest [.py .nat] (.py (.htp .nat)) .va
theorem z_nest (fu : Nat) : (Z_nest fu).isSome = true := by kernel_rfl
def G_nest (fu : Nat) : Sig := ⟨Str.ofString "nest", [.py .nat], false, .va, .py (.htp .nat), ((Z_nest fu).get (z_nest fu)).2⟩
theorem g_nest (fu : Nat) : SgOk tab fu 4 (G_nest fu) := fn0_get (Z := Z_nest fu) (z_nest fu) rfl lk_nest rfl rfl (by decide) (allC ((g_nest_of fu).mono (by decide)) (allC ((g_want_many fu).mono (by decide)) (fun _ h => nomatch h)))
def Z__law_pick (fu : Nat) := cF1 (sgs [G__law_draw fu]) (glT tab) fu F__law_pick (.py (.lst .nat)) [.py (.lst .str)] (.py .str) .va
theorem z__law_pick (fu : Nat) : (Z__law_pick fu).isSome = true := by kernel_rfl
def G__law_pick (fu : Nat) : Sig := ⟨Str.ofString "_law_pick", [.py (.lst .nat), .py (.lst .str)], true, .va, .py .str, ((Z__law_pick fu).get (z__law_pick fu)).2⟩
theorem g__law_pick (fu : Nat) : SgOk tab fu 2 (G__law_pick fu) := fn1_get (Z := Z__law_pick fu) (z__law_pick fu) rfl lk__law_pick rfl rfl (by decide) (allC ((g__law_draw fu).mono (by decide)) (fun _ h => nomatch h))
def Z__law_state (fu : Nat) := cF1 (sgs [G__law_pick fu]) (glT tab) fu F__law_state (.py (.lst .nat)) [.py .nat, .py .bool] (.py (.htp .str)) .va
theorem z__law_state (fu : Nat) : (Z__law_state fu).isSome = true := by kernel_rfl
def G__law_state (fu : Nat) : Sig := ⟨Str.ofString "_law_state", [.py (.lst .nat), .py .nat, .py .bool], true, .va, .py (.htp .str), ((Z__law_state fu).get (z__law_state fu)).2⟩
theorem g__law_state (fu : Nat) : SgOk tab fu 3 (G__law_state fu) := fn1_get (Z := Z__law_state fu) (z__law_state fu) rfl lk__law_state rfl rfl (by decide) (allC ((g__law_pick fu).mono (by decide)) (fun _ h => nomatch h))
def Z_is_below (fu : Nat) := cF0 (sgs [G_is_count fu]) (glT tab) fu F_is_below [.py .nat, .py .nat] (.py .bool) .va
theorem z_is_below (fu : Nat) : (Z_is_below fu).isSome = true := by kernel_rfl
def G_is_below (fu : Nat) : Sig := ⟨Str.ofString "is_below", [.py .nat, .py .nat], false, .va, .py .bool, ((Z_is_below fu).get (z_is_below fu)).2⟩
theorem g_is_below (fu : Nat) : SgOk tab fu 3 (G_is_below fu) := fn0_get (Z := Z_is_below fu) (z_is_below fu) rfl lk_is_below rfl rfl (by decide) (allC ((g_is_count fu).mono (by decide)) (fun _ h => nomatch h))
def Z_is_word_of (fu : Nat) := cF0 (sgs [G_is_below fu]) (glT tab) fu F_is_word_of [.py (.htp .nat)] (.py .bool) .va
theorem z_is_word_of (fu : Nat) : (Z_is_word_of fu).isSome = true := by kernel_rfl
def G_is_word_of (fu : Nat) : Sig := ⟨Str.ofString "is_word_of", [.py (.htp .nat)], false, .va, .py .bool, ((Z_is_word_of fu).get (z_is_word_of fu)).2⟩
theorem g_is_word_of (fu : Nat) : SgOk tab fu 4 (G_is_word_of fu) := fn0_get (Z := Z_is_word_of fu) (z_is_word_of fu) rfl lk_is_word_of rfl rfl (by decide) (allC ((g_is_below fu).mono (by decide)) (fun _ h => nomatch h))
def Z_want_word (fu : Nat) := cF0 (sgs [G_is_word_of fu]) (glT tab) fu F_want_word [.py (.htp .nat)] (.py (.htp .nat)) .va
theorem z_want_word (fu : Nat) : (Z_want_word fu).isSome = true := by kernel_rfl
def G_want_word (fu : Nat) : Sig := ⟨Str.ofString "want_word", [.py (.htp .nat)], false, .va, .py (.htp .nat), ((Z_want_word fu).get (z_want_word fu)).2⟩
theorem g_want_word (fu : Nat) : SgOk tab fu 5 (G_want_word fu) := fn0_get (Z := Z_want_word fu) (z_want_word fu) rfl lk_want_word rfl rfl (by decide) (allC ((g_is_word_of fu).mono (by decide)) (fun _ h => nomatch h))
def Z_many_of (fu : Nat) := cF0 (sgs []) (glT tab) fu F_many_of [.py (.htp .nat)] (.py .nat) .va
theorem z_many_of (fu : Nat) : (Z_many_of fu).isSome = true := by kernel_rfl
def G_many_of (fu : Nat) : Sig := ⟨Str.ofString "many_of", [.py (.htp .nat)], false, .va, .py .nat, ((Z_many_of fu).get (z_many_of fu)).2⟩
theorem g_many_of (fu : Nat) : SgOk tab fu 1 (G_many_of fu) := fn0_get (Z := Z_many_of fu) (z_many_of fu) rfl lk_many_of rfl rfl (by decide) (fun _ h => nomatch h)
def Z_is_row (fu : Nat) := cF0 (sgs []) (glT tab) fu F_is_row [.py (.htp .str), .py .nat] (.py .bool) .va
theorem z_is_row (fu : Nat) : (Z_is_row fu).isSome = true := by kernel_rfl
def G_is_row (fu : Nat) : Sig := ⟨Str.ofString "is_row", [.py (.htp .str), .py .nat], false, .va, .py .bool, ((Z_is_row fu).get (z_is_row fu)).2⟩
theorem g_is_row (fu : Nat) : SgOk tab fu 1 (G_is_row fu) := fn0_get (Z := Z_is_row fu) (z_is_row fu) rfl lk_is_row rfl rfl (by decide) (fun _ h => nomatch h)
def Z_is_cut (fu : Nat) := cF0 (sgs []) (glT tab) fu F_is_cut [.py .str] (.py .bool) .va
theorem z_is_cut (fu : Nat) : (Z_is_cut fu).isSome = true := by kernel_rfl
def G_is_cut (fu : Nat) : Sig := ⟨Str.ofString "is_cut", [.py .str], false, .va, .py .bool, ((Z_is_cut fu).get (z_is_cut fu)).2⟩
theorem g_is_cut (fu : Nat) : SgOk tab fu 1 (G_is_cut fu) := fn0_get (Z := Z_is_cut fu) (z_is_cut fu) rfl lk_is_cut rfl rfl (by decide) (fun _ h => nomatch h)
def Z_is_state_of (fu : Nat) := cF0 (sgs [G_is_cut fu, G_is_row fu, G_many_of fu]) (glT tab) fu F_is_state_of [.py (.htp .nat), .py (.htp .str)] (.py .bool) .va
theorem z_is_state_of (fu : Nat) : (Z_is_state_of fu).isSome = true := by kernel_rfl
def G_is_state_of (fu : Nat) : Sig := ⟨Str.ofString "is_state_of", [.py (.htp .nat), .py (.htp .str)], false, .va, .py .bool, ((Z_is_state_of fu).get (z_is_state_of fu)).2⟩
theorem g_is_state_of (fu : Nat) : SgOk tab fu 2 (G_is_state_of fu) := fn0_get (Z := Z_is_state_of fu) (z_is_state_of fu) rfl lk_is_state_of rfl rfl (by decide) (allC ((g_is_cut fu).mono (by decide)) (allC ((g_is_row fu).mono (by decide)) (allC ((g_many_of fu).mono (by decide)) (fun _ h => nomatch h))))
def Z_want_state (fu : Nat) := cF0 (sgs [G_is_state_of fu]) (glT tab) fu F_want_state [.py (.htp .nat), .py (.htp .str)] (.py (.htp .str)) .va
theorem z_want_state (fu : Nat) : (Z_want_state fu).isSome = true := by kernel_rfl
def G_want_state (fu : Nat) : Sig := ⟨Str.ofString "want_state", [.py (.htp .nat), .py (.htp .str)], false, .va, .py (.htp .str), ((Z_want_state fu).get (z_want_state fu)).2⟩
theorem g_want_state (fu : Nat) : SgOk tab fu 3 (G_want_state fu) := fn0_get (Z := Z_want_state fu) (z_want_state fu) rfl lk_want_state rfl rfl (by decide) (allC ((g_is_state_of fu).mono (by decide)) (fun _ h => nomatch h))
def Z_goal_of (fu : Nat) := cF0 (sgs []) (glT tab) fu F_goal_of [.py (.htp .nat), .py (.tc .nat (.tc .bool .tn))] (.py .nat) .va
theorem z_goal_of (fu : Nat) : (Z_goal_of fu).isSome = true := by kernel_rfl
def G_goal_of (fu : Nat) : Sig := ⟨Str.ofString "goal_of", [.py (.htp .nat), .py (.tc .nat (.tc .bool .tn))], false, .va, .py .nat, ((Z_goal_of fu).get (z_goal_of fu)).2⟩
theorem g_goal_of (fu : Nat) : SgOk tab fu 1 (G_goal_of fu) := fn0_get (Z := Z_goal_of fu) (z_goal_of fu) rfl lk_goal_of rfl rfl (by decide) (fun _ h => nomatch h)
def Z_places_of (fu : Nat) := cF0 (sgs []) (glT tab) fu F_places_of [.py (.htp .nat), .py .nat] (.py (.tc .nat (.tc .nat .tn))) .va
theorem z_places_of (fu : Nat) : (Z_places_of fu).isSome = true := by kernel_rfl
def G_places_of (fu : Nat) : Sig := ⟨Str.ofString "places_of", [.py (.htp .nat), .py .nat], false, .va, .py (.tc .nat (.tc .nat .tn)), ((Z_places_of fu).get (z_places_of fu)).2⟩
theorem g_places_of (fu : Nat) : SgOk tab fu 1 (G_places_of fu) := fn0_get (Z := Z_places_of fu) (z_places_of fu) rfl lk_places_of rfl rfl (by decide) (fun _ h => nomatch h)
def Z_other_place (fu : Nat) := cF0 (sgs [G_places_of fu]) (glT tab) fu F_other_place [.py (.htp .nat), .py .nat] (.py .nat) .va
theorem z_other_place (fu : Nat) : (Z_other_place fu).isSome = true := by kernel_rfl
def G_other_place (fu : Nat) : Sig := ⟨Str.ofString "other_place", [.py (.htp .nat), .py .nat], false, .va, .py .nat, ((Z_other_place fu).get (z_other_place fu)).2⟩
theorem g_other_place (fu : Nat) : SgOk tab fu 2 (G_other_place fu) := fn0_get (Z := Z_other_place fu) (z_other_place fu) rfl lk_other_place rfl rfl (by decide) (allC ((g_places_of fu).mono (by decide)) (fun _ h => nomatch h))
def Z_follower (fu : Nat) := cF0 (sgs [G_other_place fu, G_goal_of fu]) (glT tab) fu F_follower [.py (.htp .nat), .py (.htp .str), .py (.tc .nat (.tc .bool .tn))] (.py (.tc .nat (.tc .bool .tn))) .va
theorem z_follower (fu : Nat) : (Z_follower fu).isSome = true := by kernel_rfl
def G_follower (fu : Nat) : Sig := ⟨Str.ofString "follower", [.py (.htp .nat), .py (.htp .str), .py (.tc .nat (.tc .bool .tn))], false, .va, .py (.tc .nat (.tc .bool .tn)), ((Z_follower fu).get (z_follower fu)).2⟩
theorem g_follower (fu : Nat) : SgOk tab fu 3 (G_follower fu) := fn0_get (Z := Z_follower fu) (z_follower fu) rfl lk_follower rfl rfl (by decide) (allC ((g_other_place fu).mono (by decide)) (allC ((g_goal_of fu).mono (by decide)) (fun _ h => nomatch h)))
def Z_way_from (fu : Nat) := cF0 (sgs [G_follower fu]) (glT tab) fu F_way_from [.py (.htp .nat), .py (.htp .str), .py (.tc .nat (.tc .bool .tn))] (.py (.lst (.tc .nat (.tc .bool .tn)))) .fe
theorem z_way_from (fu : Nat) : (Z_way_from fu).isSome = true := by kernel_rfl
def G_way_from (fu : Nat) : Sig := ⟨Str.ofString "way_from", [.py (.htp .nat), .py (.htp .str), .py (.tc .nat (.tc .bool .tn))], false, .fe, .py (.lst (.tc .nat (.tc .bool .tn))), ((Z_way_from fu).get (z_way_from fu)).2⟩
theorem g_way_from (fu : Nat) : SgOk tab fu 4 (G_way_from fu) := fn0_get (Z := Z_way_from fu) (z_way_from fu) rfl lk_way_from rfl rfl (by decide) (allC ((g_follower fu).mono (by decide)) (fun _ h => nomatch h))
def Z_edge_of (fu : Nat) := cF0 (sgs []) (glT tab) fu F_edge_of [.py (.htp .nat), .py (.tc .nat (.tc .bool .tn))] (.py .nat) .va
theorem z_edge_of (fu : Nat) : (Z_edge_of fu).isSome = true := by kernel_rfl
def G_edge_of (fu : Nat) : Sig := ⟨Str.ofString "edge_of", [.py (.htp .nat), .py (.tc .nat (.tc .bool .tn))], false, .va, .py .nat, ((Z_edge_of fu).get (z_edge_of fu)).2⟩
theorem g_edge_of (fu : Nat) : SgOk tab fu 1 (G_edge_of fu) := fn0_get (Z := Z_edge_of fu) (z_edge_of fu) rfl lk_edge_of rfl rfl (by decide) (fun _ h => nomatch h)
def Z_loops_of (fu : Nat) := cF0 (sgs [G_edge_of fu, G_way_from fu]) (glT tab) fu F_loops_of [.py (.htp .nat), .py (.htp .str)] (.py (.lst (.htp .nat))) .fe
theorem z_loops_of (fu : Nat) : (Z_loops_of fu).isSome = true := by kernel_rfl
def G_loops_of (fu : Nat) : Sig := ⟨Str.ofString "loops_of", [.py (.htp .nat), .py (.htp .str)], false, .fe, .py (.lst (.htp .nat)), ((Z_loops_of fu).get (z_loops_of fu)).2⟩
theorem g_loops_of (fu : Nat) : SgOk tab fu 5 (G_loops_of fu) := fn0_get (Z := Z_loops_of fu) (z_loops_of fu) rfl lk_loops_of rfl rfl (by decide) (allC ((g_edge_of fu).mono (by decide)) (allC ((g_way_from fu).mono (by decide)) (fun _ h => nomatch h)))
def Z_loop_number (fu : Nat) := cF0 (sgs [G_loops_of fu, G_want_state fu, G_want_word fu]) (glT tab) fu F_loop_number [.py (.htp .nat), .py (.htp .str)] (.py .nat) .va
theorem z_loop_number (fu : Nat) : (Z_loop_number fu).isSome = true := by kernel_rfl
def G_loop_number (fu : Nat) : Sig := ⟨Str.ofString "loop_number", [.py (.htp .nat), .py (.htp .str)], false, .va, .py .nat, ((Z_loop_number fu).get (z_loop_number fu)).2⟩
theorem g_loop_number (fu : Nat) : SgOk tab fu 6 (G_loop_number fu) := fn0_get (Z := Z_loop_number fu) (z_loop_number fu) rfl lk_loop_number rfl rfl (by decide) (allC ((g_loops_of fu).mono (by decide)) (allC ((g_want_state fu).mono (by decide)) (allC ((g_want_word fu).mono (by decide)) (fun _ h => nomatch h))))
def Z_full_states (fu : Nat) := cF0 (sgs []) (glT tab) fu F_full_states [.py .nat] (.py (.lst (.htp .str))) .vf
theorem z_full_states (fu : Nat) : (Z_full_states fu).isSome = true := by kernel_rfl
def G_full_states (fu : Nat) : Sig := ⟨Str.ofString "full_states", [.py .nat], false, .vf, .py (.lst (.htp .str)), ((Z_full_states fu).get (z_full_states fu)).2⟩
theorem g_full_states (fu : Nat) : SgOk tab fu 1 (G_full_states fu) := fn0_get (Z := Z_full_states fu) (z_full_states fu) rfl lk_full_states rfl rfl (by decide) (fun _ h => nomatch h)
def Z_numbers_of (fu : Nat) := cF0 (sgs [G_loops_of fu, G_full_states fu, G_many_of fu]) (glT tab) fu F_numbers_of [.py (.htp .nat)] (.py (.lst .nat)) .fe
theorem z_numbers_of (fu : Nat) : (Z_numbers_of fu).isSome = true := by kernel_rfl
def G_numbers_of (fu : Nat) : Sig := ⟨Str.ofString "numbers_of", [.py (.htp .nat)], false, .fe, .py (.lst .nat), ((Z_numbers_of fu).get (z_numbers_of fu)).2⟩
theorem g_numbers_of (fu : Nat) : SgOk tab fu 6 (G_numbers_of fu) := fn0_get (Z := Z_numbers_of fu) (z_numbers_of fu) rfl lk_numbers_of rfl rfl (by decide) (allC ((g_loops_of fu).mono (by decide)) (allC ((g_full_states fu).mono (by decide)) (allC ((g_many_of fu).mono (by decide)) (fun _ h => nomatch h))))
def Z_loop_numbers (fu : Nat) := cF0 (sgs [G_numbers_of fu, G_want_word fu]) (glT tab) fu F_loop_numbers [.py (.htp .nat)] (.py (.lst .nat)) .fe
theorem z_loop_numbers (fu : Nat) : (Z_loop_numbers fu).isSome = true := by kernel_rfl
def G_loop_numbers (fu : Nat) : Sig := ⟨Str.ofString "loop_numbers", [.py (.htp .nat)], false, .fe, .py (.lst .nat), ((Z_loop_numbers fu).get (z_loop_numbers fu)).2⟩
theorem g_loop_numbers (fu : Nat) : SgOk tab fu 7 (G_loop_numbers fu) := fn0_get (Z := Z_loop_numbers fu) (z_loop_numbers fu) rfl lk_loop_numbers rfl rfl (by decide) (allC ((g_numbers_of fu).mono (by decide)) (allC ((g_want_word fu).mono (by decide)) (fun _ h => nomatch h)))
def Z__law_choose (fu : Nat) := cF0 (sgs []) (glT tab) fu F__law_choose [.py .nat, .py .nat] (.py .int) .va
theorem z__law_choose (fu : Nat) : (Z__law_choose fu).isSome = true := by kernel_rfl
def G__law_choose (fu : Nat) : Sig := ⟨Str.ofString "_law_choose", [.py .nat, .py .nat], false, .va, .py .int, ((Z__law_choose fu).get (z__law_choose fu)).2⟩
theorem g__law_choose (fu : Nat) : SgOk tab fu 1 (G__law_choose fu) := fn0_get (Z := Z__law_choose fu) (z__law_choose fu) rfl lk__law_choose rfl rfl (by decide) (fun _ h => nomatch h)
def Z_clover_of (fu : Nat) := cF0 (sgs []) (glT tab) fu F_clover_of [.py .nat] (.py (.htp .nat)) .va
theorem z_clover_of (fu : Nat) : (Z_clover_of fu).isSome = true := by kernel_rfl
def G_clover_of (fu : Nat) : Sig := ⟨Str.ofString "clover_of", [.py .nat], false, .va, .py (.htp .nat), ((Z_clover_of fu).get (z_clover_of fu)).2⟩
theorem g_clover_of (fu : Nat) : SgOk tab fu 1 (G_clover_of fu) := fn0_get (Z := Z_clover_of fu) (z_clover_of fu) rfl lk_clover_of rfl rfl (by decide) (fun _ h => nomatch h)
def Z_clover (fu : Nat) := cF0 (sgs [G_clover_of fu, G_want_many fu]) (glT tab) fu F_clover [.py .nat] (.py (.htp .nat)) .va
theorem z_clover (fu : Nat) : (Z_clover fu).isSome = true := by kernel_rfl
def G_clover (fu : Nat) : Sig := ⟨Str.ofString "clover", [.py .nat], false, .va, .py (.htp .nat), ((Z_clover fu).get (z_clover fu)).2⟩
theorem g_clover (fu : Nat) : SgOk tab fu 4 (G_clover fu) := fn0_get (Z := Z_clover fu) (z_clover fu) rfl lk_clover rfl rfl (by decide) (allC ((g_clover_of fu).mono (by decide)) (allC ((g_want_many fu).mono (by decide)) (fun _ h => nomatch h)))
def Z_along_of (fu : Nat) := cF0 (sgs [G_loops_of fu, G_many_of fu]) (glT tab) fu F_along_of [.py (.htp .nat)] (.py .nat) .va
theorem z_along_of (fu : Nat) : (Z_along_of fu).isSome = true := by kernel_rfl
def G_along_of (fu : Nat) : Sig := ⟨Str.ofString "along_of", [.py (.htp .nat)], false, .va, .py .nat, ((Z_along_of fu).get (z_along_of fu)).2⟩
theorem g_along_of (fu : Nat) : SgOk tab fu 6 (G_along_of fu) := fn0_get (Z := Z_along_of fu) (z_along_of fu) rfl lk_along_of rfl rfl (by decide) (allC ((g_loops_of fu).mono (by decide)) (allC ((g_many_of fu).mono (by decide)) (fun _ h => nomatch h)))
def Z_along_number (fu : Nat) := cF0 (sgs [G_along_of fu, G_want_word fu]) (glT tab) fu F_along_number [.py (.htp .nat)] (.py .nat) .va
theorem z_along_number (fu : Nat) : (Z_along_number fu).isSome = true := by kernel_rfl
def G_along_number (fu : Nat) : Sig := ⟨Str.ofString "along_number", [.py (.htp .nat)], false, .va, .py .nat, ((Z_along_number fu).get (z_along_number fu)).2⟩
theorem g_along_number (fu : Nat) : SgOk tab fu 7 (G_along_number fu) := fn0_get (Z := Z_along_number fu) (z_along_number fu) rfl lk_along_number rfl rfl (by decide) (allC ((g_along_of fu).mono (by decide)) (allC ((g_want_word fu).mono (by decide)) (fun _ h => nomatch h)))
def Z_loops (fu : Nat) := cF0 (sgs [G_loops_of fu, G_want_state fu, G_want_word fu]) (glT tab) fu F_loops [.py (.htp .nat), .py (.htp .str)] (.py (.lst (.htp .nat))) .fe
theorem z_loops (fu : Nat) : (Z_loops fu).isSome = true := by kernel_rfl
def G_loops (fu : Nat) : Sig := ⟨Str.ofString "loops", [.py (.htp .nat), .py (.htp .str)], false, .fe, .py (.lst (.htp .nat)), ((Z_loops fu).get (z_loops fu)).2⟩
theorem g_loops (fu : Nat) : SgOk tab fu 6 (G_loops fu) := fn0_get (Z := Z_loops fu) (z_loops fu) rfl lk_loops rfl rfl (by decide) (allC ((g_loops_of fu).mono (by decide)) (allC ((g_want_state fu).mono (by decide)) (allC ((g_want_word fu).mono (by decide)) (fun _ h => nomatch h))))
def Z__law_relabelled (fu : Nat) := cF0 (sgs []) (glT tab) fu F__law_relabelled [.py (.lst .nat)] (.py (.htp .nat)) .va
theorem z__law_relabelled (fu : Nat) : (Z__law_relabelled fu).isSome = true := by kernel_rfl
def G__law_relabelled (fu : Nat) : Sig := ⟨Str.ofString "_law_relabelled", [.py (.lst .nat)], false, .va, .py (.htp .nat), ((Z__law_relabelled fu).get (z__law_relabelled fu)).2⟩
theorem g__law_relabelled (fu : Nat) : SgOk tab fu 1 (G__law_relabelled fu) := fn0_get (Z := Z__law_relabelled fu) (z__law_relabelled fu) rfl lk__law_relabelled rfl rfl (by decide) (fun _ h => nomatch h)
def Z__law_word (fu : Nat) := cF1 (sgs [G__law_relabelled fu, G__law_draw fu]) (glT tab) fu F__law_word (.py (.lst .nat)) [.py .nat] (.py (.htp .nat)) .va
theorem z__law_word (fu : Nat) : (Z__law_word fu).isSome = true := by kernel_rfl
def G__law_word (fu : Nat) : Sig := ⟨Str.ofString "_law_word", [.py (.lst .nat), .py .nat], true, .va, .py (.htp .nat), ((Z__law_word fu).get (z__law_word fu)).2⟩
theorem g__law_word (fu : Nat) : SgOk tab fu 2 (G__law_word fu) := fn1_get (Z := Z__law_word fu) (z__law_word fu) rfl lk__law_word rfl rfl (by decide) (allC ((g__law_relabelled fu).mono (by decide)) (allC ((g__law_draw fu).mono (by decide)) (fun _ h => nomatch h)))
def Z__law_right (fu : Nat) := cF1 (sgs [G_loop_number fu, G__law_pick fu, G__law_draw fu, G__law_word fu, G_clover fu, G_loops fu, G_along_number fu, G__law_choose fu, G_loop_numbers fu, G__law_state fu, G_nest fu, G_curls fu]) (glT tab) fu F__law_right (.py (.lst .nat)) [] (.py .bool) .va
theorem z__law_right (fu : Nat) : (Z__law_right fu).isSome = true := by kernel_rfl
def G__law_right (fu : Nat) : Sig := ⟨Str.ofString "_law_right", [.py (.lst .nat)], true, .va, .py .bool, ((Z__law_right fu).get (z__law_right fu)).2⟩
theorem g__law_right (fu : Nat) : SgOk tab fu 8 (G__law_right fu) := fn1_get (Z := Z__law_right fu) (z__law_right fu) rfl lk__law_right rfl rfl (by decide) (allC ((g_loop_number fu).mono (by decide)) (allC ((g__law_pick fu).mono (by decide)) (allC ((g__law_draw fu).mono (by decide)) (allC ((g__law_word fu).mono (by decide)) (allC ((g_clover fu).mono (by decide)) (allC ((g_loops fu).mono (by decide)) (allC ((g_along_number fu).mono (by decide)) (allC ((g__law_choose fu).mono (by decide)) (allC ((g_loop_numbers fu).mono (by decide)) (allC ((g__law_state fu).mono (by decide)) (allC ((g_nest fu).mono (by decide)) (allC ((g_curls fu).mono (by decide)) (fun _ h => nomatch h)))))))))))))
def Z_law (fu : Nat) := cF0 (sgs [G__law_right fu, G__law_pot fu]) (glT tab) fu F_law [.scr] (.py .bool) .va
theorem z_law (fu : Nat) : (Z_law fu).isSome = true := by kernel_rfl
def G_law (fu : Nat) : Sig := ⟨Str.ofString "law", [.scr], false, .va, .py .bool, ((Z_law fu).get (z_law fu)).2⟩
theorem g_law (fu : Nat) : SgOk tab fu 9 (G_law fu) := fn0_get (Z := Z_law fu) (z_law fu) rfl lk_law rfl rfl (by decide) (allC ((g__law_right fu).mono (by decide)) (allC ((g__law_pot fu).mono (by decide)) (fun _ h => nomatch h)))
end K46
end
section
namespace K46
open PySem Mi Ta
variable {fu : Nat}
def f__law_pot (fu : Nat) (A : (List Int)) (B : Nat) : Option ((List Nat) × Unit) := (G__law_pot fu).f (A, (B, ()))
theorem _law_pot_eq (A : (List Int)) (B : Nat) : f__law_pot fu A B = (if decide (B < List.length A) = true then (A[B]?).bind fun (x : Int) => some (Int.natAbs x) else some (((3907 * B) + 2711))).bind fun (y : Nat) => (powO 10 18).bind fun (z : Nat) => some (([Max.max 0 (Int.toNat ((Int.ofNat y - Int.ofNat z))), ((((((y % 2147483549) * 40014) + (1997 * B)) + 3511) % 2147483563) + 1)], ())) := by kernel_rfl
def f__law_draw (fu : Nat) (A : (List Nat)) (B : Nat) : Option (Nat × (List Nat)) := (G__law_draw fu).f (A, (B, ()))
theorem _law_draw_eq (A : (List Nat)) (B : Nat) : f__law_draw fu A B = (A[0]?).bind fun (x : Nat) => if decide (0 < x) = true then (A[0]?).bind fun (y : Nat) => (divmodO y B).bind fun (z : (Nat × (Nat × Unit))) => (setN A 0 z.1).bind fun (u : (List Nat)) => some ((z.2.1, u)) else (A[1]?).bind fun (v : Nat) => (setN A 1 ((((v * 40692) + 5711) % 2147483587))).bind fun (w : (List Nat)) => (w[1]?).bind fun (p : Nat) => (w[1]?).bind fun (q : Nat) => (mulO p q).bind fun (r : Nat) => (modO (((r % 2147483549) / 17)) B).bind fun (s : Nat) => some ((s, w)) := by kernel_rfl
def f_is_integer (fu : Nat) (A : Nat) : Option (Bool × Unit) := (G_is_integer fu).f (A, ())
theorem is_integer_eq (A : Nat) : f_is_integer fu A = some ((true, ())) := by kernel_rfl
def f_is_count (fu : Nat) (A : Nat) : Option (Bool × Unit) := (G_is_count fu).f (A, ())
theorem is_count_eq (A : Nat) : f_is_count fu A = (f_is_integer fu A).bind fun (x : (Bool × Unit)) => (if x.1 = true then some (decide (0 ≤ A)) else some false).bind fun (y : Bool) => some ((y, ())) := by kernel_rfl
def f_want_many (fu : Nat) (A : Nat) (B : Nat) (C : Nat) : Option (Nat × Unit) := (G_want_many fu).f (A, (B, (C, ())))
theorem want_many_eq (A : Nat) (B : Nat) (C : Nat) : f_want_many fu A B C = (f_is_count fu A).bind fun (x : (Bool × Unit)) => (if (!x.1) = true then some true else (if decide (B ≤ A) = true then some (decide (A ≤ C)) else some false).bind fun (y : Bool) => some (!y)).bind fun (z : Bool) => if z = true then none else some ((A, ())) := by kernel_rfl
def f_curls_of (fu : Nat) (A : Nat) : Option ((List Nat) × Unit) := (G_curls_of fu).f (A, ())
theorem curls_of_eq (A : Nat) : f_curls_of fu A = (rangeO A).bind fun (x : (List Nat)) => (forN (fun (y : Nat) => fun (z : ((List Nat) × Unit)) => (extO z.1 ([y, y])).bind fun (u : (List Nat)) => some ((u, z.2))) x (([], ()))).bind fun (v : ((List Nat) × Unit)) => some ((v.1, ())) := by kernel_rfl
def f_curls (fu : Nat) (A : Nat) : Option ((List Nat) × Unit) := (G_curls fu).f (A, ())
theorem curls_eq (A : Nat) : f_curls fu A = (f_want_many fu A 0 10).bind fun (x : (Nat × Unit)) => (f_curls_of fu x.1).bind fun (y : ((List Nat) × Unit)) => some ((y.1, ())) := by kernel_rfl
def f_nest_of (fu : Nat) (A : Nat) : Option ((List Nat) × Unit) := (G_nest_of fu).f (A, ())
theorem nest_of_eq (A : Nat) : f_nest_of fu A = (rangeO A).bind fun (x : (List Nat)) => (range3O ((Int.ofNat A - Int.ofNat 1)) (Int.neg (Int.ofNat 1)) (Int.neg (Int.ofNat 1))).bind fun (y : (List Nat)) => (catO x y).bind fun (z : (List Nat)) => some ((z, ())) := by kernel_rfl
def f_nest (fu : Nat) (A : Nat) : Option ((List Nat) × Unit) := (G_nest fu).f (A, ())
theorem nest_eq (A : Nat) : f_nest fu A = (f_want_many fu A 0 10).bind fun (x : (Nat × Unit)) => (f_nest_of fu x.1).bind fun (y : ((List Nat) × Unit)) => some ((y.1, ())) := by kernel_rfl
def f__law_pick (fu : Nat) (A : (List Nat)) (B : (List Str)) : Option (Str × (List Nat)) := (G__law_pick fu).f (A, (B, ()))
theorem _law_pick_eq (A : (List Nat)) (B : (List Str)) : f__law_pick fu A B = (f__law_draw fu A (List.length B)).bind fun (x : (Nat × (List Nat))) => (B[x.1]?).bind fun (y : Str) => some ((y, x.2)) := by kernel_rfl
def f__law_state (fu : Nat) (A : (List Nat)) (B : Nat) (C : Bool) : Option ((List Str) × (List Nat)) := (G__law_state fu).f (A, (B, (C, ())))
theorem _law_state_eq (A : (List Nat)) (B : Nat) (C : Bool) : f__law_state fu A B C = (rangeO B).bind fun (x : (List Nat)) => (lcSO (fun (y : Nat) => fun (z : ((List Nat) × Unit)) => (if C = true then some ([PySem.Str.ofString "along", PySem.Str.ofString "across"]) else some ([PySem.Str.ofString "through", PySem.Str.ofString "along", PySem.Str.ofString "across"])).bind fun (u : (List Str)) => (f__law_pick fu z.1 u).bind fun (v : (Str × (List Nat))) => some ((some v.1, (v.2, ())))) x ((A, ()))).bind fun (w : ((List Str) × ((List Nat) × Unit))) => some ((w.1, w.2.1)) := by kernel_rfl
def f_is_below (fu : Nat) (A : Nat) (B : Nat) : Option (Bool × Unit) := (G_is_below fu).f (A, (B, ()))
theorem is_below_eq (A : Nat) (B : Nat) : f_is_below fu A B = (f_is_count fu A).bind fun (x : (Bool × Unit)) => (if x.1 = true then some (decide (A < B)) else some false).bind fun (y : Bool) => some ((y, ())) := by kernel_rfl
def f_is_word_of (fu : Nat) (A : (List Nat)) : Option (Bool × Unit) := (G_is_word_of fu).f (A, ())
theorem is_word_of_eq (A : (List Nat)) : f_is_word_of fu A = ((if beqT .nat ((List.length A % 2)) 1 = true then some true else some (decide (20 < List.length A))).bind fun (x : Bool) => some x).bind fun (y : Bool) => if y = true then some ((false, ())) else (lcPO (fun (z : Nat) => (f_is_below fu z ((List.length A / 2))).bind fun (u : (Bool × Unit)) => some (some u.1)) A).bind fun (v : (List Bool)) => (if List.all v id = true then (rangeO ((List.length A / 2))).bind fun (w : (List Nat)) => (lcPO (fun (p : Nat) => some (some (beqT .nat (cntT .nat A p) 2))) w).bind fun (q : (List Bool)) => some (List.all q id) else some false).bind fun (r : Bool) => some ((r, ())) := by kernel_rfl
def f_want_word (fu : Nat) (A : (List Nat)) : Option ((List Nat) × Unit) := (G_want_word fu).f (A, ())
theorem want_word_eq (A : (List Nat)) : f_want_word fu A = (f_is_word_of fu A).bind fun (x : (Bool × Unit)) => if (!x.1) = true then none else some ((A, ())) := by kernel_rfl
def f_many_of (fu : Nat) (A : (List Nat)) : Option (Nat × Unit) := (G_many_of fu).f (A, ())
theorem many_of_eq (A : (List Nat)) : f_many_of fu A = some (((List.length A / 2), ())) := by kernel_rfl
def f_is_row (fu : Nat) (A : (List Str)) (B : Nat) : Option (Bool × Unit) := (G_is_row fu).f (A, (B, ()))
theorem is_row_eq (A : (List Str)) (B : Nat) : f_is_row fu A B = some ((beqT .nat (List.length A) B, ())) := by kernel_rfl
def f_is_cut (fu : Nat) (A : Str) : Option (Bool × Unit) := (G_is_cut fu).f (A, ())
theorem is_cut_eq (A : Str) : f_is_cut fu A = some ((memT .str A ([PySem.Str.ofString "through", PySem.Str.ofString "along", PySem.Str.ofString "across"]), ())) := by kernel_rfl
def f_is_state_of (fu : Nat) (A : (List Nat)) (B : (List Str)) : Option (Bool × Unit) := (G_is_state_of fu).f (A, (B, ()))
theorem is_state_of_eq (A : (List Nat)) (B : (List Str)) : f_is_state_of fu A B = (f_many_of fu A).bind fun (x : (Nat × Unit)) => (f_is_row fu B x.1).bind fun (y : (Bool × Unit)) => (if y.1 = true then (lcPO (fun (z : Str) => (f_is_cut fu z).bind fun (u : (Bool × Unit)) => some (some u.1)) B).bind fun (v : (List Bool)) => some (List.all v id) else some false).bind fun (w : Bool) => some ((w, ())) := by kernel_rfl
def f_want_state (fu : Nat) (A : (List Nat)) (B : (List Str)) : Option ((List Str) × Unit) := (G_want_state fu).f (A, (B, ()))
theorem want_state_eq (A : (List Nat)) (B : (List Str)) : f_want_state fu A B = (f_is_state_of fu A B).bind fun (x : (Bool × Unit)) => if (!x.1) = true then none else some ((B, ())) := by kernel_rfl
def f_goal_of (fu : Nat) (A : (List Nat)) (B : (Nat × (Bool × Unit))) : Option (Nat × Unit) := (G_goal_of fu).f (A, (B, ()))
theorem goal_of_eq (A : (List Nat)) (B : (Nat × (Bool × Unit))) : f_goal_of fu A B = (if B.2.1 = true then (modO ((B.1 + 1)) (List.length A)).bind fun (x : Nat) => some x else (modOI ((Int.ofNat B.1 - Int.ofNat 1)) (List.length A)).bind fun (y : Nat) => some y).bind fun (z : Nat) => some ((z, ())) := by kernel_rfl
def f_places_of (fu : Nat) (A : (List Nat)) (B : Nat) : Option ((Nat × (Nat × Unit)) × Unit) := (G_places_of fu).f (A, (B, ()))
theorem places_of_eq (A : (List Nat)) (B : Nat) : f_places_of fu A B = (idxT .nat A B).bind fun (x : Nat) => (idxFrom .nat A B ((x + 1))).bind fun (y : Nat) => some (((x, (y, ())), ())) := by kernel_rfl
def f_other_place (fu : Nat) (A : (List Nat)) (B : Nat) : Option (Nat × Unit) := (G_other_place fu).f (A, (B, ()))
theorem other_place_eq (A : (List Nat)) (B : Nat) : f_other_place fu A B = (A[B]?).bind fun (x : Nat) => (f_places_of fu A x).bind fun (y : ((Nat × (Nat × Unit)) × Unit)) => (if beqT .nat B y.1.1 = true then some y.1.2.1 else some y.1.1).bind fun (z : Nat) => some ((z, ())) := by kernel_rfl
def f_follower (fu : Nat) (A : (List Nat)) (B : (List Str)) (C : (Nat × (Bool × Unit))) : Option ((Nat × (Bool × Unit)) × Unit) := (G_follower fu).f (A, (B, (C, ())))
theorem follower_eq (A : (List Nat)) (B : (List Str)) (C : (Nat × (Bool × Unit))) : f_follower fu A B C = (f_goal_of fu A C).bind fun (x : (Nat × Unit)) => (A[x.1]?).bind fun (y : Nat) => (B[y]?).bind fun (z : Str) => if beqT .str z (PySem.Str.ofString "through") = true then some (((x.1, (C.2.1, ())), ())) else (f_other_place fu A x.1).bind fun (u : (Nat × Unit)) => (if beqT .str z (PySem.Str.ofString "along") = true then some C.2.1 else some (!C.2.1)).bind fun (v : Bool) => some (((u.1, (v, ())), ())) := by kernel_rfl
def f_way_from (fu : Nat) (A : (List Nat)) (B : (List Str)) (C : (Nat × (Bool × Unit))) : Option ((List (Nat × (Bool × Unit))) × Unit) := (G_way_from fu).f (A, (B, (C, ())))
theorem way_from_eq (A : (List Nat)) (B : (List Str)) (C : (Nat × (Bool × Unit))) : f_way_from fu A B C = (f_follower fu A B C).bind fun (x : (Nat × (Bool × Unit)) × Unit) => (whlN (fun s : List (Nat × Bool × Unit) × (Nat × Bool × Unit) × Unit => some (!(beqT (.tc .nat (.tc .bool .tn)) s.2.1 C), s)) (fun w : List (Nat × Bool × Unit) × (Nat × Bool × Unit) × Unit => (pushO w.1 w.2.1).bind fun p => (f_follower fu A B w.2.1).bind fun q => some (p, (q.1, ()))) fu ([C], (x.1, ()))).bind fun r => some (r.1, ()) := by kernel_rfl
def f_edge_of (fu : Nat) (A : (List Nat)) (B : (Nat × (Bool × Unit))) : Option (Nat × Unit) := (G_edge_of fu).f (A, (B, ()))
theorem edge_of_eq (A : (List Nat)) (B : (Nat × (Bool × Unit))) : f_edge_of fu A B = (if B.2.1 = true then some B.1 else (modOI ((Int.ofNat B.1 - Int.ofNat 1)) (List.length A)).bind fun (x : Nat) => some x).bind fun (y : Nat) => some ((y, ())) := by kernel_rfl
def f_loops_of (fu : Nat) (A : (List Nat)) (B : (List Str)) : Option ((List (List Nat)) × Unit) := (G_loops_of fu).f (A, (B, ()))
theorem loops_of_eq (A : (List Nat)) (B : (List Str)) : f_loops_of fu A B = if beqT (.htp .nat) A [] = true then some (([[]], ())) else (rangeO (List.length A)).bind fun (x : (List Nat)) => (forN (fun (y : Nat) => fun (z : ((List (List Nat)) × ((List Nat) × Unit))) => (if (!(memT .nat y z.2.1)) = true then (f_way_from fu A B ((y, (true, ())))).bind fun (u : ((List (Nat × (Bool × Unit))) × Unit)) => (lcPO (fun (v : (Nat × (Bool × Unit))) => (f_edge_of fu A v).bind fun (w : (Nat × Unit)) => some (some w.1)) u.1).bind fun (p : (List Nat)) => (extO z.2.1 p).bind fun (q : (List Nat)) => (sortO .nat p).bind fun (r : (List Nat)) => (pushO z.1 r).bind fun (s : (List (List Nat))) => some ((s, (q, ()))) else some ((z.1, (z.2.1, ())))).bind fun (t : ((List (List Nat)) × ((List Nat) × Unit))) => some ((t.1, (t.2.1, ())))) x (([], ([], ())))).bind fun (a : ((List (List Nat)) × ((List Nat) × Unit))) => (sortO (.htp .nat) a.1).bind fun (b : (List (List Nat))) => some ((b, ())) := by kernel_rfl
def f_loop_number (fu : Nat) (A : (List Nat)) (B : (List Str)) : Option (Nat × Unit) := (G_loop_number fu).f (A, (B, ()))
theorem loop_number_eq (A : (List Nat)) (B : (List Str)) : f_loop_number fu A B = (f_want_word fu A).bind fun (x : ((List Nat) × Unit)) => (f_want_state fu x.1 B).bind fun (y : ((List Str) × Unit)) => (f_loops_of fu A B).bind fun (z : ((List (List Nat)) × Unit)) => some ((List.length z.1, ())) := by kernel_rfl
def f_full_states (fu : Nat) (A : Nat) : Option ((List (List Str)) × Unit) := (G_full_states fu).f (A, ())
theorem full_states_eq (A : Nat) : f_full_states fu A = (rangeO A).bind fun (x : (List Nat)) => (forN (fun (y : Nat) => fun (z : ((List (List Str)) × Unit)) => (forN (fun (u : (List Str)) => fun (v : ((List (List Str)) × Unit)) => (lcPO (fun (w : Str) => (catO u [w]).bind fun (p : (List Str)) => some (some p)) ([PySem.Str.ofString "across", PySem.Str.ofString "along"])).bind fun (q : (List (List Str))) => (extO v.1 q).bind fun (r : (List (List Str))) => some ((r, ()))) z.1 (([], ()))).bind fun (s : ((List (List Str)) × Unit)) => some ((s.1, ()))) x (([[]], ()))).bind fun (t : ((List (List Str)) × Unit)) => some ((t.1, ())) := by kernel_rfl
def f_numbers_of (fu : Nat) (A : (List Nat)) : Option ((List Nat) × Unit) := (G_numbers_of fu).f (A, ())
theorem numbers_of_eq (A : (List Nat)) : f_numbers_of fu A = (f_many_of fu A).bind fun (x : (Nat × Unit)) => (f_full_states fu x.1).bind fun (y : ((List (List Str)) × Unit)) => (forN (fun (z : (List Str)) => fun (u : ((List Nat) × Unit)) => (f_loops_of fu A z).bind fun (v : ((List (List Nat)) × Unit)) => (repOI [0] ((Int.ofNat (List.length v.1) - Int.ofNat (List.length u.1)))).bind fun (w : (List Nat)) => (extO u.1 w).bind fun (p : (List Nat)) => (ixI p ((Int.ofNat (List.length v.1) - Int.ofNat 1))).bind fun (q : Nat) => (setI p ((Int.ofNat (List.length v.1) - Int.ofNat 1)) ((q + 1))).bind fun (r : (List Nat)) => some ((r, u.2))) y.1 (([], ()))).bind fun (s : ((List Nat) × Unit)) => some ((s.1, ())) := by kernel_rfl
def f_loop_numbers (fu : Nat) (A : (List Nat)) : Option ((List Nat) × Unit) := (G_loop_numbers fu).f (A, ())
theorem loop_numbers_eq (A : (List Nat)) : f_loop_numbers fu A = (f_want_word fu A).bind fun (x : ((List Nat) × Unit)) => (f_numbers_of fu x.1).bind fun (y : ((List Nat) × Unit)) => some ((y.1, ())) := by kernel_rfl
def f__law_choose (fu : Nat) (A : Nat) (B : Nat) : Option (Int × Unit) := (G__law_choose fu).f (A, (B, ()))
theorem _law_choose_eq (A : Nat) (B : Nat) : f__law_choose fu A B = (rangeO B).bind fun (x : (List Nat)) => (forN (fun (y : Nat) => fun (z : (Int × Unit)) => (mulOI z.1 ((Int.ofNat A - Int.ofNat y))).bind fun (u : Int) => (divOI u (Int.ofNat ((y + 1)))).bind fun (v : Int) => some ((v, z.2))) x ((Int.ofNat 1, ()))).bind fun (w : (Int × Unit)) => some ((w.1, ())) := by kernel_rfl
def f_clover_of (fu : Nat) (A : Nat) : Option ((List Nat) × Unit) := (G_clover_of fu).f (A, ())
theorem clover_of_eq (A : Nat) : f_clover_of fu A = (rangeO A).bind fun (x : (List Nat)) => (rangeO A).bind fun (y : (List Nat)) => (catO x y).bind fun (z : (List Nat)) => some ((z, ())) := by kernel_rfl
def f_clover (fu : Nat) (A : Nat) : Option ((List Nat) × Unit) := (G_clover fu).f (A, ())
theorem clover_eq (A : Nat) : f_clover fu A = (f_want_many fu A 0 10).bind fun (x : (Nat × Unit)) => (f_clover_of fu x.1).bind fun (y : ((List Nat) × Unit)) => some ((y.1, ())) := by kernel_rfl
def f_along_of (fu : Nat) (A : (List Nat)) : Option (Nat × Unit) := (G_along_of fu).f (A, ())
theorem along_of_eq (A : (List Nat)) : f_along_of fu A = (f_many_of fu A).bind fun (x : (Nat × Unit)) => (repO ([PySem.Str.ofString "along"]) x.1).bind fun (y : (List Str)) => (f_loops_of fu A y).bind fun (z : ((List (List Nat)) × Unit)) => some ((List.length z.1, ())) := by kernel_rfl
def f_along_number (fu : Nat) (A : (List Nat)) : Option (Nat × Unit) := (G_along_number fu).f (A, ())
theorem along_number_eq (A : (List Nat)) : f_along_number fu A = (f_want_word fu A).bind fun (x : ((List Nat) × Unit)) => (f_along_of fu x.1).bind fun (y : (Nat × Unit)) => some ((y.1, ())) := by kernel_rfl
def f_loops (fu : Nat) (A : (List Nat)) (B : (List Str)) : Option ((List (List Nat)) × Unit) := (G_loops fu).f (A, (B, ()))
theorem loops_eq (A : (List Nat)) (B : (List Str)) : f_loops fu A B = (f_want_word fu A).bind fun (x : ((List Nat) × Unit)) => (f_want_state fu x.1 B).bind fun (y : ((List Str) × Unit)) => (f_loops_of fu A B).bind fun (z : ((List (List Nat)) × Unit)) => some ((z.1, ())) := by kernel_rfl
def f__law_relabelled (fu : Nat) (A : (List Nat)) : Option ((List Nat) × Unit) := (G__law_relabelled fu).f (A, ())
theorem _law_relabelled_eq (A : (List Nat)) : f__law_relabelled fu A = (forN (fun (x : Nat) => fun (y : ((List (Nat × Nat)) × ((List Nat) × Unit))) => (if (!(Option.isSome (dgetT .nat .nat y.1 x))) = true then (dputO .nat .nat y.1 x (List.length y.1)).bind fun (z : (List (Nat × Nat))) => some ((z, ())) else some ((y.1, ()))).bind fun (u : ((List (Nat × Nat)) × Unit)) => (dgetT .nat .nat u.1 x).bind fun (v : Nat) => (pushO y.2.1 v).bind fun (w : (List Nat)) => some ((u.1, (w, ())))) A (([], ([], ())))).bind fun (p : ((List (Nat × Nat)) × ((List Nat) × Unit))) => some ((p.2.1, ())) := by kernel_rfl
def f__law_word (fu : Nat) (A : (List Nat)) (B : Nat) : Option ((List Nat) × (List Nat)) := (G__law_word fu).f (A, (B, ()))
theorem _law_word_eq (A : (List Nat)) (B : Nat) : f__law_word fu A B = (rangeO B).bind fun (x : (List Nat)) => (rangeO B).bind fun (y : (List Nat)) => (catO x y).bind fun (z : (List Nat)) => (sortO .nat z).bind fun (u : (List Nat)) => (rangeO ((2 * B))).bind fun (v : (List Nat)) => (forN (fun (w : Nat) => fun (p : ((List Nat) × ((List Nat) × ((List Nat) × Unit)))) => (f__law_draw fu p.1 (List.length p.2.1)).bind fun (q : (Nat × (List Nat))) => (popN p.2.1 q.1).bind fun (r : (Nat × (List Nat))) => (pushO p.2.2.1 r.1).bind fun (s : (List Nat)) => some ((q.2, (r.2, (s, p.2.2.2))))) v ((A, (u, ([], ()))))).bind fun (t : ((List Nat) × ((List Nat) × ((List Nat) × Unit)))) => (f__law_relabelled fu t.2.2.1).bind fun (a : ((List Nat) × Unit)) => some ((a.1, t.1)) := by kernel_rfl
def f__law_right (fu : Nat) (A : (List Nat)) : Option (Bool × (List Nat)) := (G__law_right fu).f (A, ())
theorem _law_right_eq (A : (List Nat)) : f__law_right fu A = (f__law_draw fu A 8).bind fun (x : (Nat × (List Nat))) => ((f_curls fu x.1).bind fun (y : ((List Nat) × Unit)) => (f_nest fu x.1).bind fun (z : ((List Nat) × Unit)) => (forR (fun (u : (List Nat)) => fun (v : ((List Nat) × Unit)) => ((f__law_state fu v.1 x.1 false).bind fun (w : ((List Str) × (List Nat))) => (f_loop_number fu u w.1).bind fun (p : (Nat × Unit)) => (lcPO (fun (q : Str) => if beqT .str q (PySem.Str.ofString "along") = true then some (some q) else some none) w.1).bind fun (r : (List Str)) => (if (!(beqT .nat p.1 ((1 + List.length r)))) = true then some true else (f_loop_numbers fu u).bind fun (s : ((List Nat) × Unit)) => (rangeO ((x.1 + 1))).bind fun (t : (List Nat)) => (lcPO (fun (a : Nat) => (f__law_choose fu x.1 a).bind fun (b : (Int × Unit)) => some (some b.1)) t).bind fun (c : (List Int)) => some ((!(beqT (.lst .int) (List.map (fun (d : Nat) => Int.ofNat d) s.1) c)))).bind fun (e : Bool) => if e = true then some (.inr ((false, w.2))) else some (.inl ((w.2, (u, (w.1, ())))))).bind fun (a16 : (((List Nat) × ((List Nat) × ((List Str) × Unit))) ⊕ (Bool × (List Nat)))) => goOn a16 (fun (a17 : ((List Nat) × ((List Nat) × ((List Str) × Unit)))) => some (.inl ((a17.1, a17.2.2.2)))) (fun (a18 : (Bool × (List Nat))) => some (.inr a18))) ([y.1, z.1]) ((x.2, ()))).bind fun (a19 : (((List Nat) × Unit) ⊕ (Bool × (List Nat)))) => goOn a19 (fun (a20 : ((List Nat) × Unit)) => some (.inl ((a20.1, (x.1, ()))))) (fun (a21 : (Bool × (List Nat))) => some (.inr a21))).bind fun (a22 : (((List Nat) × (Nat × Unit)) ⊕ (Bool × (List Nat)))) => goOn a22 (fun (a23 : ((List Nat) × (Nat × Unit))) => (f__law_draw fu a23.1 10).bind fun (a24 : (Nat × (List Nat))) => (f_clover fu a24.1).bind fun (a25 : ((List Nat) × Unit)) => (f_along_number fu a25.1).bind fun (a26 : (Nat × Unit)) => (if beqT .nat ((a24.1 % 2)) 0 = true then some 1 else some 2).bind fun (a27 : Nat) => (if (!(beqT .nat a26.1 a27)) = true then some true else (f_clover fu a24.1).bind fun (a28 : ((List Nat) × Unit)) => (repO ([PySem.Str.ofString "through"]) a24.1).bind fun (a29 : (List Str)) => (f_loops fu a28.1 a29).bind fun (a30 : ((List (List Nat)) × Unit)) => (rangeO ((2 * a24.1))).bind fun (a31 : (List Nat)) => some ((!(beqT (.lst (.htp .nat)) a30.1 [a31])))).bind fun (a32 : Bool) => if a32 = true then some ((false, a24.2)) else (if decide (0 < a24.1) = true then (f_clover fu a24.1).bind fun (a33 : ((List Nat) × Unit)) => (repO ([PySem.Str.ofString "across"]) a24.1).bind fun (a34 : (List Str)) => (f_loop_number fu a33.1 a34).bind fun (a35 : (Nat × Unit)) => some ((!(beqT .nat a35.1 a24.1))) else some false).bind fun (a36 : Bool) => if a36 = true then some ((false, a24.2)) else (f__law_draw fu a24.2 9).bind fun (a37 : (Nat × (List Nat))) => (f__law_word fu a37.2 ((1 + a37.1))).bind fun (a38 : ((List Nat) × (List Nat))) => (f__law_draw fu a38.2 ((List.length a38.1 / 2))).bind fun (a39 : (Nat × (List Nat))) => (rangeO ((List.length a38.1 / 2))).bind fun (a40 : (List Nat)) => (lcSO (fun (a41 : Nat) => fun (a42 : ((List Nat) × Unit)) => (f__law_pick fu a42.1 ([PySem.Str.ofString "through", PySem.Str.ofString "along"])).bind fun (a43 : (Str × (List Nat))) => some ((some a43.1, (a43.2, a42.2)))) a40 ((a39.2, ()))).bind fun (a44 : ((List Str) × ((List Nat) × Unit))) => (catO (cutL a44.1 none (some (Int.ofNat a39.1))) ([PySem.Str.ofString "through"])).bind fun (a45 : (List Str)) => (catO a45 (cutL a44.1 (some (Int.ofNat ((a39.1 + 1)))) none)).bind fun (a46 : (List Str)) => (catO (cutL a44.1 none (some (Int.ofNat a39.1))) ([PySem.Str.ofString "along"])).bind fun (a47 : (List Str)) => (catO a47 (cutL a44.1 (some (Int.ofNat ((a39.1 + 1)))) none)).bind fun (a48 : (List Str)) => (f_loop_number fu a38.1 a46).bind fun (a49 : (Nat × Unit)) => (f_loop_number fu a38.1 a48).bind fun (a50 : (Nat × Unit)) => some ((beqT .nat (Int.natAbs ((Int.ofNat a49.1 - Int.ofNat a50.1))) 1, a44.2.1))) (fun (a51 : (Bool × (List Nat))) => some a51) := by kernel_rfl
def f_law (fu : Nat) (A : (List Int)) : Option (Bool × Unit) := (G_law fu).f (A, ())
theorem law_eq (A : (List Int)) : f_law fu A = (rangeO (Max.max 1 (Min.min 2 (List.length A)))).bind fun (x : (List Nat)) => (lcPO (fun (y : Nat) => (f__law_pot fu A y).bind fun (z : ((List Nat) × Unit)) => (f__law_right fu z.1).bind fun (u : (Bool × (List Nat))) => some (some u.1)) x).bind fun (v : (List Bool)) => some ((List.all v id, ())) := by kernel_rfl
end K46
end
section
/-! S2: what the program's functions on words, states and loops tell. -/
namespace K46
open PySem Mi Ta Sp Pc Pw Wp
variable {fu : Nat}
abbrev cT : Str := Str.ofString "through"
abbrev cL : Str := Str.ofString "along"
abbrev cA : Str := Str.ofString "across"
def cutS (c : Nat) : Str := if c = 0 then cT else if c = 1 then cL else cA
theorem cut_T (c : Nat) : beqT .str (cutS c) cT = decide (c = 0) := by
  unfold cutS
  by_cases h : c = 0
  · subst h; rfl
  · rw [if_neg h]
    by_cases h1 : c = 1
    · subst h1; rfl
    · rw [if_neg h1]; simp [h]; rfl
theorem cut_L (c : Nat) : beqT .str (cutS c) cL = decide (c = 1) := by
  unfold cutS
  by_cases h : c = 0
  · subst h; rfl
  · rw [if_neg h]
    by_cases h1 : c = 1
    · subst h1; rfl
    · rw [if_neg h1]; simp [h1]; rfl
theorem cut_in (c : Nat) : memT .str (cutS c) [cT, cL, cA] = true := by
  unfold cutS
  split
  · rfl
  · split <;> rfl
abbrev St (W s : List Nat) : Prop := s.length = W.length / 2
section
variable {W s : List Nat}
theorem is_below_s {a b : Nat} : f_is_below fu a b = some (decide (a < b), ()) := by
  rw [is_below_eq, is_count_eq, is_integer_eq]
  simp
theorem is_word_s (h : Wd W) : f_is_word_of fu W = some (true, ()) := by
  have few := h.few
  rw [is_word_of_eq]
  have e1 : beqT .nat (List.length W % 2) 1 = false := by
    rw [beq_nat, h.ev]; rfl
  rw [e1]
  have e2 : decide (20 < List.length W) = false := decide_eq_false (by omega)
  rw [if_neg (by simp), e2]
  simp only [Option.bind_some, Bool.false_eq_true, if_false]
  rw [lcPO_map (g := fun _ => true) (by omega) fun x hx => by
    rw [is_below_s]
    simp [h.low x hx]]
  rw [Option.bind_some, if_pos (by simp), rangeO_eq (by omega), Option.bind_some]
  rw [lcPO_map (g := fun _ => true) (by simp; omega) fun x hx => by
    rw [cnt_nat, beq_nat, h.two x (List.mem_range.mp hx)] <;> rfl]
  simp
theorem want_word_s (h : Wd W) : f_want_word fu W = some (W, ()) := by
  rw [want_word_eq, is_word_s h] <;> rfl
theorem want_state_s (h : Wd W) (hs : St W s) : f_want_state fu W (s.map cutS) = some (s.map cutS, ()) := by
  have few := h.few
  rw [want_state_eq, is_state_of_eq, many_of_eq, Option.bind_some, is_row_eq]
  have e : beqT .nat (List.length (s.map cutS)) (List.length W / 2) = true := by
    rw [beq_nat, List.length_map, hs]; simp
  rw [Option.bind_some, e, if_pos rfl]
  rw [lcPO_map (g := fun _ => true) (by rw [List.length_map, hs]; omega) fun x hx => by
    obtain ⟨c, _, rfl⟩ := List.mem_map.mp hx
    rw [is_cut_eq, cut_in] <;> rfl]
  simp
theorem modOI_back {p n : Nat} (hn : 0 < n) (hp : p < n) : modOI (Int.ofNat p - Int.ofNat 1) n = some ((p + n - 1) % n) := by
  unfold modOI
  rw [if_pos hn]
  congr 1
  have : (Int.ofNat p - Int.ofNat 1 : Int) % (n : Int) = (((p + n - 1 : Nat) : Int)) % (n : Int) := by
    have e : ((p + n - 1 : Nat) : Int) = (Int.ofNat p - Int.ofNat 1) + (n : Int) := by
      show _ = (p : Int) - 1 + n
      omega
    rw [e, Int.add_emod_right]
  rw [this]
  omega
theorem goal_of_s {a : Ar} (ha : a.1 < W.length) : f_goal_of fu W a = some (gol W.length a, ()) := by
  rw [goal_of_eq]
  unfold gol
  cases hb : a.2.1 with
  | true =>
    rw [if_pos rfl, if_pos rfl]
    have : modO (a.1 + 1) (List.length W) = some ((a.1 + 1) % W.length) := if_pos (by omega)
    rw [this] <;> rfl
  | false =>
    rw [if_neg (by simp), if_neg (by simp), modOI_back (by omega) ha] <;> rfl
theorem places_of_s (h : Wd W) {i : Nat} (hi : i < W.length / 2) : f_places_of fu W i = some ((fp W i, (sp W i, ())), ()) := by
  have few := h.few
  obtain ⟨P, e⟩ := pl (h.two i hi)
  have lt := P.lt
  have lo := P.lo
  have e1 : idxT .nat W i = some (fp W i) := by
    rw [idx_nat]
    have hm : i ∈ W := List.mem_of_getElem? ((P.at_ _).mpr (.inl rfl))
    exact idxOf_some hm
  rw [places_of_eq, e1, Option.bind_some, idxFrom_nat (by omega), e, Option.map_some, Option.bind_some]
  rw [show fp W i + 1 + (sp W i - (fp W i + 1)) = sp W i by omega]
theorem other_place_s (h : Wd W) {q : Nat} (hq : q < W.length) : f_other_place fu W q = some (oth W q, ()) := by
  obtain ⟨hi, hg⟩ := h.at hq
  rw [other_place_eq, hg, Option.bind_some, places_of_s h hi, Option.bind_some, beq_nat]
  unfold oth
  by_cases e : q = fp W (W.getD q 0)
  · rw [if_pos (by simpa using e), if_pos e] <;> rfl
  · rw [if_neg (by simpa using e), if_neg e] <;> rfl
theorem state_at (hs : St W s) {i : Nat} (hi : i < W.length / 2) : (s.map cutS)[i]? = some (cutS (s.getD i 0)) := by
  have : i < s.length := by rw [hs]; exact hi
  rw [List.getElem?_map, List.getElem?_eq_getElem this, List.getD_eq_getElem?_getD, List.getElem?_eq_getElem this] <;> rfl
theorem follower_s (h : Wd W) (hs : St W s) {a : Ar} (ha : a.1 < W.length) : f_follower fu W (s.map cutS) a = some (fol W s a, ()) := by
  have hg := gol_lt ha
  obtain ⟨hi, hw⟩ := h.at hg
  rw [follower_eq, goal_of_s ha, Option.bind_some]
  show ((W[gol W.length a]?).bind _) = _
  rw [hw, Option.bind_some, state_at hs hi, Option.bind_some, cut_T]
  unfold fol
  simp only
  by_cases c0 : s.getD (W.getD (gol W.length a) 0) 0 = 0
  · rw [if_pos (by simpa using c0), if_pos c0]
  · rw [if_neg (by simpa using c0), if_neg c0, other_place_s h hg, Option.bind_some, cut_L]
    by_cases c1 : s.getD (W.getD (gol W.length a) 0) 0 = 1
    · rw [if_pos (by simpa using c1), if_pos c1] <;> rfl
    · rw [if_neg (by simpa using c1), if_neg c1] <;> rfl
theorem edge_of_s {a : Ar} (ha : a.1 < W.length) : f_edge_of fu W a = some (edg W.length a, ()) := by
  rw [edge_of_eq]
  unfold edg
  cases hb : a.2.1 with
  | true => rw [if_pos rfl, if_pos rfl] <;> rfl
  | false => rw [if_neg (by simp), if_neg (by simp), modOI_back (by omega) ha] <;> rfl
theorem beq_arrow (x y : Ar) : beqT (.tc .nat (.tc .bool .tn)) x y = decide (x = y) := by
  rw [← same_iff]
  obtain ⟨p, b, u⟩ := x
  obtain ⟨q, c, v⟩ := y
  have e : beqT (.tc .nat (.tc .bool .tn)) (p, b, u) (q, c, v) = (PyData.eqv (.int (Int.ofNat p)) (.int (Int.ofNat q)) && (PyData.eqv (.bool b) (.bool c) && true)) := rfl
  have e1 : PyData.eqv (.int (Int.ofNat p)) (.int (Int.ofNat q)) = Nat.beq p q := by
    have : PyData.eqv (.int (Int.ofNat p)) (.int (Int.ofNat q)) = decide (p = q) := beqT_ok (t := .nat) p q
    rw [this]
    cases e : Nat.beq p q with
    | true => exact decide_eq_true (Nat.eq_of_beq_eq_true e)
    | false => exact decide_eq_false (Nat.ne_of_beq_eq_false e)
  have e2 : PyData.eqv (.bool b) (.bool c) = (b == c) := beqT_ok (t := .bool) b c
  rw [e, e1, e2, Bool.and_true]
  rfl
theorem way_from_s (h : Wd W) (hs : St W s) (hf : 100 ≤ fu) {a : Ar} (ha : a.1 < W.length) : f_way_from fu W (s.map cutS) a = some (ways (fol W s) W.length a, ()) := by
  have few := h.few
  have PAf := fol_pa (s := s) h
  obtain ⟨p, p1, p2, p3, p4⟩ := per PAf ha
  rw [way_from_eq, follower_s h hs ha, Option.bind_some]
  have st : ([a], (fol W s a, ())) = (fun j => ((List.range (j + 1)).map fun k => itA (fol W s) k a, (itA (fol W s) (j + 1) a, ()))) 0 := rfl
  show ((whlN _ _ fu ([a], (fol W s a, ()))).bind _) = _
  rw [st, whl_it (fun j => ((List.range (j + 1)).map fun k => itA (fol W s) k a, (itA (fol W s) (j + 1) a, ()))) (fun j => ((List.range (j + 1)).map fun k => itA (fol W s) k a, (itA (fol W s) (j + 1) a, ()))) (p - 1) (fun j hj => by
      have := p4 (j + 1) (by omega) (by omega)
      simp only
      rw [beq_arrow, decide_eq_false this] <;> rfl) (fun j hj => by
      have lt := itA_lt PAf ha (j + 1)
      simp only
      rw [pushO_eq (by simp; omega), Option.bind_some, follower_s h hs lt, Option.bind_some]
      rw [List.range_succ (n := j + 1), List.map_append]
      rfl) (by
      simp only
      rw [show p - 1 + 1 = p by omega, p3, beq_arrow] <;> simp) fu 0 (by omega) (by omega)]
  rw [Option.bind_some, ways_eq p1 p2 p3 p4, show p - 1 + 1 = p by omega]
  rfl
theorem way_lt (h : Wd W) {a : Ar} (ha : a.1 < W.length) : ∀ b ∈ ways (fol W s) W.length a, b.1 < W.length := by
  have PAf := fol_pa (s := s) h
  obtain ⟨p, p1, p2, p3, p4⟩ := per PAf ha
  rw [ways_eq p1 p2 p3 p4]
  intro b hb
  obtain ⟨k, _, rfl⟩ := List.mem_map.mp hb
  exact itA_lt PAf ha k
theorem way_len (h : Wd W) {a : Ar} (ha : a.1 < W.length) : (ways (fol W s) W.length a).length ≤ 40 := by
  have few := h.few
  have PAf := fol_pa (s := s) h
  obtain ⟨p, p1, p2, p3, p4⟩ := per PAf ha
  rw [ways_eq p1 p2 p3 p4]
  unfold way
  rw [List.length_map, List.length_range]
  omega
/-- the loops as they are found, and the edges seen -/
def stL (W s : List Nat) (q : List (List Nat) × List Nat) (e : Nat) : List (List Nat) × List Nat := if e ∈ q.2 then q else (q.1 ++ [srt (lop W s e)], q.2 ++ lop W s e)
def fnd (W s : List Nat) : List (List Nat) := ((List.range W.length).foldl (stL W s) ([], [])).1
/-- the rising list of the loops -/
def lps (W s : List Nat) : List (List Nat) := if W = [] then [[]] else srtR (fnd W s)
theorem stL_stp (l : List Nat) (q : List (List Nat) × List Nat) : ((l.foldl (stL W s) q).1.length, (l.foldl (stL W s) q).2) = l.foldl (stp (lop W s)) (q.1.length, q.2) := by
  induction l generalizing q with
  | nil => rfl
  | cons e l ih =>
    rw [List.foldl_cons, List.foldl_cons, ih]
    congr 1
    unfold stL stp
    by_cases h : e ∈ q.2
    · rw [if_pos h, if_pos h]
    · rw [if_neg h, if_neg h]; simp
theorem fnd_len : (fnd W s).length = cnt W s := congrArg Prod.fst (stL_stp (W := W) (s := s) (List.range W.length) ([], []))
def lpn (W s : List Nat) : Nat := if W = [] then 1 else cnt W s
theorem lps_len : (lps W s).length = lpn W s := by
  unfold lps lpn
  split
  · rfl
  · rw [srtR_len, fnd_len]
theorem beq_nil : ∀ W : List Nat, beqT (.htp .nat) W [] = decide (W = [])
  | [] => rfl
  | x :: W => rfl
theorem lop_ne (W s : List Nat) (e : Nat) : lop W s e ≠ [] := by
  unfold lop ways
  simp
theorem loops_of_s (h : Wd W) (hs : St W s) (hf : 100 ≤ fu) : f_loops_of fu W (s.map cutS) = some (lps W s, ()) := by
  have few := h.few
  rw [loops_of_eq, beq_nil]
  unfold lps
  by_cases e : W = []
  · rw [if_pos (by simpa using e), if_pos e]
  · rw [if_neg (by simpa using e), if_neg e, rangeO_eq (by omega), Option.bind_some]
    obtain ⟨s', e1, ⟨q, rfl, j1, j2, j3, j4⟩⟩ := forN_J (f := fun (y : Nat) => fun (z : ((List (List Nat)) × ((List Nat) × Unit))) => (if (!(memT .nat y z.2.1)) = true then (f_way_from fu W (s.map cutS) (y, (true, ()))).bind fun (u : ((List (Nat × (Bool × Unit))) × Unit)) => (lcPO (fun (v : (Nat × (Bool × Unit))) => (f_edge_of fu W v).bind fun (w : (Nat × Unit)) => some (some w.1)) u.1).bind fun (p : (List Nat)) => (extO z.2.1 p).bind fun (q : (List Nat)) => (sortO .nat p).bind fun (r : (List Nat)) => (pushO z.1 r).bind fun (s : (List (List Nat))) => some ((s, (q, ()))) else some ((z.1, (z.2.1, ())))).bind fun (t : ((List (List Nat)) × ((List Nat) × Unit))) => some ((t.1, (t.2.1, ()))))
      (fun k z => ∃ q : List (List Nat) × List Nat, z = (q.1, (q.2, ())) ∧ q = (List.range k).foldl (stL W s) ([], []) ∧ q.1.length ≤ k ∧ q.2.length ≤ 40 * k ∧ ∀ x ∈ q.1, x ≠ []) (List.range W.length) 0 ([], ([], ())) ⟨([], []), rfl, rfl, Nat.le_refl 0, Nat.le_refl 0, (fun _ h => nomatch h)⟩ (fun k x z hk ⟨q, hz, h1, h2, h3, h4⟩ => by
        have kl : k < W.length := by have := (List.getElem?_eq_some_iff.mp hk).1; simpa using this
        have hx : x = k := by
          rw [List.getElem?_range kl] at hk
          exact (Option.some.inj hk).symm
        subst hx hz
        rw [Nat.zero_add] at h1 h2 h3 ⊢
        have st : (List.range (x + 1)).foldl (stL W s) ([], []) = stL W s q x := by
          rw [List.range_succ, List.foldl_append, ← h1] <;> rfl
        have wl := way_len (s := s) h (a := (x, true, ())) kl
        have ll : (lop W s x).length ≤ 40 := by unfold lop; rw [List.length_map]; exact wl
        refine ⟨((stL W s q x).1, ((stL W s q x).2, ())), ?_, ⟨stL W s q x, rfl, st.symm, ?_, ?_, ?_⟩⟩
        · simp only
          rw [mem_nat]
          unfold stL
          by_cases hm : x ∈ q.2
          · rw [if_pos hm, decide_eq_true hm] <;> rfl
          · rw [if_neg hm, decide_eq_false hm, if_pos (by rfl), way_from_s h hs hf (a := (x, true, ())) kl, Option.bind_some]
            rw [lcPO_map (g := edg W.length) (by simp only; omega) fun v hv => by
              rw [edge_of_s (way_lt h (a := (x, true, ())) kl v hv)] <;> rfl]
            rw [Option.bind_some]
            show ((extO q.2 (lop W s x)).bind _).bind _ = _
            rw [extO_eq (by omega), Option.bind_some]
            show ((sortO .nat (lop W s x)).bind _).bind _ = _
            rw [sortO_nat (by omega), Option.bind_some, pushO_eq (by omega)]
            rfl
        · unfold stL
          split
          · omega
          · simp; omega
        · unfold stL
          split
          · omega
          · simp only [List.length_append]; omega
        · unfold stL
          split
          · exact h4
          · intro y hy
            rcases List.mem_append.mp hy with hy | hy
            · exact h4 y hy
            · have := List.mem_singleton.mp hy
              subst this
              intro e0
              have e1 : (srt (lop W s x)).length = 0 := by rw [e0]; rfl
              rw [srt_len] at e1
              exact lop_ne W s x (List.length_eq_zero_iff.mp e1))
    rw [Nat.zero_add, List.length_range] at j1
    rw [Nat.zero_add, List.length_range] at j2
    rw [e1, Option.bind_some]
    show ((sortO (.htp .nat) q.1).bind _) = _
    rw [sortO_rows (by omega) j4, Option.bind_some]
    unfold fnd
    rw [← j1]
theorem loop_number_s (h : Wd W) (hs : St W s) (hf : 100 ≤ fu) : f_loop_number fu W (s.map cutS) = some (lpn W s, ()) := by
  rw [loop_number_eq, want_word_s h, Option.bind_some, want_state_s h hs, Option.bind_some, loops_of_s h hs hf, Option.bind_some, lps_len]
theorem loops_s (h : Wd W) (hs : St W s) (hf : 100 ≤ fu) : f_loops fu W (s.map cutS) = some (lps W s, ()) := by
  rw [loops_eq, want_word_s h, Option.bind_some, want_state_s h hs, Option.bind_some, loops_of_s h hs hf, Option.bind_some]
end
end K46
end
section
/-! S3: what is drawn. -/
namespace K46
open PySem Mi Ta Sp Pc Pw Wp
variable {fu : Nat}
abbrev PotL (p : List Nat) : Prop := ∃ x y, p = [x, y]
theorem draw_s {p : List Nat} (hp : PotL p) {m : Nat} (hm : 0 < m) (hm2 : m < 1000) : ∃ r p', f__law_draw fu p m = some (r, p') ∧ r < m ∧ PotL p' := by
  obtain ⟨x, y, rfl⟩ := hp
  rw [_law_draw_eq]
  show ∃ r p', ((some x).bind _) = some (r, p') ∧ _
  rw [Option.bind_some]
  by_cases hx : 0 < x
  · rw [if_pos (by simpa using hx)]
    show ∃ r p', ((some x).bind _) = some (r, p') ∧ _
    have e : divmodO x m = some (x / m, x % m, ()) := if_pos ⟨hm, by omega⟩
    rw [Option.bind_some, e]
    exact ⟨x % m, [x / m, y], rfl, Nat.mod_lt _ hm, x / m, y, rfl⟩
  · rw [if_neg (by simpa using hx)]
    have lt : (y * 40692 + 5711) % 2147483587 < 2147483587 := Nat.mod_lt _ (by decide)
    generalize hv : (y * 40692 + 5711) % 2147483587 = v at lt
    show ∃ r p', ((some y).bind _) = some (r, p') ∧ _
    rw [Option.bind_some, hv]
    show ∃ r p', ((some [x, v]).bind _) = some (r, p') ∧ _
    rw [Option.bind_some]
    show ∃ r p', ((some v).bind fun (p : Nat) => (some v).bind _) = some (r, p') ∧ _
    rw [Option.bind_some, Option.bind_some]
    have e : mulO v v = some (v * v) := if_pos (.inl (by omega))
    have e2 : ∀ a, modO a m = some (a % m) := fun a => if_pos hm
    rw [e, Option.bind_some, e2]
    exact ⟨_, _, rfl, Nat.mod_lt _ hm, x, v, rfl⟩
theorem pot_s (A : List Int) (B : Nat) : ∃ p, f__law_pot fu A B = some (p, ()) ∧ PotL p := by
  rw [_law_pot_eq]
  have e : powO 10 18 = some (10 ^ 18) := if_pos ⟨by decide, by decide⟩
  rw [e]
  by_cases h : B < A.length
  · rw [if_pos (by simpa using h), List.getElem?_eq_getElem h]
    exact ⟨_, rfl, _, _, rfl⟩
  · rw [if_neg (by simpa using h)]
    exact ⟨_, rfl, _, _, rfl⟩
theorem pick_s {p : List Nat} (hp : PotL p) {l : List Str} (hl : 0 < l.length) (hl2 : l.length < 1000) : ∃ v p', f__law_pick fu p l = some (v, p') ∧ v ∈ l ∧ PotL p' := by
  obtain ⟨r, p', e, hr, hp'⟩ := draw_s (fu := fu) hp hl hl2
  rw [_law_pick_eq, e, Option.bind_some]
  show ∃ v p'', ((l[r]?).bind _) = some (v, p'') ∧ _
  rw [List.getElem?_eq_getElem hr, Option.bind_some]
  exact ⟨l[r], p', rfl, List.getElem_mem hr, hp'⟩
theorem codes {k : Nat} : ∀ {r : List Str}, (∀ y ∈ r, ∃ c, c ≤ k ∧ y = cutS c) → ∃ s : List Nat, r = s.map cutS ∧ s.length = r.length ∧ ∀ c ∈ s, c ≤ k
  | [], _ => ⟨[], rfl, rfl, fun _ h => nomatch h⟩
  | y :: r, h => by
    obtain ⟨c, hc, rfl⟩ := h y (List.mem_cons_self ..)
    obtain ⟨s, rfl, hl, hs⟩ := codes fun z hz => h z (List.mem_cons_of_mem _ hz)
    refine ⟨c :: s, rfl, by simp, fun z hz => ?_⟩
    rcases List.mem_cons.mp hz with h | h
    · exact h ▸ hc
    · exact hs z h
theorem code_of {l : List Str} {k : Nat} {v : Str} (h : v ∈ l) (hl : l = (List.range (k + 1)).map cutS) : ∃ c, c ≤ k ∧ v = cutS c := by
  subst hl
  obtain ⟨c, hc, rfl⟩ := List.mem_map.mp h
  exact ⟨c, by have := List.mem_range.mp hc; omega, rfl⟩
theorem state_s {p : List Nat} (hp : PotL p) {m : Nat} (hm : m ≤ 100) : ∃ s p', f__law_state fu p m false = some (List.map cutS s, p') ∧ s.length = m ∧ (∀ c ∈ s, c ≤ 2) ∧ PotL p' := by
  rw [_law_state_eq, rangeO_eq (by omega), Option.bind_some]
  obtain ⟨r, s', e, hl, hr, hj⟩ := lcSO_J (f := fun (y : Nat) => fun (z : (List Nat) × Unit) => (if false = true then some [cL, cA] else some [cT, cL, cA]).bind fun (u : List Str) => (f__law_pick fu z.1 u).bind fun (v : Str × List Nat) => some (some v.1, (v.2, ()))) (l := List.range m) (s := (p, ()))
    (fun y => ∃ c, c ≤ 2 ∧ y = cutS c) (fun z => PotL z.1) (by simp; omega) hp fun x hx z hz => by
      obtain ⟨v, p', e, hv, hp'⟩ := pick_s (fu := fu) hz (l := [cT, cL, cA]) (by decide) (by decide)
      rw [if_neg (by simp), Option.bind_some, e, Option.bind_some]
      exact ⟨v, (p', ()), rfl, code_of hv rfl, hp'⟩
  obtain ⟨s, rfl, h1, h2⟩ := codes hr
  rw [e, Option.bind_some]
  exact ⟨s, s'.1, rfl, by rw [h1, hl, List.length_range], h2, hj⟩
theorem relabelled_s {W : List Nat} (hl : W.length ≤ 1000) : f__law_relabelled fu W = some (Nm.nm W, ()) := by
  rw [_law_relabelled_eq, relab (fun x y => rfl) hl] <;> rfl
theorem word_s {p : List Nat} (hp : PotL p) {m : Nat} (hm : m ≤ 10) : ∃ W p', f__law_word fu p m = some (W, p') ∧ Wd W ∧ W.length = 2 * m ∧ PotL p' := by
  rw [_law_word_eq, rangeO_eq (by omega), Option.bind_some, Option.bind_some, catO_eq (by simp; omega), Option.bind_some, sortO_nat (by simp; omega), Option.bind_some, rangeO_eq (by omega), Option.bind_some]
  have base : Two m (srt (List.range m ++ List.range m)) := srt_perm _
  obtain ⟨s', e, ⟨p', lf, fd, rfl, j1, j2, j3⟩⟩ := forN_J (f := fun (w : Nat) => fun (p : (List Nat) × (List Nat) × (List Nat) × Unit) => (f__law_draw fu p.1 (List.length p.2.1)).bind fun q => (popN p.2.1 q.1).bind fun r => (pushO p.2.2.1 r.1).bind fun s => some ((q.2, (r.2, (s, p.2.2.2)))))
    (fun k s => ∃ p' lf fd, s = (p', (lf, (fd, ()))) ∧ PotL p' ∧ fd.length = k ∧ Two m (fd ++ lf)) (List.range (2 * m)) 0 (p, (srt (List.range m ++ List.range m), ([], ()))) ⟨p, _, [], rfl, hp, rfl, base⟩ fun k x s hk ⟨p', lf, fd, hs, h1, h2, h3⟩ => by
      have kl : k < 2 * m := by have := (List.getElem?_eq_some_iff.mp hk).1; simpa using this
      subst hs
      have len := h3.len
      rw [List.length_append] at len
      obtain ⟨r, p'', e, hr, hp'⟩ := draw_s (fu := fu) h1 (m := lf.length) (by omega) (by omega)
      refine ⟨(p'', (lf.eraseIdx r, (fd ++ [lf[r]], ()))), ?_, p'', _, _, rfl, hp', by simp; omega, ?_⟩
      · simp only
        rw [e, Option.bind_some]
        simp only
        rw [popN_eq hr (by omega), Option.bind_some, pushO_eq (by omega)]
        rfl
      · refine List.Perm.trans ?_ h3
        rw [List.append_assoc]
        exact List.Perm.append_left _ (perm_erase lf r hr)
  have len := j3.len
  rw [List.length_append, j2, List.length_range, Nat.zero_add] at len
  have : lf = [] := List.length_eq_zero_iff.mp (by omega)
  subst this
  rw [List.append_nil] at j3
  have w := j3.wd hm
  rw [e, Option.bind_some]
  show ∃ W q, ((f__law_relabelled fu fd).bind _) = some (W, q) ∧ _
  have l2 := j3.len
  rw [relabelled_s (by omega), Option.bind_some]
  exact ⟨Nm.nm fd, p', rfl, wd_nm w, by rw [Nm.nm_len]; exact j3.len, j1⟩
end K46
end
section
/-! S4a: curls and nests, all states (kernel). -/
namespace K46
open PySem Mi Ta Sp Pc Pw Wp
def chk (W : List Nat) : Nat → List Nat → Bool
  | 0, s => Nat.beq (lpn W s) (1 + s.count 1)
  | k + 1, s => chk W k (0 :: s) && (chk W k (1 :: s) && chk W k (2 :: s))
theorem chk_ok {W : List Nat} : ∀ (k : Nat) (s : List Nat), chk W k s = true → ∀ t : List Nat, t.length = k → (∀ c ∈ t, c ≤ 2) → lpn W (t ++ s) = 1 + (t ++ s).count 1
  | 0, s, h, t, hl, _ => by
    have := List.length_eq_zero_iff.mp hl
    subst this
    exact Nat.eq_of_beq_eq_true h
  | k + 1, s, h, t, hl, hc => by
    have hne : t ≠ [] := fun e => by subst e; simp at hl
    have e := List.dropLast_concat_getLast hne
    have hm := hc _ (List.getLast_mem hne)
    generalize t.getLast hne = c at e hm
    have hl2 : t.dropLast.length = k := by rw [List.length_dropLast, hl] <;> rfl
    have hc2 : ∀ c ∈ t.dropLast, c ≤ 2 := fun x hx => hc x (List.dropLast_subset _ hx)
    generalize t.dropLast = u at e hl2 hc2
    subst e
    rw [List.append_assoc, List.singleton_append]
    unfold chk at h
    rw [Bool.and_eq_true, Bool.and_eq_true] at h
    have h3 : chk W k (c :: s) = true := by
      match c, hm with
      | 0, _ => exact h.1
      | 1, _ => exact h.2.1
      | 2, _ => exact h.2.2
    exact chk_ok k (c :: s) h3 u hl2 hc2
def cur (m : Nat) : List Nat := (List.range m).flatMap fun i => [i, i]
def nst (m : Nat) : List Nat := List.range m ++ (List.range m).reverse
def clo (m : Nat) : List Nat := List.range m ++ List.range m
theorem lt8 {P : Nat → Prop} (h : P 0 ∧ P 1 ∧ P 2 ∧ P 3 ∧ P 4 ∧ P 5 ∧ P 6 ∧ P 7) : ∀ m, m < 8 → P m
  | 0, _ => h.1
  | 1, _ => h.2.1
  | 2, _ => h.2.2.1
  | 3, _ => h.2.2.2.1
  | 4, _ => h.2.2.2.2.1
  | 5, _ => h.2.2.2.2.2.1
  | 6, _ => h.2.2.2.2.2.2.1
  | 7, _ => h.2.2.2.2.2.2.2
theorem lt10 {P : Nat → Prop} (h : P 0 ∧ P 1 ∧ P 2 ∧ P 3 ∧ P 4 ∧ P 5 ∧ P 6 ∧ P 7 ∧ P 8 ∧ P 9) : ∀ m, m < 10 → P m
  | 0, _ => h.1
  | 1, _ => h.2.1
  | 2, _ => h.2.2.1
  | 3, _ => h.2.2.2.1
  | 4, _ => h.2.2.2.2.1
  | 5, _ => h.2.2.2.2.2.1
  | 6, _ => h.2.2.2.2.2.2.1
  | 7, _ => h.2.2.2.2.2.2.2.1
  | 8, _ => h.2.2.2.2.2.2.2.2.1
  | 9, _ => h.2.2.2.2.2.2.2.2.2
end K46
end
section
namespace K46
theorem chk_cur_00 : chk (cur 7) 5 [0, 0] = true := by decide +kernel
theorem chk_cur_01 : chk (cur 7) 5 [1, 0] = true := by decide +kernel
theorem chk_cur_02 : chk (cur 7) 5 [2, 0] = true := by decide +kernel
theorem chk_cur_10 : chk (cur 7) 5 [0, 1] = true := by decide +kernel
theorem chk_cur_11 : chk (cur 7) 5 [1, 1] = true := by decide +kernel
theorem chk_cur_12 : chk (cur 7) 5 [2, 1] = true := by decide +kernel
theorem chk_cur_20 : chk (cur 7) 5 [0, 2] = true := by decide +kernel
theorem chk_cur_21 : chk (cur 7) 5 [1, 2] = true := by decide +kernel
theorem chk_cur_22 : chk (cur 7) 5 [2, 2] = true := by decide +kernel
theorem chk_cur_7 : chk (cur 7) 7 [] = true := by
  show ((chk (cur 7) 5 [0, 0] && (chk (cur 7) 5 [1, 0] && chk (cur 7) 5 [2, 0])) && ((chk (cur 7) 5 [0, 1] && (chk (cur 7) 5 [1, 1] && chk (cur 7) 5 [2, 1])) && (chk (cur 7) 5 [0, 2] && (chk (cur 7) 5 [1, 2] && chk (cur 7) 5 [2, 2])))) = true
  rw [chk_cur_00, chk_cur_01, chk_cur_02, chk_cur_10, chk_cur_11, chk_cur_12, chk_cur_20, chk_cur_21, chk_cur_22]
  rfl
theorem chk_cur : ∀ m, m < 8 → chk (cur m) m [] = true := lt8 ⟨by decide +kernel, by decide +kernel, by decide +kernel, by decide +kernel, by decide +kernel, by decide +kernel, by decide +kernel, chk_cur_7⟩
end K46
end
section
namespace K46
theorem chk_nst_00 : chk (nst 7) 5 [0, 0] = true := by decide +kernel
theorem chk_nst_01 : chk (nst 7) 5 [1, 0] = true := by decide +kernel
theorem chk_nst_02 : chk (nst 7) 5 [2, 0] = true := by decide +kernel
theorem chk_nst_10 : chk (nst 7) 5 [0, 1] = true := by decide +kernel
theorem chk_nst_11 : chk (nst 7) 5 [1, 1] = true := by decide +kernel
theorem chk_nst_12 : chk (nst 7) 5 [2, 1] = true := by decide +kernel
theorem chk_nst_20 : chk (nst 7) 5 [0, 2] = true := by decide +kernel
theorem chk_nst_21 : chk (nst 7) 5 [1, 2] = true := by decide +kernel
theorem chk_nst_22 : chk (nst 7) 5 [2, 2] = true := by decide +kernel
theorem chk_nst_7 : chk (nst 7) 7 [] = true := by
  show ((chk (nst 7) 5 [0, 0] && (chk (nst 7) 5 [1, 0] && chk (nst 7) 5 [2, 0])) && ((chk (nst 7) 5 [0, 1] && (chk (nst 7) 5 [1, 1] && chk (nst 7) 5 [2, 1])) && (chk (nst 7) 5 [0, 2] && (chk (nst 7) 5 [1, 2] && chk (nst 7) 5 [2, 2])))) = true
  rw [chk_nst_00, chk_nst_01, chk_nst_02, chk_nst_10, chk_nst_11, chk_nst_12, chk_nst_20, chk_nst_21, chk_nst_22]
  rfl
theorem chk_nst : ∀ m, m < 8 → chk (nst m) m [] = true := lt8 ⟨by decide +kernel, by decide +kernel, by decide +kernel, by decide +kernel, by decide +kernel, by decide +kernel, by decide +kernel, chk_nst_7⟩
end K46
end
section
/-! S5: known words, their numbers. -/
namespace K46
open PySem Mi Ta Sp Pc Pw Wp
variable {fu : Nat}
theorem curls_s : ∀ m, m < 8 → f_curls fu m = some (cur m, ()) := lt8 ⟨by kernel_rfl, by kernel_rfl, by kernel_rfl, by kernel_rfl, by kernel_rfl, by kernel_rfl, by kernel_rfl, by kernel_rfl⟩
theorem nest_s : ∀ m, m < 8 → f_nest fu m = some (nst m, ()) := lt8 ⟨by kernel_rfl, by kernel_rfl, by kernel_rfl, by kernel_rfl, by kernel_rfl, by kernel_rfl, by kernel_rfl, by kernel_rfl⟩
theorem clover_s : ∀ m, m < 10 → f_clover fu m = some (clo m, ()) := lt10 ⟨by kernel_rfl, by kernel_rfl, by kernel_rfl, by kernel_rfl, by kernel_rfl, by kernel_rfl, by kernel_rfl, by kernel_rfl, by kernel_rfl, by kernel_rfl⟩
def wdB (W : List Nat) : Bool := decide (W.length % 2 = 0) && (decide (W.length ≤ 20) && ((W.all fun x => decide (x < W.length / 2)) && ((List.range (W.length / 2)).all fun i => decide (W.count i = 2))))
theorem wd_of {W : List Nat} (h : wdB W = true) : Wd W := by
  unfold wdB at h
  rw [Bool.and_eq_true, Bool.and_eq_true, Bool.and_eq_true, decide_eq_true_eq, decide_eq_true_eq, List.all_eq_true, List.all_eq_true] at h
  exact ⟨h.1, h.2.1, fun x hx => of_decide_eq_true (h.2.2.1 x hx), fun i hi => of_decide_eq_true (h.2.2.2 i (List.mem_range.mpr hi))⟩
theorem cur_wd : ∀ m, m < 8 → Wd (cur m) ∧ (cur m).length = 2 * m := fun m hm => by
  have h : ∀ m, m < 8 → (wdB (cur m) && decide ((cur m).length = 2 * m)) = true := lt8 (by decide +kernel)
  have := h m hm
  rw [Bool.and_eq_true, decide_eq_true_eq] at this
  exact ⟨wd_of this.1, this.2⟩
theorem nst_wd : ∀ m, m < 8 → Wd (nst m) ∧ (nst m).length = 2 * m := fun m hm => by
  have h : ∀ m, m < 8 → (wdB (nst m) && decide ((nst m).length = 2 * m)) = true := lt8 (by decide +kernel)
  have := h m hm
  rw [Bool.and_eq_true, decide_eq_true_eq] at this
  exact ⟨wd_of this.1, this.2⟩
theorem clo_wd : ∀ m, m < 10 → Wd (clo m) ∧ (clo m).length = 2 * m := fun m hm => by
  have h : ∀ m, m < 10 → (wdB (clo m) && decide ((clo m).length = 2 * m)) = true := lt10 (by decide +kernel)
  have := h m hm
  rw [Bool.and_eq_true, decide_eq_true_eq] at this
  exact ⟨wd_of this.1, this.2⟩
/-- full states, 2 across, 1 along -/
def fulls : Nat → List (List Nat)
  | 0 => [[]]
  | k + 1 => (fulls k).flatMap fun s => [s ++ [2], s ++ [1]]
theorem fulls_mem : ∀ (k : Nat) (s : List Nat), s ∈ fulls k → s.length = k ∧ ∀ c ∈ s, c ≤ 2
  | 0, s, h => by
    have := List.mem_singleton.mp h
    subst this
    exact ⟨rfl, fun _ h => nomatch h⟩
  | k + 1, s, h => by
    obtain ⟨t, ht, hs⟩ := List.mem_flatMap.mp h
    obtain ⟨h1, h2⟩ := fulls_mem k t ht
    have : ∃ c, c ≤ 2 ∧ s = t ++ [c] := by
      rcases List.mem_cons.mp hs with e | e
      · exact ⟨2, Nat.le_refl 2, e⟩
      · exact ⟨1, by decide, List.mem_singleton.mp e⟩
    obtain ⟨c, hc, rfl⟩ := this
    refine ⟨by simp [h1], fun x hx => ?_⟩
    rcases List.mem_append.mp hx with hx | hx
    · exact h2 x hx
    · have := List.mem_singleton.mp hx
      omega
theorem full_s : ∀ m, m < 8 → f_full_states fu m = some ((fulls m).map (List.map cutS), ()) := lt8 ⟨by kernel_rfl, by kernel_rfl, by kernel_rfl, by kernel_rfl, by kernel_rfl, by kernel_rfl, by kernel_rfl, by kernel_rfl⟩
/-- one more of k loops -/
def tick (k : Nat) (u : List Nat × Unit) : Option (List Nat × Unit) := (repOI [0] ((Int.ofNat k - Int.ofNat (List.length u.1)))).bind fun w => (extO u.1 w).bind fun p => (ixI p ((Int.ofNat k - Int.ofNat 1))).bind fun q => (setI p ((Int.ofNat k - Int.ofNat 1)) ((q + 1))).bind fun r => some ((r, u.2))
def bin : Nat → List Nat
  | 0 => [1]
  | 1 => [1, 1]
  | 2 => [1, 2, 1]
  | 3 => [1, 3, 3, 1]
  | 4 => [1, 4, 6, 4, 1]
  | 5 => [1, 5, 10, 10, 5, 1]
  | 6 => [1, 6, 15, 20, 15, 6, 1]
  | _ => [1, 7, 21, 35, 35, 21, 7, 1]
theorem bin_s : ∀ m, m < 8 → forN (fun s => tick (1 + s.count 1)) (fulls m) ([], ()) = some (bin m, ()) := lt8 ⟨by kernel_rfl, by kernel_rfl, by kernel_rfl, by kernel_rfl, by kernel_rfl, by kernel_rfl, by kernel_rfl, by kernel_rfl⟩
theorem numbers_s {W : List Nat} {m : Nat} (hm : m < 8) (h : Wd W) (hl : W.length = 2 * m) (hf : 100 ≤ fu) (hc : chk W m [] = true) : f_loop_numbers fu W = some (bin m, ()) := by
  have half : W.length / 2 = m := by omega
  rw [loop_numbers_eq, want_word_s h, Option.bind_some, numbers_of_eq, many_of_eq, Option.bind_some, half, full_s m hm, Option.bind_some, forN_map]
  have e : forN (fun x => fun (u : (List Nat) × Unit) => (f_loops_of fu W (List.map cutS x)).bind fun (v : (List (List Nat)) × Unit) => (repOI [0] ((Int.ofNat (List.length v.1) - Int.ofNat (List.length u.1)))).bind fun (w : List Nat) => (extO u.1 w).bind fun (p : List Nat) => (ixI p ((Int.ofNat (List.length v.1) - Int.ofNat 1))).bind fun (q : Nat) => (setI p ((Int.ofNat (List.length v.1) - Int.ofNat 1)) ((q + 1))).bind fun (r : List Nat) => some ((r, u.2))) (fulls m) ([], ()) = some (bin m, ()) := by
    rw [← bin_s m hm]
    refine forN_congr fun s hs u => ?_
    obtain ⟨h1, h2⟩ := fulls_mem m s hs
    have := chk_ok m [] hc s h1 h2
    rw [List.append_nil] at this
    rw [loops_of_s h (h1.trans half.symm) hf, Option.bind_some]
    show tick (List.length (lps W s)) u = _
    rw [lps_len, this]
  rw [e]
  rfl
theorem choose_s : ∀ m, m < 8 → lcPO (fun a => (f__law_choose fu m a).bind fun b => some (some b.1)) (List.range (m + 1)) = some ((bin m).map fun d => Int.ofNat d) := lt8 ⟨by kernel_rfl, by kernel_rfl, by kernel_rfl, by kernel_rfl, by kernel_rfl, by kernel_rfl, by kernel_rfl, by kernel_rfl⟩
theorem same_bin : ∀ m, m < 8 → beqT (.lst .int) ((bin m).map fun d => Int.ofNat d) ((bin m).map fun d => Int.ofNat d) = true := lt8 ⟨by kernel_rfl, by kernel_rfl, by kernel_rfl, by kernel_rfl, by kernel_rfl, by kernel_rfl, by kernel_rfl, by kernel_rfl⟩
/-! ### clovers -/
theorem rep_cut (k m : Nat) : (List.replicate m [cutS k]).flatten = (List.replicate m k).map cutS := by
  induction m with
  | zero => rfl
  | succ m ih => rw [List.replicate_succ, List.flatten_cons, ih]; rfl
theorem clo_along : ∀ m, m < 10 → lpn (clo m) (List.replicate m 1) = if m % 2 = 0 then 1 else 2 := lt10 (by decide +kernel)
theorem clo_across : ∀ m, m < 10 → 0 < m → lpn (clo m) (List.replicate m 2) = m := lt10 (by decide +kernel)
theorem clo_fnd : ∀ m, m < 10 → fnd (clo m) (List.replicate m 0) = if m = 0 then [] else [srt (List.range (2 * m))] := lt10 ⟨by kernel_rfl, by kernel_rfl, by kernel_rfl, by kernel_rfl, by kernel_rfl, by kernel_rfl, by kernel_rfl, by kernel_rfl, by kernel_rfl, by kernel_rfl⟩
theorem clo_through {m : Nat} (hm : m < 10) : lps (clo m) (List.replicate m 0) = [List.range (2 * m)] := by
  unfold lps
  by_cases e : m = 0
  · subst e; rfl
  · have hne : clo m ≠ [] := fun h => by
      have := (clo_wd m hm).2
      rw [h] at this
      simp at this
      omega
    rw [if_neg hne, clo_fnd m hm, if_neg e, srt_range, srtR_one]
theorem same_rng : ∀ m, m < 10 → beqT (.lst (.htp .nat)) [List.range (2 * m)] [List.range (2 * m)] = true := lt10 ⟨by kernel_rfl, by kernel_rfl, by kernel_rfl, by kernel_rfl, by kernel_rfl, by kernel_rfl, by kernel_rfl, by kernel_rfl, by kernel_rfl, by kernel_rfl⟩
theorem along_number_s {W : List Nat} (h : Wd W) (hf : 100 ≤ fu) : f_along_number fu W = some (lpn W (List.replicate (W.length / 2) 1), ()) := by
  have few := h.few
  rw [along_number_eq, want_word_s h, Option.bind_some, along_of_eq, many_of_eq, Option.bind_some, repO_eq (by simp only; omega) (by decide), Option.bind_some]
  have := rep_cut 1 (W.length / 2)
  show (((f_loops_of fu W (List.replicate (W.length / 2) [cutS 1]).flatten).bind _).bind _) = _
  rw [this, loops_of_s h (List.length_replicate ..) hf, Option.bind_some, lps_len] <;> rfl
end K46
end
section
/-! S6: the law. -/
namespace K46
open PySem Mi Ta Sp Pc Pw Wp
variable {fu : Nat}
theorem cnt_cut (s : List Nat) : lcPO (fun (q : Str) => if beqT .str q (PySem.Str.ofString "along") = true then some (some q) else some none) (s.map cutS) = if s.length ≤ 1000000 then some ((s.map cutS).filter fun q => beqT .str q cL) else none := by
  by_cases h : s.length ≤ 1000000
  · rw [if_pos h, lcPO_filter (p := fun q => beqT .str q cL) (by rw [List.length_map]; exact h) fun x _ => by
      cases e : beqT .str x cL with
      | true => rfl
      | false => rfl]
  · unfold lcPO
    rw [if_neg h, if_neg (by rw [List.length_map]; exact h)]
theorem cnt_along (s : List Nat) : ((s.map cutS).filter fun q => beqT .str q cL).length = s.count 1 := by
  induction s with
  | nil => rfl
  | cons c s ih =>
    rw [List.map_cons, List.filter_cons, cut_L, List.count_cons]
    by_cases h : c = 1
    · subst h; simp [ih]
    · have : (c == 1) = false := by simpa using h
      rw [if_neg (by simpa using h), this, ih]; simp
/-- the part that asks curls and nests -/
def turn1 (fu x : Nat) : List Nat → List Nat × Unit → Option ((List Nat × Unit) ⊕ (Bool × List Nat)) := (fun (u : (List Nat)) => fun (v : ((List Nat) × Unit)) => ((f__law_state fu v.1 x false).bind fun (w : ((List Str) × (List Nat))) => (f_loop_number fu u w.1).bind fun (p : (Nat × Unit)) => (lcPO (fun (q : Str) => if beqT .str q (PySem.Str.ofString "along") = true then some (some q) else some none) w.1).bind fun (r : (List Str)) => (if (!(beqT .nat p.1 ((1 + List.length r)))) = true then some true else (f_loop_numbers fu u).bind fun (s : ((List Nat) × Unit)) => (rangeO ((x + 1))).bind fun (t : (List Nat)) => (lcPO (fun (a : Nat) => (f__law_choose fu x a).bind fun (b : (Int × Unit)) => some (some b.1)) t).bind fun (c : (List Int)) => some ((!(beqT (.lst .int) (List.map (fun (d : Nat) => Int.ofNat d) s.1) c)))).bind fun (e : Bool) => if e = true then some (.inr ((false, w.2))) else some (.inl ((w.2, (u, (w.1, ())))))).bind fun (a16 : (((List Nat) × ((List Nat) × ((List Str) × Unit))) ⊕ (Bool × (List Nat)))) => goOn a16 (fun (a17 : ((List Nat) × ((List Nat) × ((List Str) × Unit)))) => some (.inl ((a17.1, a17.2.2.2)))) (fun (a18 : (Bool × (List Nat))) => some (.inr a18)))
theorem turn1_s {W p : List Nat} {m : Nat} (hm : m < 8) (h : Wd W) (hl : W.length = 2 * m) (hf : 100 ≤ fu) (hc : chk W m [] = true) (hp : PotL p) : ∃ p', turn1 fu m W (p, ()) = some (.inl (p', ())) ∧ PotL p' := by
  have half : W.length / 2 = m := by omega
  obtain ⟨s, p', e, h1, h2, hp'⟩ := state_s (fu := fu) hp (m := m) (by omega)
  have hs : St W s := h1.trans half.symm
  have c := chk_ok m [] hc s h1 h2
  rw [List.append_nil] at c
  refine ⟨p', ?_, hp'⟩
  unfold turn1
  simp only
  rw [e, Option.bind_some, loop_number_s h hs hf, Option.bind_some, cnt_cut, if_pos (by omega), Option.bind_some, cnt_along, c]
  rw [if_neg (by simp [beq_nat]), numbers_s hm h hl hf hc, Option.bind_some, rangeO_eq (by omega), Option.bind_some, choose_s m hm, Option.bind_some]
  rw [same_bin m hm]
  rfl
def part2 (fu : Nat) (W p : List Nat) : Option (Bool × List Nat) := (f__law_draw fu p ((List.length W / 2))).bind fun (a39 : (Nat × (List Nat))) => (rangeO ((List.length W / 2))).bind fun (a40 : (List Nat)) => (lcSO (fun (a41 : Nat) => fun (a42 : ((List Nat) × Unit)) => (f__law_pick fu a42.1 ([PySem.Str.ofString "through", PySem.Str.ofString "along"])).bind fun (a43 : (Str × (List Nat))) => some ((some a43.1, (a43.2, a42.2)))) a40 ((a39.2, ()))).bind fun (a44 : ((List Str) × ((List Nat) × Unit))) => (catO (cutL a44.1 none (some (Int.ofNat a39.1))) ([PySem.Str.ofString "through"])).bind fun (a45 : (List Str)) => (catO a45 (cutL a44.1 (some (Int.ofNat ((a39.1 + 1)))) none)).bind fun (a46 : (List Str)) => (catO (cutL a44.1 none (some (Int.ofNat a39.1))) ([PySem.Str.ofString "along"])).bind fun (a47 : (List Str)) => (catO a47 (cutL a44.1 (some (Int.ofNat ((a39.1 + 1)))) none)).bind fun (a48 : (List Str)) => (f_loop_number fu W a46).bind fun (a49 : (Nat × Unit)) => (f_loop_number fu W a48).bind fun (a50 : (Nat × Unit)) => some ((beqT .nat (Int.natAbs ((Int.ofNat a49.1 - Int.ofNat a50.1))) 1, a44.2.1))
theorem put_cut {s : List Nat} {l k : Nat} (h : l < s.length) : (s.map cutS).take l ++ [cutS k] ++ (s.map cutS).drop (l + 1) = (s.set l k).map cutS := by
  rw [List.set_eq_take_append_cons_drop, if_pos h, List.map_append, List.map_cons, List.map_take, List.map_drop, List.append_assoc]
  rfl
theorem part2_s {W p : List Nat} (h : Wd W) (hl : 0 < W.length / 2) (hf : 100 ≤ fu) (hp : PotL p) : ∃ p', part2 fu W p = some (true, p') ∧ PotL p' := by
  have few := h.few
  have hne : W ≠ [] := fun e => by subst e; simp at hl
  obtain ⟨l, p1, e1, hlt, hp1⟩ := draw_s (fu := fu) hp hl (by omega)
  obtain ⟨r, s', e2, h2, h3, h4⟩ := lcSO_J (f := (fun (a41 : Nat) => fun (a42 : ((List Nat) × Unit)) => (f__law_pick fu a42.1 ([PySem.Str.ofString "through", PySem.Str.ofString "along"])).bind fun (a43 : (Str × (List Nat))) => some ((some a43.1, (a43.2, a42.2))))) (l := List.range (W.length / 2)) (s := (p1, ()))
    (fun y => ∃ c, c ≤ 1 ∧ y = cutS c) (fun z => PotL z.1) (by simp; omega) hp1 fun x hx z hz => by
      obtain ⟨v, p', e, hv, hp'⟩ := pick_s (fu := fu) hz (l := [cT, cL]) (by decide) (by decide)
      rw [e, Option.bind_some]
      exact ⟨v, (p', ()), rfl, code_of hv rfl, hp'⟩
  obtain ⟨s, rfl, h5, h6⟩ := codes h3
  have sl : s.length = W.length / 2 := by rw [h5, h2, List.length_range]
  have low : ∀ i, s.getD i 0 ≤ 1 := fun i => by
    rw [List.getD_eq_getElem?_getD]
    cases e : s[i]? with
    | none => simp
    | some c => exact h6 c (List.mem_of_getElem? e)
  refine ⟨s'.1, ?_, h4⟩
  unfold part2
  rw [e1, Option.bind_some, rangeO_eq (by omega), Option.bind_some]
  simp only
  rw [e2, Option.bind_some]
  simp only
  have len : (s.map cutS).length = W.length / 2 := by rw [List.length_map, sl]
  rw [cut_to (by omega), cut_from (by omega), catO_eq (by simp; omega), Option.bind_some, catO_eq (by simp; omega), Option.bind_some, catO_eq (by simp; omega), Option.bind_some, catO_eq (by simp; omega), Option.bind_some]
  have q0 := put_cut (s := s) (l := l) (k := 0) (by omega)
  have q1 := put_cut (s := s) (l := l) (k := 1) (by omega)
  show ((f_loop_number fu W ((s.map cutS).take l ++ [cutS 0] ++ (s.map cutS).drop (l + 1))).bind fun (a49 : Nat × Unit) => (f_loop_number fu W ((s.map cutS).take l ++ [cutS 1] ++ (s.map cutS).drop (l + 1))).bind _) = _
  rw [q0, q1, loop_number_s h (by show (s.set l 0).length = _; rw [List.length_set, sl]) hf, Option.bind_some, loop_number_s h (by show (s.set l 1).length = _; rw [List.length_set, sl]) hf, Option.bind_some]
  have key := cnt_flip h low (l := l) (by omega) hlt
  unfold lpn
  rw [if_neg hne, if_neg hne, beq_nat]
  have : Int.natAbs (Int.ofNat (cnt W (s.set l 0)) - Int.ofNat (cnt W (s.set l 1))) = 1 := by
    show Int.natAbs ((cnt W (s.set l 0) : Int) - (cnt W (s.set l 1) : Int)) = 1
    omega
  simp only
  rw [this]
  rfl
theorem right_s {p : List Nat} (hp : PotL p) (hf : 100 ≤ fu) : ∃ p', f__law_right fu p = some (true, p') ∧ PotL p' := by
  obtain ⟨m, p1, e1, hm, hp1⟩ := draw_s (fu := fu) hp (m := 8) (by decide) (by decide)
  obtain ⟨wc, lc⟩ := cur_wd m hm
  obtain ⟨wn, ln⟩ := nst_wd m hm
  obtain ⟨p2, t1, hp2⟩ := turn1_s hm wc lc hf (chk_cur m hm) hp1
  obtain ⟨p3, t2, hp3⟩ := turn1_s hm wn ln hf (chk_nst m hm) hp2
  obtain ⟨wide, p4, e2, hw, hp4⟩ := draw_s (fu := fu) hp3 (m := 10) (by decide) (by decide)
  obtain ⟨wk, lk⟩ := clo_wd wide hw
  obtain ⟨n, p5, e3, hn, hp5⟩ := draw_s (fu := fu) hp4 (m := 9) (by decide) (by decide)
  obtain ⟨W, p6, e4, wW, lW, hp6⟩ := word_s (fu := fu) hp5 (m := 1 + n) (by omega)
  obtain ⟨p7, e5, hp7⟩ := part2_s (fu := fu) wW (by omega) hf hp6
  have hk : (clo wide).length / 2 = wide := by omega
  refine ⟨p7, ?_, hp7⟩
  rw [_law_right_eq, e1, Option.bind_some, curls_s m hm, Option.bind_some, nest_s m hm, Option.bind_some]
  have lp : forR (turn1 fu m) [cur m, nst m] (p1, ()) = some (.inl (p3, ())) := by
    rw [forR, t1, Option.bind_some]
    show forR (turn1 fu m) [nst m] (p2, ()) = _
    rw [forR, t2, Option.bind_some]
    rfl
  show ((((forR (turn1 fu m) [cur m, nst m] (p1, ())).bind _).bind _)) = _
  rw [lp, Option.bind_some]
  simp only [goOn]
  rw [Option.bind_some]
  simp only
  rw [e2, Option.bind_some]
  simp only
  rw [clover_s wide hw, Option.bind_some]
  simp only
  rw [along_number_s wk hf, hk, Option.bind_some, clo_along wide hw]
  simp only
  have a1 : (if beqT .nat (wide % 2) 0 = true then some 1 else some 2) = some (if wide % 2 = 0 then 1 else 2) := by
    rw [beq_nat]
    by_cases h : wide % 2 = 0 <;> simp [h]
  rw [a1, Option.bind_some, beq_nat]
  rw [if_neg (by simp), Option.bind_some, repO_eq (by omega) (by decide), Option.bind_some]
  have r0 := rep_cut 0 wide
  have r2 := rep_cut 2 wide
  simp only
  show ((((f_loops fu (clo wide) (List.replicate wide [cutS 0]).flatten).bind _).bind _)) = _
  rw [r0, loops_s wk (by show (List.replicate wide 0).length = _; rw [List.length_replicate, hk]) hf, Option.bind_some, rangeO_eq (by omega), Option.bind_some, clo_through hw]
  simp only
  rw [same_rng wide hw, Option.bind_some, if_neg (by simp)]
  have a2 : (if decide (0 < wide) = true then (some (clo wide, ())).bind fun (a33 : (List Nat) × Unit) => (repO ([PySem.Str.ofString "across"]) wide).bind fun (a34 : List Str) => (f_loop_number fu a33.1 a34).bind fun (a35 : Nat × Unit) => some ((!(beqT .nat a35.1 wide))) else some false) = some false := by
    by_cases h : 0 < wide
    · rw [if_pos (by simpa using h), Option.bind_some, repO_eq (by omega) (by decide), Option.bind_some]
      show ((f_loop_number fu (clo wide) (List.replicate wide [cutS 2]).flatten).bind _) = _
      rw [r2, loop_number_s wk (by show (List.replicate wide 2).length = _; rw [List.length_replicate, hk]) hf, Option.bind_some, clo_across wide hw h, beq_nat]
      simp
    · rw [if_neg (by simpa using h)]
  rw [a2, Option.bind_some, if_neg (by simp), e3, Option.bind_some]
  simp only
  rw [e4, Option.bind_some]
  exact e5
theorem law_s (A : List Int) (hf : 100 ≤ fu) : f_law fu A = some (true, ()) := by
  rw [law_eq, rangeO_eq (by omega), Option.bind_some, lcPO_map (g := fun _ => true) (by simp; omega) fun x hx => by
    obtain ⟨p, e, hp⟩ := pot_s (fu := fu) A x
    obtain ⟨p', e', _⟩ := right_s hp hf
    rw [e, Option.bind_some]
    simp only
    rw [e', Option.bind_some]]
  simp
end K46
end
section
namespace K46
open PySem PySem.Spec PyProof.Rows L2
def ds : List Mi.Df := Mi.dfsOf lw.prog.main.body
def gl : List (Str × PyData) := Mi.glosOf [] lw.prog.main.body
def bl : List Str := Mi.blOf lw.prog.main.body
def fn : List He.DefD := ds.map Mi.Df.he
def fa : List He.Fa := Mi.fasOf ds bl
abbrev R : PySem.W.OpenRow := PySem.W.OpenLaw.row lw
def lastI : Nat := lw.prog.main.body.length - 1
abbrev hk : PySem.W.Hook := Mi.hookM 4 fa fn gl
def ob (s : PySem.W.SharedT) : Bool × He.AlD := Mi.obsMG 4 fa fn gl (HandSHeadRun.getT s)
theorem ob_eq (s : PySem.W.SharedT) : ob s = hk.obs s.abs := Mi.obsMG_eq (HandSHeadRun.getT_eq s)
def loose : List Str := Mi.defNames (lw.prog.main.body.take lastI)
theorem run (w : World) : HandSHeadRun.RunEq R (PySem.W.view R.prog [lastI]) hk ob 4000 loose w := by
  intro os
  kernel_rfl
theorem ok : ds.all Mi.Df.okB = true := by kernel_rfl
theorem law_end (ns : List Int) (h : ns.length ≤ 63) : ∃ b fin, Mi.run (Mi.tabOf (Mi.dfsOf lw.prog.main.body) (Mi.glosOf [] lw.prog.main.body) (Mi.blOf lw.prog.main.body) 60) 100000 40 "law" [.scr ns] = some (.py (.bool true), b, fin) := by
  rw [tab_eq]
  exact Ta.law_run (g_law 100000) ns (law_s ns (by decide)) 40 (by decide)
end K46
open PySem PySem.W PySem.Calls PyProof.Rows
theorem PySem.Challenge.cw_passedtwice_k46_whole_loops_known_by_han_holds : PySem.Challenge.rw_passedtwice_k46_whole_loops_known_by_han.Holds := by
  w_on; o_law
  refine HandSHeadRun.head_any (r := OpenLaw.row K46.lw) (q := view (OpenLaw.row K46.lw).prog [K46.lastI]) (H := K46.hk) (ob := K46.ob) (M := 4000) (loose := K46.loose) (d := HandSHeadRun.topDef (OpenLaw.row K46.lw).prog K46.lastI) (kwd := []) K46.ob_eq
    (by kernel_rfl) (fun s => by kernel_rfl) K46.run (by kernel_rfl) (by kernel_rfl) (by kernel_rfl) (by rfl) (by first | assumption | decide +kernel) (by decide +kernel) ⟨rfl, rfl, rfl, rfl, rfl, by decide +kernel⟩ ?hw ?hc
  case hw => w_witness2
  case hc =>
    have hnm : (HandSHeadRun.topDef (OpenLaw.row K46.lw).prog K46.lastI).name = ("law" : PySem.Str) := by kernel_rfl
    refine Mi.law_of (l := K46.lw) (n := 63) (k := 40) (lev := 4) (x := "script") (ds := K46.ds) (gl := K46.gl) (bl := K46.bl) (fuel := 100000) (m := 60) (dl := (K46.ds.find? fun y => ("law" : PySem.Str) == y.x).getD ⟨"", [], [], default, [], false⟩) rfl (by decide) (by kernel_rfl) ⟨rfl, by decide, by decide⟩ (by rw [hnm]; kernel_rfl) (by kernel_rfl) (by kernel_rfl) K46.ok ?_
    rw [hnm]
    exact K46.law_end
end
