import PyProof.Rows.All
import Wide.All
import OpenK.AllK
import Wide.FinOn
import KE.SortData
import KE.DataMinMax
import KE.DataAny
import KE.DataFind
import HandS.ForMost
import KE.GoesEnum
import PyProof.EnumMake
import HandS.Base
import HandS.Call
import HandS.List
import HandS.Comp
import HandS.Dict
import HandS.Iter
import HandS.Walk
import HandS.TupAny
import HandS.Style
import KE.KRevSl
import HandS.SetKeys
import HandS.Deep
import HandS.Zip
import HandS.TupMul
import HandS.TupLe
import HandS.Flow
import HandS.Defaults
import HandS.Conv
import PyProof.SeqIndex
import KE.KIndexOf
import HandS.IsInst
import HandS.HeadEnd
import HandS.Head0
import HandS.Head1
import HandS.Head2
import HandS.HeadHook1
import HandS.HeadHook2
import PyProof.ReprBulk
import KE.KStateDown
import HandS.More
import HandS.Words
import HandS.WordsExc
import PySem.Challenge.RW_passedtwice_k10_whole_words_read_otherwi
set_option Elab.async false
set_option linter.all false
set_option maxRecDepth 100000
set_option maxHeartbeats 0
section
/-! Mi: a small evaluator for the part of Python that the program and its laws use: values are data, lists in one hand alone may be changed. -/
namespace Mi
open PySem

/-- what a name may hold -/
inductive D where
  | py (p : PyData) | dct (kvs : List (L2.Key × PyData)) | set (xs : List PyData) | scr (ns : List Int)

/-- a slot of a frame: empty; a value that nobody changes; a list in this hand alone; one lent by the caller -/
inductive Sl where
  | no | fr (d : D) | ow (d : D) | bo (d : D)
abbrev En := List Sl
/-- what an expression hands on: a value that nobody changes; one just made; what stands in a slot -/
inductive Od where
  | va (d : D) | fe (d : D) | pk (i : Nat)

inductive O2 where
  | add | sub | mul | fdiv | mod | pow
inductive Cm where
  | eq | ne | lt | le | gt | ge | isin | notin | is | isnot
inductive Bi where
  | len | tuple | list | sorted | min | max | sum | any | all | abs | int | bool | str | repr | divmod | dict | set | lrange | trange
inductive Ty where
  | int | bool | str | list | tuple
inductive Me where
  | count | index | get
mutual
inductive Ex where
  | lit (p : PyData) | var (i : Nat) | pk (i : Nat) | glo (x : Str)
  | op (o : O2) (a b : Ex) | neg (a : Ex)
  | cm (o : Cm) (a b : Ex) | cm2 (o o' : Cm) (a b c : Ex)
  | and (a b : Ex) | or (a b : Ex) | nt (a : Ex) | ite (c : T) (a b : Ex)
  | tup (es : Exs) | lst (es : Exs) | dct0
  | ix (a i : Ex) | sl (a : Ex) (lo hi : Pt) | rev (a : Ex)
  | bi (f : Bi) (es : Exs) | isa (a : Ex) (ts : List Ty)
  | cal (f : Str) (perm : List Nat) (es : Exs)
  | me (m : Me) (a : Ex) (es : Exs)
  | pop (i : Nat) (e : Ex)
  | lc (own : List Nat) (tg : List Nat) (one : Bool) (it : I) (c : T) (e : Ex)
  | dc (own : List Nat) (tg : List Nat) (one : Bool) (it : I) (c : T) (k e : Ex)
  | bad
inductive Exs where
  | nil | cons (e : Ex) (es : Exs)
/-- a part of a slice -/
inductive Pt where
  | no | so (e : Ex)
/-- a test -/
inductive T where
  | v (e : Ex) | and (a b : T) | or (a b : T) | nt (a : T) | ite (c a b : T) | yes
/-- what is walked -/
inductive I where
  | v (e : Ex) | rng (es : Exs) | enu (es : Exs) | zip (es : Exs)
end
mutual
inductive S where
  | asg (i : Nat) (e : Ex) | asgT (is : List Nat) (e : Ex) | par (is : List Nat) (es : Exs)
  | divI (i : Nat) (k : Int) (j : Nat) (e : Ex)
  | setI (i : Nat) (k e : Ex) | augI (i : Nat) (k : Ex) (e : Ex) | aug (i : Nat) (o : O2) (e : Ex)
  | app (i : Nat) (e : Ex) | ext (i : Nat) (e : Ex) | upd (i : Nat) (e : Ex) | sdf (i : Nat) (k e : Ex)
  | ex (e : Ex) | ret (e : Ex) | retv (i : Nat) | retN | pass | brk | cont | raise
  | ifs (c : T) (a b : Ss) | whl (c : T) (b : Ss) | fr (tg : List Nat) (one : Bool) (it : I) (b : Ss)
inductive Ss where
  | nil | cons (s : S) (ss : Ss)
end
/-- a def: its parameters, how many slots, whether the first parameter is lent, its body -/
structure Fd where
  ps : List Str
  n : Nat
  io : Bool
  body : Ss

/-! ### operations on data -/
def lim : Nat := 1000000
abbrev dp : Nat := 30

def D.tru : D → Option Bool
  | .py (.bool b) => some b
  | .py (.int i) => some (i != 0)
  | .py (.list xs) => some (!xs.isEmpty)
  | .py (.tuple xs) => some (!xs.isEmpty)
  | .py .none => some false
  | .py (.str x) => if x.length ≤ lim then some ((x.length : Int) != 0) else none
  | .scr ns => some (!ns.isEmpty)
  | _ => none
/-- keys of a dict: ints and texts -/
def keyP : PyData → Option L2.Key
  | .int i => some (.inl i)
  | .str x => some (.inr x)
  | _ => none
/-- what a dict holds at a key -/
def getK (kvs : List (L2.Key × PyData)) (k : L2.Key) : Option PyData := (kvs.find? fun q => decide (q.1 = k)).map (·.2)
/-- in its place, or behind all -/
def putKd (kvs : List (L2.Key × PyData)) (k : L2.Key) (p : PyData) : List (L2.Key × PyData) :=
  if (kvs.any fun q => decide (q.1 = k)) = true then kvs.map (fun q => if q.1 = k then (q.1, p) else q) else kvs ++ [(k, p)]
def ofB (b : Bool) : Od := .va (.py (.bool b))
def ofI (i : Int) : Od := .va (.py (.int i))
def okMul (i j : Int) : Bool := decide (i.natAbs < 18446744073709551616) || decide (j.natAbs < 18446744073709551616)
def op2 : O2 → D → D → Option Od
  | .add, .py (.int i), .py (.int j) => some (ofI (i + j))
  | .add, .py (.list xs), .py (.list ys) => if xs.length + ys.length ≤ lim then some (.fe (.py (.list (xs ++ ys)))) else none
  | .add, .py (.tuple xs), .py (.tuple ys) => if xs.length + ys.length ≤ lim then some (.va (.py (.tuple (xs ++ ys)))) else none
  | .sub, .py (.int i), .py (.int j) => some (ofI (i - j))
  | .mul, .py (.int i), .py (.int j) => if okMul i j then some (ofI (i * j)) else none
  | .mul, .py (.list xs), .py (.int j) => if 0 ≤ j ∧ j ≤ 1000 ∧ xs.length ≤ 1000 then some (.fe (.py (.list (List.replicate j.toNat xs).flatten))) else none
  | .fdiv, .py (.int i), .py (.int j) => if 0 < j ∧ j < 1073741824 then some (ofI (i / j)) else none
  | .mod, .py (.int i), .py (.int j) => if 0 < j then some (ofI (i % j)) else none
  | .pow, .py (.int i), .py (.int j) => if 0 ≤ j ∧ j ≤ 1000 ∧ i.natAbs < 1000000 then some (ofI (i ^ j.toNat)) else none
  | _, _, _ => none
def okDp (p : PyData) : Bool := decide (p.depth ≤ dp)
def isNn : PyData → Bool
  | .none => true
  | _ => false
def hasB (x : PyData) (ys : List PyData) : Bool := ys.any fun z => PyData.eqv z x
def cmp : Cm → D → D → Option Bool
  | .eq, .py x, .py y => if okDp x && okDp y then some (PyData.eqv x y) else none
  | .ne, .py x, .py y => if okDp x && okDp y then some (!PyData.eqv x y) else none
  | .lt, .py (.int i), .py (.int j) => some (decide (i < j))
  | .le, .py (.int i), .py (.int j) => some (decide (i ≤ j))
  | .gt, .py (.int i), .py (.int j) => some (decide (j < i))
  | .ge, .py (.int i), .py (.int j) => some (decide (j ≤ i))
  | .isin, .py x, .py (.list ys) => if okDp x then some (hasB x ys) else none
  | .isin, .py x, .py (.tuple ys) => if okDp x then some (hasB x ys) else none
  | .notin, .py x, .py (.list ys) => if okDp x then some (!hasB x ys) else none
  | .notin, .py x, .py (.tuple ys) => if okDp x then some (!hasB x ys) else none
  | .is, .py x, .py .none => some (isNn x)
  | .isnot, .py x, .py .none => some (!isNn x)
  | .is, .py (.bool a), .py (.bool b) => some (decide (a = b))
  | .isnot, .py (.bool a), .py (.bool b) => some (!decide (a = b))
  | .isin, .py x, .dct kvs => (keyP x).map fun k => (getK kvs k).isSome
  | .notin, .py x, .dct kvs => (keyP x).map fun k => !(getK kvs k).isSome
  | _, _, _ => none
/-- the kind of a datum -/
inductive Kd where
  | non | bl | int | str | lst | tup | dct
def kd : PyData → Kd
  | .none => .non
  | .bool _ => .bl
  | .int _ => .int
  | .str _ => .str
  | .list _ => .lst
  | .tuple _ => .tup
  | .dict _ => .dct
def kdTy : Kd → Ty → Bool
  | .int, .int => true
  | .bl, .int => true
  | .bl, .bool => true
  | .str, .str => true
  | .lst, .list => true
  | .tup, .tuple => true
  | _, _ => false
def isTy (p : PyData) (t : Ty) : Bool := kdTy (kd p) t
/-- the place of index i among n items -/
abbrev plc (i : Int) (n : Nat) : Option Nat := L2.ixN n i
def item : D → D → Option D
  | .py (.list xs), .py (.int i) => (L2.ixN xs.length i).bind fun k => (xs[k]?).map .py
  | .py (.tuple xs), .py (.int i) => (L2.ixN xs.length i).bind fun k => (xs[k]?).map .py
  | .scr ns, .py (.int i) => (L2.ixN ns.length i).bind fun k => (ns[k]?).map fun n => .py (.int n)
  | .dct kvs, .py x => (keyP x).bind fun k => (getK kvs k).map .py
  | _, _ => none
/-- xs[lo:hi] -/
def cutP (xs : List PyData) (lo hi : Option Int) : List PyData := (xs.drop (HT.sIx xs.length 0 lo)).take (HT.sIx xs.length xs.length hi - HT.sIx xs.length 0 lo)
def sliceD (d : D) (lo hi : Option Int) : Option Od := match d with
  | .py (.tuple xs) => some (.va (.py (.tuple (cutP xs lo hi))))
  | .py (.list xs) => some (.fe (.py (.list (cutP xs lo hi))))
  | _ => none
def revD : D → Option Od
  | .py (.list xs) => some (.fe (.py (.list xs.reverse)))
  | .py (.tuple xs) => some (.va (.py (.tuple xs.reverse)))
  | _ => none
def alikeB (xs : List PyData) : Bool := xs.all fun x => xs.all fun y => PySem.W.alike x y
def sortB (xs : List PyData) : Bool := (xs.all fun x => match x with | .tuple (_ :: _) => true | _ => false) || (xs.all fun x => match x with | .tuple _ => false | .none => false | _ => true)
def leD (x y : PyData) : Bool := !PySem.W.dataLt y x
def rngL (lo : Int) (n : Nat) : List PyData := (List.range n).map fun (k : Nat) => PyData.int (lo + (k : Int))
def okR (i : Int) : Bool := decide (-1000000 ≤ i) && decide (i ≤ 1000000)
def rngD : List D → Option (List PyData)
  | [.py (.int b)] => if okR b then some (rngL 0 b.toNat) else none
  | [.py (.int a), .py (.int b)] => if okR a && okR b then some (rngL a (b - a).toNat) else none
  | _ => none
def sumI : List PyData → Option Int
  | [] => some 0
  | .int i :: r => (sumI r).map (i + ·)
  | _ => none
def bools : List PyData → Option (List Bool)
  | [] => some []
  | .bool b :: r => (bools r).map (b :: ·)
  | _ => none
def biD : Bi → List D → Option Od
  | .len, [.py (.list xs)] => some (ofI xs.length)
  | .len, [.py (.tuple xs)] => some (ofI xs.length)
  | .len, [.scr ns] => some (ofI ns.length)
  | .len, [.dct kvs] => some (ofI kvs.length)
  | .len, [.py (.str x)] => if x.length ≤ lim then some (ofI x.length) else none
  | .tuple, [.py (.list xs)] => some (.va (.py (.tuple xs)))
  | .tuple, [.py (.tuple xs)] => some (.va (.py (.tuple xs)))
  | .list, [.py (.list xs)] => some (.fe (.py (.list xs)))
  | .list, [.py (.tuple xs)] => some (.fe (.py (.list xs)))
  | .sorted, [.py (.list xs)] => if alikeB xs && sortB xs && okDp (.list xs) && decide (xs.length ≤ lim) then some (.fe (.py (.list (xs.mergeSort leD)))) else none
  | .min, [.py (.list (x :: xs))] => if alikeB (x :: xs) && ((x :: xs).all fun z => !isNn z) && okDp (.list (x :: xs)) then some (.va (.py (PySem.W.minD x xs))) else none
  | .max, [.py (.list (x :: xs))] => if alikeB (x :: xs) && ((x :: xs).all fun z => !isNn z) && okDp (.list (x :: xs)) then some (.va (.py (PySem.W.maxD x xs))) else none
  | .min, [.py (.int i), .py (.int j)] => some (ofI (if j < i then j else i))
  | .max, [.py (.int i), .py (.int j)] => some (ofI (if j > i then j else i))
  | .all, [.py (.list xs)] => (bools xs).map fun bs => ofB (bs.all id)
  | .any, [.py (.list xs)] => (bools xs).map fun bs => ofB (bs.any id)
  | .abs, [.py (.int i)] => some (ofI (if i < 0 then -i else i))
  | .int, [.py (.int i)] => some (ofI i)
  | .int, [.py (.bool b)] => some (ofI (if b then 1 else 0))
  | .divmod, [.py (.int i), .py (.int j)] => if 0 < j ∧ j < 1073741824 then some (.va (.py (.tuple [.int (i / j), .int (i % j)]))) else none
  | .repr, [.py (.bool b)] => some (.va (.py (.str (PyData.bool b).shown)))
  | .repr, [.py (.list xs)] => if okDp (.list xs) && (PyData.list xs).showable && decide ((PyData.list xs).shown.length ≤ lim) then some (.va (.py (.str (PyData.list xs).shown))) else none
  | .repr, [.py (.tuple xs)] => if okDp (.tuple xs) && (PyData.tuple xs).showable && decide ((PyData.tuple xs).shown.length ≤ lim) then some (.va (.py (.str (PyData.tuple xs).shown))) else none
  | .lrange, ds => (rngD ds).map fun xs => .fe (.py (.list xs))
  | .trange, ds => (rngD ds).map fun xs => .va (.py (.tuple xs))
  | _, _ => none
def countD (xs : List PyData) : List D → Option Od
  | [.py x] => if okDp x then some (ofI ((xs.countP fun y => PyData.eqv y x : Nat) : Int)) else none
  | _ => none
def indexD (xs : List PyData) : List D → Option Od
  | [.py x] => if okDp x then (xs.findIdx? fun y => PyData.eqv y x).map fun (k : Nat) => ofI (k : Int) else none
  | [.py x, .py (.int a)] => if okDp x && decide (0 ≤ a) && decide (a ≤ 1000000) then ((xs.drop a.toNat).findIdx? fun y => PyData.eqv y x).map fun (k : Nat) => ofI (a + (k : Int)) else none
  | _ => none
def index1 (xs : List PyData) : List D → Option Od
  | [.py x] => if okDp x then (xs.findIdx? fun y => PyData.eqv y x).map fun (k : Nat) => ofI (k : Int) else none
  | _ => none
def meD : Me → D → List D → Option Od
  | .count, .py (.tuple xs), ds => countD xs ds
  | .count, .py (.list xs), ds => countD xs ds
  | .index, .py (.tuple xs), ds => indexD xs ds
  | .index, .py (.list xs), ds => index1 xs ds
  | _, _, _ => none

def D.tupD : D → Bool
  | .py (.tuple _) => true
  | _ => false
def D.lstD : D → Bool
  | .py (.list _) => true
  | _ => false

/-- the pairs that enumerate gives -/
def enuL : Nat → List PyData → List PyData
  | _, [] => []
  | k, x :: xs => .tuple [.int (k : Int), x] :: enuL (k + 1) xs
def zipL : List PyData → List PyData → List PyData
  | x :: xs, y :: ys => .tuple [x, y] :: zipL xs ys
  | _, _ => []

/-! ### slots -/
def Sl.con : Sl → Option D
  | .no => none
  | .fr d => some d
  | .ow d => some d
  | .bo d => some d
/-- what stands behind an operand now -/
def rd (st : En) : Od → Option D
  | .va d => some d
  | .fe d => some d
  | .pk i => (st[i]?).bind Sl.con
/-- an operand that is kept -/
def Od.val : Od → Option D
  | .va d => some d
  | .fe d => some d
  | .pk _ => none
def D.pyd : D → Option PyData
  | .py p => some p
  | _ => none
/-- what a name comes to hold -/
def Od.slot : Od → Option Sl
  | .va d => some (.fr d)
  | .fe d => some (.ow d)
  | .pk _ => none
def slots : List Od → Option (List Sl)
  | [] => some []
  | o :: os => o.slot.bind fun s => (slots os).map (s :: ·)
def setSl (st : En) : List Nat → List Sl → En
  | i :: is, s :: ss => setSl (st.set i s) is ss
  | _, _ => st
def rds (st : En) : List Od → Option (List D)
  | [] => some []
  | o :: os => (rd st o).bind fun d => (rds st os).map (d :: ·)
def vals : List Od → Option (List D)
  | [] => some []
  | o :: os => o.val.bind fun d => (vals os).map (d :: ·)
def vas : List Od → Option (List D)
  | [] => some []
  | .va d :: os => (vas os).map (d :: ·)
  | _ => none
def pyds : List D → Option (List PyData)
  | [] => some []
  | d :: ds => d.pyd.bind fun p => (pyds ds).map (p :: ·)
/-- a list that may be changed -/
def lstAt (st : En) (i : Nat) : Option (List PyData × (D → Sl)) := match st[i]? with
  | some (.ow (.py (.list xs))) => some (xs, .ow)
  | some (.bo (.py (.list xs))) => some (xs, .bo)
  | _ => none
/-- what may be changed -/
def objAt (st : En) (i : Nat) : Option (D × (D → Sl)) := match st[i]? with
  | some (.ow d) => some (d, .ow)
  | some (.bo d) => some (d, .bo)
  | _ => none
/-- x[k] = p -/
def putO : D → D → PyData → Option D
  | .py (.list xs), .py (.int k), p => (L2.ixN xs.length k).map fun j => .py (.list (xs.set j p))
  | .dct kvs, .py x, p => (keyP x).bind fun k => if kvs.length < lim then some (.dct (putKd kvs k p)) else none
  | _, _, _ => none
/-- x.setdefault(k, p) -/
def sdfO : D → D → PyData → Option D
  | .dct kvs, .py x, p => (keyP x).bind fun k => if kvs.length < lim then some (if (getK kvs k).isSome then .dct kvs else .dct (putKd kvs k p)) else none
  | _, _, _ => none
def D.isDct : D → Bool
  | .dct _ => true
  | _ => false
def wipe (st : En) : List Nat → En
  | [] => st
  | v :: vs => (wipe st vs).set v .no
/-- the outer frame's own slots come back -/
def back (st0 st : En) : List Nat → En
  | [] => st
  | v :: vs => (back st0 st vs).set v (st0.getD v .no)
def calmSl : Sl → Bool
  | .no => true
  | .fr _ => true
  | _ => false
/-- the targets of a loop take a value -/
def bindT (tg : List Nat) (one : Bool) (p : PyData) (st : En) : Option En :=
  if one then (match tg with | [i] => some (st.set i (.fr (.py p))) | _ => none)
  else (match p with
    | .tuple xs => if xs.length = tg.length then some ((tg.zip xs).foldl (fun s q => s.set q.1 (.fr (.py q.2))) st) else none
    | .list xs => if xs.length = tg.length then some ((tg.zip xs).foldl (fun s q => s.set q.1 (.fr (.py q.2))) st) else none
    | _ => none)

def Exs.app : Exs → Exs → Exs
  | .nil, b => b
  | .cons e es, b => .cons e (es.app b)
/-! ### the evaluator -/
structure Ct where
  call : Str → List D → Option (D × Bool × D)
  io : Str → Bool
  glo : Str → Option PyData
  fuel : Nat

/-- a loop of a comprehension -/
def lcL (f : PyData → List PyData → En → Option (List PyData × En)) : List PyData → List PyData → En → Option (List PyData × En)
  | [], acc, st => some (acc, st)
  | x :: xs, acc, st => (f x acc st).bind fun r => lcL f xs r.1 r.2
inductive Out where
  | nx | brk | cont | rt (d : D) (fe : Bool)
def frL (f : PyData → En → Option (Out × En)) : List PyData → En → Option (Out × En)
  | [], st => some (.nx, st)
  | x :: xs, st => (f x st).bind fun r => match r.1 with
    | .nx => frL f xs r.2
    | .cont => frL f xs r.2
    | .brk => some (.nx, r.2)
    | .rt d b => some (.rt d b, r.2)
def whL (c : En → Option (Bool × En)) (f : En → Option (Out × En)) : Nat → En → Option (Out × En)
  | 0, _ => none
  | n + 1, st => (c st).bind fun q => if q.1 then (f q.2).bind fun r => match r.1 with
      | .nx => whL c f n r.2
      | .cont => whL c f n r.2
      | .brk => some (.nx, r.2)
      | .rt d b => some (.rt d b, r.2)
    else some (.nx, q.2)
/-- the call of a def of the text: the operands behind one another, perm: which of them each parameter takes -/
def callE (C : Ct) (f : Str) (perm : List Nat) (os : List Od) (st : En) : Option (Od × En) :=
  let os' := perm.map fun j => os.getD j (.pk 0)
  if C.io f then (match os' with
    | .pk i :: r => (match st[i]? with
      | some (.ow d) => (vals r).bind fun ds => (C.call f (d :: ds)).map fun q => (if q.2.1 then .fe q.1 else .va q.1, st.set i (.ow q.2.2))
      | some (.bo d) => (vals r).bind fun ds => (C.call f (d :: ds)).map fun q => (if q.2.1 then .fe q.1 else .va q.1, st.set i (.bo q.2.2))
      | _ => none)
    | .fe d :: r => (vas r).bind fun ds => (C.call f (d :: ds)).map fun q => (if q.2.1 then .fe q.1 else .va q.1, st)
    | _ => none)
  else (vals os').bind fun ds => (C.call f ds).map fun q => (if q.2.1 then .fe q.1 else .va q.1, st)
mutual
def evE (C : Ct) : Ex → En → Option (Od × En)
  | .lit p, st => some (.va (.py p), st)
  | .var i, st => (match st[i]? with
    | some (.fr d) => some (.va d, st)
    | some (.ow d) => some (.va d, st.set i (.fr d))
    | _ => none)
  | .pk i, st => (match st[i]? with
    | some .no => none
    | some _ => some (.pk i, st)
    | none => none)
  | .glo x, st => (C.glo x).map fun p => (.va (.py p), st)
  | .op o a b, st => (evE C a st).bind fun qa => (evE C b qa.2).bind fun qb => (rd qb.2 qa.1).bind fun x => (rd qb.2 qb.1).bind fun y => (op2 o x y).map fun z => (z, qb.2)
  | .neg a, st => (evE C a st).bind fun qa => (match rd qa.2 qa.1 with
    | some (.py (.int i)) => some (ofI (-i), qa.2)
    | _ => none)
  | .cm o a b, st => (evE C a st).bind fun qa => (evE C b qa.2).bind fun qb => (rd qb.2 qa.1).bind fun x => (rd qb.2 qb.1).bind fun y => (cmp o x y).map fun z => (ofB z, qb.2)
  | .cm2 o o' a b c, st => (evE C a st).bind fun qa => (evE C b qa.2).bind fun qb => (rd qb.2 qa.1).bind fun x => (rd qb.2 qb.1).bind fun y => (cmp o x y).bind fun z =>
      if z then (evE C c qb.2).bind fun qc => (rd qc.2 qb.1).bind fun y => (rd qc.2 qc.1).bind fun u => (cmp o' y u).map fun z => (ofB z, qc.2) else some (ofB false, qb.2)
  | .and a b, st => (evE C a st).bind fun qa => (match rd qa.2 qa.1 with
    | some (.py (.bool c)) => if c then evE C b qa.2 else some (ofB false, qa.2)
    | _ => none)
  | .or a b, st => (evE C a st).bind fun qa => (match rd qa.2 qa.1 with
    | some (.py (.bool c)) => if c then some (ofB true, qa.2) else evE C b qa.2
    | _ => none)
  | .nt a, st => (evE C a st).bind fun qa => (match rd qa.2 qa.1 with
    | some (.py (.bool c)) => some (ofB (!c), qa.2)
    | _ => none)
  | .ite c a b, st => (evT C c st).bind fun q => if q.1 then evE C a q.2 else evE C b q.2
  | .tup es, st => (evs C es st).bind fun q => (vals q.1).bind fun ds => (pyds ds).bind fun ps => if ps.length ≤ lim then some (.va (.py (.tuple ps)), q.2) else none
  | .lst es, st => (evs C es st).bind fun q => (vals q.1).bind fun ds => (pyds ds).bind fun ps => if ps.length ≤ lim then some (.fe (.py (.list ps)), q.2) else none
  | .dct0, st => some (.fe (.dct []), st)
  | .ix a i, st => (evE C a st).bind fun qa => (evE C i qa.2).bind fun qi => (rd qi.2 qa.1).bind fun x => (rd qi.2 qi.1).bind fun y => (item x y).map fun z => (.va z, qi.2)
  | .sl a lo hi, st => (evE C a st).bind fun qa => (evP C lo qa.2).bind fun ql => (evP C hi ql.2).bind fun qh => (rd qh.2 qa.1).bind fun x => (sliceD x ql.1 qh.1).map fun o => (o, qh.2)
  | .rev a, st => (evE C a st).bind fun qa => (rd qa.2 qa.1).bind fun x => (revD x).map fun o => (o, qa.2)
  | .bi f es, st => (evs C es st).bind fun q => (rds q.2 q.1).bind fun ds => (biD f ds).map fun o => (o, q.2)
  | .isa a ts, st => (evE C a st).bind fun qa => (rd qa.2 qa.1).bind fun d => d.pyd.map fun p => (ofB (ts.any (isTy p)), qa.2)
  | .cal f perm es, st => (evs C es st).bind fun q => callE C f perm q.1 q.2
  | .me m a es, st => (evE C a st).bind fun qa => (rd qa.2 qa.1).bind fun x0 => (evs C es qa.2).bind fun q => (rd q.2 qa.1).bind fun x => if x0.tupD == x.tupD && x0.lstD == x.lstD then (rds q.2 q.1).bind fun ds => (meD m x ds).map fun o => (o, q.2) else none
  | .pop i e, st => (lstAt st i).bind fun _ => (evE C e st).bind fun q => (rd q.2 q.1).bind fun k => (lstAt q.2 i).bind fun m => (match k with
    | .py (.int k) => if okR k then (L2.ixN m.1.length k).bind fun j => (m.1[j]?).map fun p => (.va (.py p), q.2.set i (m.2 (.py (.list (m.1.eraseIdx j))))) else none
    | _ => none)
  | .lc own tg one it c e, st => (evI C it st).bind fun q => if own.all (fun i => calmSl (q.2.getD i .no)) then
      (lcL (fun x acc s => (bindT tg one x s).bind fun s1 => (evT C c s1).bind fun qc => if qc.1 then (evE C e qc.2).bind fun qe => qe.1.val.bind fun d => d.pyd.bind fun p =>
        if acc.length < lim then some (acc ++ [p], wipe qe.2 own) else none else some (acc, wipe qc.2 own)) q.1 [] (wipe q.2 own)).map fun r => (.fe (.py (.list r.1)), back q.2 r.2 own)
      else none
  | .dc own tg one it c k e, st => none
  | .bad, st => none
def evP (C : Ct) : Pt → En → Option (Option Int × En)
  | .no, st => some (none, st)
  | .so e, st => (evE C e st).bind fun q => (match rd q.2 q.1 with
    | some (.py (.int i)) => some (some i, q.2)
    | _ => none)
def evT (C : Ct) : T → En → Option (Bool × En)
  | .and a b, st => (evT C a st).bind fun q => if q.1 then evT C b q.2 else some (false, q.2)
  | .or a b, st => (evT C a st).bind fun q => if q.1 then some (true, q.2) else evT C b q.2
  | .nt a, st => (evT C a st).map fun q => (!q.1, q.2)
  | .ite c a b, st => (evT C c st).bind fun q => if q.1 then evT C a q.2 else evT C b q.2
  | .yes, st => some (true, st)
  | .v e, st => (evE C e st).bind fun q => ((rd q.2 q.1).bind D.tru).map fun b => (b, q.2)
def evs (C : Ct) : Exs → En → Option (List Od × En)
  | .nil, st => some ([], st)
  | .cons e es, st => (evE C e st).bind fun q => (evs C es q.2).map fun r => (q.1 :: r.1, r.2)
/-- what is walked -/
def evI (C : Ct) : I → En → Option (List PyData × En)
  | .rng es, st => (evs C es st).bind fun q => (rds q.2 q.1).bind fun ds => (rngD ds).map fun xs => (xs, q.2)
  | .enu es, st => (evs C es st).bind fun q => (vals q.1).bind fun ds => (match ds with
    | [.py (.list xs)] => some (enuL 0 xs, q.2)
    | [.py (.tuple xs)] => some (enuL 0 xs, q.2)
    | _ => none)
  | .zip es, st => (evs C es st).bind fun q => (vals q.1).bind fun ds => (match ds with
    | [.py (.list xs), .py (.list ys)] => some (zipL xs ys, q.2)
    | [.py (.tuple xs), .py (.tuple ys)] => some (zipL xs ys, q.2)
    | _ => none)
  | .v e, st => (evE C e st).bind fun q => q.1.val.bind fun d => (match d with
    | .py (.list xs) => some (xs, q.2)
    | .py (.tuple xs) => some (xs, q.2)
    | _ => none)
end
/-- a value is handed back -/
def retE (o : Od) : Option Out := match o with
  | .va d => some (.rt d false)
  | .fe d => some (.rt d true)
  | .pk _ => none
mutual
def exS (C : Ct) : S → En → Option (Out × En)
  | .asg i e, st => (evE C e st).bind fun q => q.1.slot.map fun s => (.nx, q.2.set i s)
  | .asgT is e, st => (evE C e st).bind fun q => (rd q.2 q.1).bind fun d => d.pyd.bind fun p => (bindT is false p q.2).map fun s => (.nx, s)
  | .par is es, st => (evs C es st).bind fun q => (slots q.1).bind fun ss => if ss.length = is.length then some (.nx, setSl q.2 is ss) else none
  | .divI i k j e, st => (evE C e st).bind fun q => (rd q.2 q.1).bind fun d => (lstAt q.2 i).bind fun m => (match d with
    | .py (.tuple [a, b]) => (L2.ixN m.1.length k).map fun n => (.nx, (q.2.set i (m.2 (.py (.list (m.1.set n a))))).set j (.fr (.py b)))
    | _ => none)
  | .setI i k e, st => (evE C e st).bind fun q => q.1.val.bind fun d => d.pyd.bind fun p => (objAt q.2 i).bind fun _ => (evE C k q.2).bind fun qk => (rd qk.2 qk.1).bind fun kd => (objAt qk.2 i).bind fun m =>
      (putO m.1 kd p).map fun d' => (.nx, qk.2.set i (m.2 d'))
  | .augI i k e, st => (objAt st i).bind fun _ => (evE C k st).bind fun qk => (rd qk.2 qk.1).bind fun kd => (objAt qk.2 i).bind fun m => (match item m.1 kd with
    | some (.py (.int x)) => (evE C e qk.2).bind fun q => (rd q.2 q.1).bind fun d => (objAt q.2 i).bind fun m2 => (match kd, d with
      | .py kp, .py (.int y) => (putO m2.1 (.py kp) (.int (x + y))).map fun d' => (.nx, q.2.set i (m2.2 d'))
      | _, _ => none)
    | _ => none)
  | .aug i o e, st => (match st[i]? with
    | some (.fr (.py (.int x))) => (evE C e st).bind fun q => (rd q.2 q.1).bind fun d => (match o, d with
      | .add, .py (.int y) => some (.nx, q.2.set i (.fr (.py (.int (x + y)))))
      | .sub, .py (.int y) => some (.nx, q.2.set i (.fr (.py (.int (x - y)))))
      | _, _ => none)
    | _ => none)
  | .app i e, st => (lstAt st i).bind fun _ => (evE C e st).bind fun q => q.1.val.bind fun d => d.pyd.bind fun p => (lstAt q.2 i).bind fun m =>
      if m.1.length < lim then some (.nx, q.2.set i (m.2 (.py (.list (m.1 ++ [p]))))) else none
  | .ext i e, st => (lstAt st i).bind fun _ => (evE C e st).bind fun q => (rd q.2 q.1).bind fun d => (lstAt q.2 i).bind fun m => (match d with
    | .py (.list ys) => if m.1.length + ys.length < lim then some (.nx, q.2.set i (m.2 (.py (.list (m.1 ++ ys))))) else none
    | _ => none)
  | .upd _ _, _ => none
  | .sdf i k e, st => (objAt st i).bind fun m0 => if m0.1.isDct then (evE C k st).bind fun qk => (rd qk.2 qk.1).bind fun kd => (evE C e qk.2).bind fun q => q.1.val.bind fun d => d.pyd.bind fun p => (objAt q.2 i).bind fun m =>
      (sdfO m.1 kd p).map fun d' => (.nx, q.2.set i (m.2 d')) else none
  | .ex e, st => (evE C e st).map fun q => (.nx, q.2)
  | .ret e, st => (evE C e st).bind fun q => (retE q.1).map fun o => (o, q.2)
  | .retv i, st => (match st[i]? with
    | some (.fr d) => some (.rt d false, st)
    | some (.ow d) => some (.rt d true, st.set i .no)
    | _ => none)
  | .retN, st => some (.rt (.py .none) false, st)
  | .pass, st => some (.nx, st)
  | .brk, st => some (.brk, st)
  | .cont, st => some (.cont, st)
  | .raise, _ => none
  | .ifs c a b, st => (evT C c st).bind fun q => if q.1 then exs C a q.2 else exs C b q.2
  | .whl c b, st => whL (evT C c) (exs C b) C.fuel st
  | .fr tg one it b, st => (evI C it st).bind fun q => frL (fun x s => (bindT tg one x s).bind (exs C b)) q.1 q.2
def exs (C : Ct) : Ss → En → Option (Out × En)
  | .nil, st => some (.nx, st)
  | .cons s ss, st => (exS C s st).bind fun r => match r.1 with
    | .nx => exs C ss r.2
    | .brk => some (.brk, r.2)
    | .cont => some (.cont, r.2)
    | .rt d b => some (.rt d b, r.2)
end
/-- the slots at a def's entry -/
def enter (F : Fd) (ds : List D) : En := (match F.io, ds with
    | true, d :: r => .bo d :: r.map .fr
    | _, ds => ds.map .fr) ++ List.replicate (F.n - ds.length) .no
/-- what the lent first parameter is at the end -/
def lentE (io : Bool) (st : En) : Option D := match io, st with
  | false, _ => some (.py .none)
  | true, .bo d :: _ => some d
  | _, _ => none
/-- the defs of a text -/
structure Tab where
  fds : List (Str × Fd)
  glos : List (Str × PyData)
def Tab.ct (T : Tab) (fuel : Nat) (call : Str → List D → Option (D × Bool × D)) : Ct := ⟨call, fun f => (T.fds.lookup f).elim false Fd.io, fun x => T.glos.lookup x, fuel⟩
/-- a call, at most n deep -/
def run (T : Tab) (fuel : Nat) : Nat → Str → List D → Option (D × Bool × D)
  | 0, _, _ => none
  | n + 1, f, ds => (T.fds.lookup f).bind fun F => if ds.length = F.ps.length then (exs (T.ct fuel (run T fuel n)) F.body (enter F ds)).bind fun r =>
      (lentE F.io r.2).bind fun fin => match r.1 with
      | .rt d b => some (d, b, fin)
      | .nx => some (.py .none, false, fin)
      | _ => none
    else none
end Mi
end
section
/-! Mi0: enumerate of a tuple, a list taken apart. -/
namespace Mi
open PySem PySem.Spec
open PyProof.Rows hiding St Fr
open L2

/-! ### a list taken apart -/
section
variable {prog : Program} {w : World} {A : Around} {E : Value → Shared → Prop} {s : Shared}
theorem list_ext {h h' : Heap} {it l : Addr} {xs : Array Value} (hl : h.IsList l xs) (ne : l ≠ it) (k : ∀ b o, b ≠ it → h.get? b = some o → h'.get? b = some o) : h'.IsList l xs := hl.at fun o e => k l o ne e
theorem draw_lst {l it : Addr} {xs : Array Value} (ne : l ≠ it) : ∀ (m j : Nat) (s : Shared) (Q : List Value → Shared → Prop), s.heap.IsListIter it l j → s.heap.IsList l xs → j + m ≤ xs.size →
    (∀ h', h'.IsListIter it l (j + m) → (∀ b o, b ≠ it → s.heap.get? b = some o → h'.get? b = some o) → Q ((xs.toList.drop j).take m) { s with heap := h' }) → wpAny (model prog w) A (draw (.ref it) m) Q E s
  | 0, j, s, Q, hi, hl, hm, q => wpAny_pure (q s.heap hi fun _ _ _ e => e)
  | m + 1, j, s, Q, hi, hl, hm, q => by
    have lt : j < xs.size := by omega
    show wpAny _ _ (pyNext (.ref it) >>= _) Q E s
    refine wpAny_bind (wpAny_pyNext_list_item hi hl (x := xs[j]) (by simp [lt]) fun h1 i1 k1 => ?_)
    have k1' : ∀ b o, b ≠ it → s.heap.get? b = some o → h1.get? b = some o := fun b o hb e => (k1.2 b hb).trans e
    refine wpAny_bind (wpAny_holding (draw_lst ne m (j + 1) { s with heap := h1 } _ i1 (list_ext hl ne k1') (by omega) fun h2 i2 k2 => wpAny_pure ?_))
    have e1 : xs.toList.drop j = xs[j] :: xs.toList.drop (j + 1) := by rw [List.drop_eq_getElem_cons (by simpa using lt)]; simp
    rw [e1, List.take_succ_cons] at q
    exact q h2 (by rw [show j + (m + 1) = j + 1 + m by omega]; exact i2) fun b o hb e => k2 b o hb (k1' b o hb e)
theorem unpack_lst {l : Addr} {xs : Array Value} {Q : List Value → Shared → Prop} (hh : A.handled = none) (hl : s.heap.IsList l xs)
    (q : ∀ h', (∀ b o, b ≠ s.heap.objs.size → s.heap.get? b = some o → h'.get? b = some o) → Q xs.toList { s with heap := h' }) : wpAny (model prog w) A (unpackItems (.ref l) xs.size none) Q E s := by
  have ne : l ≠ s.heap.objs.size := by
    obtain ⟨o, e, _⟩ := hl
    exact Nat.ne_of_lt (Heap.lt_size e)
  unfold unpackItems notIterableAtAll
  refine wpAny_bind (wpAny_bind (wpAny_specialOf hl.typeIs PySem.F.slot_list_iter.lookup (wpAny_pure ?_)))
  simp only [Bool.false_eq_true, if_false]
  refine wpAny_bind (wpAny_holding (wpAny_pyIter_list hl ?_))
  have push : ∀ (o : Obj) (b : Addr) (u : Obj), s.heap.get? b = some u → (s.heap.push o).get? b = some u := fun o b u e => Heap.get?_push_of_some _ e
  refine wpAny_bind (wpAny_holding (draw_lst ne xs.size 0 _ _ ⟨_, Heap.get?_push_size _ rfl, rfl, rfl⟩ (hl.at fun o e => push _ l o e) (by omega) fun h1 i1 k1 => ?_))
  have all : List.take xs.size (List.drop 0 xs.toList) = xs.toList := by
    rw [List.drop_zero]
    exact List.take_of_length_le (by simp)
  rw [all, if_neg (by simp)]
  have l1 : h1.IsList l xs := list_ext (hl.at fun o e => push _ l o e) ne k1
  refine wpAny_bind (wpAny_holding (wpAny_pyNext_list_end (s := { s with heap := h1 }) hh i1 l1 (by simp) fun h2 k2 => ?_))
  simp only [Option.isSome_none, Bool.false_eq_true, if_false]
  exact wpAny_pure (q h2 fun b o hb e => k2 b o hb (k1 b o hb (push _ b o e)))
end
/-- (a, b, ..) = a list of that length -/
def gLst (K : PySem.W.Frag) (n : Nat) (t : TGs) : TG := fun v σ H Q => ∃ a xs, v = .ref a ∧ SqL K H a xs ∧ xs.length = n ∧ t xs σ H Q
section
variable {X : Cx} {pos : Pos}
theorem pg_lst {es : List Expr} {k : Nat} {t : TGs} {n : Nat} (hc : X.calm = true) (h : PGs X es t) (hn : (assignEach es X.env).length = n) (hst : (assignEach es X.env).findIdx? (·.1) = none) : PG X (.Tuple es k pos) (gLst X.K n t) := by
  refine ⟨fun pins s σ H v u Q I r hw => ?_⟩
  obtain ⟨a, xs, rfl, hq, hl, hw⟩ := hw
  cases r
  obtain ⟨its, rv, pl, _⟩ := I.list hq
  have e1 : its.toArray.size = (assignEach es X.env).length := by rw [hn, List.size_toArray, ← hl, rv.length]
  rw [PyProof.Rows.assign_Tuple]
  refine wpAny_bind (wpAny_standAt ?_)
  unfold unpack
  rw [← e1, hst]
  refine wpAny_bind (wpAny_holding (unpack_lst (I.ok.hd hc) pl.isList fun h1 k1 => ?_))
  have I1 : Inv X pins σ H { s with heap := h1 } := I.kept (t' := s.toks) fun b o e => k1 b o (Nat.ne_of_lt (Heap.lt_size e)) e
  exact h.run pins _ σ H xs _ Q I1 (by simpa using rv) hw
end
/-! ### enumerate of a tuple -/
theorem get_lt' {α : Type} {l : List α} {i : Nat} {x : α} (h : l[i]? = some x) : i < l.length := (List.getElem?_eq_some_iff.mp h).1
open PySem in
theorem meets_enuT (t : Addr) (xs : Array Value) :
    Meets (Builtin.«enumerate.__new__» ⟨[.type "enumerate", .ref t], []⟩) (fun _ R s => s.heap.IsTuple t xs ∧
      R (.ok (.ret (.ref (s.heap.push { cls := .type "tuple_iterator", data := .fields #[.ref t, .int 0 0] }).objs.size)))
        { s with heap := (s.heap.push { cls := .type "tuple_iterator", data := .fields #[.ref t, .int 0 0] }).push { cls := .type "enumerate", data := .fields #[.none, .bool false, .ref s.heap.objs.size, rawInt 0, .none, .none] } }) :=
  .of_wp fun prog w A R s h => by
    obtain ⟨hp, g, d, tk, os⟩ := s
    obtain ⟨ht, h⟩ := h
    have hsub := sub_enumerate
    wp_walk using wpAny_pyIter_tuple ht
    refine wpAny_stack_any fun st => wpAny_pure ?_
    split
    · rename_i c _ _ _ _ _
      cases (c == Value.type "enumerate")
      · wp_walk using wpAny_pyIter_tuple ht
        exact ⟨_, rfl, h⟩
      · wp_walk using wpAny_pyIter_tuple ht
        exact ⟨_, rfl, h⟩
    · wp_walk using wpAny_pyIter_tuple ht
      exact ⟨_, rfl, h⟩
section
variable {prog : Program} {w : World} {A : Around} {E : Value → Shared → Prop} {s : Shared}
theorem call_enuT {t : Addr} {xs : Array Value} {Q : Value → Shared → Prop} (ht : s.heap.IsTuple t xs)
    (h : ∀ h', IsEnum h' (s.heap.objs.size + 1) s.heap.objs.size ((0 : Nat) : Int) .none → h'.IsTupleIter s.heap.objs.size t 0 → h'.objs.size = s.heap.objs.size + 2 → (∀ b o, s.heap.get? b = some o → h'.get? b = some o) → Q (.ref (s.heap.objs.size + 1)) { s with heap := h' }) :
    wpAny (model prog w) A (call (.type "enumerate") [.ref t]) Q E s := by
  refine callType_new F.called_enumerate (by decide) (F.typeCall_enumerate_1 _) (F.newCall_enumerate_1 _) (fun obj => F.args_object_init_2 obj _) F.entry_enumerate_new (meets_enuT t xs) ⟨ht, ?_⟩
  generalize hit : ({ cls := .type "tuple_iterator", data := .fields #[.ref t, .int 0 0] } : Obj) = oi
  have z1 : (s.heap.push oi).objs.size = s.heap.objs.size + 1 := Heap.size_push ..
  have g1 : (s.heap.push oi).get? s.heap.objs.size = some oi := by rw [← hit]; exact Heap.get?_push_size _ rfl
  show _ ∧ _
  rw [z1]
  generalize hen : ({ cls := .type "enumerate", data := .fields #[.none, .bool false, .ref s.heap.objs.size, rawInt 0, .none, .none] } : Obj) = oe
  have g2 : ((s.heap.push oi).push oe).get? (s.heap.objs.size + 1) = some oe := by rw [← z1, ← hen]; exact Heap.get?_push_size _ rfl
  refine ⟨⟨_, g2, by rw [← hen]⟩, h _ (by rw [← hen] at g2 ⊢; exact g2) ⟨oi, Heap.get?_push_of_some _ g1, by rw [← hit], by rw [← hit] <;> rfl⟩ (by rw [Heap.size_push, z1]) fun b o e => Heap.get?_push_of_some _ (Heap.get?_push_of_some _ e)⟩
end
/-- the tuple at a, each item in a new pair -/
def ItE (K : PySem.W.Frag) (a : Addr) : It where
  go := fun i H => ∃ (xs : List V) (x : V), SqT K H a xs ∧ xs[i]? = some x
  yld := fun i H v H' => ∃ T x, v = .ref T ∧ H T = none ∧ H' = upd H T (.tup [.int (i : Nat), x]) ∧ ∀ xs, SqT K H a xs → xs[i]? = some x
  stop := fun i H => ∃ xs : List V, SqT K H a xs ∧ xs.length = i
theorem turn_enuT {P : Program} {w : World} {K : PySem.W.Frag} {elts : List Expr} {kk : Nat} {tp : Pos} (a e it : Addr) :
    Turn P w K (.Tuple elts kk tp) (ItE K a) [e, it] e (fun i h => (∃ old, IsEnum h e it ((i : Nat) : Int) old) ∧ h.IsTupleIter it a i ∧ e ≠ it ∧ a ≠ it ∧ a ≠ e) where
  mem := List.mem_cons_self ..
  obj := fun i h ⟨⟨old, he⟩, ⟨o, ho, _, hd⟩, _⟩ b hb => by
    rcases List.mem_cons.mp hb with rfl | hb
    · exact ⟨_, he, fun v q => nomatch q⟩
    · rw [List.mem_singleton.mp hb]
      exact ⟨o, ho, fun v q => by rw [hd] at q; cases q⟩
  keep := fun i h h' ⟨⟨old, he⟩, hi, r⟩ k => ⟨⟨old, k e (List.mem_cons_self ..) _ he⟩, hi.at fun o q => k it (by simp) o q, r⟩
  item := by
    intro X hP hw hK hc i pins s σ H E I hf st hg
    subst hP hw hK
    obtain ⟨⟨old, he⟩, hit, n1, n2, n3⟩ := st
    obtain ⟨xs, x, hq, hx⟩ := hg
    obtain ⟨its, rv, pt, hz⟩ := I.tuple hq
    obtain ⟨u, hu, ru⟩ := rv.get hx
    have lt : i < its.toArray.size := by
      have := get_lt' hu
      simpa using this
    have le : e < s.heap.objs.size := Heap.lt_size he
    have li : it < s.heap.objs.size := by
      obtain ⟨o, q, _⟩ := hit
      exact Heap.lt_size q
    refine wpAny_pyNext_enum_itemC (Draws.tuple (prog := X.prog) (w := X.w) (A := X.A.in1) (I.ok.hd hc) it a n2 its.toArray) he ⟨hit, pt⟩ lt n1 (by simp [n1, Ne.symm n3]) fun y h1 tk hy out st1 hT hsz hk => ?_
    obtain rfl : u = y := by
      have hy : its.toArray[i]? = some y := hy
      have : its[i]? = some y := by simpa using hy
      rw [hu] at this
      exact Option.some.inj this
    refine ⟨_, rfl, wpAny_letOwnedTupleGo_enum (s := { s with heap := h1, toks := tk + 1 }) out fun h2 he2 sb => ?_⟩
    have new : h2.get? s.heap.objs.size = some { cls := .type "tuple", data := .seq #[.int i tk, u] } := (sb.2 _ (Nat.ne_of_gt le)).trans hT
    have okN : ObjOk X.prog X.w (upd H s.heap.objs.size (.tup [.int (i : Nat), x])) h2 s.heap.objs.size (.tup [.int (i : Nat), x]) :=
      ⟨by show 2 ≤ sizeLine; decide, [.int i tk, u], .cons ⟨_, rfl⟩ (.cons ru .nil), ⟨_, new, rfl, _, rfl⟩⟩
    have I1 : Inv X pins σ (upd H s.heap.objs.size (.tup [.int (i : Nat), x])) { s with heap := h2, toks := tk + 1 } :=
      I.turnedNew (ch := [e, it]) (fun b ob hb q => (sb.2 b (fun z => hb (by simp [z]))).trans (hk b ob (fun z => hb (by simp [z])) (fun z => hb (by simp [z])) q)) hf (Nat.le_refl _) okN
    refine ⟨.ref s.heap.objs.size, _, I1, rfl, ⟨_, x, rfl, I.hok.fresh (Nat.le_refl _), rfl, fun ys hy => by rw [I.tuple_inj hy hq]; exact hx⟩, ⟨⟨u, ?_⟩, st1.1.at fun o q => (sb.2 it (Ne.symm n1)).trans q, n1, n2, n3⟩, fun b hb => ?_⟩
    · rw [show ((i + 1 : Nat) : Int) = (i : Int) + 1 by omega]
      exact he2
    · have hb' : b < s.heap.objs.size := by
        rcases List.mem_cons.mp hb with rfl | q
        · exact le
        · rw [List.mem_singleton.mp q]; exact li
      rw [upd_ne (Nat.ne_of_lt hb')]
      exact (hf b hb).1
  done := by
    intro X hP hw hK hc i pins s σ H E I hf st hg
    subst hP hw hK
    obtain ⟨⟨old, he⟩, hit, n1, n2, n3⟩ := st
    obtain ⟨xs, hq, hx⟩ := hg
    obtain ⟨its, rv, pt, hz⟩ := I.tuple hq
    obtain ⟨f0, f1, f2, f3, f4, f5⟩ := hf it (by simp)
    have len : i = its.toArray.size := by rw [← hx, rv.length, List.size_toArray]
    subst len
    exact wpAny_pyNext_enum_endD (Draws.tuple (prog := X.prog) (w := X.w) (A := X.A.in1) (I.ok.hd hc) it a n2 its.toArray) he ⟨hit, pt⟩ fun h' eb => ⟨rfl, I.turned (t' := s.toks) (fun b o hb q => eb b o hb q) f0 f1 f3 f4 f5⟩
  self := fun A i s Q E st h => by
    obtain ⟨⟨old, he⟩, _⟩ := st
    exact wpAny_pyIter_enum he h
theorem walk_enuT {K : PySem.W.Frag} {a : Addr} {xs : List V} : Walk (ItE K a) xs.length (fun H => SqT K H a xs) (YPair (fun i => some (.int (i : Nat))) (fun i => xs[i]?)) := by
  constructor
  · intro i H hi q
    exact ⟨xs, xs[i], q, by simp [hi]⟩
  · intro H q
    exact ⟨xs, q, rfl⟩
  · intro i H v H' _ q y
    obtain ⟨T, x, c1, c2, c3, c4⟩ := y
    exact ⟨T, .int (i : Nat), x, c1, c2, c3, rfl, c4 xs q⟩
def iEnuT (K : PySem.W.Frag) (ta : TA) : TI := fun σ H R => ta σ H fun vs H1 => ∃ a xs, vs = [.ref a] ∧ SqT K H1 a xs ∧ R (ItE K a) H1
theorem pi_enuT {X : Cx} {e : Expr} {ta : TA} {p pos tp : Pos} {elts : List Expr} {kk : Nat} (gl : Gl X "enumerate") (hm : X.mg "enumerate" = none) (ha : PA X [e] ta) (hs : starEach [e] X.env = [(false, eval e X.env)]) :
    PI X (.Tuple elts kk tp) (.Call (.Name "enumerate" p) [e] [] pos) (iEnuT X.K ta) := by
  refine ⟨fun pins s σ H R I h => ?_⟩
  refine Call_ (ld_blt I gl hm boot_enumerate (PyProof.Rows.callWith_type1 (thn (ha.run pos pins s σ H _ I h) fun us t ⟨vs, H1, I1, r1, q1⟩ => ?_) hs rfl))
  obtain ⟨a, xs, rfl, hq, q⟩ := q1
  obtain ⟨u, rfl, ru⟩ := Vals.one r1
  cases ru
  obtain ⟨its, rv, pt, hz⟩ := I1.tuple hq
  have la : a < t.heap.objs.size := by
    obtain ⟨o, e, _⟩ := (show t.heap.IsTuple a its.toArray from pt)
    exact Heap.lt_size e
  refine call_enuT (show t.heap.IsTuple a its.toArray from pt) fun h' he hit hsz hk => wpAny_pyIter_enum he ?_
  have I2 : Inv X pins σ H1 { t with heap := h' } := I1.kept (t' := t.toks) hk
  refine ⟨t.heap.objs.size + 1, [t.heap.objs.size + 1, t.heap.objs.size], _, _, H1, rfl, I2, turn_enuT a (t.heap.objs.size + 1) t.heap.objs.size, ⟨⟨.none, he⟩, hit, Nat.succ_ne_self _, Nat.ne_of_lt la, Nat.ne_of_lt (Nat.lt_succ_of_lt la)⟩, fun b hb => ?_, q⟩
  have ge : t.heap.objs.size ≤ b := by
    rcases List.mem_cons.mp hb with rfl | z
    · exact Nat.le_succ _
    · rw [List.mem_singleton.mp z]; exact Nat.le_refl _
  exact I1.fpOk ge (I1.hok.fresh ge)
end Mi
end
section
/-! MiR: a tuple turned round by a slice. -/
namespace HT
open PySem PySem.Spec PyProof.Rows
section
variable {prog : Program} {w : World} {A : Around} {E : Value → Shared → Prop} {s : Shared}
theorem sliceApplied_rev {sl : Addr} {vs : Value} {n : Nat} {Q : Int × Int × Nat → Shared → Prop} (hs : s.heap.IsSliceOf sl .none .none vs) (ps : IsPart vs (some (-1)))
    (h : Q ((n : Int) - 1, -1, n) s) : wpAny (model prog w) A (Builtin.Slice.sliceApplied (.ref sl) (pure (n : Int))) Q E s := by
  obtain ⟨os, hos, hcs, hds⟩ := id hs
  unfold Builtin.Slice.sliceApplied Builtin.Slice.sliceFields
  refine wpAny_bind (wpAny_bind (wpAny_field hos hds (x := .none) rfl (wpAny_bind (wpAny_field hos hds (x := .none) rfl (wpAny_bind (wpAny_field hos hds (x := vs) rfl (wpAny_pure ?_)))))))
  refine wpAny_bind (slicePart_ ps ?_)
  show wpAny _ _ (if ((-1 : Int) == 0) = true then _ else _) _ _ s
  rw [if_neg (by decide)]
  refine wpAny_bind (slicePart_none (wpAny_bind (slicePart_none (wpAny_bind (wpAny_pure ?_)))))
  show wpAny _ _ (match Builtin.Slice.sliceAdjust none none (-1) (n : Int) with | (lo, hi) => pure (lo, (-1 : Int), Builtin.Slice.slicePlaces lo hi (-1))) _ _ s
  have e : Builtin.Slice.sliceAdjust none none (-1) (n : Int) = ((n : Int) - 1, -1) := by
    unfold Builtin.Slice.sliceAdjust
    simp
  rw [e]
  show wpAny _ _ (pure ((n : Int) - 1, (-1 : Int), Builtin.Slice.slicePlaces ((n : Int) - 1) (-1) (-1))) _ _ s
  have e2 : Builtin.Slice.slicePlaces ((n : Int) - 1) (-1) (-1) = n := by
    unfold Builtin.Slice.slicePlaces
    by_cases h0 : n = 0
    · subst h0; simp
    · simp
      omega
  rw [e2]
  exact wpAny_pure h
theorem pick_rev (xs : Array Value) : ((List.range xs.size).filterMap fun (m : Nat) => xs[((xs.size : Int) - 1 + (m : Int) * (-1)).toNat]?).toArray = xs.toList.reverse.toArray := by
  congr 1
  have e : ∀ m ∈ List.range xs.size, xs[((xs.size : Int) - 1 + (m : Int) * (-1)).toNat]? = some (xs.toList.reverse.getD m .none) := fun m hm => by
    have hm := List.mem_range.mp hm
    have h1 : ((xs.size : Int) - 1 + (m : Int) * (-1)).toNat = xs.size - 1 - m := by omega
    have h2 : xs.size - 1 - m < xs.size := by omega
    rw [h1, Array.getElem?_eq_getElem h2, List.getD_eq_getElem?_getD, List.getElem?_reverse (by simpa using hm)]
    simp [h2]
  have e2 : ∀ (l : List Nat) (f : Nat → Option Value) (g : Nat → Value), (∀ m ∈ l, f m = some (g m)) → l.filterMap f = l.map g := by
    intro l f g h
    induction l with
    | nil => rfl
    | cons x l ih =>
      rw [List.filterMap_cons_some (h x (List.mem_cons_self ..)), List.map_cons, ih fun m hm => h m (List.mem_cons_of_mem _ hm)]
  rw [e2 _ _ _ e]
  apply List.ext_getElem
  · simp
  · intro i h1 h2
    rw [List.getElem_map, List.getElem_range, List.getD_eq_getElem?_getD, List.getElem?_eq_getElem h2]
    rfl
theorem getItem_tuple_rev {t sl : Addr} {items : Array Value} {vs : Value} {Q : Value → Shared → Prop} (ht : IsTup s.heap t items) (hs : s.heap.IsSliceOf sl .none .none vs) (ps : IsPart vs (some (-1)))
    (h : Q (.ref s.heap.objs.size) { s with heap := s.heap.push { cls := .type "tuple", data := .seq items.toList.reverse.toArray } })
    (hsz : items.size ≤ sizeLine) : wpAny (model prog w) A (getItem (.ref t) (.ref sl)) Q E s := by
  have htake : sizeOk (.seq items.toList.reverse.toArray) := by
    show items.toList.reverse.toArray.size ≤ sizeLine
    rw [List.size_toArray, List.length_reverse, Array.length_toList]
    exact hsz
  obtain ⟨os, hos, hcs, hds⟩ := id hs
  have hTs : s.TypeIs (.ref sl) "slice" := ⟨os, hos, hcs⟩
  unfold getItem
  try with_reducible refine wpAny_holding ?_
  first | refine wpAny_bind (wpAny_pure ?_) | skip
  refine wpAny_bind (wpAny_sequenceKey ht.typeIs (by decide) ?_)
  refine wpAny_bind (wpAny_callSpecial?_slot (name := Str.ofString "__getitem__") ht.typeIs PyProof.Rows.slot_tuple_getitem
    (wpAny_call_entry PyProof.Rows.slot_tuple_getitem ht.typeIs entry_tuple_getitem ?_ (args_tuple_getitem _ _)))
  show wpAny _ _ (Builtin.Tuple.tupleItemsOf (.ref t) >>= _) _ _ s
  refine wpAny_bind (tupleItemsOf_ ht ?_)
  refine wpAny_bind (wpAny_typeOf hTs ?_)
  rw [if_pos (by decide)]
  refine wpAny_bind (sliceApplied_rev hs ps ?_)
  have hno : ¬ ((((items.size : Int) - 1) == 0 && (-1 : Int) == 1 && items.size == items.size) = true) := by
    intro q
    rw [Bool.and_eq_true, Bool.and_eq_true] at q
    exact absurd q.1.2 (by decide)
  show wpAny _ _ (if (((items.size : Int) - 1) == 0 && (-1 : Int) == 1 && items.size == items.size) = true then _ else _) _ _ s
  rw [if_neg hno, pick_rev]
  first
    | exact wpAny_bind (m := Builtin.Tuple.tupleExact _) (wpAny_newObj_type (wpAny_pure ⟨_, rfl, wpAny_pure h⟩) htake)
    | exact wpAny_bind (m := Builtin.Tuple.tupleExact _) (wpAny_newObj_type (wpAny_bind (wpAny_pure (wpAny_pure ⟨_, rfl, wpAny_pure h⟩))) htake)
    | exact wpAny_bind (wpAny_bind (m := Builtin.Tuple.tupleExact _) (wpAny_newObj_type (wpAny_pure (wpAny_pure ⟨_, rfl, wpAny_pure h⟩)) htake))
    | exact wpAny_bind (wpAny_bind (m := Builtin.Tuple.tupleExact _) (wpAny_newObj_type (wpAny_pure ⟨_, rfl, wpAny_pure h⟩) htake))
end
end HT
namespace L2
open PySem PySem.Spec PyProof.Rows
section
variable {X : Cx}
/-- xs[::-1], a list or a tuple -/
def tRevA (K : PySem.W.Frag) (te : TE) : TE := fun σ H Q => te σ H fun v H1 => ∃ (a : Addr) (xs : List V), v = .ref a ∧ ((SqL K H1 a xs ∧ ∀ p, H1 p = none → Q (.ref p) (upd H1 p (.lst xs.reverse))) ∨
  (SqT K H1 a xs ∧ ∀ p us, H1 p = none → Q (.ref p) (upd H1 p (.frz { cls := .type "tuple", data := .seq us } (.tup xs.reverse)))))
theorem pe_revA {e : Expr} {te : TE} {k : Nat} {p1 p2 p3 pos : Pos} (he : PE X e te) : PE X (.Subscript e (.Slice none none (some (.UnaryOp .USub (.Constant (.int 1) k p1) p2)) p3) pos) (tRevA X.K te) := by
  refine ⟨fun pins s σ H Q I h => ?_⟩
  refine Subscript_ (thn (he.run pins s σ H _ I h) fun v s1 ⟨x, H1, I1, r1, q1⟩ => ?_)
  obtain ⟨a, xs, ex, q⟩ := q1
  subst ex
  cases r1
  have hst : PO X (some (.UnaryOp .USub (.Constant (.int 1) k p1) p2)) (tPart (tUn (rU fun i => .int (-i)) (tC (.int 1)))) := po_some (pe_un un_neg pe_int)
  refine wpAny_Slice (thn (po_none.run pins s1 σ H1 (fun o H2 => o = none ∧ H2 = H1) I1 ⟨rfl, rfl⟩) fun vl s2 ⟨l, H2, I2, pl, el, e2⟩ => ?_)
  subst el e2
  refine thn (po_none.run pins s2 σ H2 (fun o H3 => o = none ∧ H3 = H2) I2 ⟨rfl, rfl⟩) fun vu s3 ⟨u, H3, I3, pu, eu, e3⟩ => ?_
  subst eu e3
  refine thn (hst.run pins s3 σ H3 (fun o H4 => o = some (-1) ∧ H4 = H3) I3 ⟨1, rfl, -1, rfl, rfl, rfl⟩) fun vs s4 ⟨o, H4, I4, ps, eo, e4⟩ => ?_
  subst eo e4
  have I5 : Inv X pins σ H4 { s4 with heap := s4.heap.push { cls := .type "slice", data := .fields #[vl, vu, vs] } } := I4.kept (t' := s4.toks) fun b ob q => Heap.get?_push_of_some _ q
  show wpAny (model X.prog X.w) X.A (subscriptTail e (.Slice none none (some (.UnaryOp .USub (.Constant (.int 1) k p1) p2)) p3) (.ref a) (.ref s4.heap.objs.size)) (EP X pins σ Q) X.xe { s4 with heap := s4.heap.push { cls := .type "slice", data := .fields #[vl, vu, vs] } }
  rcases q with ⟨hx, q⟩ | ⟨hx, q⟩
  · obtain ⟨its, r, ht, hz⟩ := I5.list hx
    have hlen := r.length
    refine tail_any (ops := [.ref a, .ref s4.heap.objs.size]) ht.isList.typeIs (PySem.slot_list_getitem.lookup) ?_ (by with_unfolding_all rfl)
    refine wpAny_getItem_list_slice ht.isList (Heap.IsSliceOf.new _ vl vu vs) pl pu ps (by decide) ?_ (by rw [List.size_toArray]; omega)
    rw [PySem.W.krv_pick]
    refine ⟨.ref _, _, I5.laid (t' := s4.toks) (o := .lst xs.reverse) (fun b ob q => Heap.get?_push_of_some _ q) (Nat.le_refl _) ?_, rfl, q _ (I5.hok.fresh (Nat.le_refl _))⟩
    exact ⟨by rw [List.length_reverse]; exact hz, _, 0, r.reverse, Heap.get?_push_size _ rfl⟩
  · obtain ⟨its, r, ht, hz⟩ := I5.tuple hx
    have hlen := r.length
    cases pl; cases pu
    refine tail_any (ops := [.ref a, .ref s4.heap.objs.size]) ht.typeIs PyProof.Rows.slot_tuple_getitem.lookup ?_ (by with_unfolding_all rfl)
    refine HT.getItem_tuple_rev ht (Heap.IsSliceOf.new _ .none .none vs) ps ?_ (by rw [List.size_toArray]; omega)
    refine ⟨.ref _, _, I5.laid (t' := s4.toks) (o := .frz { cls := .type "tuple", data := .seq its.toArray.toList.reverse.toArray } (.tup xs.reverse)) (fun b ob q => Heap.get?_push_of_some _ q) (Nat.le_refl _) ?_, rfl, q _ _ (I5.hok.fresh (Nat.le_refl _))⟩
    exact ⟨Heap.get?_push_size _ rfl, by rw [List.length_reverse]; exact hz, its.reverse, r.reverse, ⟨_, Heap.get?_push_size _ rfl, rfl, _, rfl⟩⟩
end
end L2
end
section
/-! Mi2: what the evaluator's frames have to do with HandS's frames and heaps. -/
namespace Mi
open PySem PySem.Spec
open PyProof.Rows hiding St Fr
open L2

/-! ### data in a heap -/
/-- a tuple without a dict of its own -/
def Tp (K : PySem.W.Frag) (F : Hp) (a : Addr) (xs : List V) : Prop := (∃ ob : Obj, ob.dict = none ∧ F a = some (.frz ob (.tup xs))) ∨
  ∃ (o : Obj) (vs : Array Value) (n : Nat), K.lookup a = some o ∧ o.cls = .type "tuple" ∧ o.dict = none ∧ o.data = .seq vs n ∧ vs.size ≤ sizeLine ∧ Vals xs vs.toList
theorem Tp.same {K : PySem.W.Frag} {H H' : Hp} {a : Addr} {xs : List V} (e : Same H H') (h : Tp K H a xs) : Tp K H' a xs := by
  rcases h with ⟨ob, h1, h2⟩ | h
  · exact .inl ⟨ob, h1, e _ _ h2⟩
  · exact .inr h
mutual
inductive Dn (K : PySem.W.Frag) (F : Hp) : V → PyData → Prop
  | non : Dn K F .non .none
  | bl (b : Bool) : Dn K F (.bl b) (.bool b)
  | int (i : Int) : Dn K F (.int i) (.int i)
  | str (x : Str) : Dn K F (.str x) (.str x)
  | lst {a : Addr} {xs : List V} {ds : List PyData} : F a = some (.lst xs) → DnAll K F xs ds → Dn K F (.ref a) (.list ds)
  | tup {a : Addr} {xs : List V} {ds : List PyData} : Tp K F a xs → DnAll K F xs ds → Dn K F (.ref a) (.tuple ds)
inductive DnAll (K : PySem.W.Frag) (F : Hp) : List V → List PyData → Prop
  | nil : DnAll K F [] []
  | cons {v : V} {vs : List V} {d : PyData} {ds : List PyData} : Dn K F v d → DnAll K F vs ds → DnAll K F (v :: vs) (d :: ds)
end
theorem Tp.sq {K : PySem.W.Frag} {H : Hp} {a : Addr} {xs : List V} (h : Tp K H a xs) : SqT K H a xs := by
  rcases h with ⟨ob, h1, h2⟩ | ⟨o, vs, n, h1, h2, h3, h4, h5, h6⟩
  · exact .inl (.inr ⟨ob, h2⟩)
  · exact .inr ⟨o, vs, n, h1, h2, h4, h5, h6⟩
mutual
theorem dn_dp {K : PySem.W.Frag} {F : Hp} : ∀ (p : PyData) (v : V), Dn K F v p → Dp K F v p
  | .none, _, h => by cases h; exact .non
  | .bool b, _, h => by cases h; exact .bl b
  | .int i, _, h => by cases h; exact .int i
  | .str x, _, h => by cases h; exact .str x
  | .list ds, _, h => by
    cases h with
    | lst h1 h2 => exact .lst (.inl (.inl h1)) (dnAll_dp ds _ h2)
  | .tuple ds, _, h => by
    cases h with
    | tup h1 h2 => exact .tup h1.sq (dnAll_dp ds _ h2)
  | .dict _, _, h => by cases h
theorem dnAll_dp {K : PySem.W.Frag} {F : Hp} : ∀ (ps : List PyData) (vs : List V), DnAll K F vs ps → DpAll K F vs ps
  | [], _, h => by cases h; exact .nil
  | p :: ps, _, h => by
    cases h with
    | cons h1 h2 => exact .cons (dn_dp p _ h1) (dnAll_dp ps _ h2)
end

mutual
theorem dp_same {K : PySem.W.Frag} {F F' : Hp} (e : Same F F') : ∀ (p : PyData) (v : V), Dn K F v p → Dn K F' v p
  | .none, _, h => by cases h; exact .non
  | .bool b, _, h => by cases h; exact .bl b
  | .int i, _, h => by cases h; exact .int i
  | .str x, _, h => by cases h; exact .str x
  | .list ds, _, h => by
    cases h with
    | lst h1 h2 => exact .lst (e _ _ h1) (dpAll_same e ds _ h2)
  | .tuple ds, _, h => by
    cases h with
    | tup h1 h2 => exact .tup (h1.same e) (dpAll_same e ds _ h2)
  | .dict _, _, h => by cases h
theorem dpAll_same {K : PySem.W.Frag} {F F' : Hp} (e : Same F F') : ∀ (ps : List PyData) (vs : List V), DnAll K F vs ps → DnAll K F' vs ps
  | [], _, h => by cases h; exact .nil
  | p :: ps, _, h => by
    cases h with
    | cons h1 h2 => exact .cons (dp_same e p _ h1) (dpAll_same e ps _ h2)
end
section
variable {K : PySem.W.Frag} {F F' H H' : Hp} {vs ws : List V} {ps qs : List PyData} {v : V} {p : PyData}
theorem dpl_len : ∀ {vs : List V} {ps : List PyData}, DnAll K F vs ps → vs.length = ps.length
  | _, _, .nil => rfl
  | _, _, .cons _ t => congrArg Nat.succ (dpl_len t)
theorem dpl_app : ∀ {vs ws : List V} {ps qs : List PyData}, DnAll K F vs ps → DnAll K F ws qs → DnAll K F (vs ++ ws) (ps ++ qs)
  | _, _, _, _, .nil, s => s
  | _, _, _, _, .cons r t, s => .cons r (dpl_app t s)
theorem dpl_get : ∀ {vs : List V} {ps : List PyData} {i : Nat} {p : PyData}, DnAll K F vs ps → ps[i]? = some p → ∃ v, vs[i]? = some v ∧ Dn K F v p
  | _, _, _, _, .nil, e => by simp at e
  | _, _, 0, _, .cons r _, e => by simp at e; subst e; exact ⟨_, rfl, r⟩
  | _, _, i + 1, p, .cons _ t, e => by
    obtain ⟨v, h1, h2⟩ := dpl_get (i := i) (p := p) t (by simpa using e)
    exact ⟨v, by simpa using h1, h2⟩
theorem dpl_get' : ∀ {vs : List V} {ps : List PyData} {i : Nat} {v : V}, DnAll K F vs ps → vs[i]? = some v → ∃ p, ps[i]? = some p ∧ Dn K F v p
  | _, _, _, _, .nil, e => by simp at e
  | _, _, 0, _, .cons r _, e => by simp at e; subst e; exact ⟨_, rfl, r⟩
  | _, _, i + 1, p, .cons _ t, e => by
    obtain ⟨v, h1, h2⟩ := dpl_get' (i := i) (v := p) t (by simpa using e)
    exact ⟨v, by simpa using h1, h2⟩
theorem dpl_set (r : Dn K F v p) : ∀ {vs : List V} {ps : List PyData} (i : Nat), DnAll K F vs ps → DnAll K F (vs.set i v) (ps.set i p)
  | _, _, _, .nil => .nil
  | _, _, 0, .cons _ t => .cons r t
  | _, _, i + 1, .cons q t => .cons q (dpl_set r i t)
theorem dpl_erase : ∀ {vs : List V} {ps : List PyData} (i : Nat), DnAll K F vs ps → DnAll K F (vs.eraseIdx i) (ps.eraseIdx i)
  | _, _, _, .nil => .nil
  | _, _, 0, .cons _ t => t
  | _, _, i + 1, .cons q t => .cons q (dpl_erase i t)
theorem dpl_take : ∀ {vs : List V} {ps : List PyData} (n : Nat), DnAll K F vs ps → DnAll K F (vs.take n) (ps.take n)
  | _, _, 0, _ => .nil
  | _, _, _ + 1, .nil => .nil
  | _, _, n + 1, .cons r t => .cons r (dpl_take n t)
theorem dpl_drop : ∀ {vs : List V} {ps : List PyData} (n : Nat), DnAll K F vs ps → DnAll K F (vs.drop n) (ps.drop n)
  | _, _, 0, r => r
  | _, _, _ + 1, .nil => .nil
  | _, _, n + 1, .cons r t => dpl_drop n t
theorem dpl_rev : ∀ {vs : List V} {ps : List PyData}, DnAll K F vs ps → DnAll K F vs.reverse ps.reverse
  | _, _, .nil => .nil
  | _, _, .cons r t => by rw [List.reverse_cons, List.reverse_cons]; exact dpl_app (dpl_rev t) (.cons r .nil)
theorem dpl_rep : ∀ (n : Nat), DnAll K F vs ps → DnAll K F (List.replicate n vs).flatten (List.replicate n ps).flatten
  | 0, _ => .nil
  | n + 1, h => by rw [List.replicate_succ, List.replicate_succ, List.flatten_cons, List.flatten_cons]; exact dpl_app h (dpl_rep n h)
mutual
theorem dp_plain : ∀ (p : PyData) (v : V), Dn K F v p → p.plain = true
  | .none, _, _ => rfl
  | .bool _, _, _ => rfl
  | .int _, _, _ => rfl
  | .str _, _, _ => rfl
  | .list ds, _, h => by
    cases h with
    | lst h1 h2 => show PyData.plainAll ds = true; exact dpl_plain ds _ h2
  | .tuple ds, _, h => by
    cases h with
    | tup h1 h2 => show PyData.plainAll ds = true; exact dpl_plain ds _ h2
  | .dict _, _, h => by cases h
theorem dpl_plain : ∀ (ps : List PyData) (vs : List V), DnAll K F vs ps → PyData.plainAll ps = true
  | [], _, _ => rfl
  | p :: ps, _, h => by
    cases h with
    | cons h1 h2 =>
      show (p.plain && PyData.plainAll ps) = true
      rw [dp_plain p _ h1, dpl_plain ps _ h2] <;> rfl
end
end

/-- a dict's pairs -/
inductive DnKV (K : PySem.W.Frag) (F : Hp) : List (Key × V) → List (Key × PyData) → Prop
  | nil : DnKV K F [] []
  | cons {k : Key} {v : V} {p : PyData} {vs : List (Key × V)} {ps : List (Key × PyData)} : Dn K F v p → DnKV K F vs ps → DnKV K F ((k, v) :: vs) ((k, p) :: ps)
section
variable {K : PySem.W.Frag} {F F' : Hp}
theorem dkv_same (e : Same F F') : ∀ {vs : List (Key × V)} {ps : List (Key × PyData)}, DnKV K F vs ps → DnKV K F' vs ps
  | _, _, .nil => .nil
  | _, _, .cons h t => .cons (dp_same e _ _ h) (dkv_same e t)
theorem dkv_len : ∀ {vs : List (Key × V)} {ps : List (Key × PyData)}, DnKV K F vs ps → vs.length = ps.length
  | _, _, .nil => rfl
  | _, _, .cons _ t => congrArg Nat.succ (dkv_len t)
theorem dkv_get (k : Key) : ∀ {vs : List (Key × V)} {ps : List (Key × PyData)}, DnKV K F vs ps → (∀ p, getK ps k = some p → ∃ v, valV vs k = some v ∧ Dn K F v p) ∧ (getK ps k = none → valV vs k = none)
  | _, _, .nil => ⟨fun p h => (by cases h), fun _ => rfl⟩
  | _, _, .cons (k := j) (v := v) (p := p0) h t => by
    obtain ⟨h1, h2⟩ := dkv_get k t
    by_cases e : j = k
    · subst e
      refine ⟨fun p hp => ?_, fun hp => ?_⟩
      · simp [getK] at hp
        subst hp
        exact ⟨v, valV_pos rfl, h⟩
      · simp [getK] at hp
    · have g : ∀ ps : List (Key × PyData), getK ((j, p0) :: ps) k = getK ps k := fun ps => by simp [getK, List.find?_cons, e]
      refine ⟨fun p hp => ?_, fun hp => ?_⟩
      · rw [g] at hp
        obtain ⟨u, q1, q2⟩ := h1 p hp
        exact ⟨u, by rw [valV_neg (show ¬ ((j, v) : Key × V).1 = k from e)]; exact q1, q2⟩
      · rw [g] at hp
        rw [valV_neg (show ¬ ((j, v) : Key × V).1 = k from e)]
        exact h2 hp
theorem dkv_some (k : Key) {vs : List (Key × V)} {ps : List (Key × PyData)} (h : DnKV K F vs ps) : (valV vs k).isSome = (getK ps k).isSome := by
  obtain ⟨h1, h2⟩ := dkv_get k h
  cases e : getK ps k with
  | none => rw [h2 e] <;> rfl
  | some p =>
    obtain ⟨v, q, _⟩ := h1 p e
    rw [q] <;> rfl
theorem dkv_any (k : Key) : ∀ {vs : List (Key × V)} {ps : List (Key × PyData)}, DnKV K F vs ps → (vs.any fun q => decide (q.1 = k)) = (ps.any fun q => decide (q.1 = k))
  | _, _, .nil => rfl
  | _, _, .cons _ t => by rw [List.any_cons, List.any_cons, dkv_any k t]
theorem dkv_repl (k : Key) {v : V} {p : PyData} (h : Dn K F v p) : ∀ {vs : List (Key × V)} {ps : List (Key × PyData)}, DnKV K F vs ps → DnKV K F (vs.map fun q => if q.1 = k then (q.1, v) else q) (ps.map fun q => if q.1 = k then (q.1, p) else q)
  | _, _, .nil => .nil
  | _, _, .cons (k := j) h0 t => by
    rw [List.map_cons, List.map_cons]
    by_cases e : j = k
    · rw [if_pos e, if_pos e]; exact .cons h (dkv_repl k h t)
    · rw [if_neg e, if_neg e]; exact .cons h0 (dkv_repl k h t)
theorem dkv_snoc {k : Key} {v : V} {p : PyData} (h : Dn K F v p) : ∀ {vs : List (Key × V)} {ps : List (Key × PyData)}, DnKV K F vs ps → DnKV K F (vs ++ [(k, v)]) (ps ++ [(k, p)])
  | _, _, .nil => .cons h .nil
  | _, _, .cons h0 t => .cons h0 (dkv_snoc h t)
theorem dkv_put (k : Key) {v : V} {p : PyData} (h : Dn K F v p) {vs : List (Key × V)} {ps : List (Key × PyData)} (t : DnKV K F vs ps) : DnKV K F (putK vs k v) (putKd ps k p) := by
  unfold putK putKd
  rw [dkv_any k t]
  split
  · exact dkv_repl k h t
  · exact dkv_snoc h t
/-- a key's value -/
theorem dn_key {v : V} {p : PyData} {k : Key} (h : Dn K F v p) (e : keyP p = some k) : v = kV k := by
  cases h with
  | int i => cases e; rfl
  | str x => cases e; rfl
  | _ => cases e
end
/-- the frozen value -/
def Den (K : PySem.W.Frag) (F : Hp) (v : V) : D → Prop
  | .py p => Dn K F v p
  | .dct kvs => ∃ a vs, v = .ref a ∧ F a = some (.dK vs) ∧ DnKV K F vs kvs
  | .set _ => False
  | .scr ns => ∃ a, v = .ref a ∧ SqL K F a (ns.map V.int)
/-- what stands at an address in one hand alone -/
def OwnAt (K : PySem.W.Frag) (F H : Hp) (a : Addr) : D → Prop
  | .py (.list ds) => ∃ vs, H a = some (.lst vs) ∧ DnAll K F vs ds
  | .dct kvs => ∃ vs, H a = some (.dK vs) ∧ DnKV K F vs kvs
  | _ => False
def Sl.owned : Sl → Bool
  | .ow _ => true
  | .bo _ => true
  | _ => false
def SlR (K : PySem.W.Frag) (F H : Hp) (σ : St) (i : Nat) : Sl → Prop
  | .no => True
  | .fr d => ∃ v, σ[i]? = some (some v) ∧ Den K F v d
  | .ow d => ∃ a, σ[i]? = some (some (V.ref a)) ∧ F a = none ∧ OwnAt K F H a d
  | .bo d => ∃ a, σ[i]? = some (some (V.ref a)) ∧ F a = none ∧ OwnAt K F H a d
/-- the addresses that this frame may change -/
def Owns (st : En) (σ : St) (a : Addr) : Prop := ∃ (i : Nat) (s : Sl), st[i]? = some s ∧ s.owned = true ∧ σ[i]? = some (some (V.ref a))
structure Rel (K : PySem.W.Frag) (F : Hp) (st : En) (σ : St) (H : Hp) : Prop where
  le : Same F H
  len : σ.length = st.length
  sl : ∀ (i : Nat) (s : Sl), st[i]? = some s → SlR K F H σ i s
  inj : ∀ (i j : Nat) (s t : Sl) (a : Addr), st[i]? = some s → st[j]? = some t → s.owned = true → t.owned = true → σ[i]? = some (some (V.ref a)) → σ[j]? = some (some (V.ref a)) → i = j
/-- from one heap to a later one: O may be changed -/
structure Stp (O : Addr → Prop) (F H F' H' : Hp) (O' : Addr → Prop) : Prop where
  fr : Same F F'
  keep : ∀ a o, H a = some o → ¬ O a → H' a = some o
  live : ∀ a, H a ≠ none → H' a ≠ none
  own : ∀ a, O' a → O a ∨ H a = none
  frz : ∀ a, F' a ≠ none → F a ≠ none ∨ O a ∨ H a = none
theorem Stp.refl (O : Addr → Prop) (F H : Hp) : Stp O F H F H O := ⟨Same.refl F, fun _ _ h _ => h, fun _ h => h, fun _ h => .inl h, fun _ h => .inl h⟩
theorem Stp.trans {O O1 O2 : Addr → Prop} {F H F1 H1 F2 H2 : Hp} (a : Stp O F H F1 H1 O1) (b : Stp O1 F1 H1 F2 H2 O2) : Stp O F H F2 H2 O2 where
  fr := a.fr.trans b.fr
  keep := fun x o h n => b.keep x o (a.keep x o h n) fun q => (a.own x q).elim n fun z => by rw [z] at h; cases h
  live := fun x h => b.live x (a.live x h)
  own := fun x h => (b.own x h).elim (a.own x) fun z => .inr (by
    cases q : H x with
    | none => rfl
    | some o => exact absurd z (a.live x (by rw [q]; simp)))
  frz := fun x h => (b.frz x h).elim (a.frz x) fun z => z.elim (fun z => .inr (a.own x z)) fun z => .inr (.inr (by
    cases q : H x with
    | none => rfl
    | some o => exact absurd z (a.live x (by rw [q]; simp))))
/-- what is lent stays lent, at its place -/
def Bos (st : En) (σ : St) (st' : En) (σ' : St) : Prop := ∀ (i : Nat) (d : D), st'[i]? = some (Sl.bo d) → σ'[i]? = σ[i]? ∧ ∃ d0 : D, st[i]? = some (Sl.bo d0)
theorem Bos.refl (st : En) (σ : St) : Bos st σ st σ := fun i d h => ⟨rfl, d, h⟩
theorem Bos.trans {st st1 st2 : En} {σ σ1 σ2 : St} (a : Bos st σ st1 σ1) (b : Bos st1 σ1 st2 σ2) : Bos st σ st2 σ2 := fun i d h => by
  obtain ⟨e, d1, h1⟩ := b i d h
  obtain ⟨e0, d0, h0⟩ := a i d1 h1
  exact ⟨e.trans e0, d0, h0⟩
structure Go (K : PySem.W.Frag) (st : En) (σ : St) (F H : Hp) (st' : En) (σ' : St) (F' H' : Hp) : Prop where
  stp : Stp (Owns st σ) F H F' H' (Owns st' σ')
  rel : Rel K F' st' σ' H'
  bos : Bos st σ st' σ'
theorem Go.refl {K : PySem.W.Frag} {st : En} {σ : St} {F H : Hp} (r : Rel K F st σ H) : Go K st σ F H st σ F H := ⟨Stp.refl _ _ _, r, Bos.refl _ _⟩
theorem Go.trans {K : PySem.W.Frag} {st st1 st2 : En} {σ σ1 σ2 : St} {F H F1 H1 F2 H2 : Hp} (a : Go K st σ F H st1 σ1 F1 H1) (b : Go K st1 σ1 F1 H1 st2 σ2 F2 H2) : Go K st σ F H st2 σ2 F2 H2 :=
  ⟨a.stp.trans b.stp, b.rel, a.bos.trans b.bos⟩
/-- how a value stands for an operand -/
def ORel (K : PySem.W.Frag) (F H : Hp) (st : En) (σ : St) (v : V) : Od → Prop
  | .va d => Den K F v d
  | .fe d => ∃ a, v = .ref a ∧ F a = none ∧ OwnAt K F H a d ∧ ¬ Owns st σ a
  | .pk i => σ[i]? = some (some v)
section
variable {K : PySem.W.Frag} {F H F' H' : Hp} {st st' : En} {σ σ' : St} {v : V} {od : Od} {d : D} {a : Addr}
theorem Den.same (e : Same F F') : ∀ {d : D}, Den K F v d → Den K F' v d
  | .py p, h => dp_same e p v h
  | .dct _, h => by
    obtain ⟨a, vs, h1, h2, h3⟩ := h
    exact ⟨a, vs, h1, e _ _ h2, dkv_same e h3⟩
  | .set _, h => h.elim
  | .scr _, h => by
    obtain ⟨a, h1, h2⟩ := h
    exact ⟨a, h1, e.seq h2⟩
theorem OwnAt.same (e : Same F F') (h2 : ∀ o, H a = some o → H' a = some o) : ∀ {d : D}, OwnAt K F H a d → OwnAt K F' H' a d
  | .py (.list ds), h => by
    obtain ⟨vs, h1, h3⟩ := h
    exact ⟨vs, h2 _ h1, dpAll_same e ds _ h3⟩
  | .dct kvs, h => by
    obtain ⟨vs, h1, h3⟩ := h
    exact ⟨vs, h2 _ h1, dkv_same e h3⟩
theorem OwnAt.live : ∀ {d : D}, OwnAt K F H a d → H a ≠ none
  | .py (.list ds), h => by
    obtain ⟨vs, h1, _⟩ := h
    rw [h1]; simp
  | .dct kvs, h => by
    obtain ⟨vs, h1, _⟩ := h
    rw [h1]; simp
theorem Rel.ownsAt (r : Rel K F st σ H) {i : Nat} {s : Sl} (h : st[i]? = some s) (o : s.owned = true) : ∃ a d, σ[i]? = some (some (V.ref a)) ∧ F a = none ∧ OwnAt K F H a d ∧ s.con = some d := by
  have q := r.sl i s h
  cases s with
  | no => cases o
  | fr d => cases o
  | ow d => obtain ⟨a, h1, h2, h3⟩ := q; exact ⟨a, d, h1, h2, h3, rfl⟩
  | bo d => obtain ⟨a, h1, h2, h3⟩ := q; exact ⟨a, d, h1, h2, h3, rfl⟩
theorem Rel.owns (r : Rel K F st σ H) (h : Owns st σ a) : F a = none ∧ H a ≠ none := by
  obtain ⟨i, s, h1, h2, h3⟩ := h
  obtain ⟨b, d, e1, e2, e3, _⟩ := r.ownsAt h1 h2
  rw [h3] at e1
  cases e1
  exact ⟨e2, e3.live⟩
theorem ORel.step (g : Go K st σ F H st' σ F' H') (h : ORel K F H st σ v od) : ORel K F' H' st' σ v od := by
  cases od with
  | va d => exact Den.same g.stp.fr h
  | fe d =>
    obtain ⟨a, e, n, o, w⟩ := h
    refine ⟨a, e, ?_, o.same g.stp.fr fun u q => g.stp.keep a u q w, fun z => (g.stp.own a z).elim w fun z => o.live z⟩
    cases q : F' a with
    | none => rfl
    | some u => exact ((g.stp.frz a (by rw [q]; simp)).elim (fun z => absurd n z) fun z => z.elim (fun z => absurd z w) fun z => absurd z o.live)
  | pk i => exact h
/-- a value that may be read as d now -/
def RdR (K : PySem.W.Frag) (F H : Hp) (v : V) (d : D) : Prop := Den K F v d ∨ ∃ a, v = .ref a ∧ OwnAt K F H a d
theorem ORel.rd (r : Rel K F st σ H) (h : ORel K F H st σ v od) (e : rd st od = some d) : RdR K F H v d := by
  cases od with
  | va d' => cases e; exact .inl h
  | fe d' =>
    cases e
    obtain ⟨a, e, _, o, _⟩ := h
    exact .inr ⟨a, e, o⟩
  | pk i =>
    have h : σ[i]? = some (some v) := h
    cases q : st[i]? with
    | none => simp only [Mi.rd, q, Option.bind_none] at e; cases e
    | some s =>
      simp only [Mi.rd, q, Option.bind_some] at e
      have z := r.sl i s q
      cases s with
      | no => cases e
      | fr d' =>
        cases e
        obtain ⟨u, h1, h2⟩ := z
        rw [h] at h1; cases h1
        exact .inl h2
      | ow d' =>
        cases e
        obtain ⟨u, h1, _, h2⟩ := z
        rw [h] at h1; cases h1
        exact .inr ⟨u, rfl, h2⟩
      | bo d' =>
        cases e
        obtain ⟨u, h1, _, h2⟩ := z
        rw [h] at h1; cases h1
        exact .inr ⟨u, rfl, h2⟩
/-- read as data -/
theorem RdR.dn (le : Same F H) : ∀ {p : PyData}, RdR K F H v (.py p) → Dn K H v p
  | p, .inl h => dp_same le p v h
  | .list ds, .inr ⟨a, e, h⟩ => by
    obtain ⟨vs, h1, h2⟩ := h
    subst e
    exact .lst h1 (dpAll_same le ds _ h2)
  | .none, .inr ⟨a, e, h⟩ => h.elim
  | .bool _, .inr ⟨a, e, h⟩ => h.elim
  | .int _, .inr ⟨a, e, h⟩ => h.elim
  | .str _, .inr ⟨a, e, h⟩ => h.elim
  | .tuple _, .inr ⟨a, e, h⟩ => h.elim
  | .dict _, .inr ⟨a, e, h⟩ => h.elim
theorem RdR.dp (le : Same F H) {p : PyData} (h : RdR K F H v (.py p)) : Dp K H v p := dn_dp p v (h.dn le)
/-- a list that is read, with its items -/
theorem RdR.list {ds : List PyData} (le : Same F H) (h : RdR K F H v (.py (.list ds))) : ∃ a vs, v = .ref a ∧ H a = some (.lst vs) ∧ DnAll K F vs ds := by
  rcases h with h | ⟨a, e, vs, h1, h2⟩
  · cases h with
    | lst h1 h2 => exact ⟨_, _, rfl, le _ _ h1, h2⟩
  · exact ⟨a, vs, e, h1, h2⟩
theorem RdR.tup {ds : List PyData} (le : Same F H) (h : RdR K F H v (.py (.tuple ds))) : ∃ a vs, v = .ref a ∧ Tp K H a vs ∧ DnAll K F vs ds := by
  rcases h with h | ⟨a, e, h⟩
  · cases h with
    | tup h1 h2 => exact ⟨_, _, rfl, h1.same le, h2⟩
  · exact h.elim
theorem RdR.scr {ns : List Int} (le : Same F H) (h : RdR K F H v (.scr ns)) : ∃ a, v = .ref a ∧ SqL K H a (ns.map V.int) := by
  rcases h with ⟨a, e, h⟩ | ⟨a, e, h⟩
  · exact ⟨a, e, le.seq h⟩
  · exact h.elim
theorem RdR.dct {kvs : List (Key × PyData)} (le : Same F H) (h : RdR K F H v (.dct kvs)) : ∃ a vs, v = .ref a ∧ H a = some (.dK vs) ∧ DnKV K F vs kvs := by
  rcases h with ⟨a, vs, e, h1, h2⟩ | ⟨a, e, vs, h1, h2⟩
  · exact ⟨a, vs, e, le _ _ h1, h2⟩
  · exact ⟨a, vs, e, h1, h2⟩
theorem RdR.int {i : Int} (h : RdR K F H v (.py (.int i))) : v = .int i := by
  rcases h with h | ⟨a, e, h⟩
  · cases h; rfl
  · exact h.elim
theorem RdR.bl {i : Bool} (h : RdR K F H v (.py (.bool i))) : v = .bl i := by
  rcases h with h | ⟨a, e, h⟩
  · cases h; rfl
  · exact h.elim
theorem RdR.non (h : RdR K F H v (.py .none)) : v = .non := by
  rcases h with h | ⟨a, e, h⟩
  · cases h; rfl
  · exact h.elim
theorem RdR.str {x : Str} (h : RdR K F H v (.py (.str x))) : v = .str x := by
  rcases h with h | ⟨a, e, h⟩
  · cases h; rfl
  · exact h.elim
theorem RdR.plain {p : PyData} (h : RdR K F H v (.py p)) : p.plain = true := by
  rcases h with h | ⟨a, e, h⟩
  · exact dp_plain p v h
  · cases p with
    | list ds =>
      obtain ⟨vs, _, h2⟩ := h
      exact dpl_plain ds vs h2
    | _ => exact h.elim
/-- what an operation hands back: nothing that stood is changed -/
structure New (F H F' H' : Hp) : Prop where
  fr : Same F F'
  hp : Same H H'
  le : Same F' H'
  frz : ∀ a, F' a ≠ none → F a ≠ none ∨ H a = none
def NewR (K : PySem.W.Frag) (H F' H' : Hp) (v : V) : Od → Prop
  | .va d => Den K F' v d
  | .fe d => ∃ a, v = .ref a ∧ H a = none ∧ F' a = none ∧ OwnAt K F' H' a d
  | .pk _ => False
theorem New.refl (le : Same F H) : New F H F H := ⟨Same.refl F, Same.refl H, le, fun _ h => .inl h⟩
theorem New.trans {F1 H1 F2 H2 : Hp} (a : New F H F1 H1) (b : New F1 H1 F2 H2) : New F H F2 H2 :=
  ⟨a.fr.trans b.fr, a.hp.trans b.hp, b.le, fun x h => (b.frz x h).elim (a.frz x) fun z => .inr (a.hp.free z)⟩
theorem New.go (r : Rel K F st σ H) (n : New F H F' H') : Go K st σ F H st σ F' H' := by
  have fn : ∀ a, Owns st σ a → F' a = none := fun a h => by
    obtain ⟨h1, h2⟩ := r.owns h
    cases q : F' a with
    | none => rfl
    | some u => exact ((n.frz a (by rw [q]; simp)).elim (fun z => absurd h1 z) fun z => absurd z h2)
  refine ⟨⟨n.fr, fun a o h _ => n.hp a o h, fun a h => ?_, fun _ h => .inl h, fun a h => (n.frz a h).elim .inl fun z => .inr (.inr z)⟩, ⟨n.le, r.len, fun i s h => ?_, r.inj⟩, Bos.refl _ _⟩
  · cases q : H a with
    | none => exact absurd q h
    | some o => rw [n.hp a o q]; simp
  · have z := r.sl i s h
    cases s with
    | no => trivial
    | fr d => obtain ⟨v, h1, h2⟩ := z; exact ⟨v, h1, h2.same n.fr⟩
    | ow d => obtain ⟨a, h1, h2, h3⟩ := z; exact ⟨a, h1, fn a ⟨i, _, h, rfl, h1⟩, h3.same n.fr fun o q => n.hp a o q⟩
    | bo d => obtain ⟨a, h1, h2, h3⟩ := z; exact ⟨a, h1, fn a ⟨i, _, h, rfl, h1⟩, h3.same n.fr fun o q => n.hp a o q⟩
theorem NewR.orel (r : Rel K F st σ H) (n : New F H F' H') (h : NewR K H F' H' v od) : ORel K F' H' st σ v od := by
  cases od with
  | va d => exact h
  | fe d =>
    obtain ⟨a, e, h1, h2, h3⟩ := h
    exact ⟨a, e, h2, h3, fun z => (r.owns z).2 h1⟩
  | pk i => exact h.elim
theorem NewR.bl (b : Bool) : NewR K H F' H' (.bl b) (ofB b) := Dn.bl b
theorem NewR.int (i : Int) : NewR K H F' H' (.int i) (ofI i) := Dn.int i
/-- a new object, frozen at once -/
theorem New.put {p : Addr} {u : HO} (le : Same F H) (hp : H p = none) : New F H (upd F p u) (upd H p u) := by
  have hF : F p = none := le.free hp
  refine ⟨fun a o h => ?_, fun a o h => ?_, fun a o h => ?_, fun a h => ?_⟩
  · rw [upd_ne (ne_of_none h hF)]; exact h
  · rw [upd_ne (ne_of_none h hp)]; exact h
  · by_cases e : a = p
    · subst e; rw [upd_same] at h ⊢; exact h
    · rw [upd_ne e] at h ⊢; exact le _ _ h
  · by_cases e : a = p
    · subst e; exact .inr hp
    · rw [upd_ne e] at h; exact .inl h
theorem NewR.tup {p : Addr} {vs : List V} {ds : List PyData} {ob : Obj} (le : Same F H) (hp : H p = none) (hd : ob.dict = none) (h : DnAll K F vs ds) : NewR K H (upd F p (.frz ob (.tup vs))) (upd H p (.frz ob (.tup vs))) (.ref p) (.va (.py (.tuple ds))) :=
  Dn.tup (.inl ⟨ob, hd, upd_same⟩) (dpAll_same (New.put le hp).fr ds vs h)
/-- a new list, in this hand alone -/
theorem New.lst {p : Addr} {vs : List V} (le : Same F H) (hp : H p = none) : New F H F (upd H p (.lst vs)) := by
  refine ⟨Same.refl F, fun a o h => ?_, fun a o h => ?_, fun a h => .inl h⟩
  · rw [upd_ne (ne_of_none h hp)]; exact h
  · rw [upd_ne (ne_of_none (le a o h) hp)]; exact le a o h
theorem NewR.lst {p : Addr} {vs : List V} {ds : List PyData} (le : Same F H) (hp : H p = none) (h : DnAll K F vs ds) : NewR K H F (upd H p (.lst vs)) (.ref p) (.fe (.py (.list ds))) :=
  ⟨p, rfl, hp, le.free hp, vs, upd_same, h⟩
/-- a new dict, in this hand alone -/
theorem New.dct {p : Addr} {vs : List (Key × V)} (le : Same F H) (hp : H p = none) : New F H F (upd H p (.dK vs)) := by
  refine ⟨Same.refl F, fun a o h => ?_, fun a o h => ?_, fun a h => .inl h⟩
  · rw [upd_ne (ne_of_none h hp)]; exact h
  · rw [upd_ne (ne_of_none (le a o h) hp)]; exact le a o h
theorem NewR.dct {p : Addr} (le : Same F H) (hp : H p = none) : NewR K H F (upd H p (.dK [])) (.ref p) (.fe (.dct [])) :=
  ⟨p, rfl, hp, le.free hp, [], upd_same, .nil⟩
end
end Mi
end
section
/-! Mi3: the operations. -/
namespace Mi
open PySem PySem.Spec
open PyProof.Rows hiding St Fr
open L2

theorem lim_line {n : Nat} (h : n ≤ lim) : n ≤ sizeLine := Nat.le_trans h (by rw [sizeLine_eq]; decide)
theorem lim_lt {n : Nat} (h : n ≤ lim) : n < sizeLine := Nat.lt_of_le_of_lt h (by rw [sizeLine_eq]; decide)
section
variable {X : Cx} {pins : List (Addr × Obj)} {σ : L2.St} {H F : Hp} {s : Shared} {Q : VK}
/-- a tuple just laid -/
theorem lay_tup {us : List Value} {vs : List V} {t' : Nat} (I : Inv X pins σ H s) (r : Vals vs us) (z : vs.length ≤ sizeLine) :
    Inv X pins σ (upd H s.heap.objs.size (.frz { cls := .type "tuple", data := .seq us.toArray } (.tup vs))) { s with heap := s.heap.push { cls := .type "tuple", data := .seq us.toArray }, toks := t' } :=
  I.laid (fun b u e => Heap.get?_push_of_some _ e) (Nat.le_refl _) ⟨Heap.get?_push_size _ rfl, z, us, r, ⟨_, Heap.get?_push_size _ rfl, rfl, _, rfl⟩⟩
theorem lay_lst {us : List Value} {vs : List V} {t' : Nat} (I : Inv X pins σ H s) (r : Vals vs us) (z : vs.length ≤ sizeLine) :
    Inv X pins σ (upd H s.heap.objs.size (.lst vs)) { s with heap := s.heap.push { cls := .type "list", data := .seq us.toArray }, toks := t' } :=
  I.laid (fun b u e => Heap.get?_push_of_some _ e) (Nat.le_refl _) ⟨z, us, 0, r, Heap.get?_push_size _ rfl⟩
theorem ep_of {v : V} {u : Value} (I : Inv X pins σ H s) (r : RelV v u) (q : Q v H) : EP X pins σ Q u s := ⟨v, H, I, r, q⟩
/-- the result is a new tuple -/
theorem ep_tup {us : List Value} {vs : List V} {ds : List PyData} {t' : Nat} (I : Inv X pins σ H s) (le : Same F H) (r : Vals vs us) (z : vs.length ≤ sizeLine) (h : DnAll X.K F vs ds)
    (q : ∀ v F' H', New F H F' H' → NewR X.K H F' H' v (.va (.py (.tuple ds))) → Q v H') : EP X pins σ Q (.ref s.heap.objs.size) { s with heap := s.heap.push { cls := .type "tuple", data := .seq us.toArray }, toks := t' } :=
  ⟨.ref s.heap.objs.size, _, lay_tup I r z, rfl, q _ _ _ (New.put le (I.hok.fresh (Nat.le_refl _))) (NewR.tup le (I.hok.fresh (Nat.le_refl _)) rfl h)⟩
theorem ep_lst {us : List Value} {vs : List V} {ds : List PyData} {t' : Nat} (I : Inv X pins σ H s) (le : Same F H) (r : Vals vs us) (z : vs.length ≤ sizeLine) (h : DnAll X.K F vs ds)
    (q : ∀ v F' H', New F H F' H' → NewR X.K H F' H' v (.fe (.py (.list ds))) → Q v H') : EP X pins σ Q (.ref s.heap.objs.size) { s with heap := s.heap.push { cls := .type "list", data := .seq us.toArray }, toks := t' } :=
  ⟨.ref s.heap.objs.size, _, lay_lst I r z, rfl, q _ _ _ (New.lst le (I.hok.fresh (Nat.le_refl _))) (NewR.lst le (I.hok.fresh (Nat.le_refl _)) h)⟩
theorem tp_vals (I : Inv X pins σ H s) {a : Addr} {vs : List V} (h : Tp X.K H a vs) : ∃ its : List Value, Vals vs its ∧ IsTup s.heap a its.toArray ∧ vs.length ≤ sizeLine := I.tuple h.sq
theorem okMul_ok {i j : Int} (h : okMul i j = true) : CMul i j := by
  unfold okMul at h
  rw [Bool.or_eq_true, decide_eq_true_eq, decide_eq_true_eq] at h
  rcases h with h | h
  · exact .inl ⟨by omega, by omega⟩
  · exact .inr ⟨by omega, by omega⟩
end

def O2.op : O2 → Operator
  | .add => .Add
  | .sub => .Sub
  | .mul => .Mult
  | .fdiv => .FloorDiv
  | .mod => .Mod
  | .pow => .Pow
def rOp2 (K : PySem.W.Frag) (o : O2) : R2 := fun x y H Q => ∃ F dx dy od, Same F H ∧ RdR K F H x dx ∧ RdR K F H y dy ∧ op2 o dx dy = some od ∧ ∀ v F' H', New F H F' H' → NewR K H F' H' v od → Q v H'
theorem op2_ok {X : Cx} (o : O2) : OpR X (binaryOp o.op) (rOp2 X.K o) := by
  intro pins s σ H x y v u Q I rx ry h
  obtain ⟨F, dx, dy, od, le, hx, hy, e, q⟩ := h
  unfold op2 at e
  split at e
  · cases e; obtain rfl := hx.int; obtain rfl := hy.int
    exact op_add pins s σ H _ _ v u Q I rx ry ⟨_, _, rfl, rfl, q _ F H (New.refl le) (NewR.int _)⟩
  · rename_i xs ys
    split at e
    · rename_i hl
      cases e
      obtain ⟨a, vs, rfl, ha, h1⟩ := hx.list le
      obtain ⟨b, ws, rfl, hb, h2⟩ := hy.list le
      have z : vs.length + ws.length ≤ sizeLine := by rw [dpl_len h1, dpl_len h2]; exact lim_line hl
      exact op_cat pins s σ H _ _ v u Q I rx ry ⟨a, b, vs, ws, rfl, rfl, ha, hb, z, fun p hp => q _ _ _ (New.lst le hp) (NewR.lst le hp (dpl_app h1 h2))⟩
    · cases e
  · rename_i xs ys
    split at e
    · rename_i hl
      cases e
      obtain ⟨a, vs, rfl, ha, h1⟩ := hx.tup le
      obtain ⟨b, ws, rfl, hb, h2⟩ := hy.tup le
      have z : vs.length + ws.length ≤ sizeLine := by rw [dpl_len h1, dpl_len h2]; exact lim_line hl
      obtain ⟨its, r1, p1, _⟩ := tp_vals I ha
      obtain ⟨jts, r2, p2, _⟩ := tp_vals I hb
      cases rx; cases ry
      by_cases hv : its = []
      · subst hv
        cases r1
        cases h1
        refine cat_tup0 p1 p2 (ep_of (v := .ref b) I rfl (q _ F H (New.refl le) ?_))
        rw [List.nil_append]
        rcases hy with hy | ⟨_, _, hy⟩
        · exact hy
        · exact hy.elim
      · refine HT.cat_tup p1 p2 hv (fun hw => ?_) (fun hw => ?_) (by rw [← r1.length, ← r2.length]; exact z)
        · subst hw
          cases r2
          cases h2
          refine ep_of (v := .ref a) I rfl (q _ F H (New.refl le) ?_)
          rw [List.append_nil]
          rcases hx with hx | ⟨_, _, hx⟩
          · exact hx
          · exact hx.elim
        · exact ep_tup I le (r1.append r2) (by rw [List.length_append]; exact z) (dpl_app h1 h2) q
    · cases e
  · cases e; obtain rfl := hx.int; obtain rfl := hy.int
    exact op_sub pins s σ H _ _ v u Q I rx ry ⟨_, _, rfl, rfl, q _ F H (New.refl le) (NewR.int _)⟩
  · split at e
    · rename_i hc
      cases e; obtain rfl := hx.int; obtain rfl := hy.int
      exact op_mul pins s σ H _ _ v u Q I rx ry ⟨_, _, rfl, rfl, okMul_ok hc, q _ F H (New.refl le) (NewR.int _)⟩
    · cases e
  · rename_i xs j
    split at e
    · rename_i hc
      cases e; obtain rfl := hy.int
      obtain ⟨a, vs, rfl, ha, h1⟩ := hx.list le
      refine op_rep pins s σ H _ _ v u Q I rx ry ⟨a, j, vs, rfl, rfl, ha, by omega, by omega, ?_, fun p hp => q _ _ _ (New.lst le hp) (NewR.lst le hp (dpl_rep _ h1))⟩
      rw [dpl_len h1]
      have a1 : xs.length * j.toNat ≤ 1000 * 1000 := Nat.mul_le_mul hc.2.2 (by omega)
      exact lim_line (Nat.le_trans a1 (by decide))
    · cases e
  · split at e
    · rename_i hc
      cases e; obtain rfl := hx.int; obtain rfl := hy.int
      exact op_fdiv pins s σ H _ _ v u Q I rx ry ⟨_, _, rfl, rfl, hc, q _ F H (New.refl le) (NewR.int _)⟩
    · cases e
  · split at e
    · rename_i hc
      cases e; obtain rfl := hx.int; obtain rfl := hy.int
      exact op_mod pins s σ H _ _ v u Q I rx ry ⟨_, _, rfl, rfl, hc, q _ F H (New.refl le) (NewR.int _)⟩
    · cases e
  · split at e
    · rename_i hc
      cases e; obtain rfl := hx.int; obtain rfl := hy.int
      exact op_pow pins s σ H _ _ v u Q I rx ry ⟨_, _, rfl, rfl, ⟨hc.1, by omega, by omega⟩, q _ F H (New.refl le) (NewR.int _)⟩
    · cases e
  · cases e

/-! ### comparisons -/
def Cm.op : Cm → CmpOp
  | .eq => .Eq
  | .ne => .NotEq
  | .lt => .Lt
  | .le => .LtE
  | .gt => .Gt
  | .ge => .GtE
  | .isin => .In
  | .notin => .NotIn
  | .is => .Is
  | .isnot => .IsNot
def rCm (K : PySem.W.Frag) (o : Cm) : R2 := fun x y H Q => ∃ F dx dy b, Same F H ∧ RdR K F H x dx ∧ RdR K F H y dy ∧ cmp o dx dy = some b ∧ Q (.bl b) H
theorem room_dp {k : Nat} {A : Around} (hr : Room k A) {n m : Nat} (h : n ≤ dp) : A.units + min n m < cLine := by
  have := hr.units
  have h2 : n ≤ 30 := h
  have h3 := Nat.min_le_left n m
  omega
theorem room_dp1 {k : Nat} {A : Around} (hr : Room k A) {n m : Nat} (h : n ≤ dp) : A.units + 1 + min n m < cLine := by
  have := hr.units
  have h2 : n ≤ 30 := h
  have h3 := Nat.min_le_left n m
  omega
theorem okDp_ok {p : PyData} (h : okDp p = true) : p.depth ≤ dp := of_decide_eq_true h
theorem cm_ok {X : Cx} {k : Nat} (hr : Room k X.A) (o : Cm) : OpR X (compareOp o.op) (rCm X.K o) := by
  intro pins s σ H x y v u Q I rx ry h
  obtain ⟨F, dx, dy, b, le, hx, hy, e, q⟩ := h
  have fin : EP X pins σ Q (.bool b) s := ep_of (v := .bl b) I rfl q
  have hu : X.A.units + 1 < cLine := by
    have := hr.units
    omega
  unfold cmp at e
  split at e
  · split at e
    · rename_i hd
      rw [Bool.and_eq_true] at hd
      cases e
      obtain ⟨as, r1⟩ := Dp.reads I _ _ _ (hx.dp le) rx
      obtain ⟨bs, r2⟩ := Dp.reads I _ _ _ (hy.dp le) ry
      exact PySem.SeqAt.eq_plain r1 r2 hx.plain hy.plain (room_dp hr (okDp_ok hd.1)) fin
    · cases e
  · split at e
    · rename_i hd
      rw [Bool.and_eq_true] at hd
      cases e
      obtain ⟨as, r1⟩ := Dp.reads I _ _ _ (hx.dp le) rx
      obtain ⟨bs, r2⟩ := Dp.reads I _ _ _ (hy.dp le) ry
      exact PySem.SeqAt.ne_plain r1 r2 hx.plain hy.plain (room_dp hr (okDp_ok hd.1)) fin
    · cases e
  · cases e; obtain rfl := hx.int; obtain rfl := hy.int
    exact op_lt pins s σ H _ _ v u Q I rx ry ⟨_, _, rfl, rfl, q⟩
  · cases e; obtain rfl := hx.int; obtain rfl := hy.int
    exact op_le pins s σ H _ _ v u Q I rx ry ⟨_, _, rfl, rfl, q⟩
  · cases e; obtain rfl := hx.int; obtain rfl := hy.int
    exact op_gt pins s σ H _ _ v u Q I rx ry ⟨_, _, rfl, rfl, q⟩
  · cases e; obtain rfl := hx.int; obtain rfl := hy.int
    exact op_ge pins s σ H _ _ v u Q I rx ry ⟨_, _, rfl, rfl, q⟩
  · split at e
    · rename_i hd
      cases e
      obtain ⟨as, r1⟩ := Dp.reads I _ _ _ (hx.dp le) rx
      obtain ⟨bs, r2⟩ := Dp.reads I _ _ _ (hy.dp le) ry
      refine PySem.SeqAt.in_list_data r2 r1 hy.plain hx.plain ?_ fin
      rw [Nat.min_comm]
      exact room_dp1 hr (okDp_ok hd)
    · cases e
  · split at e
    · rename_i hd
      cases e
      obtain ⟨as, r1⟩ := Dp.reads I _ _ _ (hx.dp le) rx
      obtain ⟨bs, r2⟩ := Dp.reads I _ _ _ (hy.dp le) ry
      refine PySem.SeqAt.in_tuple_data r2 r1 hy.plain hx.plain ?_ fin
      rw [Nat.min_comm]
      exact room_dp1 hr (okDp_ok hd)
    · cases e
  · split at e
    · rename_i hd
      cases e
      obtain ⟨as, r1⟩ := Dp.reads I _ _ _ (hx.dp le) rx
      obtain ⟨bs, r2⟩ := Dp.reads I _ _ _ (hy.dp le) ry
      refine PySem.SeqAt.notIn_list_data r2 r1 hy.plain hx.plain ?_ fin
      rw [Nat.min_comm]
      exact room_dp1 hr (okDp_ok hd)
    · cases e
  · split at e
    · rename_i hd
      cases e
      obtain ⟨as, r1⟩ := Dp.reads I _ _ _ (hx.dp le) rx
      obtain ⟨bs, r2⟩ := Dp.reads I _ _ _ (hy.dp le) ry
      refine PySem.SeqAt.notIn_tuple_data r2 r1 hy.plain hx.plain ?_ fin
      rw [Nat.min_comm]
      exact room_dp1 hr (okDp_ok hd)
    · cases e
  · rename_i p
    cases e
    obtain rfl := hy.non
    refine op_isN pins s σ H _ _ v u Q I rx ry ⟨rfl, ?_⟩
    have e2 : decide (x = V.non) = isNn p := by
      have z := hx.dn le
      cases z <;> simp [isNn]
    rw [e2]; exact q
  · rename_i p
    cases e
    obtain rfl := hy.non
    refine op_notN pins s σ H _ _ v u Q I rx ry ⟨rfl, ?_⟩
    have e2 : (!decide (x = V.non)) = !isNn p := by
      have z := hx.dn le
      cases z <;> simp [isNn]
    rw [e2]; exact q
  · cases e; obtain rfl := hx.bl; obtain rfl := hy.bl
    exact op_is_bl pins s σ H _ _ v u Q I rx ry ⟨_, _, rfl, rfl, q⟩
  · cases e; obtain rfl := hx.bl; obtain rfl := hy.bl
    exact op_isnot_bl pins s σ H _ _ v u Q I rx ry ⟨_, _, rfl, rfl, q⟩
  · rename_i p kvs
    rw [Option.map_eq_some_iff] at e
    obtain ⟨kk, ek, rfl⟩ := e
    obtain ⟨a, vs, rfl, ha, h2⟩ := hy.dct le
    obtain rfl := dn_key (hx.dn le) ek
    cases ry
    refine d_in (o := valV vs kk) hu I (DGet.k ha) rx fun s' I' => ?_
    rw [dkv_some kk h2]
    exact ep_of (v := .bl _) I' rfl q
  · rename_i p kvs
    rw [Option.map_eq_some_iff] at e
    obtain ⟨kk, ek, rfl⟩ := e
    obtain ⟨a, vs, rfl, ha, h2⟩ := hy.dct le
    obtain rfl := dn_key (hx.dn le) ek
    cases ry
    refine d_notIn (o := valV vs kk) hu I (DGet.k ha) rx fun s' I' => ?_
    rw [dkv_some kk h2]
    exact ep_of (v := .bl _) I' rfl q
  · cases e
end Mi
end
section
/-! Mi4: the built-in functions. -/
namespace Mi
open PySem PySem.Spec
open PyProof.Rows hiding St Fr
open L2

inductive RdRs (K : PySem.W.Frag) (F H : Hp) : List V → List D → Prop
  | nil : RdRs K F H [] []
  | cons {v : V} {vs : List V} {d : D} {ds : List D} : RdR K F H v d → RdRs K F H vs ds → RdRs K F H (v :: vs) (d :: ds)
def Bi.f : Bi → Value
  | .len => .builtin "len"
  | .tuple => .type "tuple"
  | .list => .type "list"
  | .sorted => .builtin "sorted"
  | .min => .builtin "min"
  | .max => .builtin "max"
  | .sum => .builtin "sum"
  | .any => .builtin "any"
  | .all => .builtin "all"
  | .abs => .builtin "abs"
  | .int => .type "int"
  | .bool => .type "bool"
  | .str => .type "str"
  | .repr => .builtin "repr"
  | .divmod => .builtin "divmod"
  | .dict => .type "dict"
  | .set => .type "set"
  | .lrange => .type "list"
  | .trange => .type "tuple"
def rBi (K : PySem.W.Frag) (f : Bi) : List V → Hp → VK → Prop := fun vs H Q => ∃ F ds od, Same F H ∧ RdRs K F H vs ds ∧ biD f ds = some od ∧ ∀ v F' H', New F H F' H' → NewR K H F' H' v od → Q v H'
theorem bools_ok : ∀ {xs : List PyData} {bs : List Bool}, bools xs = some bs → xs = bs.map PyData.bool
  | [], bs, h => by cases h; rfl
  | .bool b :: r, bs, h => by
    simp only [bools, Option.map_eq_some_iff] at h
    obtain ⟨c, h1, rfl⟩ := h
    rw [bools_ok h1]; rfl
  | .none :: _, _, h => by cases h
  | .int _ :: _, _, h => by cases h
  | .str _ :: _, _, h => by cases h
  | .list _ :: _, _, h => by cases h
  | .tuple _ :: _, _, h => by cases h
  | .dict _ :: _, _, h => by cases h
theorem dn_bools {K : PySem.W.Frag} {F : Hp} : ∀ {bs : List Bool} {vs : List V}, DnAll K F vs (bs.map PyData.bool) → vs = bs.map V.bl
  | [], _, h => by cases h; rfl
  | b :: bs, _, h => by
    cases h with
    | cons h1 h2 => cases h1; rw [dn_bools h2]; rfl
/-- pairs of a value and its datum -/
abbrev VD := V × PyData
theorem each_vd {K : PySem.W.Frag} {H : Hp} {X : Cx} {pins : List (Addr × Obj)} {σ : L2.St} {s : Shared} (I : Inv X pins σ H s) : ∀ {vs : List V} {ds : List PyData} {us : List Value}, DnAll X.K H vs ds → Vals vs us →
    PySem.W.EachIs (fun u (b : VD) => RelV b.1 u) us (vs.zip ds) ∧ PySem.W.EachIs (fun u (b : VD) => ∃ as, Reads s.heap u b.2 as) us (vs.zip ds) ∧ (vs.zip ds).map (·.2) = ds ∧ (vs.zip ds).map (·.1) = vs
  | _, _, _, .nil, .nil => ⟨.nil, .nil, rfl, rfl⟩
  | _, _, _, .cons h1 h2, .cons r1 r2 => by
    obtain ⟨a, b, c, d⟩ := each_vd (K := K) I h2 r2
    refine ⟨.cons r1 a, .cons (Dp.reads I _ _ _ (dn_dp _ _ h1) r1) b, ?_, ?_⟩
    · rw [List.zip_cons_cons, List.map_cons, c]
    · rw [List.zip_cons_cons, List.map_cons, d]
theorem each_vals : ∀ {us : List Value} {bs : List VD}, PySem.W.EachIs (fun u (b : VD) => RelV b.1 u) us bs → Vals (bs.map (·.1)) us
  | _, _, .nil => .nil
  | _, _, .cons h t => .cons h (each_vals t)
theorem dn_zip {K : PySem.W.Frag} {F : Hp} : ∀ {vs : List V} {ds : List PyData}, DnAll K F vs ds → ∀ b ∈ vs.zip ds, Dn K F b.1 b.2
  | _, _, .nil, b, h => by simp at h
  | _, _, .cons h1 h2, b, h => by
    rw [List.zip_cons_cons] at h
    rcases List.mem_cons.mp h with e | h
    · subst e; exact h1
    · exact dn_zip h2 b h
theorem dn_of_mem {K : PySem.W.Frag} {F : Hp} : ∀ {bs : List VD}, (∀ b ∈ bs, Dn K F b.1 b.2) → DnAll K F (bs.map (·.1)) (bs.map (·.2))
  | [], _ => .nil
  | b :: bs, h => .cons (h b (List.mem_cons_self ..)) (dn_of_mem fun c hc => h c (List.mem_cons_of_mem _ hc))
theorem alikeB_ok {xs : List PyData} (h : alikeB xs = true) : PySem.W.AllAlike xs := fun d hd d' hd' => List.all_eq_true.mp (List.all_eq_true.mp h d hd) d' hd'
theorem noNn_ok {xs : List PyData} (h : (xs.all fun z => !isNn z) = true) : ∀ x ∈ xs, x ≠ PyData.none := fun x hx e => by
  have z := List.all_eq_true.mp h x hx
  subst e
  cases z
theorem sortB_ok {xs : List PyData} (h : sortB xs = true) : PySem.W.Sortable xs := by
  unfold sortB at h
  rw [Bool.or_eq_true, List.all_eq_true, List.all_eq_true] at h
  rcases h with h | h
  · refine .inl fun d hd => ?_
    have z := h d hd
    split at z
    · exact ⟨_, _, rfl⟩
    · cases z
  · refine .inr fun d hd => ?_
    have z := h d hd
    split at z
    · cases z
    · cases z
    · rename_i h1 h2
      exact ⟨h2, fun xs e => h1 xs e⟩
theorem map_mergeSort {α β : Type} (f : α → β) (le : β → β → Bool) (l : List α) : (l.mergeSort fun a b => le (f a) (f b)).map f = (l.map f).mergeSort le := by
  exact List.map_mergeSort (fun a _ b _ => rfl)
theorem depthAll_mem : ∀ {xs : List PyData} {x : PyData}, x ∈ xs → x.depth ≤ PyData.depthAll xs
  | y :: ys, x, h => by
    rw [PyData.depthAll]
    rcases List.mem_cons.mp h with e | h
    · subst e; omega
    · have := depthAll_mem h
      omega
theorem dataLe_vd (a b : VD) : PySem.W.dataLe false (fun z : VD => z.2) a b = leD a.2 b.2 := by
  unfold PySem.W.dataLe leD PySem.W.dataLt
  rfl
theorem callT_1 {K : PySem.W.Frag} {F H : Hp} {vs : List V} {d : D} (h : RdRs K F H vs [d]) : ∃ v, vs = [v] ∧ RdR K F H v d := by
  cases h with
  | cons h1 h2 => cases h2; exact ⟨_, rfl, h1⟩
theorem callT_2 {K : PySem.W.Frag} {F H : Hp} {vs : List V} {d e : D} (h : RdRs K F H vs [d, e]) : ∃ v w, vs = [v, w] ∧ RdR K F H v d ∧ RdR K F H w e := by
  cases h with
  | cons h1 h2 =>
    obtain ⟨w, rfl, h3⟩ := callT_1 h2
    exact ⟨_, _, rfl, h1, h3⟩
mutual
theorem noDict_plain : ∀ d : PyData, d.plain = true → d.hasDict = false
  | .none, _ => rfl
  | .bool _, _ => rfl
  | .int _, _ => rfl
  | .str _, _ => rfl
  | .list xs, h => noDictAll_plain xs h
  | .tuple xs, h => noDictAll_plain xs h
  | .dict _, h => by cases h
theorem noDictAll_plain : ∀ ds : List PyData, PyData.plainAll ds = true → PyData.hasDictAll ds = false
  | [], _ => rfl
  | d :: ds, h => by
    have h' : d.plain = true ∧ PyData.plainAll ds = true := by simpa [PyData.plainAll] using h
    show (d.hasDict || PyData.hasDictAll ds) = false
    rw [noDict_plain d h'.1, noDictAll_plain ds h'.2] <;> rfl
end
section
variable {X : Cx} {k : Nat}
theorem sorted_run {pins : List (Addr × Obj)} {s : Shared} {σ : L2.St} {H F : Hp} {Q : VK} {a : Addr} {vs : List V} {xs : List PyData} (hr : Room k X.A) (I : Inv X pins σ H s) (le : Same F H) (ha : H a = some (.lst vs)) (h1 : DnAll X.K F vs xs)
    (c1 : PySem.W.AllAlike xs) (c2 : PySem.W.Sortable xs) (c3 : (PyData.list xs).depth ≤ dp) (c4 : xs.length ≤ lim) (q : ∀ v F' H', New F H F' H' → NewR X.K H F' H' v (.fe (.py (.list (xs.mergeSort leD)))) → Q v H') :
    wpAny (model X.prog X.w) X.A (call (.builtin "sorted") [.ref a]) (EP X pins σ Q) X.xe s := by
  obtain ⟨zl, its, n, r, e⟩ := I.hok a _ ha
  obtain ⟨e1, e2, e3, e4⟩ := each_vd (K := X.K) I (dpAll_same le xs vs h1) r
  have hzl : (vs.zip xs).length = xs.length := by rw [List.length_zip, dpl_len h1, Nat.min_self]
  refine PySem.W.sorted_data (vs := its) (bs := vs.zip xs) (enc := fun z : VD => z.2) (R := fun u (b : VD) => RelV b.1 u ∧ b ∈ vs.zip xs) ⟨_, e, rfl, n, rfl⟩ ?_ e2 (by rw [e3]; exact c1) (by rw [e3]; exact c2) (by rw [hzl]; exact lim_line c4) (fun b hb => ?_) (fun out ho hR => ?_)
  · have : ∀ {us : List Value} {bs : List VD}, PySem.W.EachIs (fun u (b : VD) => RelV b.1 u) us bs → (∀ b ∈ bs, b ∈ vs.zip xs) → PySem.W.EachIs (fun u (b : VD) => RelV b.1 u ∧ b ∈ vs.zip xs) us bs := by
      intro us bs h
      induction h with
      | nil => intro _; exact .nil
      | cons h t ih => intro m; exact .cons ⟨h, m _ (List.mem_cons_self ..)⟩ (ih fun b hb => m b (List.mem_cons_of_mem _ hb))
    exact this e1 fun b hb => hb
  · have z : b.2 ∈ xs := by rw [← e3]; exact List.mem_map_of_mem hb
    have z2 := depthAll_mem z
    have z3 : PyData.depthAll xs + 1 ≤ 30 := c3
    have := hr.units
    omega
  · have hv : Vals (((vs.zip xs).mergeSort (PySem.W.dataLe false fun z : VD => z.2)).map (·.1)) out := each_vals (hR.mono fun _ _ h => h.1)
    have hd : DnAll X.K F (((vs.zip xs).mergeSort (PySem.W.dataLe false fun z : VD => z.2)).map (·.1)) (((vs.zip xs).mergeSort (PySem.W.dataLe false fun z : VD => z.2)).map (·.2)) := by
      refine dn_of_mem fun b hb => dn_zip h1 b ?_
      exact (List.mergeSort_perm _ _).mem_iff.mp hb
    have hs : ((vs.zip xs).mergeSort (PySem.W.dataLe false fun z : VD => z.2)).map (·.2) = xs.mergeSort leD := by
      have z : PySem.W.dataLe false (fun z : VD => z.2) = fun a b : VD => leD a.2 b.2 := by funext a b; exact dataLe_vd a b
      rw [z, map_mergeSort (fun z : VD => z.2) leD, e3]
    rw [hs] at hd
    obtain ⟨c, hc⟩ := PyProof.Rows.sortedAll_at s.heap its out.toArray
    have hn : H (s.heap.objs.size + 1) = none := I.hok.fresh (Nat.le_succ _)
    have hl : (((vs.zip xs).mergeSort (PySem.W.dataLe false fun z : VD => z.2)).map (·.1)).length ≤ sizeLine := by
      rw [List.length_map, List.length_mergeSort, hzl]
      exact lim_line c4
    exact ⟨.ref (s.heap.objs.size + 1), _, I.laid (t' := s.toks) (a := s.heap.objs.size + 1) (o := .lst (((vs.zip xs).mergeSort (PySem.W.dataLe false fun z : VD => z.2)).map (·.1))) (fun b o e => PyProof.Rows.sortedAll_old e) (Nat.le_succ _) ⟨hl, out, c, hv, hc⟩, rfl,
      q _ _ _ (New.lst le hn) (NewR.lst le hn hd)⟩
theorem best_of {pins : List (Addr × Obj)} {s : Shared} {σ : L2.St} {H F : Hp} {Q : VK} {vs : List V} {xs : List PyData} {its : List Value} {p : PyData} {i : Nat} {v : Value} {h' : Heap} {tk : Nat} {bs : List Addr} (I : Inv X pins σ H s) (le : Same F H)
    (h1 : DnAll X.K F vs xs) (r : Vals vs its) (hi : its[i]? = some v) (rb : Reads h' v p bs) (kp : ∀ b o, s.heap.get? b = some o → h'.get? b = some o) (q : ∀ v F' H', New F H F' H' → NewR X.K H F' H' v (.va (.py p)) → Q v H') : EP X pins σ Q v { s with heap := h', toks := tk } := by
  have I' : Inv X pins σ H { s with heap := h', toks := tk } := I.kept kp
  have hv : ∃ z, vs[i]? = some z := by
    cases e : vs[i]? with
    | none => rw [r.none_of e] at hi; cases hi
    | some z => exact ⟨z, rfl⟩
  obtain ⟨z, hz⟩ := hv
  obtain ⟨u, hu, ru⟩ := r.get hz
  rw [hi] at hu; cases hu
  obtain ⟨p', _, hp'⟩ := dpl_get' h1 hz
  obtain ⟨as, ra⟩ := Dp.reads I' _ _ _ (dn_dp _ _ (dp_same le _ _ hp')) ru
  have e := PySem.SeqAt.plain_unique p' p v _ _ (dp_plain p' z hp') ra rb
  subst e
  exact ⟨z, H, I', ru, q z F H (New.refl le) hp'⟩
theorem bi_ok (hr : Room k X.A) (hc : X.calm = true) (hg : X.A.guards = some []) (f : Bi) (hf : f ≠ .lrange) (hf' : f ≠ .trange) : CallR X f.f (rBi X.K f) := by
  intro pins s σ H xs us Q I r h
  obtain ⟨F, ds, od, le, hx, e, q⟩ := h
  have hh : X.A.handled = none := I.ok.hd hc
  unfold biD at e
  split at e
  · cases e
    obtain ⟨v, rfl, h1⟩ := callT_1 hx
    obtain ⟨a, vs, rfl, ha, h2⟩ := h1.list le
    exact call_len_seq pins s σ H _ us Q I r ⟨a, vs, rfl, .inl (.inl (.inl ha)), by rw [dpl_len h2]; exact q _ F H (New.refl le) (NewR.int _)⟩
  · cases e
    obtain ⟨v, rfl, h1⟩ := callT_1 hx
    obtain ⟨a, vs, rfl, ha, h2⟩ := h1.tup le
    exact call_len_seq pins s σ H _ us Q I r ⟨a, vs, rfl, .inr ha.sq, by rw [dpl_len h2]; exact q _ F H (New.refl le) (NewR.int _)⟩
  · cases e
    obtain ⟨v, rfl, h1⟩ := callT_1 hx
    obtain ⟨a, rfl, ha⟩ := h1.scr le
    exact call_len_seq pins s σ H _ us Q I r ⟨a, _, rfl, .inl ha, by rw [List.length_map]; exact q _ F H (New.refl le) (NewR.int _)⟩
  · cases e
    obtain ⟨v, rfl, h1⟩ := callT_1 hx
    obtain ⟨a, vs, rfl, ha, h2⟩ := h1.dct le
    obtain ⟨u, rfl, rx⟩ := vals1 r
    cases rx
    refine d_len I (.inl ha) fun t s' I' => ?_
    rw [dkv_len h2]
    exact ⟨.int _, H, I', ⟨t, rfl⟩, q _ F H (New.refl le) (NewR.int _)⟩
  · split at e
    · rename_i hl
      cases e
      obtain ⟨v, rfl, h1⟩ := callT_1 hx
      obtain rfl := h1.str
      exact call_len_str pins s σ H _ us Q I r ⟨_, rfl, lim_line hl, q _ F H (New.refl le) (NewR.int _)⟩
    · cases e
  · cases e
    obtain ⟨v, rfl, h1⟩ := callT_1 hx
    obtain ⟨a, vs, rfl, ha, h2⟩ := h1.list le
    obtain ⟨u, rfl, rx⟩ := vals1 r
    cases rx
    obtain ⟨its, r', pl, hz⟩ := I.list (.inl (.inl ha))
    have hlen := r'.length
    refine call_tuple_list pl.isList (fun h' kp => ?_) (by simp only [List.size_toArray] <;> omega)
    have I1 : Inv X pins σ H { s with heap := h' } := I.kept (t' := s.toks) kp
    exact ep_tup (s := { s with heap := h' }) I1 le r' hz h2 q
  · cases e
    obtain ⟨v, rfl, h1⟩ := callT_1 hx
    obtain ⟨a, vs, rfl, ha, h2⟩ := h1.tup le
    refine call_tuple_of pins s σ H _ us Q I r ⟨a, vs, rfl, .inr ⟨ha.sq, q _ F H (New.refl le) ?_⟩⟩
    rcases h1 with h1 | ⟨_, _, h1⟩
    · exact h1
    · exact h1.elim
  · cases e
    obtain ⟨v, rfl, h1⟩ := callT_1 hx
    obtain ⟨a, vs, rfl, ha, h2⟩ := h1.list le
    exact call_list_of pins s σ H _ us Q I r ⟨a, vs, rfl, .inl (.inl (.inl ha)), fun p hp => q _ _ _ (New.lst le hp) (NewR.lst le hp h2)⟩
  · cases e
    obtain ⟨v, rfl, h1⟩ := callT_1 hx
    obtain ⟨a, vs, rfl, ha, h2⟩ := h1.tup le
    exact call_list_of pins s σ H _ us Q I r ⟨a, vs, rfl, .inr ha.sq, fun p hp => q _ _ _ (New.lst le hp) (NewR.lst le hp h2)⟩
  · split at e
    · rename_i c
      simp only [Bool.and_eq_true, decide_eq_true_eq] at c
      cases e
      obtain ⟨v, rfl, h1⟩ := callT_1 hx
      obtain ⟨a, vs, rfl, ha, h2⟩ := h1.list le
      obtain ⟨u, rfl, rx⟩ := vals1 r
      cases rx
      exact sorted_run hr I le ha h2 (alikeB_ok c.1.1.1) (sortB_ok c.1.1.2) (okDp_ok c.1.2) c.2 q
    · cases e
  · split at e
    · rename_i c
      rw [Bool.and_eq_true, Bool.and_eq_true] at c
      cases e
      obtain ⟨v, rfl, h1⟩ := callT_1 hx
      obtain ⟨a, vs, rfl, ha, h2⟩ := h1.list le
      obtain ⟨u, rfl, rx⟩ := vals1 r
      cases rx
      obtain ⟨zl, its, n, r', e'⟩ := I.hok a _ ha
      obtain ⟨as, ra⟩ := Dp.readsAll I _ _ _ (dnAll_dp _ _ (dpAll_same le _ _ h2)) r'
      refine PySem.W.min_list_data hh ⟨_, e', rfl, n, rfl⟩ ra ⟨alikeB_ok c.1.1, noNn_ok c.1.2⟩ ?_ (fun i v h' tk bs hi rb kp => best_of I le h2 r' (by simpa using hi) rb kp q)
      have z3 := okDp_ok c.2
      have z4 : PyData.depthAll (_ :: _) + 1 ≤ 30 := z3
      have := hr.units
      omega
    · cases e
  · split at e
    · rename_i c
      rw [Bool.and_eq_true, Bool.and_eq_true] at c
      cases e
      obtain ⟨v, rfl, h1⟩ := callT_1 hx
      obtain ⟨a, vs, rfl, ha, h2⟩ := h1.list le
      obtain ⟨u, rfl, rx⟩ := vals1 r
      cases rx
      obtain ⟨zl, its, n, r', e'⟩ := I.hok a _ ha
      obtain ⟨as, ra⟩ := Dp.readsAll I _ _ _ (dnAll_dp _ _ (dpAll_same le _ _ h2)) r'
      refine PySem.W.max_list_data hh ⟨_, e', rfl, n, rfl⟩ ra ⟨alikeB_ok c.1.1, noNn_ok c.1.2⟩ ?_ (fun i v h' tk bs hi rb kp => best_of I le h2 r' (by simpa using hi) rb kp q)
      have z3 := okDp_ok c.2
      have z4 : PyData.depthAll (_ :: _) + 1 ≤ 30 := z3
      have := hr.units
      omega
    · cases e
  · cases e
    obtain ⟨v, w, rfl, h1, h2⟩ := callT_2 hx
    obtain rfl := h1.int; obtain rfl := h2.int
    exact call_min2 hc pins s σ H _ us Q I r ⟨_, _, rfl, q _ F H (New.refl le) (NewR.int _)⟩
  · cases e
    obtain ⟨v, w, rfl, h1, h2⟩ := callT_2 hx
    obtain rfl := h1.int; obtain rfl := h2.int
    exact call_max2 hc pins s σ H _ us Q I r ⟨_, _, rfl, q _ F H (New.refl le) (NewR.int _)⟩
  · rename_i xs
    rw [Option.map_eq_some_iff] at e
    obtain ⟨bs, e1, rfl⟩ := e
    obtain rfl := bools_ok e1
    obtain ⟨v, rfl, h1⟩ := callT_1 hx
    obtain ⟨a, vs, rfl, ha, h2⟩ := h1.list le
    obtain rfl := dn_bools h2
    exact cr_all hc pins s σ H _ us Q I r ⟨a, bs, rfl, .inl (.inl ha), q _ F H (New.refl le) (NewR.bl _)⟩
  · rename_i xs
    rw [Option.map_eq_some_iff] at e
    obtain ⟨bs, e1, rfl⟩ := e
    obtain rfl := bools_ok e1
    obtain ⟨v, rfl, h1⟩ := callT_1 hx
    obtain ⟨a, vs, rfl, ha, h2⟩ := h1.list le
    obtain rfl := dn_bools h2
    exact cr_any hc pins s σ H _ us Q I r ⟨a, bs, rfl, .inl (.inl ha), q _ F H (New.refl le) (NewR.bl _)⟩
  · cases e
    obtain ⟨v, rfl, h1⟩ := callT_1 hx
    obtain rfl := h1.int
    exact call_abs pins s σ H _ us Q I r ⟨_, rfl, q _ F H (New.refl le) (NewR.int _)⟩
  · cases e
    obtain ⟨v, rfl, h1⟩ := callT_1 hx
    obtain rfl := h1.int
    exact call_int1 pins s σ H _ us Q I r (.inl ⟨_, rfl, q _ F H (New.refl le) (NewR.int _)⟩)
  · cases e
    obtain ⟨v, rfl, h1⟩ := callT_1 hx
    obtain rfl := h1.bl
    exact call_int1 pins s σ H _ us Q I r (.inr ⟨_, rfl, q _ F H (New.refl le) (NewR.int _)⟩)
  · split at e
    · rename_i hj
      cases e
      obtain ⟨v, w, rfl, h1, h2⟩ := callT_2 hx
      obtain rfl := h1.int; obtain rfl := h2.int
      rename_i i j
      obtain ⟨u, w', rfl, ⟨t, rfl⟩, ⟨t', rfl⟩⟩ := vals2 r
      refine divmod_int (by omega) ?_ (.inl (PyProof.noPylong_small (by omega)))
      rw [Int.fdiv_eq_ediv_of_nonneg i (by omega), Int.fmod_eq_emod_of_nonneg i (by omega)]
      exact ep_tup (us := [Value.int (i / j) s.toks, Value.int (i % j) (s.toks + 1)]) (vs := [.int (i / j), .int (i % j)]) I le (.cons ⟨_, rfl⟩ (.cons ⟨_, rfl⟩ .nil)) (show 2 ≤ sizeLine by rw [sizeLine_eq]; decide) (.cons (.int _) (.cons (.int _) .nil)) q
    · cases e
  · rename_i b
    cases e
    obtain ⟨v, rfl, h1⟩ := callT_1 hx
    obtain rfl := h1.bl
    obtain ⟨u, rfl, rx⟩ := vals1 r
    cases rx
    exact P.repr_of_bool ⟨.str _, H, I.tok _, ⟨_, rfl⟩, q _ F H (New.refl le) (Dn.str _)⟩
  · split at e
    · rename_i c
      simp only [Bool.and_eq_true, decide_eq_true_eq] at c
      cases e
      obtain ⟨v, rfl, h1⟩ := callT_1 hx
      obtain ⟨u, rfl, rx⟩ := vals1 r
      have hp := h1.plain
      have hd := h1.dn le
      obtain ⟨as, ra⟩ := Dp.reads I _ _ _ (dn_dp _ _ hd) rx
      cases hd
      cases rx
      refine repr_of_reads' ra c.1.2 (PyData.noDict_hsm (noDict_plain _ hp)) hg ?_ (fun _ _ e => e) (fun h' u tk kp => ⟨.str _, H, I.kept kp, ⟨_, rfl⟩, q _ F H (New.refl le) (Dn.str _)⟩) (lim_line c.2)
      have z3 := okDp_ok c.1.1
      have z4 : PyData.depth _ ≤ 30 := z3
      have := hr.units
      omega
    · cases e
  · split at e
    · rename_i c
      simp only [Bool.and_eq_true, decide_eq_true_eq] at c
      cases e
      obtain ⟨v, rfl, h1⟩ := callT_1 hx
      obtain ⟨u, rfl, rx⟩ := vals1 r
      have hp := h1.plain
      have hd := h1.dn le
      obtain ⟨as, ra⟩ := Dp.reads I _ _ _ (dn_dp _ _ hd) rx
      cases hd
      cases rx
      refine repr_of_reads' ra c.1.2 (PyData.noDict_hsm (noDict_plain _ hp)) hg ?_ (fun _ _ e => e) (fun h' u tk kp => ⟨.str _, H, I.kept kp, ⟨_, rfl⟩, q _ F H (New.refl le) (Dn.str _)⟩) (lim_line c.2)
      have z3 := okDp_ok c.1.1
      have z4 : PyData.depth _ ≤ 30 := z3
      have := hr.units
      omega
    · cases e
  · exact absurd rfl hf
  · exact absurd rfl hf'
  · cases e
end
end Mi
end
section
/-! Mi5: subscripts, methods; how the slots change; what an expression's reading is. -/
namespace Mi
open PySem PySem.Spec
open PyProof.Rows hiding St Fr
open L2

section
variable {X : Cx} {k : Nat}
def rIxM (K : PySem.W.Frag) : R2 := fun x y H Q => ∃ F dx dy d, Same F H ∧ RdR K F H x dx ∧ RdR K F H y dy ∧ item dx dy = some d ∧ ∀ v, Den K F v d → Q v H
theorem ix_ok (hr : Room k X.A) : IxR X (rIxM X.K) := by
  intro value slice pins s σ H x y v u Q I rx ry h hs
  obtain ⟨F, dx, dy, d, le, hx, hy, e, q⟩ := h
  unfold item at e
  split at e
  · obtain rfl := hy.int
    obtain ⟨a, vs, rfl, ha, h2⟩ := hx.list le
    rw [Option.bind_eq_some_iff] at e
    obtain ⟨j, e1, e2⟩ := e
    rw [Option.map_eq_some_iff] at e2
    obtain ⟨p, e3, rfl⟩ := e2
    obtain ⟨z, hz, dz⟩ := dpl_get h2 e3
    refine ix_list value slice pins s σ H _ _ v u Q I rx ry ⟨a, vs, _, z, rfl, rfl, .inl (.inl ha), ?_, q z dz⟩ hs
    unfold atI
    rw [dpl_len h2, e1]
    exact hz
  · obtain rfl := hy.int
    obtain ⟨a, vs, rfl, ha, h2⟩ := hx.tup le
    rw [Option.bind_eq_some_iff] at e
    obtain ⟨j, e1, e2⟩ := e
    rw [Option.map_eq_some_iff] at e2
    obtain ⟨p, e3, rfl⟩ := e2
    obtain ⟨z, hz, dz⟩ := dpl_get h2 e3
    refine ix_tup value slice pins s σ H _ _ v u Q I rx ry ⟨a, vs, _, z, rfl, rfl, ha.sq, ?_, q z dz⟩ hs
    unfold atI
    rw [dpl_len h2, e1]
    exact hz
  · obtain rfl := hy.int
    obtain ⟨a, rfl, ha⟩ := hx.scr le
    rw [Option.bind_eq_some_iff] at e
    obtain ⟨j, e1, e2⟩ := e
    rw [Option.map_eq_some_iff] at e2
    obtain ⟨p, e3, rfl⟩ := e2
    refine ix_list value slice pins s σ H _ _ v u Q I rx ry ⟨a, _, _, .int p, rfl, rfl, ha, ?_, q _ (Dn.int _)⟩ hs
    unfold atI
    rw [List.length_map, e1]
    show (List.map V.int _)[j]? = _
    rw [List.getElem?_map, e3] <;> rfl
  · rename_i kvs p
    rw [Option.bind_eq_some_iff] at e
    obtain ⟨kk, ek, e2⟩ := e
    rw [Option.map_eq_some_iff] at e2
    obtain ⟨p2, e3, rfl⟩ := e2
    obtain ⟨a, vs, rfl, ha, h2⟩ := hx.dct le
    obtain rfl := dn_key (hy.dn le) ek
    obtain ⟨z, hz, dz⟩ := (dkv_get kk h2).1 p2 e3
    cases rx
    have g : DGet H a (kV kk) (some z) := by rw [← hz]; exact DGet.k ha
    have hu : X.A.units + 1 < cLine := by
      have := hr.units
      omega
    exact tail_any (ops := [.ref a, u]) (dict_typeIs I g) PySem.F.slot_dict_getitem.lookup (d_getItem hu I g ry fun w' s' I' rw' => ⟨z, H, I', rw', q z dz⟩) hs
  · cases e
theorem cut_dn {K : PySem.W.Frag} {F : Hp} {vs : List V} {ds : List PyData} (h : DnAll K F vs ds) (lo hi : Option Int) : DnAll K F (cutV vs lo hi) (cutP ds lo hi) := by
  unfold cutV cutP
  rw [dpl_len h]
  exact dpl_take _ (dpl_drop _ h)
def rSlM (K : PySem.W.Frag) : V → Option Int → Option Int → Hp → VK → Prop := fun x lo hi H Q => ∃ F d od, Same F H ∧ RdR K F H x d ∧ sliceD d lo hi = some od ∧ ∀ v F' H', New F H F' H' → NewR K H F' H' v od → Q v H'
theorem sl_ok : L2.SlR X (rSlM X.K) := by
  intro pins s σ H x v vl vu lo hi sl Q I rx hs pl pu h
  obtain ⟨F, d, od, le, hx, e, q⟩ := h
  unfold sliceD at e
  split at e
  · cases e
    obtain ⟨a, vs, rfl, ha, h2⟩ := hx.tup le
    cases rx
    obtain ⟨its, r, ht, hz⟩ := tp_vals I ha
    have hlen : its.toArray.size = vs.length := by rw [List.size_toArray]; exact r.length.symm
    have hl := dpl_len h2
    refine ⟨"tuple", _, PyProof.Rows.slot_tuple_getitem.lookup, ht.typeIs, ?_⟩
    by_cases hw : HT.sIx vs.length 0 lo = 0 ∧ HT.sIx vs.length vs.length hi = vs.length
    · refine getItem_tuple_whole ht hs pl pu (by rw [hlen]; exact hw) (ep_of (v := .ref a) I rfl (q _ F H (New.refl le) ?_))
      have e2 : cutP _ lo hi = _ := show cutP _ lo hi = _ from by
        unfold cutP
        rw [← hl, hw.1, hw.2, List.drop_zero, Nat.sub_zero, List.take_of_length_le (by omega)]
      rw [e2]
      rcases hx with hx | ⟨_, _, hx⟩
      · exact hx
      · exact hx.elim
    · refine HT.getItem_tuple_cut ht hs pl pu (by rw [hlen]; exact hw) ?_ (by rw [hlen]; exact hz)
      rw [hlen]
      have rc : Vals (cutV vs lo hi) (((its.toArray).toList.drop (HT.sIx vs.length 0 lo)).take (HT.sIx vs.length vs.length hi - HT.sIx vs.length 0 lo)) := by
        unfold cutV
        exact (r.drop _).take _
      exact ep_tup I le rc (Nat.le_trans (cutV_length _ _ _) hz) (cut_dn h2 lo hi) q
  · cases e
    obtain ⟨a, vs, rfl, ha, h2⟩ := hx.list le
    exact sl_list pins s σ H _ v vl vu lo hi sl Q I rx hs pl pu ⟨a, vs, rfl, .inl (.inl ha), fun p hp => q _ _ _ (New.lst le hp) (NewR.lst le hp (cut_dn h2 lo hi))⟩
  · cases e

/-! ### methods -/
def rMe (K : PySem.W.Frag) (m : Me) (T : PyData → Bool) : V → List V → Hp → VK → Prop := fun x vs H Q => ∃ F p ds od, T p = true ∧ Same F H ∧ RdR K F H x (.py p) ∧ RdRs K F H vs ds ∧ meD m (.py p) ds = some od ∧ ∀ v F' H', New F H F' H' → NewR K H F' H' v od → Q v H'
def isTup : PyData → Bool
  | .tuple _ => true
  | _ => false
def isLst : PyData → Bool
  | .list _ => true
  | _ => false
theorem isTup_ok {p : PyData} (h : isTup p = true) : ∃ ps, p = .tuple ps := by
  cases p with
  | tuple ps => exact ⟨ps, rfl⟩
  | _ => cases h
theorem isLst_ok {p : PyData} (h : isLst p = true) : ∃ ps, p = .list ps := by
  cases p with
  | list ps => exact ⟨ps, rfl⟩
  | _ => cases h
end
section
open PySem.SeqAt
theorem items_ix {A : Around} {s : Shared} {its : Array Value} {xs : List PyData} {as bs : List Addr} {x : Value} {d : PyData} (rs : ReadsAll s.heap its.toList xs as) (rx : Reads s.heap x d bs) (hxs : PyData.plainAll xs = true) (hd : d.plain = true)
    (hu : A.units + 1 + min (PyData.depthAll xs) d.depth < cLine) : ∀ j (hj : j < its.size), EqAt A.in1 s its[j] x (PyData.eqv (xs.getD j .none) d) := fun j hj => by
  obtain ⟨h2, e⟩ := readOf_at rs hxs j hj
  have z := items_plain rs rx hxs hd hu its[j] (Array.getElem_mem hj)
  rw [e] at z
  rw [List.getD_eq_getElem?_getD, List.getElem?_eq_getElem h2]
  exact z
theorem find_hit {xs : List PyData} {f : PyData → Bool} {j : Nat} (h : xs.findIdx? f = some j) : j < xs.length ∧ f (xs.getD j .none) = true ∧ ∀ m, m < j → f (xs.getD m .none) = false := by
  obtain ⟨h1, h2, h3⟩ := List.findIdx?_eq_some_iff_getElem.mp h
  refine ⟨h1, ?_, fun m hm => ?_⟩
  · rw [List.getD_eq_getElem?_getD, List.getElem?_eq_getElem h1]; exact h2
  · have hm' : m < xs.length := by omega
    rw [List.getD_eq_getElem?_getD, List.getElem?_eq_getElem hm']
    have := h3 m hm
    simpa using this
variable {X : Cx} {k : Nat}
theorem room_in {A : Around} (hr : Room k A) {n : Nat} {p : PyData} (h : okDp p = true) : A.units + 1 + min n p.depth < cLine := by
  have := hr.units
  have h2 : p.depth ≤ 30 := okDp_ok h
  have h3 := Nat.min_le_right n p.depth
  omega
theorem mt_tup_count (hr : Room k X.A) : MtR X "tuple.count" (rMe X.K .count isTup) := by
  intro pins s σ H x xs v us Q I rx rs h
  obtain ⟨F, p, ds, od, ht, le, hx, hs, e, q⟩ := h
  obtain ⟨ps, rfl⟩ := isTup_ok ht
  replace e : countD ps ds = some od := e
  unfold countD at e
  split at e <;> try cases e
  rename_i c
  split at e
  · rename_i hd
    cases e
    obtain ⟨y, rfl, h1⟩ := callT_1 hs
    obtain ⟨u, rfl, ry⟩ := vals1 rs
    obtain ⟨a, vs, rfl, ha, h2⟩ := hx.tup le
    cases rx
    obtain ⟨its, r, pl, hz⟩ := tp_vals I ha
    obtain ⟨as, ra⟩ := Dp.readsAll I _ _ _ (dnAll_dp _ _ (dpAll_same le _ _ h2)) r
    obtain ⟨bs, rb⟩ := Dp.reads I _ _ _ (h1.dp le) ry
    exact count_tuple_data pl (by simpa using ra) rb (dpl_plain _ _ h2) h1.plain (room_in hr hd) ⟨.int _, H, I.tok _, ⟨_, rfl⟩, q _ F H (New.refl le) (NewR.int _)⟩
  · cases e
theorem mt_lst_count (hr : Room k X.A) : MtR X "list.count" (rMe X.K .count isLst) := by
  intro pins s σ H x xs v us Q I rx rs h
  obtain ⟨F, p, ds, od, ht, le, hx, hs, e, q⟩ := h
  obtain ⟨ps, rfl⟩ := isLst_ok ht
  replace e : countD ps ds = some od := e
  unfold countD at e
  split at e <;> try cases e
  rename_i c
  split at e
  · rename_i hd
    cases e
    obtain ⟨y, rfl, h1⟩ := callT_1 hs
    obtain ⟨u, rfl, ry⟩ := vals1 rs
    obtain ⟨a, vs, rfl, ha, h2⟩ := hx.list le
    cases rx
    obtain ⟨its, r, pl, hz⟩ := I.list (.inl (.inl ha))
    obtain ⟨as, ra⟩ := Dp.readsAll I _ _ _ (dnAll_dp _ _ (dpAll_same le _ _ h2)) r
    obtain ⟨bs, rb⟩ := Dp.reads I _ _ _ (h1.dp le) ry
    exact count_list_data pl.isList (by simpa using ra) rb (dpl_plain _ _ h2) h1.plain (room_in hr hd) ⟨.int _, H, I.tok _, ⟨_, rfl⟩, q _ F H (New.refl le) (NewR.int _)⟩
  · cases e
theorem mt_tup_ix (hr : Room k X.A) : MtR X "tuple.index" (rMe X.K .index isTup) := by
  intro pins s σ H x xs v us Q I rx rs h
  obtain ⟨F, p, ds, od, ht, le, hx, hs, e, q⟩ := h
  obtain ⟨ps, rfl⟩ := isTup_ok ht
  replace e : indexD ps ds = some od := e
  unfold indexD at e
  split at e <;> try cases e
  · rename_i c
    split at e
    · rename_i hd
      rw [Option.map_eq_some_iff] at e
      obtain ⟨j, ej, rfl⟩ := e
      obtain ⟨f1, f2, f3⟩ := find_hit ej
      obtain ⟨y, rfl, h1⟩ := callT_1 hs
      obtain ⟨u, rfl, ry⟩ := vals1 rs
      obtain ⟨a, vs, rfl, ha, h2⟩ := hx.tup le
      cases rx
      obtain ⟨its, r, pl, hz⟩ := tp_vals I ha
      obtain ⟨as, ra⟩ := Dp.readsAll I _ _ _ (dnAll_dp _ _ (dpAll_same le _ _ h2)) r
      obtain ⟨bs, rb⟩ := Dp.reads I _ _ _ (h1.dp le) ry
      have hl : its.toArray.size = ps.length := by rw [List.size_toArray, ← r.length, dpl_len h2]
      obtain ⟨⟨cls, dd, data, sl⟩, ho, hc, n, hd'⟩ := id pl
      simp only at hc hd'
      subst hc hd'
      exact call_meets PySem.F.slot_tuple_index ⟨_, ho, rfl⟩ PySem.F.entry_tuple_index (PySem.F.args_tuple_index_2 _ _)
        (tuple_index2_found a its.toArray n dd sl _ (fun j => PyData.eqv (ps.getD j .none) c) j (by omega) (Nat.zero_le _) (by omega) f2 fun m hm _ hlt => f3 m hlt)
        ⟨ho, items_ix (by simpa using ra) rb (dpl_plain _ _ h2) h1.plain (room_in hr hd), ⟨.int _, H, I.tok _, ⟨_, rfl⟩, q _ F H (New.refl le) (NewR.int _)⟩⟩
    · cases e
  · rename_i c i
    split at e
    · rename_i hd
      simp only [Bool.and_eq_true, decide_eq_true_eq] at hd
      rw [Option.map_eq_some_iff] at e
      obtain ⟨j, ej, rfl⟩ := e
      obtain ⟨f1, f2, f3⟩ := find_hit ej
      obtain ⟨y, z, rfl, h1, h3⟩ := callT_2 hs
      obtain rfl := h3.int
      obtain ⟨u, u2, rfl, ry, ⟨t, rfl⟩⟩ := vals2 rs
      obtain ⟨a, vs, rfl, ha, h2⟩ := hx.tup le
      cases rx
      obtain ⟨its, r, pl, hz⟩ := tp_vals I ha
      obtain ⟨as, ra⟩ := Dp.readsAll I _ _ _ (dnAll_dp _ _ (dpAll_same le _ _ h2)) r
      obtain ⟨bs, rb⟩ := Dp.reads I _ _ _ (h1.dp le) ry
      have hl : its.toArray.size = ps.length := by rw [List.size_toArray, ← r.length, dpl_len h2]
      rw [List.length_drop] at f1
      have hf : searchFrom i its.toArray.size = i.toNat := searchFrom_nonneg hd.1.2 _
      have hj : ((i.toNat + j : Nat) : Int) = i + (j : Int) := by omega
      have gd : ∀ m, (ps.drop i.toNat).getD m .none = ps.getD (i.toNat + m) .none := fun m => by
        rw [List.getD_eq_getElem?_getD, List.getD_eq_getElem?_getD, List.getElem?_drop]
      obtain ⟨⟨cls, dd, data, sl⟩, ho, hc, n, hd'⟩ := id pl
      simp only at hc hd'
      subst hc hd'
      refine call_meets PySem.F.slot_tuple_index ⟨_, ho, rfl⟩ PySem.F.entry_tuple_index (PySem.F.args_tuple_index_3 _ _ _)
        (tuple_index3_found a its.toArray n dd sl _ (fun j => PyData.eqv (ps.getD j .none) c) i t (i.toNat + j) (by omega) (by omega) (by omega) ?_ fun m hm hlo hlt => ?_)
        ⟨ho, items_ix (by simpa using ra) rb (dpl_plain _ _ h2) h1.plain (room_in hr hd.1.1), ?_⟩
      · have := f2; rw [gd] at this; exact this
      · have := f3 (m - i.toNat) (by omega)
        rw [gd] at this
        rwa [show i.toNat + (m - i.toNat) = m by omega] at this
      · rw [hj]
        exact ⟨.int _, H, I.tok _, ⟨_, rfl⟩, q _ F H (New.refl le) (NewR.int _)⟩
    · cases e
theorem mt_lst_ix (hr : Room k X.A) : MtR X "list.index" (rMe X.K .index isLst) := by
  intro pins s σ H x xs v us Q I rx rs h
  obtain ⟨F, p, ds, od, ht, le, hx, hs, e, q⟩ := h
  obtain ⟨ps, rfl⟩ := isLst_ok ht
  replace e : index1 ps ds = some od := e
  unfold index1 at e
  split at e <;> try cases e
  · rename_i c
    split at e
    · rename_i hd
      rw [Option.map_eq_some_iff] at e
      obtain ⟨j, ej, rfl⟩ := e
      obtain ⟨f1, f2, f3⟩ := find_hit ej
      obtain ⟨y, rfl, h1⟩ := callT_1 hs
      obtain ⟨u, rfl, ry⟩ := vals1 rs
      obtain ⟨a, vs, rfl, ha, h2⟩ := hx.list le
      cases rx
      obtain ⟨its, r, pl, hz⟩ := I.list (.inl (.inl ha))
      obtain ⟨as, ra⟩ := Dp.readsAll I _ _ _ (dnAll_dp _ _ (dpAll_same le _ _ h2)) r
      obtain ⟨bs, rb⟩ := Dp.reads I _ _ _ (h1.dp le) ry
      have hl : its.toArray.size = ps.length := by rw [List.size_toArray, ← r.length, dpl_len h2]
      rw [sizeLine_eq] at hz
      have hv := r.length
      have hw : its.toArray.size = its.length := by simp
      obtain ⟨⟨cls, dd, data, sl⟩, ho, hc, n, hd'⟩ := id pl.isList
      simp only at hc hd'
      subst hc hd'
      exact call_meets PySem.F.slot_list_index ⟨_, ho, rfl⟩ PySem.F.entry_list_index (PySem.F.args_list_index_2 _ _)
        (list_index2_found a its.toArray n dd sl _ (fun j => PyData.eqv (ps.getD j .none) c) j (by omega) (Nat.zero_le _) (by omega) f2 fun m hm _ hlt => f3 m hlt)
        ⟨ho, items_ix (by simpa using ra) rb (dpl_plain _ _ h2) h1.plain (room_in hr hd), ⟨.int _, H, I.tok _, ⟨_, rfl⟩, q _ F H (New.refl le) (NewR.int _)⟩⟩
    · cases e
end
end Mi
end
section
/-! Mi6: how the slots change; readings of expressions, tests, argument lists. -/
namespace Mi
open PySem PySem.Spec
open PyProof.Rows hiding St Fr
open L2

section
variable {K : PySem.W.Frag} {F H F1 H1 F2 H2 : Hp} {st st1 st2 : En} {σ : L2.St} {v : V} {od : Od} {d : D} {a : Addr} {i : Nat}
theorem get_set {α : Type} {l : List α} {i j : Nat} {x y : α} (h : (l.set i x)[j]? = some y) : (j = i ∧ y = x ∧ i < l.length) ∨ (j ≠ i ∧ l[j]? = some y) := by
  by_cases e : j = i
  · subst e
    have hl : j < l.length := by
      have := (List.getElem?_eq_some_iff.mp h).1
      simpa using this
    rw [List.getElem?_set_self hl] at h
    cases h
    exact .inl ⟨rfl, rfl, hl⟩
  · rw [List.getElem?_set_ne (Ne.symm e)] at h
    exact .inr ⟨e, h⟩
theorem get_lt {α : Type} {l : List α} {i : Nat} {x : α} (h : l[i]? = some x) : i < l.length := (List.getElem?_eq_some_iff.mp h).1
/-- what is owned comes to hold other things -/
theorem Rel.putO {s t : Sl} {o' : HO} {d' : D} (r : Rel K F st σ H) (hi : st[i]? = some s) (ho : s.owned = true) (ht : (t = .ow d' ∧ ∃ d, s = .ow d) ∨ (t = .bo d' ∧ ∃ d, s = .bo d)) (ha : σ[i]? = some (some (V.ref a))) (hd : OwnAt K F (upd H a o') a d') :
    Go K st σ F H (st.set i t) σ F (upd H a o') := by
  obtain ⟨a', d0, ea, en, eo, _⟩ := r.ownsAt hi ho
  rw [ha] at ea; cases ea
  have to : t.owned = true := by rcases ht with ⟨rfl, _⟩ | ⟨rfl, _⟩ <;> rfl
  have own : Owns st σ a := ⟨i, s, hi, ho, ha⟩
  have live : H a ≠ none := eo.live
  have back : ∀ b, Owns (st.set i t) σ b → Owns st σ b := fun b ⟨j, u, h1, h2, h3⟩ => by
    rcases get_set h1 with ⟨e, e2, _⟩ | ⟨_, h1⟩
    · subst e; exact ⟨j, s, hi, ho, h3⟩
    · exact ⟨j, u, h1, h2, h3⟩
  refine ⟨⟨Same.refl F, fun b o h n => ?_, fun b h => ?_, fun b h => .inl (back b h), fun b h => .inl h⟩, ⟨fun b o h => ?_, by rw [List.length_set]; exact r.len, fun j u h => ?_, fun j j' u u' b h1 h2 h3 h4 h5 h6 => ?_⟩, fun j d h => ⟨rfl, ?_⟩⟩
  · rw [upd_ne (fun e : b = a => n (by rw [e]; exact own))]; exact h
  · by_cases e : b = a
    · subst e; rw [upd_same]; simp
    · rw [upd_ne e]; exact h
  · rw [upd_ne (fun e => by subst e; rw [en] at h; cases h)]; exact r.le b o h
  · rcases get_set h with ⟨e, e2, _⟩ | ⟨e, h⟩
    · subst e e2
      rcases ht with ⟨rfl, _⟩ | ⟨rfl, _⟩
      · exact ⟨a, ha, en, hd⟩
      · exact ⟨a, ha, en, hd⟩
    · have z := r.sl j u h
      have keep : ∀ b, σ[j]? = some (some (V.ref b)) → u.owned = true → ∀ o, H b = some o → (upd H a o') b = some o := fun b hb hu o q => by
        rw [upd_ne (fun e2 : b = a => e (r.inj j i u s b h hi hu ho hb (by rw [e2]; exact ha)))]; exact q
      cases u with
      | no => trivial
      | fr d => exact z
      | ow d => obtain ⟨b, h1, h2, h3⟩ := z; exact ⟨b, h1, h2, h3.same (Same.refl F) (keep b h1 rfl)⟩
      | bo d => obtain ⟨b, h1, h2, h3⟩ := z; exact ⟨b, h1, h2, h3.same (Same.refl F) (keep b h1 rfl)⟩
  · have e1 : ∃ w : Sl, st[j]? = some w ∧ w.owned = true := by
      rcases get_set h1 with ⟨e, e2, _⟩ | ⟨_, h1⟩
      · subst e; exact ⟨s, hi, ho⟩
      · exact ⟨u, h1, h3⟩
    have e2 : ∃ w : Sl, st[j']? = some w ∧ w.owned = true := by
      rcases get_set h2 with ⟨e, e2, _⟩ | ⟨_, h2⟩
      · subst e; exact ⟨s, hi, ho⟩
      · exact ⟨u', h2, h4⟩
    obtain ⟨w, q1, q2⟩ := e1
    obtain ⟨w', q3, q4⟩ := e2
    exact r.inj j j' w w' b q1 q3 q2 q4 h5 h6
  · rcases get_set h with ⟨e, e2, _⟩ | ⟨e, h⟩
    · subst e
      rcases ht with ⟨rfl, _⟩ | ⟨rfl, d1, rfl⟩
      · cases e2
      · exact ⟨d1, hi⟩
    · exact ⟨d, h⟩
/-- an owned list comes to hold other items -/
theorem Rel.put {s t : Sl} {vs : List V} {ds : List PyData} (r : Rel K F st σ H) (hi : st[i]? = some s) (ho : s.owned = true) (ht : (t = .ow (.py (.list ds)) ∧ ∃ d, s = .ow d) ∨ (t = .bo (.py (.list ds)) ∧ ∃ d, s = .bo d)) (ha : σ[i]? = some (some (V.ref a))) (hd : DnAll K F vs ds) :
    Go K st σ F H (st.set i t) σ F (upd H a (.lst vs)) := r.putO hi ho ht ha ⟨vs, upd_same, hd⟩
/-- what is owned is frozen: its slot is read as a value -/
theorem Rel.frzO {o : HO} (r : Rel K F st σ H) (hi : st[i]? = some (.ow d)) (ha : σ[i]? = some (some (V.ref a))) (en : F a = none) (h1 : H a = some o) (hd : Same F (upd F a o) → Den K (upd F a o) (.ref a) d) :
    Den K (upd F a o) (.ref a) d ∧ Go K st σ F H (st.set i (.fr d)) σ (upd F a o) H := by
  have own : Owns st σ a := ⟨i, _, hi, rfl, ha⟩
  have sF : Same F (upd F a o) := fun b o h => by rw [upd_ne (fun e => by subst e; rw [en] at h; cases h)]; exact h
  have hden := hd sF
  have back : ∀ b, Owns (st.set i (.fr d)) σ b → Owns st σ b ∧ b ≠ a := fun b ⟨j, u, g1, g2, g3⟩ => by
    rcases get_set g1 with ⟨e, e2, _⟩ | ⟨e, g1⟩
    · subst e2; cases g2
    · exact ⟨⟨j, u, g1, g2, g3⟩, fun q : b = a => e (r.inj j i u _ b g1 hi g2 rfl g3 (by rw [q]; exact ha))⟩
  refine ⟨hden, ⟨sF, fun b o h _ => h, fun b h => h, fun b h => .inl (back b h).1, fun b h => ?_⟩, ⟨fun b o h => ?_, by rw [List.length_set]; exact r.len, fun j u h => ?_, fun j j' u u' b g1 g2 g3 g4 g5 g6 => ?_⟩, fun j d h => ⟨rfl, ?_⟩⟩
  · by_cases e : b = a
    · subst e; exact .inr (.inl own)
    · rw [upd_ne e] at h; exact .inl h
  · by_cases e : b = a
    · subst e; rw [upd_same] at h; cases h; exact h1
    · rw [upd_ne e] at h; exact r.le b o h
  · rcases get_set h with ⟨e, e2, _⟩ | ⟨e, h⟩
    · subst e e2; exact ⟨.ref a, ha, hden⟩
    · have z := r.sl j u h
      have nf : ∀ b, σ[j]? = some (some (V.ref b)) → u.owned = true → F b = none → (upd F a o) b = none := fun b hb hu q => by
        rw [upd_ne (fun e2 : b = a => e (r.inj j i u _ b h hi hu rfl hb (by rw [e2]; exact ha)))]; exact q
      cases u with
      | no => trivial
      | fr d => obtain ⟨w, g1, g2⟩ := z; exact ⟨w, g1, g2.same sF⟩
      | ow d => obtain ⟨b, g1, g2, g3⟩ := z; exact ⟨b, g1, nf b g1 rfl g2, g3.same sF fun _ q => q⟩
      | bo d => obtain ⟨b, g1, g2, g3⟩ := z; exact ⟨b, g1, nf b g1 rfl g2, g3.same sF fun _ q => q⟩
  · rcases get_set g1 with ⟨_, e2, _⟩ | ⟨_, g1⟩
    · subst e2; cases g3
    · rcases get_set g2 with ⟨_, e2, _⟩ | ⟨_, g2⟩
      · subst e2; cases g4
      · exact r.inj j j' u u' b g1 g2 g3 g4 g5 g6
  · rcases get_set h with ⟨_, e2, _⟩ | ⟨_, h⟩
    · cases e2
    · exact ⟨d, h⟩
theorem Rel.freeze (r : Rel K F st σ H) (hi : st[i]? = some (.ow d)) : ∃ (a : Addr) (o : HO), σ[i]? = some (some (V.ref a)) ∧ Den K (upd F a o) (.ref a) d ∧ Go K st σ F H (st.set i (.fr d)) σ (upd F a o) H := by
  obtain ⟨a, ha, en, eo⟩ := r.sl i _ hi
  cases d with
  | dct kvs =>
    obtain ⟨vs, h1, h2⟩ := eo
    exact ⟨a, .dK vs, ha, r.frzO hi ha en h1 fun sF => ⟨a, vs, rfl, upd_same, dkv_same sF h2⟩⟩
  | set _ => exact eo.elim
  | scr _ => exact eo.elim
  | py p =>
    cases p with
    | list ds =>
      obtain ⟨vs, h1, h2⟩ := eo
      exact ⟨a, .lst vs, ha, r.frzO hi ha en h1 fun sF => Dn.lst upd_same (dpAll_same sF ds vs h2)⟩
    | _ => exact eo.elim
/-- where a fresh value comes from -/
def Fro (st : En) (σ : L2.St) (H : Hp) (v : V) : Od → Prop
  | .fe _ => ∃ a, v = .ref a ∧ (Owns st σ a ∨ H a = none)
  | _ => True
theorem Fro.back (g : Go K st σ F H st1 σ F1 H1) (h : Fro st1 σ H1 v od) : Fro st σ H v od := by
  cases od with
  | va _ => trivial
  | pk _ => trivial
  | fe _ =>
    obtain ⟨a, e, h⟩ := h
    rcases h with h | h
    · exact ⟨a, e, g.stp.own a h⟩
    · refine ⟨a, e, .inr ?_⟩
      cases q : H a with
      | none => rfl
      | some o => exact absurd h (g.stp.live a (by rw [q]; simp))
structure Res (K : PySem.W.Frag) (st : En) (σ : L2.St) (F H : Hp) (st' : En) (F' H' : Hp) (v : V) (od : Od) : Prop where
  go : Go K st σ F H st' σ F' H'
  rel : ORel K F' H' st' σ v od
  fro : Fro st σ H v od
theorem NewR.res (g : Go K st σ F H st1 σ F1 H1) (n : New F1 H1 F2 H2) (nr : NewR K H1 F2 H2 v od) : Res K st σ F H st1 F2 H2 v od := by
  refine ⟨g.trans (n.go g.rel), nr.orel g.rel n, Fro.back g ?_⟩
  cases od with
  | va _ => trivial
  | pk _ => trivial
  | fe _ => obtain ⟨a, e, h, _⟩ := nr; exact ⟨a, e, .inr h⟩
theorem Res.den (g : Go K st σ F H st1 σ F1 H1) (h : Den K F1 v d) : Res K st σ F H st1 F1 H1 v (.va d) := ⟨g, h, trivial⟩
theorem Res.back (g : Go K st σ F H st1 σ F1 H1) (r : Res K st1 σ F1 H1 st2 F2 H2 v od) : Res K st σ F H st2 F2 H2 v od := ⟨g.trans r.go, r.rel, Fro.back g r.fro⟩
end

/-! ### readings -/
def tE (K : PySem.W.Frag) (C : Ct) (m : Ex) : TE := fun σ H Q => ∃ F st od st', Rel K F st σ H ∧ evE C m st = some (od, st') ∧ ∀ v F' H', Res K st σ F H st' F' H' v od → Q v H'
def tT (K : PySem.W.Frag) (C : Ct) (m : T) : TT := fun σ H Q => ∃ F st b st', Rel K F st σ H ∧ evT C m st = some (b, st') ∧ ∀ F' H', Go K st σ F H st' σ F' H' → Q b H'
inductive ORs (K : PySem.W.Frag) (st0 : En) (H0 : Hp) (F H : Hp) (st : En) (σ : L2.St) : List V → List Od → Prop
  | nil : ORs K st0 H0 F H st σ [] []
  | cons {v : V} {vs : List V} {o : Od} {os : List Od} : ORel K F H st σ v o → Fro st0 σ H0 v o → ORs K st0 H0 F H st σ vs os → ORs K st0 H0 F H st σ (v :: vs) (o :: os)
def tA (K : PySem.W.Frag) (C : Ct) (m : Exs) : TA := fun σ H Q => ∃ F st os st', Rel K F st σ H ∧ evs C m st = some (os, st') ∧ ∀ vs F' H', Go K st σ F H st' σ F' H' → ORs K st H F' H' st' σ vs os → Q vs H'
section
variable {X : Cx} {e a b c : Expr} {es : List Expr} {t t' : TE} {tt tt' : TT} {ta ta' : TA} {pos : Pos}
theorem pe_mono (h : PE X e t) (w : ∀ σ H Q, t' σ H Q → t σ H Q) : PE X e t' := ⟨fun pins s σ H Q I q => h.run pins s σ H Q I (w σ H Q q)⟩
theorem pt_mono (h : PT X e tt) (w : ∀ σ H Q, tt' σ H Q → tt σ H Q) : PT X e tt' := ⟨fun pins s σ H Q I q => h.run pins s σ H Q I (w σ H Q q)⟩
theorem pa_mono (h : PA X es ta) (w : ∀ σ H Q, ta' σ H Q → ta σ H Q) : PA X es ta' := ⟨fun pos pins s σ H Q I q => h.run pos pins s σ H Q I (w σ H Q q)⟩
variable {C : Ct} {ma mb mc : Ex} {k : Nat} {K : PySem.W.Frag}
theorem tE_two {st : En} {F H : Hp} {σ : L2.St} {qa qb : Od × En} {R : V → V → Hp → Prop} (r : Rel K F st σ H) (ea : evE C ma st = some qa) (eb : evE C mb qa.2 = some qb)
    (k : ∀ x y F' H', Go K st σ F H qb.2 σ F' H' → ORel K F' H' qb.2 σ x qa.1 → ORel K F' H' qb.2 σ y qb.1 → R x y H') : tE K C ma σ H fun x H1 => tE K C mb σ H1 fun y H2 => R x y H2 :=
  ⟨F, st, qa.1, qa.2, r, ea, fun x F1 H1 ra => ⟨F1, qa.2, qb.1, qb.2, ra.go.rel, eb, fun y F2 H2 rb => k x y F2 H2 (ra.go.trans rb.go) (ra.rel.step rb.go) rb.rel⟩⟩
theorem me_op {o : O2} (ha : PE X a (tE X.K C ma)) (hb : PE X b (tE X.K C mb)) : PE X (.BinOp a o.op b pos) (tE X.K C (.op o ma mb)) := pe_mono (pe_op (op2_ok o) ha hb) fun σ H Q ⟨F, st, od, st', r, e, q⟩ => by
  simp only [evE, Option.bind_eq_some_iff, Option.map_eq_some_iff] at e
  obtain ⟨qa, ea, qb, eb, x, ex, y, ey, z, ez, e⟩ := e
  cases e
  exact tE_two r ea eb fun u v F' H' g ra rb => ⟨F', x, y, _, g.rel.le, ra.rd g.rel ex, rb.rd g.rel ey, ez, fun w F2 H2 n nr => q w F2 H2 (nr.res g n)⟩
theorem me_neg (ha : PE X a (tE X.K C ma)) : PE X (.UnaryOp .USub a pos) (tE X.K C (.neg ma)) := pe_mono (pe_un un_neg ha) fun σ H Q ⟨F, st, od, st', r, e, q⟩ => by
  simp only [evE, Option.bind_eq_some_iff] at e
  obtain ⟨qa, ea, e⟩ := e
  split at e
  · rename_i i hi
    cases e
    refine ⟨F, st, qa.1, qa.2, r, ea, fun x F' H' ra => ?_⟩
    obtain rfl := (ra.rel.rd ra.go.rel hi).int
    exact ⟨i, rfl, q _ _ _ (Res.den ra.go (Dn.int _))⟩
  · cases e
theorem me_cm {o : Cm} (hr : Room k X.A) (ha : PE X a (tE X.K C ma)) (hb : PE X b (tE X.K C mb)) (hm : behindInMarks o.op b = false) : PE X (.Compare a [o.op] [b] pos) (tE X.K C (.cm o ma mb)) := pe_mono (pe_cmpR (cm_ok hr o) ha hb hm) fun σ H Q ⟨F, st, od, st', r, e, q⟩ => by
  simp only [evE, Option.bind_eq_some_iff, Option.map_eq_some_iff] at e
  obtain ⟨qa, ea, qb, eb, x, ex, y, ey, z, ez, e⟩ := e
  cases e
  exact tE_two r ea eb fun u v F' H' g ra rb => ⟨F', x, y, z, g.rel.le, ra.rd g.rel ex, rb.rd g.rel ey, ez, q _ _ _ (Res.den g (Dn.bl _))⟩
theorem me_cm2 {o o' : Cm} (hr : Room k X.A) (ha : PE X a (tE X.K C ma)) (hb : PE X b (tE X.K C mb)) (hc : PE X c (tE X.K C mc)) (hm : lastMarks [o.op, o'.op] [b, c] = false) :
    PE X (.Compare a [o.op, o'.op] [b, c] pos) (tE X.K C (.cm2 o o' ma mb mc)) := pe_mono (pe_chain (cm_ok hr o) (cm_ok hr o') ha hb hc hm) fun σ H Q ⟨F, st, od, st', r, e, q⟩ => by
  simp only [evE, Option.bind_eq_some_iff] at e
  obtain ⟨qa, ea, qb, eb, x, ex, y, ey, z, ez, e⟩ := e
  refine tE_two r ea eb fun u v F' H' g ra rb => ⟨F', x, y, z, g.rel.le, ra.rd g.rel ex, rb.rd g.rel ey, ez, z, rfl, ?_⟩
  cases z with
  | false =>
    cases e
    exact iteF (q _ _ _ (Res.den g (Dn.bl _)))
  | true =>
    rw [if_pos rfl, Option.bind_eq_some_iff] at e
    obtain ⟨qc, ec, e⟩ := e
    rw [Option.bind_eq_some_iff] at e
    obtain ⟨y', ey', e⟩ := e
    rw [Option.bind_eq_some_iff] at e
    obtain ⟨u', eu', e⟩ := e
    rw [Option.map_eq_some_iff] at e
    obtain ⟨z', ez', e⟩ := e
    cases e
    refine iteT ⟨F', qb.2, qc.1, qc.2, g.rel, ec, fun w F2 H2 rc => ?_⟩
    exact ⟨F2, y', u', z', rc.go.rel.le, (rb.step rc.go).rd rc.go.rel ey', rc.rel.rd rc.go.rel eu', ez', q _ _ _ (Res.den (g.trans rc.go) (Dn.bl _))⟩
end
end Mi
end
section
/-! Mi7: expressions. -/
namespace Mi
open PySem PySem.Spec
open PyProof.Rows hiding St Fr
open L2

/-- no star, no slice stands there -/
def noStar : Expr → Bool
  | .Starred .. => false
  | _ => true
def noSlice : Expr → Bool
  | .Slice .. => false
  | _ => true
def noSet : Expr → Bool
  | .Set .. => false
  | _ => true
theorem star_cons {e : Expr} {es : List Expr} {env : Env} (h : noStar e = true) : starEach (e :: es) env = (false, eval e env) :: starEach es env := by
  cases e <;> first | rfl | cases h
theorem plainIx {b : Expr} (h : noSlice b = true) : PlainIx b := fun o i => by
  cases b <;> first | rfl | cases h
theorem nomarks {o : CmpOp} {b : Expr} (h : noSet b = true) : behindInMarks o b = false := by
  cases b <;> first | rfl | cases h
section
variable {X : Cx} {e a b c : Expr} {es : List Expr} {pos : Pos} {C : Ct} {ma mb mc : Ex} {k : Nat}
/-- a literal -/
def litC : Const → Option PyData
  | .none => some .none
  | .bool b => some (.bool b)
  | .int i => some (.int i)
  | .str x => some (.str x)
  | _ => none
theorem me_lit {v : Const} {j : Nat} {p : PyData} (h : litC v = some p) : PE X (.Constant v j pos) (tE X.K C (.lit p)) := by
  cases v with
  | none => cases h; exact pe_mono pe_non fun σ H Q ⟨F, st, od, st', r, e, q⟩ => by cases e; exact q _ _ _ (Res.den (Go.refl r) Dn.non)
  | bool b => cases h; exact pe_mono pe_bl fun σ H Q ⟨F, st, od, st', r, e, q⟩ => by cases e; exact q _ _ _ (Res.den (Go.refl r) (Dn.bl _))
  | int b => cases h; exact pe_mono pe_int fun σ H Q ⟨F, st, od, st', r, e, q⟩ => by cases e; exact q _ _ _ (Res.den (Go.refl r) (Dn.int _))
  | str b => cases h; exact pe_mono pe_str fun σ H Q ⟨F, st, od, st', r, e, q⟩ => by cases e; exact q _ _ _ (Res.den (Go.refl r) (Dn.str _))
  | _ => cases h
/-- a name of the frame -/
structure NameOk (N : List Str) (sc : Scope) (x : Str) (i : Nat) : Prop where
  ix : N[i]? = some x
  vis : Vis sc x
  d1 : (x == ("__debug__" : Str)) = false
  d2 : (x == ("__classdict__" : Str)) = false
theorem me_var {x : Str} {i : Nat} (h : NameOk X.N X.env.scope x i) : PE X (.Name x pos) (tE X.K C (.var i)) := pe_mono (pe_var h.ix h.vis h.d1 h.d2) fun σ H Q ⟨F, st, od, st', r, e, q⟩ => by
  simp only [evE] at e
  split at e
  · rename_i d hd
    cases e
    obtain ⟨v, h1, h2⟩ := r.sl i _ hd
    exact ⟨v, h1, q _ _ _ (Res.den (Go.refl r) h2)⟩
  · rename_i d hd
    cases e
    obtain ⟨a, o, h1, h2, g⟩ := r.freeze hd
    exact ⟨_, h1, q _ _ _ (Res.den g h2)⟩
  · cases e
theorem me_pk {x : Str} {i : Nat} (h : NameOk X.N X.env.scope x i) : PE X (.Name x pos) (tE X.K C (.pk i)) := pe_mono (pe_var h.ix h.vis h.d1 h.d2) fun σ H Q ⟨F, st, od, st', r, e, q⟩ => by
  simp only [evE] at e
  split at e
  · cases e
  · rename_i s hn hd
    cases e
    have z := r.sl i _ hd
    have : ∃ v, σ[i]? = some (some v) := by
      cases s with
      | no => exact absurd rfl (hn ·)
      | fr d => obtain ⟨v, h1, _⟩ := z; exact ⟨v, h1⟩
      | ow d => obtain ⟨v, h1, _⟩ := z; exact ⟨_, h1⟩
      | bo d => obtain ⟨v, h1, _⟩ := z; exact ⟨_, h1⟩
    obtain ⟨v, h1⟩ := this
    exact ⟨v, h1, q v _ _ ⟨Go.refl r, h1, trivial⟩⟩
  · cases e
/-- and, or, not of bools -/
theorem me_and {rest : List Expr} (ha : PE X a (tE X.K C ma)) (hb : PE X (.BoolOp .And (b :: rest) pos) (tE X.K C mb)) : PE X (.BoolOp .And (a :: b :: rest) pos) (tE X.K C (.and ma mb)) := pe_mono (pe_and ha hb) fun σ H Q ⟨F, st, od, st', r, e, q⟩ => by
  simp only [evE, Option.bind_eq_some_iff] at e
  obtain ⟨qa, ea, e⟩ := e
  refine ⟨F, st, qa.1, qa.2, r, ea, fun x F' H' ra => ?_⟩
  split at e
  · rename_i c hc
    obtain rfl := (ra.rel.rd ra.go.rel hc).bl
    refine ⟨c, rfl, ?_⟩
    cases c with
    | false => cases e; exact iteF (q _ _ _ (Res.den ra.go (Dn.bl _)))
    | true => exact iteT ⟨F', qa.2, od, st', ra.go.rel, e, fun v F2 H2 rb => q _ _ _ (Res.back ra.go rb)⟩
  · cases e
theorem me_or {rest : List Expr} (ha : PE X a (tE X.K C ma)) (hb : PE X (.BoolOp .Or (b :: rest) pos) (tE X.K C mb)) : PE X (.BoolOp .Or (a :: b :: rest) pos) (tE X.K C (.or ma mb)) := pe_mono (pe_or ha hb) fun σ H Q ⟨F, st, od, st', r, e, q⟩ => by
  simp only [evE, Option.bind_eq_some_iff] at e
  obtain ⟨qa, ea, e⟩ := e
  refine ⟨F, st, qa.1, qa.2, r, ea, fun x F' H' ra => ?_⟩
  split at e
  · rename_i c hc
    obtain rfl := (ra.rel.rd ra.go.rel hc).bl
    refine ⟨c, rfl, ?_⟩
    cases c with
    | true => cases e; exact iteT (q _ _ _ (Res.den ra.go (Dn.bl _)))
    | false => exact iteF ⟨F', qa.2, od, st', ra.go.rel, e, fun v F2 H2 rb => q _ _ _ (Res.back ra.go rb)⟩
  · cases e
theorem me_not (ha : PE X a (tE X.K C ma)) : PE X (.UnaryOp .Not a pos) (tE X.K C (.nt ma)) := pe_mono (pe_not ha) fun σ H Q ⟨F, st, od, st', r, e, q⟩ => by
  simp only [evE, Option.bind_eq_some_iff] at e
  obtain ⟨qa, ea, e⟩ := e
  refine ⟨F, st, qa.1, qa.2, r, ea, fun x F' H' ra => ?_⟩
  split at e
  · rename_i c hc
    obtain rfl := (ra.rel.rd ra.go.rel hc).bl
    cases e
    exact ⟨c, rfl, q _ _ _ (Res.den ra.go (Dn.bl _))⟩
  · cases e
theorem me_ite {m : T} (hc : PT X c (tT X.K C m)) (ha : PE X a (tE X.K C ma)) (hb : PE X b (tE X.K C mb)) : PE X (.IfExp c a b pos) (tE X.K C (.ite m ma mb)) := pe_mono (pe_ifExp hc ha hb) fun σ H Q ⟨F, st, od, st', r, e, q⟩ => by
  simp only [evE, Option.bind_eq_some_iff] at e
  obtain ⟨qa, ea, e⟩ := e
  refine ⟨F, st, qa.1, qa.2, r, ea, fun F' H' g => ?_⟩
  cases h : qa.1 with
  | true =>
    rw [h, if_pos rfl] at e
    exact iteT ⟨F', qa.2, od, st', g.rel, e, fun v F2 H2 rb => q _ _ _ (Res.back g rb)⟩
  | false =>
    rw [h, if_neg Bool.false_ne_true] at e
    exact iteF ⟨F', qa.2, od, st', g.rel, e, fun v F2 H2 rb => q _ _ _ (Res.back g rb)⟩
/-- subscripts -/
theorem me_ix (hr : Room k X.A) (hs : noSlice b = true) (ha : PE X a (tE X.K C ma)) (hb : PE X b (tE X.K C mb)) : PE X (.Subscript a b pos) (tE X.K C (.ix ma mb)) := pe_mono (pe_ix (ix_ok hr) ha hb (plainIx hs)) fun σ H Q ⟨F, st, od, st', r, e, q⟩ => by
  simp only [evE, Option.bind_eq_some_iff, Option.map_eq_some_iff] at e
  obtain ⟨qa, ea, qb, eb, x, ex, y, ey, z, ez, e⟩ := e
  cases e
  exact tE_two r ea eb fun u v F' H' g ra rb => ⟨F', x, y, z, g.rel.le, ra.rd g.rel ex, rb.rd g.rel ey, ez, fun w hw => q w _ _ (Res.den g hw)⟩
/-- a part of a slice -/
def tO (K : PySem.W.Frag) (C : Ct) (m : Pt) : TO := fun σ H Q => ∃ F st o st', Rel K F st σ H ∧ evP C m st = some (o, st') ∧ ∀ F' H', Go K st σ F H st' σ F' H' → Q o H'
theorem mo_none : PO X none (tO X.K C .no) := ⟨fun pins s σ H Q I ⟨F, st, o, st', r, e, q⟩ => by
  cases e
  exact po_none.run pins s σ H Q I (q F H (Go.refl r))⟩
theorem mo_some (he : PE X e (tE X.K C ma)) : PO X (some e) (tO X.K C (.so ma)) := ⟨fun pins s σ H Q I ⟨F, st, o, st', r, e, q⟩ => by
  simp only [evP, Option.bind_eq_some_iff] at e
  obtain ⟨qa, ea, e⟩ := e
  refine (po_some he).run pins s σ H Q I ⟨F, st, qa.1, qa.2, r, ea, fun v F' H' ra => ?_⟩
  split at e
  · rename_i i hi
    cases e
    obtain rfl := (ra.rel.rd ra.go.rel hi).int
    exact ⟨_, rfl, q _ _ ra.go⟩
  · cases e⟩
theorem me_sl {lo hi : Option Expr} {ml mh : Pt} {p2 : Pos} (ha : PE X a (tE X.K C ma)) (hl : PO X lo (tO X.K C ml)) (hh : PO X hi (tO X.K C mh)) : PE X (.Subscript a (.Slice lo hi none p2) pos) (tE X.K C (.sl ma ml mh)) := pe_mono (pe_slice sl_ok ha hl hh) fun σ H Q ⟨F, st, od, st', r, e, q⟩ => by
  simp only [evE, Option.bind_eq_some_iff, Option.map_eq_some_iff] at e
  obtain ⟨qa, ea, ql, el, qh, eh, x, ex, z, ez, e⟩ := e
  cases e
  exact ⟨F, st, qa.1, qa.2, r, ea, fun v F1 H1 ra => ⟨F1, qa.2, ql.1, ql.2, ra.go.rel, el, fun F2 H2 g2 => ⟨F2, ql.2, qh.1, qh.2, g2.rel, eh, fun F3 H3 g3 =>
    ⟨F3, x, _, g3.rel.le, ((ra.rel.step g2).step g3).rd g3.rel ex, ez, fun w F4 H4 n nr => q w F4 H4 (nr.res ((ra.go.trans g2).trans g3) n)⟩⟩⟩⟩
/-! ### argument lists, displays, calls of built-ins -/
theorem ma_nil : PA X [] (tA X.K C .nil) := pa_mono pa_nil fun σ H Q ⟨F, st, os, st', r, e, q⟩ => by
  cases e
  exact q _ _ _ (Go.refl r) .nil
end
section
variable {K : PySem.W.Frag} {F H F1 H1 : Hp} {st0 st st1 : En} {H0 : Hp} {σ : L2.St} {vs : List V} {os : List Od}
theorem ORs.step (g : Go K st σ F H st1 σ F1 H1) : ∀ {vs : List V} {os : List Od}, ORs K st0 H0 F H st σ vs os → ORs K st0 H0 F1 H1 st1 σ vs os
  | _, _, .nil => .nil
  | _, _, .cons h f t => .cons (h.step g) f (t.step g)
theorem ORs.back (g : Go K st σ F H st1 σ F1 H1) {F2 H2 : Hp} {st2 : En} : ∀ {vs : List V} {os : List Od}, ORs K st1 H1 F2 H2 st2 σ vs os → ORs K st H F2 H2 st2 σ vs os
  | _, _, .nil => .nil
  | _, _, .cons h f t => .cons h (Fro.back g f) (t.back g)
theorem ORs.rds (r : Rel K F st σ H) : ∀ {vs : List V} {os : List Od} {ds : List D}, ORs K st0 H0 F H st σ vs os → Mi.rds st os = some ds → RdRs K F H vs ds
  | _, _, ds, .nil, e => by cases e; exact .nil
  | _, _, ds, .cons h f t, e => by
    simp only [Mi.rds, Option.bind_eq_some_iff, Option.map_eq_some_iff] at e
    obtain ⟨d, e1, ds', e2, rfl⟩ := e
    exact .cons (h.rd r e1) (t.rds r e2)
end
section
variable {X : Cx} {e a b c : Expr} {es : List Expr} {pos : Pos} {C : Ct} {ma mb mc : Ex} {ms : Exs} {k : Nat}
theorem ma_cons (hs : noStar e = true) (ha : PE X e (tE X.K C ma)) (hr : PA X es (tA X.K C ms)) : PA X (e :: es) (tA X.K C (.cons ma ms)) := pa_mono (pa_cons ha hr (star_cons hs)) fun σ H Q ⟨F, st, os, st', r, e, q⟩ => by
  simp only [evs, Option.bind_eq_some_iff, Option.map_eq_some_iff] at e
  obtain ⟨qa, ea, qr, er, e⟩ := e
  cases e
  exact ⟨F, st, qa.1, qa.2, r, ea, fun v F1 H1 ra => ⟨F1, qa.2, qr.1, qr.2, ra.go.rel, er, fun vs F2 H2 g2 rr => q _ _ _ (ra.go.trans g2) (.cons (ra.rel.step g2) ra.fro (rr.back ra.go))⟩⟩
end
end Mi
end
section
/-! Mi8: displays, built-ins, methods. -/
namespace Mi
open PySem PySem.Spec
open PyProof.Rows hiding St Fr
open L2

inductive Dens (K : PySem.W.Frag) (F : Hp) : List V → List D → Prop
  | nil : Dens K F [] []
  | cons {v : V} {vs : List V} {d : D} {ds : List D} : Den K F v d → Dens K F vs ds → Dens K F (v :: vs) (d :: ds)
section
variable {K : PySem.W.Frag} {F H F1 H1 F2 : Hp} {st0 st st1 : En} {H0 : Hp} {σ : L2.St} {vs : List V} {os : List Od} {a : Addr} {d : D} {v : V}
theorem Go.frz (g : Go K st σ F H st1 σ F1 H1) (hn : ¬ Owns st1 σ a) (fro : Owns st σ a ∨ H a = none) (s1 : Same F1 F2) (s2 : Same F2 H1) (hF : ∀ b, F2 b ≠ none → F1 b ≠ none ∨ b = a) : Go K st σ F H st1 σ F2 H1 := by
  refine ⟨⟨g.stp.fr.trans s1, g.stp.keep, g.stp.live, g.stp.own, fun b h => ?_⟩, ⟨s2, g.rel.len, fun i s h => ?_, g.rel.inj⟩, g.bos⟩
  · rcases hF b h with q | q
    · exact g.stp.frz b q
    · subst q; exact .inr fro
  · have z := g.rel.sl i s h
    have nf : ∀ b, σ[i]? = some (some (V.ref b)) → s.owned = true → F1 b = none → F2 b = none := fun b hb hs q => by
      cases e : F2 b with
      | none => rfl
      | some u =>
        rcases hF b (by rw [e]; simp) with z | z
        · exact absurd q z
        · subst z; exact absurd ⟨i, s, h, hs, hb⟩ hn
    cases s with
    | no => trivial
    | fr d => obtain ⟨w, g1, g2⟩ := z; exact ⟨w, g1, g2.same s1⟩
    | ow d => obtain ⟨b, g1, g2, g3⟩ := z; exact ⟨b, g1, nf b g1 rfl g2, g3.same s1 fun _ q => q⟩
    | bo d => obtain ⟨b, g1, g2, g3⟩ := z; exact ⟨b, g1, nf b g1 rfl g2, g3.same s1 fun _ q => q⟩
/-- an operand is kept: what was just made is frozen -/
theorem keep_one {od : Od} (g : Go K st σ F H st1 σ F1 H1) {F0 : Hp} (s0 : Same F0 F1) (h : ORel K F0 H1 st1 σ v od) (fro : Fro st σ H v od) (e : od.val = some d) : ∃ F2, Same F1 F2 ∧ Go K st σ F H st1 σ F2 H1 ∧ Den K F2 v d := by
  cases od with
  | va d' => cases e; exact ⟨F1, Same.refl _, g, h.same s0⟩
  | pk i => cases e
  | fe d' =>
    cases e
    obtain ⟨a, rfl, _, ho, hn⟩ := h
    obtain ⟨a', e1, fr⟩ := fro
    cases e1
    cases d with
    | dct kvs =>
        obtain ⟨us, h1, h2⟩ := ho
        cases hf : F1 a with
        | some o =>
          have := g.rel.le a o hf
          rw [h1] at this
          cases this
          exact ⟨F1, Same.refl _, g, a, us, rfl, hf, dkv_same s0 h2⟩
        | none =>
          have s1 : Same F1 (upd F1 a (.dK us)) := fun b o q => by rw [upd_ne (fun z : b = a => by subst z; rw [hf] at q; cases q)]; exact q
          refine ⟨upd F1 a (.dK us), s1, g.frz hn fr s1 (fun b o q => ?_) (fun b q => ?_), a, us, rfl, upd_same, dkv_same (s0.trans s1) h2⟩
          · by_cases z : b = a
            · subst z; rw [upd_same] at q; cases q; exact h1
            · rw [upd_ne z] at q; exact g.rel.le b o q
          · by_cases z : b = a
            · exact .inr z
            · rw [upd_ne z] at q; exact .inl q
    | set _ => exact ho.elim
    | scr _ => exact ho.elim
    | py p =>
      cases p with
      | list ds =>
        obtain ⟨us, h1, h2⟩ := ho
        cases hf : F1 a with
        | some o =>
          have := g.rel.le a o hf
          rw [h1] at this
          cases this
          exact ⟨F1, Same.refl _, g, Dn.lst hf (dpAll_same s0 _ _ h2)⟩
        | none =>
          have s1 : Same F1 (upd F1 a (.lst us)) := fun b o q => by rw [upd_ne (fun z : b = a => by subst z; rw [hf] at q; cases q)]; exact q
          refine ⟨upd F1 a (.lst us), s1, g.frz hn fr s1 (fun b o q => ?_) (fun b q => ?_), Dn.lst upd_same (dpAll_same (s0.trans s1) _ _ h2)⟩
          · by_cases z : b = a
            · subst z; rw [upd_same] at q; cases q; exact h1
            · rw [upd_ne z] at q; exact g.rel.le b o q
          · by_cases z : b = a
            · exact .inr z
            · rw [upd_ne z] at q; exact .inl q
      | _ => exact ho.elim
theorem keep_all {F0 : Hp} (h : ∀ {vs : List V} {os : List Od} {ds : List D}, True) : ∀ {vs : List V} {os : List Od} {ds : List D} {F1 : Hp}, ORs K st H F0 H1 st1 σ vs os → vals os = some ds → Same F0 F1 → Go K st σ F H st1 σ F1 H1 →
    ∃ F2, Same F1 F2 ∧ Go K st σ F H st1 σ F2 H1 ∧ Dens K F2 vs ds
  | _, _, _, F1, .nil, e, s0, g => by cases e; exact ⟨F1, Same.refl _, g, .nil⟩
  | _, _, _, F1, .cons h1 h2 t, e, s0, g => by
    simp only [vals, Option.bind_eq_some_iff, Option.map_eq_some_iff] at e
    obtain ⟨d, e1, ds', e2, rfl⟩ := e
    obtain ⟨F2, s1, g1, q1⟩ := keep_one g s0 h1 h2 e1
    obtain ⟨F3, s2, g2, q2⟩ := keep_all (F0 := F0) (fun {_ _ _} => trivial) t e2 (s0.trans s1) g1
    exact ⟨F3, s1.trans s2, g2, .cons (q1.same s2) q2⟩
theorem dens_py : ∀ {vs : List V} {ds : List D} {ps : List PyData}, Dens K F vs ds → pyds ds = some ps → DnAll K F vs ps
  | _, _, _, .nil, e => by cases e; exact .nil
  | _, _, _, .cons (d := d) h t, e => by
    simp only [pyds, Option.bind_eq_some_iff, Option.map_eq_some_iff] at e
    obtain ⟨p, e1, ps', e2, rfl⟩ := e
    cases d <;> cases e1
    exact .cons h (dens_py t e2)
end
section
variable {X : Cx} {e a b c : Expr} {es : List Expr} {pos : Pos} {C : Ct} {ma mb mc : Ex} {ms : Exs} {k : Nat} {t : TA}
theorem pe_tupF {x1 : Nat} (h : PA X es t) : PE X (.Tuple es x1 pos) (fun σ H Q => t σ H fun xs H1 => xs.length ≤ sizeLine ∧ ∀ p ob, ob.dict = none → H1 p = none → Q (.ref p) (upd H1 p (.frz ob (.tup xs)))) := by
  refine ⟨fun pins s σ H Q I hq => wpAny_Tuple_spliced (thn (h.run pos pins s σ H _ I hq) fun us s1 ⟨xs, H1, I1, r, z, q⟩ => ⟨by rw [← r.length]; exact z, ?_⟩)⟩
  exact ⟨.ref s1.heap.objs.size, _, lay_tup I1 r z, rfl, q _ _ rfl (I1.hok.fresh (Nat.le_refl _))⟩
theorem me_tup {x1 : Nat} (h : PA X es (tA X.K C ms)) : PE X (.Tuple es x1 pos) (tE X.K C (.tup ms)) := pe_mono (pe_tupF h) fun σ H Q ⟨F, st, od, st', r, e, q⟩ => by
  simp only [evE, Option.bind_eq_some_iff] at e
  obtain ⟨qa, ea, ds, ed, ps, ep, e⟩ := e
  split at e
  · rename_i hl
    cases e
    refine ⟨F, st, qa.1, qa.2, r, ea, fun vs F1 H1 g rr => ?_⟩
    obtain ⟨F2, s1, g2, hd⟩ := keep_all (fun {_ _ _} => trivial) rr ed (Same.refl _) g
    have hp := dens_py hd ep
    refine ⟨by rw [dpl_len hp]; exact lim_line hl, fun p ob ho hn => q _ _ _ (NewR.res g2 (New.put g2.rel.le hn) (NewR.tup g2.rel.le hn ho hp))⟩
  · cases e
theorem me_lst (h : PA X es (tA X.K C ms)) : PE X (.List es pos) (tE X.K C (.lst ms)) := pe_mono (pe_lst h) fun σ H Q ⟨F, st, od, st', r, e, q⟩ => by
  simp only [evE, Option.bind_eq_some_iff] at e
  obtain ⟨qa, ea, ds, ed, ps, ep, e⟩ := e
  split at e
  · rename_i hl
    cases e
    refine ⟨F, st, qa.1, qa.2, r, ea, fun vs F1 H1 g rr => ?_⟩
    obtain ⟨F2, s1, g2, hd⟩ := keep_all (fun {_ _ _} => trivial) rr ed (Same.refl _) g
    have hp := dens_py hd ep
    refine ⟨by rw [dpl_len hp]; exact lim_line hl, fun p hn => q _ _ _ (NewR.res g2 (New.lst g2.rel.le hn) (NewR.lst g2.rel.le hn hp))⟩
  · cases e
/-! ### built-ins -/
def Bi.nm : Bi → Str
  | .len => "len"
  | .tuple => "tuple"
  | .list => "list"
  | .sorted => "sorted"
  | .min => "min"
  | .max => "max"
  | .sum => "sum"
  | .any => "any"
  | .all => "all"
  | .abs => "abs"
  | .int => "int"
  | .bool => "bool"
  | .str => "str"
  | .repr => "repr"
  | .divmod => "divmod"
  | .dict => "dict"
  | .set => "set"
  | .lrange => "list"
  | .trange => "tuple"
def noStars (es : List Expr) : Bool := es.all noStar
theorem stars_any {env : Env} {pos : Pos} : ∀ {es : List Expr}, noStars es = true → (backTo pos (starEach es env)).any (·.1) = false
  | [], _ => rfl
  | e :: es, h => by
    have h' : noStar e = true ∧ noStars es = true := by simpa [noStars] using h
    rw [star_cons h'.1]
    show (false || (backTo pos (starEach es env)).any (·.1)) = false
    rw [stars_any h'.2] <;> rfl
theorem boot_bi (f : Bi) : bootBuiltins f.nm = some f.f := by cases f <;> decide +kernel
theorem pe_bi (hr : Room k X.A) (hc : X.calm = true) (hg : X.A.guards = some []) (f : Bi) (hf : f ≠ .lrange) (hf' : f ≠ .trange) {p : Pos} (gl : Gl X f.nm) (mg : X.mg f.nm = none) (hs : noStars (e :: es) = true) (ha : PA X (e :: es) t) :
    PE X (.Call (.Name f.nm p) (e :: es) [] pos) (tCB (rBi X.K f) t) := by
  have h' : noStar e = true ∧ noStars es = true := by simpa [noStars] using hs
  have ok := bi_ok hr hc hg f hf hf'
  have bt := boot_bi f
  have n1 : f.nm ≠ "__name__" := by cases f <;> decide
  have n2 : (f.nm == ("__debug__" : Str)) = false := by cases f <;> decide
  have tl := stars_any (env := X.env) (pos := pos) h'.2
  cases f <;> first | exact absurd rfl hf | exact absurd rfl hf' | exact pe_callB ok gl mg bt ha n1 n2 (star_cons h'.1) tl | exact pe_callTy ok gl mg bt ha n1 n2 (star_cons h'.1) tl
theorem me_bi (hr : Room k X.A) (hc : X.calm = true) (hg : X.A.guards = some []) (f : Bi) (hf : f ≠ .lrange) (hf' : f ≠ .trange) {p : Pos} (gl : Gl X f.nm) (mg : X.mg f.nm = none) (hs : noStars (e :: es) = true) (ha : PA X (e :: es) (tA X.K C ms)) :
    PE X (.Call (.Name f.nm p) (e :: es) [] pos) (tE X.K C (.bi f ms)) := pe_mono (pe_bi hr hc hg f hf hf' gl mg hs ha) fun σ H Q ⟨F, st, od, st', r, e, q⟩ => by
  simp only [evE, Option.bind_eq_some_iff, Option.map_eq_some_iff] at e
  obtain ⟨qa, ea, ds, ed, o, eo, e⟩ := e
  cases e
  exact ⟨F, st, qa.1, qa.2, r, ea, fun vs F1 H1 g rr => ⟨F1, ds, _, g.rel.le, rr.rds g.rel ed, eo, fun w F2 H2 n nr => q _ _ _ (nr.res g n)⟩⟩
end
end Mi
end
section
/-! Mi9: ranges as lists, isinstance, methods, tests. -/
namespace Mi
open PySem PySem.Spec
open PyProof.Rows hiding St Fr
open L2

section
variable {X : Cx} {e a b c : Expr} {es : List Expr} {pos : Pos} {C : Ct} {ma mb mc : Ex} {ms : Exs} {k : Nat} {t : TA}
/-! ### list(range(..)), tuple(range(..)) -/
def tRg (K : PySem.W.Frag) (C : Ct) (ms : Exs) : L2.St → Hp → (Int → Int → Hp → Prop) → Prop := fun σ H Q => ∃ F st os st' ds xs, Rel K F st σ H ∧ evs C ms st = some (os, st') ∧ rds st' os = some ds ∧ rngD ds = some xs ∧
  ∀ F' H' i j, Go K st σ F H st' σ F' H' → RgOk i j → xs = (List.range (j - i).toNat).map (fun (k : Nat) => PyData.int (i + (k : Int))) → Q i j H'
theorem rng_one {ds : List D} {xs : List PyData} (h : rngD ds = some xs) : (∃ b, ds = [.py (.int b)] ∧ okR b = true ∧ xs = rngL 0 b.toNat) ∨ ∃ a b, ds = [.py (.int a), .py (.int b)] ∧ okR a = true ∧ okR b = true ∧ xs = rngL a (b - a).toNat := by
  unfold rngD at h
  split at h
  · rename_i b
    split at h
    · rename_i hb
      cases h
      exact .inl ⟨b, rfl, hb, rfl⟩
    · cases h
  · rename_i a b
    split at h
    · rename_i hb
      rw [Bool.and_eq_true] at hb
      cases h
      exact .inr ⟨a, b, rfl, hb.1, hb.2, rfl⟩
    · cases h
  · cases h
theorem okR_ok {i : Int} (h : okR i = true) : -1000000 ≤ i ∧ i ≤ 1000000 := by
  unfold okR at h
  rw [Bool.and_eq_true, decide_eq_true_eq, decide_eq_true_eq] at h
  exact h
theorem mrg_1 {p : Pos} (hg : Gl X "range") (hm : X.mg "range" = none) (hs : noStar a = true) (ha : PE X a (tE X.K C ma)) : PRg X (.Call (.Name "range" p) [a] [] pos) (tRg X.K C (.cons ma .nil)) := by
  intro pins s σ H Q I ⟨F, st, os, st', ds, xs, r, e, e2, e3, q⟩
  simp only [evs, Option.bind_eq_some_iff, Option.map_eq_some_iff] at e
  obtain ⟨qa, ea, qn, en, e⟩ := e
  cases en; cases e
  refine prg_1 hg hm ha (star_cons hs) pins s σ H Q I ⟨F, st, qa.1, qa.2, r, ea, fun v F1 H1 ra => ?_⟩
  simp only [rds, Option.bind_eq_some_iff, Option.map_eq_some_iff] at e2
  obtain ⟨d, ed, ds', e4, rfl⟩ := e2
  cases e4
  rcases rng_one e3 with ⟨n, h1, h2, h3⟩ | ⟨_, _, h1, _⟩
  · cases h1
    obtain rfl := (ra.rel.rd ra.go.rel ed).int
    have hb := okR_ok h2
    exact ⟨n, rfl, q _ _ _ _ ra.go ⟨by omega, by omega, by omega, by omega, by omega⟩ (by rw [h3, Int.sub_zero]; rfl)⟩
  · cases h1
theorem mrg_2 {p : Pos} (hg : Gl X "range") (hm : X.mg "range" = none) (hs : noStar a = true) (hs2 : noStar b = true) (ha : PE X a (tE X.K C ma)) (hb : PE X b (tE X.K C mb)) :
    PRg X (.Call (.Name "range" p) [a, b] [] pos) (tRg X.K C (.cons ma (.cons mb .nil))) := by
  intro pins s σ H Q I ⟨F, st, os, st', ds, xs, r, e, e2, e3, q⟩
  simp only [evs, Option.bind_eq_some_iff, Option.map_eq_some_iff] at e
  obtain ⟨qa, ea, qn, ⟨qb, eb, qn2, en, en2⟩, e⟩ := e
  cases en; cases en2; cases e
  refine prg_2 hg hm ha hb (star_cons hs) (star_cons hs2) (stars_any (by show (noStar b && true) = true; rw [hs2] <;> rfl)) pins s σ H Q I (tE_two r ea eb fun x y F1 H1 g ra rb => ?_)
  simp only [rds, Option.bind_eq_some_iff, Option.map_eq_some_iff] at e2
  obtain ⟨d, ed, ds', ⟨d2, ed2, ds2, e4, rfl⟩, rfl⟩ := e2
  cases e4
  rcases rng_one e3 with ⟨n, h1, _⟩ | ⟨i, j, h1, h2, h3, h4⟩
  · cases h1
  · cases h1
    obtain rfl := (ra.rd g.rel ed).int
    obtain rfl := (rb.rd g.rel ed2).int
    have h5 := okR_ok h2
    have h6 := okR_ok h3
    exact ⟨i, j, rfl, rfl, q _ _ _ _ g ⟨by omega, by omega, by omega, by omega, by omega⟩ (by rw [h4]; rfl)⟩
theorem dn_rg {K : PySem.W.Frag} {F : Hp} (i : Int) : ∀ (l : List Nat), DnAll K F (l.map fun (k : Nat) => V.int (i + (k : Int))) (l.map fun (k : Nat) => PyData.int (i + (k : Int)))
  | [] => .nil
  | _ :: l => .cons (.int _) (dn_rg i l)
theorem me_lrange {p : Pos} (hc : X.calm = true) (hg : Gl X "list") (hm : X.mg "list" = none) (hs : noStar e = true) (he : PRg X e (tRg X.K C ms)) : PE X (.Call (.Name "list" p) [e] [] pos) (tE X.K C (.bi .lrange ms)) :=
  pe_mono (pe_listRg hc hg hm he (star_cons hs)) fun σ H Q ⟨F, st, od, st', r, e, q⟩ => by
    simp only [evE, Option.bind_eq_some_iff, Option.map_eq_some_iff, biD] at e
    obtain ⟨qa, ea, ds, ed, o, ⟨xs, ex, eo⟩, e⟩ := e
    cases eo; cases e
    refine ⟨F, st, qa.1, qa.2, ds, xs, r, ea, ed, ex, fun F1 H1 i j g ok ex => ⟨ok, fun p hp => ?_⟩⟩
    subst ex
    exact q _ _ _ (NewR.res g (New.lst g.rel.le hp) (NewR.lst g.rel.le hp (dn_rg i _)))
theorem pe_tupRgF {p : Pos} {te : L2.St → Hp → (Int → Int → Hp → Prop) → Prop} (hc : X.calm = true) (hg : Gl X "tuple") (hm : X.mg "tuple" = none) (he : PRg X e te) (na : starEach [e] X.env = (false, eval e X.env) :: starEach [] X.env) :
    PE X (.Call (.Name "tuple" p) [e] [] pos) (fun σ H Q => te σ H fun a b H1 => RgOk a b ∧ ∀ q ob, ob.dict = none → H1 q = none → Q (.ref q) (upd H1 q (.frz ob (.tup (rgV a b))))) := by
  refine ⟨fun pins s σ H Q I h => Call_ (ld_blt I hg hm boot_tuple (PyProof.Rows.callWith_type1 (args_cons (thn (he pins s σ H _ I h) fun x s1 ⟨r, a, b, t, u, v, H1, ex, hr, I1, ok, q⟩ => args_nil ?_) na) na))⟩
  subst ex
  obtain ⟨b1, b2, b3, b4, b5⟩ := ok
  refine call_tuple_range (n := (b - a).toNat) (I1.ok.hd hc) hr (small_one b1 b2 b3 b4) (rangeSize_nat a b) b5 fun h' tk acc hk hi => ?_
  have I2 : Inv X pins σ H1 { s1 with heap := h', toks := tk } := I1.kept hk
  have z : (rgV a b).length ≤ sizeLine := by rw [rgV_length, sizeLine_eq]; omega
  have lay := lay_tup (t' := tk) I2 (vals_rg hi) z
  rw [Array.toArray_toList] at lay
  exact ⟨.ref h'.objs.size, _, lay, rfl, q _ _ rfl (I2.hok.fresh (Nat.le_refl _))⟩
theorem me_trange {p : Pos} (hc : X.calm = true) (hg : Gl X "tuple") (hm : X.mg "tuple" = none) (hs : noStar e = true) (he : PRg X e (tRg X.K C ms)) : PE X (.Call (.Name "tuple" p) [e] [] pos) (tE X.K C (.bi .trange ms)) :=
  pe_mono (pe_tupRgF hc hg hm he (star_cons hs)) fun σ H Q ⟨F, st, od, st', r, e, q⟩ => by
    simp only [evE, Option.bind_eq_some_iff, Option.map_eq_some_iff, biD] at e
    obtain ⟨qa, ea, ds, ed, o, ⟨xs, ex, eo⟩, e⟩ := e
    cases eo; cases e
    refine ⟨F, st, qa.1, qa.2, ds, xs, r, ea, ed, ex, fun F1 H1 i j g ok ex => ⟨ok, fun p ob ho hp => ?_⟩⟩
    subst ex
    exact q _ _ _ (NewR.res g (New.put g.rel.le hp) (NewR.tup g.rel.le hp ho (dn_rg i _)))

/-! ### isinstance -/
def Ty.nm : Ty → String
  | .int => "int"
  | .bool => "bool"
  | .str => "str"
  | .list => "list"
  | .tuple => "tuple"
def kdN : Kd → String
  | .non => "NoneType"
  | .bl => "bool"
  | .int => "int"
  | .str => "str"
  | .lst => "list"
  | .tup => "tuple"
  | .dct => "dict"
abbrev tyN (p : PyData) : String := kdN (kd p)
theorem tyX_of {K : PySem.W.Frag} {F H : Hp} {v : V} {p : PyData} (le : Same F H) (h : RdR K F H v (.py p)) : TyX K H v (.type (tyN p)) := by
  have z := h.dn le
  cases z with
  | non => exact .base .non
  | bl b => exact .base (.bl b)
  | int i => exact .base (.int i)
  | str x => exact .base (.str x)
  | lst h1 _ => exact .base (.lst h1)
  | tup h1 _ =>
    rcases h1 with ⟨ob, _, h2⟩ | ⟨o, vs, n, h2, h3, _⟩
    · exact .fTuple h2
    · exact .kTuple h2 h3
theorem kit_kd (k : Kd) (t : Ty) (h : k ≠ .dct) : kitB (kdN k) t.nm = some (kdTy k t) := by
  cases k <;> first | exact absurd rfl h | (cases t <;> decide +kernel)
theorem kit_py {K : PySem.W.Frag} (p : PyData) (hp : p.plain = true) (t : Ty) : PySem.W.kitOne K (.type (tyN p)) (.type t.nm) = some (isTy p t) :=
  kit_kd (kd p) t (by
    cases p with
    | dict _ => cases hp
    | _ => (intro h; cases h))
theorem kits_py {K : PySem.W.Frag} (p : PyData) (hp : p.plain = true) : ∀ (ts : List Ty), PySem.W.kitAny K (.type (tyN p)) (ts.map fun t => Value.type t.nm) = some (ts.any (isTy p))
  | [] => rfl
  | t :: ts => by
    rw [List.map_cons, PySem.W.kitAny, kit_py p hp t, List.any_cons]
    cases isTy p t with
    | true => rfl
    | false => exact kits_py p hp ts
def Ty.s : Ty → Str
  | .int => "int"
  | .bool => "bool"
  | .str => "str"
  | .list => "list"
  | .tuple => "tuple"
theorem boot_ty (t : Ty) : bootBuiltins t.s = some (.type t.nm) := by cases t <;> decide +kernel
theorem pe_ty {t : Ty} {p : Pos} (gl : Gl X t.s) (mg : X.mg t.s = none) : PE X (.Name t.s p) (tC (.ty t.nm)) :=
  pe_bltn gl mg (boot_ty t) rfl (by cases t <;> decide) (by cases t <;> decide)
theorem boot_isi : bootBuiltins "isinstance" = some (.builtin "isinstance") := by decide +kernel
theorem me_isa {t : Ty} {p p2 : Pos} (hs : noStar a = true) (gi : Gl X "isinstance") (mi : X.mg "isinstance" = none) (gl : Gl X t.s) (mg : X.mg t.s = none) (ha : PE X a (tE X.K C ma)) :
    PE X (.Call (.Name "isinstance" p) [a, .Name t.s p2] [] pos) (tE X.K C (.isa ma [t])) :=
  pe_mono (pe_callB call_isi gi mi boot_isi (pa_cons ha (pa_cons (pe_ty gl mg) pa_nil) (star_cons hs)) (by decide) (by decide) (star_cons hs)) fun σ H Q ⟨F, st, od, st', r, e, q⟩ => by
    simp only [evE, Option.bind_eq_some_iff, Option.map_eq_some_iff] at e
    obtain ⟨qa, ea, d, ed, p, ep, e⟩ := e
    cases e
    cases d <;> cases ep
    refine ⟨F, st, qa.1, qa.2, r, ea, fun v F1 H1 ra => ?_⟩
    have z := ra.rel.rd ra.go.rel ed
    refine ⟨v, .ty t.nm, _, _, isTy p t, rfl, .ty _, tyX_of ra.go.rel.le z, kit_py p z.plain t, ?_⟩
    have e1 : ([t].any (isTy p)) = isTy p t := by simp
    rw [← e1]
    exact q _ _ _ (Res.den ra.go (Dn.bl _))
theorem pa_tys : ∀ {ts : List Ty} {es : List Expr}, (∀ t ∈ ts, Gl X t.s ∧ X.mg t.s = none) → Paired (fun (t : Ty) (e : Expr) => ∃ p, e = Expr.Name t.s p) ts es → PA X es (fun σ H Q => Q (ts.map fun t => V.ty t.nm) H)
  | [], _, _, .nil => pa_nil
  | t :: ts, _, h, .cons h1 h2 => by
    obtain ⟨p, rfl⟩ := h1
    obtain ⟨g1, g2⟩ := h t (List.mem_cons_self ..)
    exact pa_mono (pa_cons (pe_ty g1 g2) (pa_tys (fun t ht => h t (List.mem_cons_of_mem _ ht)) h2) (star_cons rfl)) fun σ H Q q => q
theorem pair_cls : ∀ (ts : List Ty), Paired ClsV (ts.map fun t => V.ty t.nm) (ts.map fun t => Value.type t.nm)
  | [] => .nil
  | t :: ts => .cons (.ty _) (pair_cls ts)
theorem noStars_tys : ∀ {ts : List Ty} {es : List Expr}, Paired (fun (t : Ty) (e : Expr) => ∃ p, e = Expr.Name t.s p) ts es → noStars es = true
  | _, _, .nil => rfl
  | _, _, .cons h t => by
    obtain ⟨p, rfl⟩ := h
    simpa [noStars, noStar] using noStars_tys t
theorem me_isaT {ts : List Ty} {p p2 : Pos} {x1 : Nat} (hl : ts.length ≤ 100) (hs : noStar a = true) (gi : Gl X "isinstance") (mi : X.mg "isinstance" = none) (hts : ∀ t ∈ ts, Gl X t.s ∧ X.mg t.s = none)
    (hes : Paired (fun (t : Ty) (e : Expr) => ∃ p, e = Expr.Name t.s p) ts es) (ha : PE X a (tE X.K C ma)) :
    PE X (.Call (.Name "isinstance" p) [a, .Tuple es x1 p2] [] pos) (tE X.K C (.isa ma ts)) :=
  pe_mono (pe_callB call_isiT gi mi boot_isi (pa_cons ha (pa_cons (pe_tup (pa_tys hts hes)) pa_nil (star_cons rfl)) (star_cons hs)) (by decide) (by decide) (star_cons hs) (by rfl)) fun σ H Q ⟨F, st, od, st', r, e, q⟩ => by
    simp only [evE, Option.bind_eq_some_iff, Option.map_eq_some_iff] at e
    obtain ⟨qa, ea, d, ed, p, ep, e⟩ := e
    cases e
    cases d <;> cases ep
    refine ⟨F, st, qa.1, qa.2, r, ea, fun v F1 H1 ra => ⟨by rw [List.length_map, sizeLine_eq]; omega, fun T hT => ?_⟩⟩
    have z := ra.rel.rd ra.go.rel ed
    have nw : New F1 H1 (upd F1 T (.tup (ts.map fun t => V.ty t.nm))) (upd H1 T (.tup (ts.map fun t => V.ty t.nm))) := New.put ra.go.rel.le hT
    have z2 : RdR X.K (upd F1 T (.tup (ts.map fun t => V.ty t.nm))) (upd H1 T (.tup (ts.map fun t => V.ty t.nm))) v (.py p) := by
      rcases z with z | ⟨a, e1, z⟩
      · exact .inl (z.same nw.fr)
      · exact .inr ⟨a, e1, z.same nw.fr fun o q => nw.hp a o q⟩
    refine ⟨v, T, _, _, _, ts.any (isTy p), rfl, upd_same, pair_cls ts, tyX_of nw.le z2, kits_py p z.plain ts, q _ _ _ (Res.den (ra.go.trans (nw.go ra.go.rel)) (Dn.bl _))⟩

/-! ### methods -/
/-- a list or a tuple, without a dict -/
def TyG (K : PySem.W.Frag) (T : String) (x : V) (H : Hp) : Prop := ∃ a, x = .ref a ∧ ((T = "list" ∧ ∃ vs, H a = some (.lst vs)) ∨ (T = "tuple" ∧ ∃ vs, Tp K H a vs))
theorem tyG_is {pins : List (Addr × Obj)} {σ : L2.St} {H : Hp} {s : Shared} {T : String} {x : V} {v : Value} (I : Inv X pins σ H s) (r : RelV x v) (ty : TyG X.K T x H) :
    s.TypeIs v T ∧ ∀ a, v = .ref a → ∃ ob, s.heap.get? a = some ob ∧ ob.dict = none := by
  obtain ⟨p, rfl, ty⟩ := ty
  cases r
  rcases ty with ⟨rfl, vs, hq⟩ | ⟨rfl, vs, hq⟩
  · exact tyV_is (x := V.ref p) I rfl (Or.inl ⟨rfl, vs, .inl (.inl hq)⟩)
  · rcases hq with ⟨ob, h1, h2⟩ | ⟨o, us, n, h1, h2, h3, _⟩
    · obtain ⟨g1, _, its, _, o, g2, g3, _⟩ := I.hok p _ h2
      rw [g1] at g2
      cases g2
      exact ⟨⟨ob, g1, g3⟩, fun a e => by cases e; exact ⟨ob, g1, h1⟩⟩
    · exact ⟨⟨o, I.kIn p o h1, h2⟩, fun a e => by cases e; exact ⟨o, I.kIn _ o h1, h3⟩⟩
theorem few_ok {es : List Expr} {env : Env} {pos : Pos} (h : noStars es = true) (hl : es.length < 29) : ((backTo pos (starEach es env)).all (fun x => !x.1) && (backToKw pos (keywordEach [] env)).all (fun x => x.1.isSome)
      && decide (es.length + ([] : List Keyword).length + (if ([] : List Keyword).isEmpty then 0 else 1) < 30)) = true := by
  have z : (backTo pos (starEach es env)).all (fun x => !x.1) = true := by
    have := stars_any (env := env) (pos := pos) h
    rw [List.all_eq_not_any_not]
    simp only [Bool.not_not]
    rw [this] <;> rfl
  rw [z]
  show (true && true && decide (es.length + 0 + 0 < 30)) = true
  simp
  omega
theorem pe_bmG {o : Expr} {T id : String} {name : Str} {apos cpos : Pos} {r : V → List V → Hp → VK → Prop} {to : TE} (pa : PlainAttrs T) (slot : Slot T name id) (hty : typeOf (.builtin id) = pure (.type "method_descriptor")) (hm : MtR X id r) (ho : PE X o to) (ha : PA X (e :: es) t)
    (hbase : attributeBase o name X.env (eval o X.env) = eval o X.env) (hs : noStars (e :: es) = true) (hl : (e :: es).length < 29) (hline : (apos.endLine == cpos.line) = true) :
    PE X (.Call (.Attribute o name apos) (e :: es) [] cpos) (fun σ H Q => to σ H fun x H1 => TyG X.K T x H1 ∧ t σ H1 fun xs H2 => r x xs H2 Q) := by
  have h' : noStar e = true ∧ noStars es = true := by simpa [noStars] using hs
  refine ⟨fun pins s σ H Q I h => wpAny_Call_method_late hbase (few_ok hs hl) hline rfl (thn (ho.run pins s σ H _ I h) fun v s1 ⟨x, H1, I1, r1, ty, q1⟩ => ?_)⟩
  obtain ⟨h1, h2⟩ := tyG_is I1 r1 ty
  refine ⟨T, id, pa, slot, hty, h1, h2, ?_⟩
  have hA := ha.run cpos pins s1 σ H1 _ I1 q1
  rw [star_cons h'.1] at hA ⊢
  refine Calls.callWith_builtin (by show (false || (backTo cpos (starEach es X.env)).any (·.1)) = false; rw [stars_any h'.2] <;> rfl) (Calls.evalArgs_plain ?_)
  exact thn hA fun us s2 ⟨vs, H2, I2, r2, q2⟩ => hm pins s2 σ H2 x vs v us Q I2 r1 r2 q2
/-- the receiver is a name -/
theorem base_name {x name : Str} {p : Pos} : attributeBase (.Name x p) name X.env (eval (.Name x p) X.env) = eval (.Name x p) X.env := rfl
def Me.nm : Me → Str
  | .count => "count"
  | .index => "index"
  | .get => "get"
theorem meD_py {m : Me} {x : D} {ds : List D} {od : Od} (h : meD m x ds = some od) : (∃ ps, x = .py (.tuple ps)) ∨ ∃ ps, x = .py (.list ps) := by
  unfold meD at h
  split at h
  · exact .inl ⟨_, rfl⟩
  · exact .inr ⟨_, rfl⟩
  · exact .inl ⟨_, rfl⟩
  · exact .inr ⟨_, rfl⟩
  · cases h
theorem tupD_ok {x : D} (h : x.tupD = true) : ∃ ps, x = .py (.tuple ps) := by
  unfold D.tupD at h
  split at h
  · exact ⟨_, rfl⟩
  · cases h
theorem lstD_ok {x : D} (h : x.lstD = true) : ∃ ps, x = .py (.list ps) := by
  unfold D.lstD at h
  split at h
  · exact ⟨_, rfl⟩
  · cases h
theorem me_me {o : Expr} {m : Me} {apos cpos : Pos} (hr : Room k X.A) (hm : m ≠ .get) (ho : PE X o (tE X.K C ma)) (hbase : attributeBase o m.nm X.env (eval o X.env) = eval o X.env) (ha : PA X (e :: es) (tA X.K C ms)) (hs : noStars (e :: es) = true) (hl : (e :: es).length < 29)
    (hline : (apos.endLine == cpos.line) = true) : PE X (.Call (.Attribute o m.nm apos) (e :: es) [] cpos) (tE X.K C (.me m ma ms)) := by
  refine ⟨fun pins s σ H Q I ⟨F, st, od, st', r, e0, q⟩ => ?_⟩
  simp only [evE, Option.bind_eq_some_iff] at e0
  obtain ⟨qa, ea, x0, ex0, qs, es', x, ex, e1⟩ := e0
  split at e1
  · rename_i hk
    simp only [Option.bind_eq_some_iff, Option.map_eq_some_iff] at e1
    obtain ⟨ds, ed, od', eo, e2⟩ := e1
    cases e2
    rw [Bool.and_eq_true, beq_iff_eq, beq_iff_eq] at hk
    have run : ∀ (T : String) (Tp : PyData → Bool) (p : PyData), x = .py p → Tp p = true →
        PE X (.Call (.Attribute o m.nm apos) (e :: es) [] cpos) (fun σ H Q => tE X.K C ma σ H fun x H1 => TyG X.K T x H1 ∧ tA X.K C ms σ H1 fun xs H2 => rMe X.K m Tp x xs H2 Q) →
        (∀ v F1 H1, Rel X.K F1 qa.2 σ H1 → ORel X.K F1 H1 qa.2 σ v qa.1 → TyG X.K T v H1) → wpAny (model X.prog X.w) X.A (eval (.Call (.Attribute o m.nm apos) (e :: es) [] cpos) X.env) (EP X pins σ Q) X.xe s :=
      fun T Tp p ep hT hp ht => hp.run pins s σ H Q I ⟨F, st, qa.1, qa.2, r, ea, fun v F1 H1 ra => ⟨ht v F1 H1 ra.go.rel ra.rel, F1, qa.2, qs.1, qs.2, ra.go.rel, es', fun vs F2 H2 g rr =>
        ⟨F2, p, ds, _, hT, g.rel.le, by rw [← ep]; exact (ra.rel.step g).rd g.rel ex, rr.rds g.rel ed, by rw [← ep]; exact eo, fun w F3 H3 n nr => q _ _ _ (nr.res (ra.go.trans g) n)⟩⟩⟩
    rcases meD_py eo with ⟨ps, ep⟩ | ⟨ps, ep⟩
    · subst ep
      obtain ⟨ps0, e3⟩ := tupD_ok (show x0.tupD = true from hk.1)
      subst e3
      have ty : ∀ v F1 H1, Rel X.K F1 qa.2 σ H1 → ORel X.K F1 H1 qa.2 σ v qa.1 → TyG X.K "tuple" v H1 := fun v F1 H1 r1 ho => by
        obtain ⟨a, vs, e4, h1, _⟩ := (ho.rd r1 ex0).tup r1.le
        exact ⟨a, e4, .inr ⟨rfl, vs, h1⟩⟩
      cases m with
      | count => exact run "tuple" isTup _ rfl rfl (pe_bmG PySem.F.plainAttrs_tuple PySem.F.slot_tuple_count PySem.F.type_tuple_count (mt_tup_count hr) ho ha hbase hs hl hline) ty
      | index => exact run "tuple" isTup _ rfl rfl (pe_bmG PySem.F.plainAttrs_tuple PySem.F.slot_tuple_index PySem.F.type_tuple_index (mt_tup_ix hr) ho ha hbase hs hl hline) ty
      | get => exact absurd rfl hm
    · subst ep
      obtain ⟨ps0, e3⟩ := lstD_ok (show x0.lstD = true from hk.2)
      subst e3
      have ty : ∀ v F1 H1, Rel X.K F1 qa.2 σ H1 → ORel X.K F1 H1 qa.2 σ v qa.1 → TyG X.K "list" v H1 := fun v F1 H1 r1 ho => by
        obtain ⟨a, vs, e4, h1, _⟩ := (ho.rd r1 ex0).list r1.le
        exact ⟨a, e4, .inl ⟨rfl, vs, h1⟩⟩
      cases m with
      | count => exact run "list" isLst _ rfl rfl (pe_bmG PySem.F.plainAttrs_list PySem.F.slot_list_count PySem.F.type_list_count (mt_lst_count hr) ho ha hbase hs hl hline) ty
      | index => exact run "list" isLst _ rfl rfl (pe_bmG PySem.F.plainAttrs_list PySem.F.slot_list_index PySem.F.type_list_index (mt_lst_ix hr) ho ha hbase hs hl hline) ty
      | get => exact absurd rfl hm
  · cases e1
end
end Mi
end
section
/-! Mi10: how arguments bind; calls of the text's defs. -/
namespace Mi
open PySem PySem.Spec
open PyProof.Rows hiding St Fr
open L2

/-! ### binding -/
def simpleArgs (as : List Arg) : Arguments := { posonlyargs := [], args := as, vararg := none, kwonlyargs := [], kw_defaults := [], kwarg := none, defaults := [] }
theorem kw_loop {ps : List Str} (f : Str × Value → List (Str × Value) × List (Str × Value) → Sem (ForInStep (List (Str × Value) × List (Str × Value))))
    (hf : ∀ x s, ps.contains x.1 = true → (List.lookup x.1 s.1).isSome = false → f x s = pure (.yield (s.1 ++ [(x.1, x.2)], s.2))) :
    ∀ (kw slots : List (Str × Value)), (∀ x ∈ kw, x.1 ∈ ps) → (slots.map (·.1) ++ kw.map (·.1)).Nodup → forIn kw (slots, []) f = pure (slots ++ kw, [])
  | [], slots, _, _ => by rw [List.forIn_nil, List.append_nil]
  | x :: kw, slots, h1, h2 => by
    have nl : (List.lookup x.1 slots).isSome = false := by
      cases e : List.lookup x.1 slots with
      | none => rfl
      | some v =>
        have m := PySem.mem_of_lookup e
        rw [List.nodup_append] at h2
        exact absurd rfl (h2.2.2 x.1 (List.mem_map.mpr ⟨_, m, rfl⟩) x.1 (by simp))
    rw [List.forIn_cons, hf x (slots, []) (by simpa using h1 x (List.mem_cons_self ..)) nl]
    have ih := kw_loop f hf kw (slots ++ [(x.1, x.2)]) (fun y hy => h1 y (List.mem_cons_of_mem _ hy)) (by simpa using h2)
    rw [List.append_assoc] at ih
    exact ih
theorem lookup_zip_idx {names : List Str} {vals : List Value} : ∀ {p : Str}, names.length = vals.length → p ∈ names → (names.zip vals).lookup p = vals[names.idxOf p]? := by
  induction names generalizing vals with
  | nil => intro p _ h; cases h
  | cons n ns ih =>
    intro p hl hp
    cases vals with
    | nil => cases hl
    | cons v vs =>
      rw [List.zip_cons_cons, List.lookup_cons, List.idxOf_cons]
      by_cases e : p = n
      · subst e; simp
      · have e1 : (p == n) = false := by simpa using e
        have e2 : (n == p) = false := by simpa using fun h => e h.symm
        rw [e1, e2]
        simp only [cond_false, List.getElem?_cons_succ]
        exact ih (by simpa using hl) ((List.mem_cons.mp hp).resolve_left e)
theorem filterMap_some {α β : Type} {f : α → Option β} {g : α → β} : ∀ {l : List α}, (∀ x ∈ l, f x = some (g x)) → l.filterMap f = l.map g
  | [], _ => rfl
  | x :: l, h => by rw [List.filterMap_cons, h x (List.mem_cons_self ..), List.map_cons, filterMap_some fun y hy => h y (List.mem_cons_of_mem _ hy)]
theorem map_pair {α β : Type} (g : α → β) : ∀ l : List α, (l.map fun p => (p, g p)) = l.zip (l.map g)
  | [] => rfl
  | x :: l => by rw [List.map_cons, List.map_cons, List.zip_cons_cons, map_pair g l]
/-- which of the values each parameter takes: the names of the values are the first parameters, then the keywords -/
def permOf (ps : List Str) (n : Nat) (ks : List Str) : List Nat := ps.map fun p => (ps.take n ++ ks).idxOf p
theorem bind_ok {x qual : Str} {as : List Arg} {body : List Stmt} {scope : Scope} {kV doc pm : Value} {an : Option Addr} {cdv ct : Value} {us ws : List Value} {ks : List Str} (hn : (as.map (·.arg)).Nodup)
    (hks : ks.Nodup) (hd : ∀ k ∈ ks, k ∈ (as.map (·.arg)).drop us.length) (hl : us.length + ks.length = as.length) (all : ∀ p ∈ as.map (·.arg), p ∈ (as.map (·.arg)).take us.length ++ ks) (hw : ws.length = ks.length) :
    bindArgs (PySem.W.fnOf x qual (simpleArgs as) body scope .none kV doc pm an cdv ct) ⟨us, ks.zip ws⟩ =
      pure ((as.map (·.arg)).zip ((permOf (as.map (·.arg)) us.length ks).map fun j => (us ++ ws).getD j .none)) := by
  generalize hps : as.map (·.arg) = ps at hn hd all
  have hpl : ps.length = as.length := by rw [← hps, List.length_map]
  have z1 : ps.zip us = (ps.take us.length).zip us := by
    rw [List.zip_eq_zip_take_min (l₁ := ps) (l₂ := us)]
    have e : min ps.length us.length = us.length := by omega
    rw [e, List.take_of_length_le (Nat.le_refl us.length)]
  have tl : (ps.take us.length).length = us.length := by rw [List.length_take]; omega
  have m1 : (ps.zip us).map (·.1) = ps.take us.length := by rw [z1, List.map_fst_zip (by omega)]
  have m2 : (ks.zip ws).map (·.1) = ks := by rw [List.map_fst_zip (by omega)]
  have nd : (ps.take us.length ++ ks).Nodup := by
    rw [List.nodup_append]
    refine ⟨hn.sublist (List.take_sublist _ _), hks, fun a ha b hb e => ?_⟩
    subst e
    have := hd a hb
    rw [← List.take_append_drop us.length ps, List.nodup_append] at hn
    exact hn.2.2 a ha a this rfl
  have zz : ps.zip us ++ ks.zip ws = (ps.take us.length ++ ks).zip (us ++ ws) := by rw [z1, List.zip_append tl]
  have lk : ∀ p ∈ ps, (ps.zip us ++ ks.zip ws).lookup p = some ((us ++ ws).getD ((ps.take us.length ++ ks).idxOf p) .none) := fun p hp => by
    rw [zz, lookup_zip_idx (by rw [List.length_append, List.length_append, tl, hw]) (all p hp)]
    have lt : (ps.take us.length ++ ks).idxOf p < (us ++ ws).length := by
      have := List.idxOf_lt_length_iff.mpr (all p hp)
      rw [List.length_append, tl] at this
      rw [List.length_append]; omega
    rw [List.getD_eq_getElem?_getD, List.getElem?_eq_getElem lt] <;> rfl
  unfold bindArgs PySem.W.fnOf simpleArgs
  simp only [List.map_nil, List.nil_append, hps]
  rw [kw_loop (ps := ps) _ ?hf (ks.zip ws) (ps.zip us) ?h1 ?h2]
  case hf =>
    intro y s h1 h2
    simp only [h1, h2, Bool.true_or, if_true, Bool.false_eq_true, if_false]
  case h1 =>
    intro y hy
    have : y.1 ∈ ks := by rw [← m2]; exact List.mem_map_of_mem hy
    exact List.mem_of_mem_drop (hd _ this)
  case h2 => rw [m1, m2]; exact nd
  have e0 : seqItems? Value.none = pure none := rfl
  have e1 : ¬ (us.length > ps.length) := by omega
  have e2 : (ps.filter fun n => (List.lookup n (ps.zip us ++ ks.zip ws)).isNone) = [] := by
    rw [List.filter_eq_nil_iff]
    intro p hp
    rw [lk p hp]
    simp
  have e3 : (ps.filterMap fun n => Option.map (fun x => (n, x)) (List.lookup n (ps.zip us ++ ks.zip ws))) = ps.zip ((permOf ps us.length ks).map fun j => (us ++ ws).getD j .none) := by
    rw [filterMap_some (g := fun p => (p, (us ++ ws).getD ((ps.take us.length ++ ks).idxOf p) .none)) (fun p hp => by rw [lk p hp] <;> rfl)]
    unfold permOf
    rw [List.map_map]
    exact map_pair _ ps
  simp [e0, e1, e2, e3]
end Mi
end
section
/-! Mi11: what a def of the text promises, and its calls. -/
namespace Mi
open PySem PySem.Spec
open PyProof.Rows hiding St Fr
open L2

/-- a def whose frames bear no guard (repr asks that) -/
structure FnG (P : Program) (w : World) (K : PySem.W.Frag) (mg : Str → Option Value) (base : Heap) (k : Nat) (f : Addr) (fd : FuncData) (ps : List Str) (sp : Sp) : Prop where
  len : ∀ vs H Q E, sp vs H Q E → vs.length = ps.length
  run : ∀ (A : Around) (outer : List Env) (s : Shared) (H : Hp) (args : Args) (us : List Value) (vs : List V) (Q : VK), Room k A → A.guards = some [] → Env0 P w K mg base A outer s H → BindsTo s fd args (ps.zip us) → Vals vs us → sp vs H Q E0 →
    codeAny (model P w) A (.call (.ref f) args) (CR CX0 outer P w H s Q E0) s
theorem fnG_of {P : Program} {w : World} {K : PySem.W.Frag} {mg : Str → Option Value} {base : Heap} {x qual : Str} {params : Arguments} {body : List Stmt} {scope : Scope} {dvs : List V} {kws : List (Str × V)} {f : Addr} {fd : FuncData} {N ps : List Str} {k : Nat} {sp : Sp}
    (F : FunD K x qual params body scope dvs kws f fd) (S : FnScope N ps scope) (len : ∀ vs H Q E, sp vs H Q E → vs.length = ps.length)
    (hbody : ∀ (cdv : Value) (A : Around) (outer : List Env) (s : Shared) (H : Hp) (vs : List V) (Q : VK), Room k (A.deeper (envOfC qual scope s.heap.objs.size f cdv)) → A.guards = some [] → sp vs H Q E0 →
      ∃ t, PSs (cxOf CX0 P w K mg base N qual scope f cdv A outer s H E0).nox body t ∧ t { nx := fun _ H' => Q .non H', rt := Q } (start N vs) H) : FnG P w K mg base (k + 1) f fd ps sp := by
  obtain ⟨oc, od, dV, kV, doc, pm, an, cdv, ct, osl, rfl, lk, hcd, _, _⟩ := F.ex
  refine ⟨len, fun A outer s H args us vs Q hr hg e0 hb r hsp => ?_⟩
  have hl := len _ _ _ _ hsp
  have KX : K.In s.heap := e0.mod.kin.keeps fun b o e => (e0.bs b o e).1
  have lim : s.heap.NoLimit := e0.mod.nolimit.keeps fun b o e => (e0.bs b o e).1
  have hkind : ∀ y ∈ ps.zip us, scope.names.lookup y.1 = some .local ∨ (scope.names.lookup y.1 = some .cell ∧ ((cellsFrom (s.heap.objs.size + 1) scope.names []).lookup y.1).isSome = true) := fun ⟨n, v⟩ hy =>
    (S.par n (List.of_mem_zip hy).1).elim .inl fun q => .inr ⟨q, PySem.W.cellsFrom_some _ _ _ (.inl q)⟩
  refine codeAny_call_function hr.depth (KX _ _ lk) rfl S.co S.gen rfl (PySem.W.codeRec_of KX hcd) (hb _ _ _ _ (wpAny_newFunctionEnv_cells S.kind hkind fun env he s1 x => ?_))
  subst he
  obtain ⟨t, ht, hq⟩ := hbody cdv A outer s H vs Q (hr.deeper _) hg hsp
  have I : Inv (cxOf CX0 P w K mg base N qual scope f cdv A outer s H E0) [] (start N vs) H s1 := inv_start S hr.hd e0 hl r x
  refine ⟨lim.keeps x.toInCall.keep, codeAny_func (wpAny_mono (ht.nox.run [] s1 (start N vs) H _ I hq) (fun fl s' hs => ?_) fun e s' hs => hs)⟩
  have fin : ∀ {σ' : L2.St} {H' : Hp} {v : V} {u : Value}, Inv (cxOf CX0 P w K mg base N qual scope f cdv A outer s H E0) [] σ' H' s' → RelV v u → Q v H' → CE outer P w H s Q u s' :=
    fun {σ' H' v u} J rv q => ⟨v, H', J.os, J.bare, J.base, J.hok, rv, q⟩
  cases fl with
  | ret u => obtain ⟨v, σ', H', J, rv, q⟩ := hs; exact fin J rv q
  | next => obtain ⟨σ', H', J, q⟩ := hs; exact fin (v := V.non) (u := Value.none) J rfl q
  | brk => obtain ⟨_, _, _, q⟩ := hs; exact q.elim
  | cont => obtain ⟨_, _, _, q⟩ := hs; exact q.elim

/-! ### keywords by name -/
theorem kw_names {env : Env} {pos : Pos} : ∀ {kws : List Keyword} {ks : List Str}, kws.map (·.arg) = ks.map some →
    (backToKw pos (keywordEach kws env)).all (·.1.isSome) = true ∧ (backToKw pos (keywordEach kws env)).filterMap (·.1) = ks ∧ (backToKw pos (keywordEach kws env)).any (·.1.isNone) = false
  | [], [], _ => ⟨rfl, rfl, rfl⟩
  | [], _ :: _, h => by cases h
  | _ :: _, [], h => by cases h
  | ⟨nm, e, kp⟩ :: kws, k :: ks, h => by
    simp only [List.map_cons, List.cons.injEq] at h
    obtain ⟨rfl, h⟩ := h
    obtain ⟨h1, h2, h3⟩ := kw_names (env := env) (pos := pos) h
    refine ⟨?_, ?_, ?_⟩
    · show (true && (backToKw pos (keywordEach kws env)).all (·.1.isSome)) = true
      rw [h1] <;> rfl
    · show k :: (backToKw pos (keywordEach kws env)).filterMap (·.1) = _
      rw [h2]
    · show (false || (backToKw pos (keywordEach kws env)).any (·.1.isNone)) = false
      rw [h3] <;> rfl
section
variable {X : Cx} {e a b c : Expr} {es : List Expr} {pos : Pos} {C : Ct} {ma mb mc : Ex} {ms ms2 : Exs} {k : Nat} {t tk : TA} {kws : List Keyword} {ks : List Str}
theorem vals_perm {vs : List V} {us : List Value} (r : Vals vs us) : ∀ (perm : List Nat), (∀ j ∈ perm, j < vs.length) → Vals (perm.map fun j => vs.getD j .non) (perm.map fun j => us.getD j .none)
  | [], _ => .nil
  | j :: perm, h => by
    have hj := h j (List.mem_cons_self ..)
    have e : vs[j]? = some vs[j] := List.getElem?_eq_getElem hj
    obtain ⟨u, h1, h2⟩ := r.get e
    refine .cons ?_ (vals_perm r perm fun i hi => h i (List.mem_cons_of_mem _ hi))
    show RelV (vs.getD j .non) (us.getD j .none)
    rw [List.getD_eq_getElem?_getD, List.getD_eq_getElem?_getD, e, h1]
    exact h2
/-- the call of a def, once its arguments stand -/
theorem callG_run {f : Addr} {fd : FuncData} {x qual : Str} {as : List Arg} {body : List Stmt} {scope : Scope} {sp : Sp} {n : Nat} (FD : FunD X.K x qual (simpleArgs as) body scope [] [] f fd)
    (F : FnG X.prog X.w X.K X.mg X.base k f fd (as.map (·.arg)) sp) (hr : Room k X.A) (hg : X.A.guards = some [])
    (hn : (as.map (·.arg)).Nodup) (hks : ks.Nodup) (hd : ∀ k ∈ ks, k ∈ (as.map (·.arg)).drop n) (hl : n + ks.length = as.length) (all : ∀ p ∈ as.map (·.arg), p ∈ (as.map (·.arg)).take n ++ ks)
    {pins : List (Addr × Obj)} {s2 : Shared} {σ : L2.St} {H2 : Hp} {vs zs : List V} {us ws : List Value} {Q : VK} (I : Inv X pins σ H2 s2) (r : Vals vs us) (rz : Vals zs ws) (l1 : vs.length = n) (l2 : zs.length = ks.length)
    (h : sp ((permOf (as.map (·.arg)) n ks).map fun j => (vs ++ zs).getD j .non) H2 Q E0) : wpAny (model X.prog X.w) X.A (call (.ref f) us (ks.zip ws)) (EP X pins σ Q) X.xe s2 := by
  obtain ⟨oc, od, dV, kV, doc, pm, an, cdv, ct, osl, rfl, lk, hcd, hD, _⟩ := FD.ex
  rcases hD with ⟨_, rfl⟩ | ⟨z, _⟩
  · have e1 : us.length = n := r.length.symm.trans l1
    have e2 : ws.length = ks.length := rz.length.symm.trans l2
    subst e1
    have bd := bind_ok (x := x) (qual := qual) (body := body) (scope := scope) (kV := kV) (doc := doc) (pm := pm) (an := an) (cdv := cdv) (ct := ct) (us := us) (ws := ws) hn hks hd hl all e2
    have pm : ∀ j ∈ permOf (as.map (·.arg)) us.length ks, j < (vs ++ zs).length := fun j hj => by
      unfold permOf at hj
      obtain ⟨q, hq, rfl⟩ := List.mem_map.mp hj
      have := List.idxOf_lt_length_iff.mpr (all q hq)
      rw [List.length_append, List.length_take, List.length_map] at this
      rw [List.length_append, l1, l2]
      omega
    refine wpAny_call (codeAny_mono (F.run X.A X.stack s2 H2 ⟨us, ks.zip ws⟩ _ _ Q hr hg I.env0 (.of_eq bd) (vals_perm (r.append rz) _ pm) h) fun r s' hq => ?_)
    cases r with
    | error e => exact hq.elim
    | ok fl =>
      cases fl with
      | ret u => exact I.after hq
      | next => exact hq.elim
      | brk => exact hq.elim
      | cont => exact hq.elim
  · exact absurd rfl z
theorem pe_callG0 {f : Addr} {fd : FuncData} {x qual : Str} {as : List Arg} {body : List Stmt} {scope : Scope} {sp : Sp} {p : Pos} (FD : FunD X.K x qual (simpleArgs as) body scope [] [] f fd)
    (F : FnG X.prog X.w X.K X.mg X.base k f fd (as.map (·.arg)) sp) (hr : Room k X.A) (hg : X.A.guards = some []) (gl : Gl X x) (hm : X.mg x = some (.ref f)) (hdb : (x == ("__debug__" : Str)) = false)
    (hn : (as.map (·.arg)).Nodup) (hks : ks.Nodup) (hd : ∀ k ∈ ks, k ∈ (as.map (·.arg)).drop 0) (hl : 0 + ks.length = as.length) (all : ∀ p ∈ as.map (·.arg), p ∈ (as.map (·.arg)).take 0 ++ ks)
    (hkn : kws.map (·.arg) = ks.map some) (hk : PK X kws tk) :
    PE X (.Call (.Name x p) [] kws pos) (fun σ H Q => tk σ H fun zs H2 => zs.length = ks.length ∧ sp ((permOf (as.map (·.arg)) 0 ks).map fun j => zs.getD j .non) H2 Q E0) := by
  obtain ⟨k1, k2, k3⟩ := kw_names (env := X.env) (pos := pos) hkn
  refine ⟨fun pins s σ H Q I h => wpAny_Call_Name_kw (ld_glob I gl hm ?_ hdb)⟩
  refine PySem.W.callWith_KW0 (h₀ := X.base) I.ok.mod.kin FD.kp k1 ?_ (by rw [k3] <;> rfl)
  refine thn (hk.run pos pins s σ H _ I h) fun ws s2 ⟨zs, H2, I2, rz, l2, q2⟩ => ⟨I2.kIn, ?_⟩
  rw [k2]
  exact callG_run FD F hr hg hn hks hd hl all I2 .nil rz rfl l2 q2
theorem pe_callG {f : Addr} {fd : FuncData} {x qual : Str} {as : List Arg} {body : List Stmt} {scope : Scope} {sp : Sp} {p : Pos} (FD : FunD X.K x qual (simpleArgs as) body scope [] [] f fd)
    (F : FnG X.prog X.w X.K X.mg X.base k f fd (as.map (·.arg)) sp) (hr : Room k X.A) (hg : X.A.guards = some []) (gl : Gl X x) (hm : X.mg x = some (.ref f)) (hdb : (x == ("__debug__" : Str)) = false)
    (hn : (as.map (·.arg)).Nodup) (hks : ks.Nodup) (hd : ∀ k ∈ ks, k ∈ (as.map (·.arg)).drop (es.length + 1)) (hl : (es.length + 1) + ks.length = as.length) (all : ∀ p ∈ as.map (·.arg), p ∈ (as.map (·.arg)).take (es.length + 1) ++ ks)
    (hs : noStars (e :: es) = true) (hkn : kws.map (·.arg) = ks.map some) (ha : PA X (e :: es) t) (hk : PK X kws tk) :
    PE X (.Call (.Name x p) (e :: es) kws pos) (fun σ H Q => t σ H fun vs H1 => tk σ H1 fun zs H2 => vs.length = es.length + 1 ∧ zs.length = ks.length ∧ sp ((permOf (as.map (·.arg)) (es.length + 1) ks).map fun j => (vs ++ zs).getD j .non) H2 Q E0) := by
  obtain ⟨k1, k2, k3⟩ := kw_names (env := X.env) (pos := pos) hkn
  have st := stars_any (env := X.env) (pos := pos) hs
  have h' : noStar e = true ∧ noStars es = true := by simpa [noStars] using hs
  have hplain : ((backTo pos (starEach (e :: es) X.env)).any (·.1) || (backToKw pos (keywordEach kws X.env)).any (·.1.isNone)) = false := by rw [st, k3] <;> rfl
  refine ⟨fun pins s σ H Q I h => wpAny_Call_Name_kw (ld_glob I gl hm ?_ hdb)⟩
  refine PySem.W.callWith_KW (h₀ := X.base) I.ok.mod.kin FD.kp k1 (thn (ha.run pos pins s σ H _ I h) fun us s1 ⟨vs, H1, I1, r1, q1⟩ => ?_) hplain (star_cons h'.1)
  refine thn (hk.run pos pins s1 σ H1 _ I1 q1) fun ws s2 ⟨zs, H2, I2, rz, l1, l2, q2⟩ => ⟨I2.kIn, ?_⟩
  rw [k2]
  exact callG_run FD F hr hg hn hks hd hl all I2 r1 rz l1 l2 q2
end
end Mi
end
section
/-! Mi12: calls of the text's defs. -/
namespace Mi
open PySem PySem.Spec
open PyProof.Rows hiding St Fr
open L2

/-- the arguments that a def is handed -/
def ArgR (K : PySem.W.Frag) (F H : Hp) : Bool → List V → List D → Prop
  | true, v :: vr, d :: dr => (∃ a, v = .ref a ∧ F a = none ∧ OwnAt K F H a d) ∧ Dens K F vr dr
  | true, _, _ => False
  | false, vs, ds => Dens K F vs ds
def LentAt (io : Bool) (vs : List V) (a : Addr) : Prop := io = true ∧ vs.head? = some (.ref a)
/-- what a def's call leaves -/
structure RetR (K : PySem.W.Frag) (F H : Hp) (io : Bool) (vs : List V) (d : D) (b : Bool) (fin : D) (v : V) (F' H' : Hp) : Prop where
  stp : Stp (LentAt io vs) F H F' H' (LentAt io vs)
  le : Same F' H'
  lent : ∀ a, LentAt io vs a → F' a = none ∧ OwnAt K F' H' a fin
  va : b = false → Den K F' v d
  fe : b = true → ∃ a, v = .ref a ∧ H a = none ∧ F' a = none ∧ OwnAt K F' H' a d
/-- what a def promises: it answers as the evaluator says -/
def spC (K : PySem.W.Frag) (call : List D → Option (D × Bool × D)) (io : Bool) (n : Nat) : Sp := fun vs H Q _ => vs.length = n ∧ ∃ F ds d b fin, Same F H ∧ call ds = some (d, b, fin) ∧ ArgR K F H io vs ds ∧ ∀ v F' H', RetR K F H io vs d b fin v F' H' → Q v H'
section
variable {K : PySem.W.Frag} {F H F0 H0 F1 H1 F2 H2 F' H' : Hp} {st st0 st1 st2 : En} {σ : L2.St} {v : V} {od : Od} {d d' fin : D} {a : Addr} {i : Nat} {vs : List V} {os : List Od} {ds : List D} {b : Bool} {O : Addr → Prop}
/-- a call that may change what was just made, and nothing of this frame -/
theorem goFree (g : Go K st0 σ F0 H0 st σ F1 H1) (s : Stp O F1 H1 F' H' O) (le : Same F' H') (hO : ∀ b, O b → ¬ Owns st σ b ∧ (Owns st0 σ b ∨ H0 b = none)) : Go K st0 σ F0 H0 st σ F' H' := by
  have nf : ∀ b, Owns st σ b → F' b = none := fun b hb => by
    cases e : F' b with
    | none => rfl
    | some o =>
      rcases s.frz b (by rw [e]; simp) with z | z | z
      · exact absurd (g.rel.owns hb).1 z
      · exact absurd hb (hO b z).1
      · exact absurd z (g.rel.owns hb).2
  have kp : ∀ b, Owns st σ b → ∀ o, H1 b = some o → H' b = some o := fun b hb o q => s.keep b o q fun z => (hO b z).1 hb
  refine ⟨⟨g.stp.fr.trans s.fr, fun b o h n => ?_, fun b h => s.live b (g.stp.live b h), g.stp.own, fun b h => ?_⟩, ⟨le, g.rel.len, fun i u h => ?_, g.rel.inj⟩, g.bos⟩
  · refine s.keep b o (g.stp.keep b o h n) fun z => ?_
    rcases (hO b z).2 with z | z
    · exact n z
    · rw [h] at z; cases z
  · rcases s.frz b h with z | z | z
    · exact g.stp.frz b z
    · rcases (hO b z).2 with z | z
      · exact .inr (.inl z)
      · exact .inr (.inr z)
    · refine .inr (.inr ?_)
      cases e : H0 b with
      | none => rfl
      | some o => exact absurd z (g.stp.live b (by rw [e]; simp))
  · have z := g.rel.sl i u h
    cases u with
    | no => trivial
    | fr d => obtain ⟨w, g1, g2⟩ := z; exact ⟨w, g1, g2.same s.fr⟩
    | ow d => obtain ⟨c, g1, g2, g3⟩ := z; have ow : Owns st σ c := ⟨i, _, h, rfl, g1⟩; exact ⟨c, g1, nf c ow, g3.same s.fr (kp c ow)⟩
    | bo d => obtain ⟨c, g1, g2, g3⟩ := z; have ow : Owns st σ c := ⟨i, _, h, rfl, g1⟩; exact ⟨c, g1, nf c ow, g3.same s.fr (kp c ow)⟩
/-- a call that is lent a list of this frame -/
theorem goLent {s t : Sl} (r : Rel K F st σ H) (hi : st[i]? = some s) (ho : s.owned = true) (ht : (t = .ow fin ∧ ∃ d, s = .ow d) ∨ (t = .bo fin ∧ ∃ d, s = .bo d)) (ha : σ[i]? = some (some (V.ref a))) (le : Same F' H')
    (s1 : Stp (· = a) F H F' H' (· = a)) (hf : F' a = none) (hw : OwnAt K F' H' a fin) : Go K st σ F H (st.set i t) σ F' H' := by
  have to : t.owned = true := by rcases ht with ⟨rfl, _⟩ | ⟨rfl, _⟩ <;> rfl
  have own : Owns st σ a := ⟨i, s, hi, ho, ha⟩
  have back : ∀ b, Owns (st.set i t) σ b → Owns st σ b := fun b ⟨j, u, h1, h2, h3⟩ => by
    rcases get_set h1 with ⟨e, e2, _⟩ | ⟨_, h1⟩
    · subst e; exact ⟨j, s, hi, ho, h3⟩
    · exact ⟨j, u, h1, h2, h3⟩
  have nf : ∀ b, Owns st σ b → b ≠ a → F' b = none := fun b hb ne => by
    cases e : F' b with
    | none => rfl
    | some o =>
      rcases s1.frz b (by rw [e]; simp) with z | z | z
      · exact absurd (r.owns hb).1 z
      · exact absurd z ne
      · exact absurd z (r.owns hb).2
  refine ⟨⟨s1.fr, fun b o h n => s1.keep b o h fun e => n (e ▸ own), s1.live, fun b h => .inl (back b h), fun b h => (s1.frz b h).elim .inl fun z => z.elim (fun e => .inr (.inl (e ▸ own))) fun z => .inr (.inr z)⟩, ⟨le, by rw [List.length_set]; exact r.len, fun j u h => ?_, fun j j' u u' b h1 h2 h3 h4 h5 h6 => ?_⟩, fun j d h => ⟨rfl, ?_⟩⟩
  · rcases get_set h with ⟨e, e2, _⟩ | ⟨e, h⟩
    · subst e e2
      rcases ht with ⟨rfl, _⟩ | ⟨rfl, _⟩
      · exact ⟨a, ha, hf, hw⟩
      · exact ⟨a, ha, hf, hw⟩
    · have z := r.sl j u h
      have ne : ∀ b, σ[j]? = some (some (V.ref b)) → u.owned = true → b ≠ a := fun b hb hu e2 => e (r.inj j i u s b h hi hu ho hb (by rw [e2]; exact ha))
      cases u with
      | no => trivial
      | fr d => obtain ⟨w, g1, g2⟩ := z; exact ⟨w, g1, g2.same s1.fr⟩
      | ow d => obtain ⟨c, g1, g2, g3⟩ := z; exact ⟨c, g1, nf c ⟨j, _, h, rfl, g1⟩ (ne c g1 rfl), g3.same s1.fr fun o q => s1.keep c o q (ne c g1 rfl)⟩
      | bo d => obtain ⟨c, g1, g2, g3⟩ := z; exact ⟨c, g1, nf c ⟨j, _, h, rfl, g1⟩ (ne c g1 rfl), g3.same s1.fr fun o q => s1.keep c o q (ne c g1 rfl)⟩
  · have e1 : ∃ w : Sl, st[j]? = some w ∧ w.owned = true := by
      rcases get_set h1 with ⟨e, e2, _⟩ | ⟨_, h1⟩
      · subst e; exact ⟨s, hi, ho⟩
      · exact ⟨u, h1, h3⟩
    have e2 : ∃ w : Sl, st[j']? = some w ∧ w.owned = true := by
      rcases get_set h2 with ⟨e, e2, _⟩ | ⟨_, h2⟩
      · subst e; exact ⟨s, hi, ho⟩
      · exact ⟨u', h2, h4⟩
    obtain ⟨w, q1, q2⟩ := e1
    obtain ⟨w', q3, q4⟩ := e2
    exact r.inj j j' w w' b q1 q3 q2 q4 h5 h6
  · rcases get_set h with ⟨e, e2, _⟩ | ⟨e, h⟩
    · subst e
      rcases ht with ⟨rfl, _⟩ | ⟨rfl, d1, rfl⟩
      · cases e2
      · exact ⟨d1, hi⟩
    · exact ⟨d, h⟩
/-! ### argument lists behind one another, in another order -/
theorem evs_app {C : Ct} {b : Exs} : ∀ (a : Exs) (st : En), evs C (a.app b) st = (evs C a st).bind fun q => (evs C b q.2).map fun r => (q.1 ++ r.1, r.2)
  | .nil, st => by
    show evs C b st = (some ([], st)).bind fun q => (evs C b q.2).map fun r => (q.1 ++ r.1, r.2)
    rw [Option.bind_some]
    cases evs C b st <;> rfl
  | .cons e es, st => by
    show ((evE C e st).bind fun q => (evs C (es.app b) q.2).map fun r => (q.1 :: r.1, r.2)) = ((evE C e st).bind fun q => (evs C es q.2).map fun r => (q.1 :: r.1, r.2)).bind fun q => (evs C b q.2).map fun r => (q.1 ++ r.1, r.2)
    cases h : evE C e st with
    | none => rfl
    | some q =>
      simp only [Option.bind_some]
      rw [evs_app es q.2]
      cases h2 : evs C es q.2 with
      | none => rfl
      | some q2 =>
        simp only [Option.bind_some, Option.map_some]
        cases h3 : evs C b q2.2 <;> rfl
theorem ORs.len : ∀ {vs : List V} {os : List Od}, ORs K st0 H0 F H st σ vs os → vs.length = os.length
  | _, _, .nil => rfl
  | _, _, .cons _ _ t => congrArg Nat.succ t.len
theorem ORs.app {ws : List V} {os2 : List Od} (s : ORs K st0 H0 F H st σ ws os2) : ∀ {vs : List V} {os : List Od}, ORs K st0 H0 F H st σ vs os → ORs K st0 H0 F H st σ (vs ++ ws) (os ++ os2)
  | _, _, .nil => s
  | _, _, .cons h f t => .cons h f (s.app t)
theorem ORs.at (dv : V) (dod : Od) : ∀ {vs : List V} {os : List Od} {j : Nat}, ORs K st0 H0 F H st σ vs os → j < vs.length → ORel K F H st σ (vs.getD j dv) (os.getD j dod) ∧ Fro st0 σ H0 (vs.getD j dv) (os.getD j dod)
  | _, _, _, .nil, h => by cases h
  | _, _, 0, .cons h f t, _ => ⟨h, f⟩
  | _, _, j + 1, .cons h f t, l => ORs.at dv dod (j := j) t (Nat.lt_of_succ_lt_succ l)
theorem ORs.perm (r : ORs K st0 H0 F H st σ vs os) : ∀ (perm : List Nat), (∀ j ∈ perm, j < vs.length) → ORs K st0 H0 F H st σ (perm.map fun j => vs.getD j .non) (perm.map fun j => os.getD j (.pk 0))
  | [], _ => .nil
  | j :: perm, h => .cons (r.at _ _ (h j (List.mem_cons_self ..))).1 (r.at _ _ (h j (List.mem_cons_self ..))).2 (r.perm perm fun i hi => h i (List.mem_cons_of_mem _ hi))
theorem vas_dens : ∀ {vs : List V} {os : List Od} {ds : List D}, ORs K st0 H0 F H st σ vs os → vas os = some ds → Dens K F vs ds
  | _, _, _, .nil, e => by cases e; exact .nil
  | _, _, _, .cons (o := o) h f t, e => by
    cases o with
    | va d =>
      simp only [vas, Option.map_eq_some_iff] at e
      obtain ⟨ds', e2, rfl⟩ := e
      exact .cons h (vas_dens t e2)
    | fe d => cases e
    | pk i => cases e
/-- the call's answer as an operand -/
theorem retRes {g : Go K st0 σ F0 H0 st1 σ F' H'} {io : Bool} (hr : RetR K F1 H1 io vs d b fin v F' H') (fr : ∀ a, H1 a = none → H0 a = none) (nw : ∀ a, Owns st1 σ a → H1 a ≠ none) : Res K st0 σ F0 H0 st1 F' H' v (if b then .fe d else .va d) := by
  cases b with
  | false => exact ⟨g, hr.va rfl, trivial⟩
  | true =>
    obtain ⟨a, e, h1, h2, h3⟩ := hr.fe rfl
    exact ⟨g, ⟨a, e, h2, h3, fun z => nw a z h1⟩, ⟨a, e, .inr (fr a h1)⟩⟩
theorem call_ok {C : Ct} {f : Str} {perm : List Nat} {st' : En} {od : Od} {Q : VK} {n : Nat} (g : Go K st0 σ F0 H0 st σ F1 H1) (rr : ORs K st0 H0 F1 H1 st σ vs os) (hp : ∀ j ∈ perm, j < vs.length) (e : callE C f perm os st = some (od, st'))
    (hn : perm.length = n) (q : ∀ v F' H', Res K st0 σ F0 H0 st' F' H' v od → Q v H') : spC K (C.call f) (C.io f) n (perm.map fun j => vs.getD j .non) H1 Q E0 := by
  have rp := rr.perm perm hp
  have ln : (perm.map fun j => vs.getD j .non).length = n := by rw [List.length_map]; exact hn
  have fr1 : ∀ {F2 : Hp}, Go K st0 σ F0 H0 st σ F2 H1 → ∀ a, H1 a = none → H0 a = none := fun g2 a h => by
    cases z : H0 a with
    | none => rfl
    | some o => exact absurd h (g2.stp.live a (by rw [z]; simp))
  refine ⟨ln, ?_⟩
  clear hn rr hp
  revert e rp ln
  unfold callE
  generalize (perm.map fun j => os.getD j (.pk 0)) = os'
  generalize (perm.map fun j => vs.getD j .non) = vs'
  intro e rp ln
  dsimp only at e
  split at e
  · rename_i hio
    rw [hio]
    split at e
    · rename_i i r
      cases rp with
      | @cons v vr _ _ h1 h2 h3 =>
        have hv : σ[i]? = some (some v) := h1
        have lent : ∀ (s : Sl) (d0 : D) (mk : D → Sl), st[i]? = some s → s.owned = true → s.con = some d0 → (∀ fin, (mk fin = .ow fin ∧ ∃ d, s = .ow d) ∨ (mk fin = .bo fin ∧ ∃ d, s = .bo d)) →
            ((vals r).bind fun ds => (C.call f (d0 :: ds)).map fun q => (if q.2.1 then Od.fe q.1 else Od.va q.1, st.set i (mk q.2.2))) = some (od, st') →
            ∃ F ds d b fin, Same F H1 ∧ C.call f ds = some (d, b, fin) ∧ ArgR K F H1 true (v :: vr) ds ∧ ∀ v' F' H', RetR K F H1 true (v :: vr) d b fin v' F' H' → Q v' H' := by
          intro s d0 mk hs ho hc hmk e
          simp only [Option.bind_eq_some_iff, Option.map_eq_some_iff] at e
          obtain ⟨ds, ed, ⟨d, b, fin⟩, ec, e⟩ := e
          cases e
          obtain ⟨F2, s1, g2, hd⟩ := keep_all (fun {_ _ _} => trivial) h3 ed (Same.refl _) g
          obtain ⟨a, d1, q1, q2, q3, q4⟩ := g2.rel.ownsAt hs ho
          rw [hv] at q1; cases q1
          rw [hc] at q4; cases q4
          refine ⟨F2, d0 :: ds, d, b, fin, g2.rel.le, ec, ⟨⟨a, rfl, q2, q3⟩, hd⟩, fun v' F' H' hr => ?_⟩
          have isA : ∀ b, LentAt true (V.ref a :: vr) b ↔ b = a := fun b => ⟨fun z => by have := z.2; simp at this; exact this.symm, fun z => ⟨rfl, by rw [z]; rfl⟩⟩
          have sA : Stp (· = a) F2 H1 F' H' (· = a) := ⟨hr.stp.fr, fun b o h n => hr.stp.keep b o h fun z => n ((isA b).mp z), hr.stp.live, fun b h => .inl h, fun b h => (hr.stp.frz b h).elim .inl fun z => z.elim (fun z => .inr (.inl ((isA b).mp z))) fun z => .inr (.inr z)⟩
          have l := hr.lent a ⟨rfl, rfl⟩
          have g3 := goLent g2.rel hs ho (hmk fin) hv hr.le sA l.1 l.2
          refine q _ _ _ (retRes (g := g2.trans g3) hr (fr1 g2) fun b hb => ?_)
          obtain ⟨j, u, k1, k2, k3⟩ := hb
          refine (g2.rel.owns (a := b) ?_).2
          rcases get_set k1 with ⟨e, e2, _⟩ | ⟨_, k1⟩
          · subst e; exact ⟨j, s, hs, ho, k3⟩
          · exact ⟨j, u, k1, k2, k3⟩
        split at e
        · rename_i d0 hs
          exact lent _ d0 .ow hs rfl rfl (fun fin => .inl ⟨rfl, d0, rfl⟩) e
        · rename_i d0 hs
          exact lent _ d0 .bo hs rfl rfl (fun fin => .inr ⟨rfl, d0, rfl⟩) e
        · cases e
    · rename_i d0 r
      cases rp with
      | @cons v vr _ _ h1 h2 h3 =>
        simp only [Option.bind_eq_some_iff, Option.map_eq_some_iff] at e
        obtain ⟨ds, ed, ⟨d, b, fin⟩, ec, e⟩ := e
        cases e
        obtain ⟨a, rfl, n1, n2, n3⟩ := h1
        obtain ⟨a', e1, fro⟩ := h2
        cases e1
        have hd := vas_dens h3 ed
        refine ⟨F1, d0 :: ds, d, b, fin, g.rel.le, ec, ⟨⟨a, rfl, n1, n2⟩, hd⟩, fun v' F' H' hr => ?_⟩
        have isA : ∀ b, LentAt true (V.ref a :: vr) b → b = a := fun b z => by have := z.2; simp at this; exact this.symm
        have g3 := goFree g hr.stp hr.le fun b hb => by rw [isA b hb]; exact ⟨n3, fro⟩
        exact q _ _ _ (retRes (g := g3) hr (fr1 g) fun b hb => (g.rel.owns hb).2)
    · cases e
  · rename_i hio
    have hio : C.io f = false := by simpa using hio
    rw [hio]
    simp only [Option.bind_eq_some_iff, Option.map_eq_some_iff] at e
    obtain ⟨ds, ed, ⟨d, b, fin⟩, ec, e⟩ := e
    cases e
    obtain ⟨F2, s1, g2, hd⟩ := keep_all (fun {_ _ _} => trivial) rp ed (Same.refl _) g
    refine ⟨F2, ds, d, b, fin, g2.rel.le, ec, hd, fun v' F' H' hr => ?_⟩
    have g3 := goFree g2 hr.stp hr.le fun b hb => by cases hb.1
    exact q _ _ _ (retRes (g := g3) hr (fr1 g2) fun b hb => (g2.rel.owns hb).2)
end
section
variable {X : Cx} {e a b c : Expr} {es : List Expr} {pos : Pos} {C : Ct} {ma mb mc : Ex} {ms ms2 : Exs} {k : Nat} {kws : List Keyword} {ks : List Str}
theorem mk_nil : PK X [] (tA X.K C .nil) := ⟨fun pos pins s σ H Q I ⟨F, st, os, st', r, e, q⟩ => by
  cases e
  exact pk_nil.run pos pins s σ H Q I (q _ _ _ (Go.refl r) .nil)⟩
theorem mk_cons {nm : Option Str} {kp : Pos} (ha : PE X e (tE X.K C ma)) (hr : PK X kws (tA X.K C ms)) : PK X (⟨nm, e, kp⟩ :: kws) (tA X.K C (.cons ma ms)) := ⟨fun pos pins s σ H Q I ⟨F, st, os, st', r, e, q⟩ => by
  simp only [evs, Option.bind_eq_some_iff, Option.map_eq_some_iff] at e
  obtain ⟨qa, ea, qr, er, e⟩ := e
  cases e
  exact (pk_cons ha hr).run pos pins s σ H Q I ⟨F, st, qa.1, qa.2, r, ea, fun v F1 H1 ra => ⟨F1, qa.2, qr.1, qr.2, ra.go.rel, er, fun vs F2 H2 g2 rr => q _ _ _ (ra.go.trans g2) (.cons (ra.rel.step g2) ra.fro (rr.back ra.go))⟩⟩⟩
end
end Mi
end
section
/-! Mi13: calls, tests, names of the module, pop. -/
namespace Mi
open PySem PySem.Spec
open PyProof.Rows hiding St Fr
open L2

/-- which keywords go with n arguments -/
def callOk (ps : List Str) (n : Nat) (ks : List Str) : Bool := decide ps.Nodup && decide ks.Nodup && (ks.all fun k => decide (k ∈ ps.drop n)) && decide (n + ks.length = ps.length) && (ps.all fun p => decide (p ∈ ps.take n ++ ks))
theorem callOk_ok {ps : List Str} {n : Nat} {ks : List Str} (h : callOk ps n ks = true) : ps.Nodup ∧ ks.Nodup ∧ (∀ k ∈ ks, k ∈ ps.drop n) ∧ n + ks.length = ps.length ∧ ∀ p ∈ ps, p ∈ ps.take n ++ ks := by
  unfold callOk at h
  simp only [Bool.and_eq_true, List.all_eq_true, decide_eq_true_eq] at h
  obtain ⟨⟨⟨⟨h1, h2⟩, h3⟩, h4⟩, h5⟩ := h
  exact ⟨h1, h2, h3, h4, h5⟩
/-- a def of the text, as it is called -/
structure CallX (X : Cx) (k : Nat) (C : Ct) (x : Str) (ps : List Str) (f : Addr) (fd : FuncData) (qual : Str) (as : List Arg) (body : List Stmt) (scope : Scope) : Prop where
  ar : as.map (·.arg) = ps
  hf : FunD X.K x qual (simpleArgs as) body scope [] [] f fd
  fg : FnG X.prog X.w X.K X.mg X.base k f fd ps (spC X.K (C.call x) (C.io x) ps.length)
  mg : X.mg x = some (.ref f)
  db : (x == ("__debug__" : Str)) = false
def CallOk (X : Cx) (k : Nat) (C : Ct) (x : Str) (ps : List Str) : Prop := ∃ f fd qual as body scope, CallX X k C x ps f fd qual as body scope
section
variable {X : Cx} {e a b c : Expr} {es : List Expr} {pos : Pos} {C : Ct} {ma mb mc : Ex} {ms ms2 : Exs} {k : Nat} {kws : List Keyword} {ks : List Str} {ps : List Str}
theorem perm_lt {n : Nat} (h : ∀ p ∈ ps, p ∈ ps.take n ++ ks) (hl : n + ks.length = ps.length) {m : Nat} (hm : m = n + ks.length) : ∀ j ∈ permOf ps n ks, j < m := fun j hj => by
  unfold permOf at hj
  obtain ⟨q, hq, rfl⟩ := List.mem_map.mp hj
  have := List.idxOf_lt_length_iff.mpr (h q hq)
  rw [List.length_append, List.length_take] at this
  omega
theorem me_call {x : Str} {p : Pos} (hx : CallOk X k C x ps) (hr : Room k X.A) (hg : X.A.guards = some []) (gl : Gl X x) (hk : callOk ps (es.length + 1) ks = true) (hs : noStars (e :: es) = true) (hkn : kws.map (·.arg) = ks.map some)
    (ha : PA X (e :: es) (tA X.K C ms)) (hkw : PK X kws (tA X.K C ms2)) (l1 : ∀ st os st', evs C ms st = some (os, st') → os.length = es.length + 1) (l2 : ∀ st os st', evs C ms2 st = some (os, st') → os.length = ks.length) :
    PE X (.Call (.Name x p) (e :: es) kws pos) (tE X.K C (.cal x (permOf ps (es.length + 1) ks) (ms.app ms2))) := by
  obtain ⟨f, fd, qual, as, body, scope, rfl, FD, F, hm, hdb⟩ := hx
  obtain ⟨c1, c2, c3, c4, c5⟩ := callOk_ok hk
  refine pe_mono (pe_callG FD F hr hg gl hm hdb c1 c2 c3 (by rw [c4, List.length_map]) c5 hs hkn ha hkw) fun σ H Q ⟨F0, st, od, st', r, e0, q⟩ => ?_
  simp only [evE, evs_app, Option.bind_eq_some_iff, Option.map_eq_some_iff] at e0
  obtain ⟨qs, ⟨q1, e1, q2, e2, rfl⟩, e3⟩ := e0
  refine ⟨F0, st, q1.1, q1.2, r, e1, fun vs F1 H1 g1 r1 => ⟨F1, q1.2, q2.1, q2.2, g1.rel, e2, fun zs F2 H2 g2 r2 => ?_⟩⟩
  have n1 : vs.length = es.length + 1 := r1.len.trans (l1 _ _ _ e1)
  have n2 : zs.length = ks.length := r2.len.trans (l2 _ _ _ e2)
  refine ⟨n1, n2, ?_⟩
  exact call_ok (g1.trans g2) (ORs.app (r2.back g1) (r1.step g2)) (perm_lt c5 c4 (by rw [List.length_append, n1, n2])) e3 (by unfold permOf; rw [List.length_map]) q
theorem me_call0 {x : Str} {p : Pos} (hx : CallOk X k C x ps) (hr : Room k X.A) (hg : X.A.guards = some []) (gl : Gl X x) (hk : callOk ps 0 ks = true) (hkn : kws.map (·.arg) = ks.map some)
    (hkw : PK X kws (tA X.K C ms2)) (l2 : ∀ st os st', evs C ms2 st = some (os, st') → os.length = ks.length) :
    PE X (.Call (.Name x p) [] kws pos) (tE X.K C (.cal x (permOf ps 0 ks) ms2)) := by
  obtain ⟨f, fd, qual, as, body, scope, rfl, FD, F, hm, hdb⟩ := hx
  obtain ⟨c1, c2, c3, c4, c5⟩ := callOk_ok hk
  refine pe_mono (pe_callG0 FD F hr hg gl hm hdb c1 c2 c3 (by rw [c4, List.length_map]) c5 hkn hkw) fun σ H Q ⟨F0, st, od, st', r, e0, q⟩ => ?_
  simp only [evE, Option.bind_eq_some_iff] at e0
  obtain ⟨q2, e2, e3⟩ := e0
  refine ⟨F0, st, q2.1, q2.2, r, e2, fun zs F2 H2 g2 r2 => ?_⟩
  have n2 : zs.length = ks.length := r2.len.trans (l2 _ _ _ e2)
  refine ⟨n2, ?_⟩
  exact call_ok g2 r2 (perm_lt c5 c4 (by rw [n2, Nat.zero_add])) e3 (by unfold permOf; rw [List.length_map]) q
/-- a constant of the module -/
def GloOk (X : Cx) (C : Ct) (x : Str) : Prop := ∀ p, C.glo x = some p → ∃ v u, X.mg x = some u ∧ RelV v u ∧ ∀ F, Dn X.K F v p
theorem me_glo {x : Str} (gl : Gl X x) (hx : GloOk X C x) (hd : (x == ("__debug__" : Str)) = false) : PE X (.Name x pos) (tE X.K C (.glo x)) := ⟨fun pins s σ H Q I ⟨F, st, od, st', r, e, q⟩ => by
  simp only [evE, Option.map_eq_some_iff] at e
  obtain ⟨p, ep, e⟩ := e
  cases e
  obtain ⟨v, u, h1, h2, h3⟩ := hx p ep
  exact (pe_glob gl h1 h2 hd).run pins s σ H Q I (q _ _ _ (Res.den (Go.refl r) (h3 F)))⟩
/-- the list turned round -/
theorem me_rev {j : Nat} {p1 p2 p3 : Pos} (ha : PE X a (tE X.K C ma)) : PE X (.Subscript a (.Slice none none (some (.UnaryOp .USub (.Constant (.int 1) j p1) p2)) p3) pos) (tE X.K C (.rev ma)) := pe_mono (pe_revA ha) fun σ H Q ⟨F, st, od, st', r, e, q⟩ => by
  simp only [evE, Option.bind_eq_some_iff, Option.map_eq_some_iff] at e
  obtain ⟨qa, ea, x, ex, z, ez, e⟩ := e
  cases e
  refine ⟨F, st, qa.1, qa.2, r, ea, fun v F1 H1 ra => ?_⟩
  unfold revD at ez
  split at ez
  · rename_i xs
    cases ez
    obtain ⟨p, vs, rfl, h1, h2⟩ := (ra.rel.rd ra.go.rel ex).list ra.go.rel.le
    exact ⟨p, vs, rfl, .inl ⟨.inl (.inl h1), fun n hn => q _ F1 _ (NewR.res ra.go (New.lst ra.go.rel.le hn) (NewR.lst ra.go.rel.le hn (dpl_rev h2)))⟩⟩
  · rename_i xs
    cases ez
    obtain ⟨p, vs, rfl, h1, h2⟩ := (ra.rel.rd ra.go.rel ex).tup ra.go.rel.le
    exact ⟨p, vs, rfl, .inr ⟨h1.sq, fun n us hn => q _ _ _ (NewR.res ra.go (New.put ra.go.rel.le hn) (NewR.tup ra.go.rel.le hn rfl (dpl_rev h2)))⟩⟩
  · cases ez
/-! ### a list of the frame is changed -/
end
section
variable {K : PySem.W.Frag} {F H : Hp} {st : En} {σ : L2.St} {i : Nat} {xs : List PyData} {mk : D → Sl}
theorem lstAt_ok (r : Rel K F st σ H) (h : lstAt st i = some (xs, mk)) : ∃ (s : Sl) (a : Addr) (vs : List V), st[i]? = some s ∧ s.owned = true ∧ (∀ ds, (mk (.py (.list ds)) = .ow (.py (.list ds)) ∧ ∃ d, s = .ow d) ∨ (mk (.py (.list ds)) = .bo (.py (.list ds)) ∧ ∃ d, s = .bo d)) ∧
    σ[i]? = some (some (V.ref a)) ∧ H a = some (.lst vs) ∧ DnAll K F vs xs := by
  unfold lstAt at h
  split at h
  · rename_i ys hs
    cases h
    obtain ⟨a, h1, h2, vs, h3, h4⟩ := r.sl i _ hs
    exact ⟨_, a, vs, hs, rfl, fun ds => .inl ⟨rfl, _, rfl⟩, h1, h3, h4⟩
  · rename_i ys hs
    cases h
    obtain ⟨a, h1, h2, vs, h3, h4⟩ := r.sl i _ hs
    exact ⟨_, a, vs, hs, rfl, fun ds => .inr ⟨rfl, _, rfl⟩, h1, h3, h4⟩
  · cases h
theorem objAt_ok {d : D} (r : Rel K F st σ H) (h : objAt st i = some (d, mk)) : ∃ (s : Sl) (a : Addr), st[i]? = some s ∧ s.owned = true ∧ (∀ d' : D, (mk d' = .ow d' ∧ ∃ d, s = .ow d) ∨ (mk d' = .bo d' ∧ ∃ d, s = .bo d)) ∧
    σ[i]? = some (some (V.ref a)) ∧ OwnAt K F H a d := by
  unfold objAt at h
  split at h
  · rename_i d0 hs
    cases h
    obtain ⟨a, h1, h2, h3⟩ := r.sl i _ hs
    exact ⟨_, a, hs, rfl, fun ds => .inl ⟨rfl, _, rfl⟩, h1, h3⟩
  · rename_i d0 hs
    cases h
    obtain ⟨a, h1, h2, h3⟩ := r.sl i _ hs
    exact ⟨_, a, hs, rfl, fun ds => .inr ⟨rfl, _, rfl⟩, h1, h3⟩
  · cases h
theorem lstAt_tyG {v : V} (r : Rel K F st σ H) (h : lstAt st i = some (xs, mk)) : ∃ a, σ[i]? = some (some (V.ref a)) ∧ TyG K "list" (.ref a) H := by
  obtain ⟨s, a, vs, _, _, _, h1, h2, _⟩ := lstAt_ok r h
  exact ⟨a, h1, a, rfl, .inl ⟨rfl, vs, h2⟩⟩
end
section
variable {X : Cx} {e a b c : Expr} {es : List Expr} {pos : Pos} {C : Ct} {ma mb mc : Ex} {k : Nat}
/-- {} -/
theorem me_dct0 : PE X (.Dict [] [] pos) (tE X.K C .dct0) := pe_mono pe_dnewK fun σ H Q ⟨F, st, od, st', r, e, q⟩ => by
  cases e
  exact fun p hp => q _ F _ (NewR.res (Go.refl r) (New.dct r.le hp) (NewR.dct r.le hp))
theorem me_pop {x : Str} {i : Nat} {p apos cpos : Pos} (h : NameOk X.N X.env.scope x i) (ha : PE X a (tE X.K C ma)) (hs : noStar a = true) (hline : (apos.endLine == cpos.line) = true) :
    PE X (.Call (.Attribute (.Name x p) "pop" apos) [a] [] cpos) (tE X.K C (.pop i ma)) := by
  refine pe_mono (pe_bmG PySem.F.plainAttrs_list PySem.F.slot_list_pop PySem.F.type_list_pop mt_popAt (pe_var h.ix h.vis h.d1 h.d2) (pa_cons ha pa_nil (star_cons hs)) base_name (by simp [noStars, hs]) (by simp) hline) fun σ H Q ⟨F, st, od, st', r, e, q⟩ => ?_
  simp only [evE, Option.bind_eq_some_iff] at e
  obtain ⟨m0, em0, qa, ea, kk, ek, m, em, e⟩ := e
  obtain ⟨a0, h1, h2⟩ := lstAt_tyG (v := .non) r em0
  refine ⟨_, h1, h2, F, st, qa.1, qa.2, r, ea, fun v F1 H1 ra => ?_⟩
  split at e
  · split at e
    · rename_i kn hok
      simp only [Option.bind_eq_some_iff, Option.map_eq_some_iff] at e
      obtain ⟨j, ej, p, ep, e⟩ := e
      cases e
      obtain rfl := (ra.rel.rd ra.go.rel ek).int
      obtain ⟨s, a1, vs, g1, g2, g3, g4, g5, g6⟩ := lstAt_ok ra.go.rel em
      rw [h1] at g4; cases g4
      unfold okR at hok
      simp only [Bool.and_eq_true, decide_eq_true_eq] at hok
      obtain ⟨pv, hp1, hp2⟩ := dpl_get g6 ep
      have hj : seqIndex? kn vs.length = some j := by rw [dpl_len g6]; exact (L2.ixN_seq ej).1
      refine ⟨a0, vs, kn, j, pv, rfl, rfl, g5, by omega, by omega, hj, hp1, ?_⟩
      have gp := ra.go.rel.put g1 g2 (g3 _) h1 (dpl_erase j g6)
      exact q _ F1 _ (Res.den (ra.go.trans gp) hp2)
    · cases e
  · cases e
/-! ### tests -/
def plainT : Expr → Bool
  | .Name .. => true
  | .Call .. => true
  | .Subscript .. => true
  | .Constant .. => true
  | .Tuple .. => true
  | .List .. => true
  | .BinOp .. => true
  | _ => false
theorem plainT_ok {env : Env} (h : plainT e = true) : ∀ whole, isTrue e env whole = (do let v ← whole; standAt e.pos; holding [v] (truthy v)) := by
  cases e <;> first | (intro _; rfl) | cases h
theorem tru_rd {K : PySem.W.Frag} {F H : Hp} {v : V} {d : D} {b : Bool} (le : Same F H) (h : RdR K F H v d) (e : d.tru = some b) : TruV K v H b := by
  unfold D.tru at e
  split at e
  · cases e; rw [h.bl]; exact rfl
  · cases e; rw [h.int]; exact rfl
  · cases e
    obtain ⟨a, vs, rfl, h1, h2⟩ := h.list le
    refine .inl ⟨vs, .inl (.inl h1), ?_⟩
    have := dpl_len h2
    rename_i xs
    cases vs <;> cases xs <;> first | rfl | cases this
  · cases e
    obtain ⟨a, vs, rfl, h1, h2⟩ := h.tup le
    refine .inr (.inl ⟨vs, h1.sq, ?_⟩)
    have := dpl_len h2
    rename_i xs
    cases vs <;> cases xs <;> first | rfl | cases this
  · cases e; rw [h.non]; exact rfl
  · split at e
    · rename_i x hl
      cases e
      rw [h.str]
      have hs : sizeLine = 16777216 := sizeLine_eq
      have hl : x.length ≤ lim := hl
      exact ⟨by unfold lim at hl; omega, rfl⟩
    · cases e
  · rename_i ns
    cases e
    obtain ⟨a, rfl, h1⟩ := h.scr le
    refine .inl ⟨_, h1, ?_⟩
    cases ns <;> rfl
  · cases e
theorem mt_v (hp : plainT a = true) (ha : PE X a (tE X.K C ma)) : PT X a (tT X.K C (.v ma)) := pt_mono (pt_truth ha (plainT_ok hp)) fun σ H Q ⟨F, st, b, st', r, e, q⟩ => by
  simp only [evT, Option.bind_eq_some_iff, Option.map_eq_some_iff] at e
  obtain ⟨qa, ea, t, ⟨d, ed, et⟩, e⟩ := e
  cases e
  exact ⟨F, st, qa.1, qa.2, r, ea, fun v F1 H1 ra => ⟨_, tru_rd ra.go.rel.le (ra.rel.rd ra.go.rel ed) et, q _ _ ra.go⟩⟩
/-- a reading that answers with a bool, as a test -/
theorem tE_test {te : TE} {σ : L2.St} {H : Hp} {Q : Bool → Hp → Prop} (h : PT X a (tTest te)) (hm : ∀ σ H Q, tE X.K C ma σ H Q → te σ H Q) (hb : ∀ st od st' d b, evE C ma st = some (od, st') → rd st' od = some d → d.tru = some b → ∃ c, od = ofB c) : PT X a (tT X.K C (.v ma)) :=
  pt_mono h fun σ H Q ⟨F, st, b, st', r, e, q⟩ => by
    simp only [evT, Option.bind_eq_some_iff, Option.map_eq_some_iff] at e
    obtain ⟨qa, ea, t, ⟨d, ed, et⟩, e⟩ := e
    cases e
    obtain ⟨c, hc⟩ := hb _ _ _ _ _ ea ed et
    refine hm σ H _ ⟨F, st, qa.1, qa.2, r, ea, fun v F1 H1 ra => ?_⟩
    have h1 : ORel X.K F1 H1 qa.2 σ v (ofB c) := by rw [← hc]; exact ra.rel
    have h2 : ed = ed := rfl
    rw [hc] at ed
    cases ed
    cases et
    cases h1
    exact ⟨_, rfl, q _ _ ra.go⟩
theorem cm_ofB {o : Cm} {st st' : En} {od : Od} (h : evE C (.cm o ma mb) st = some (od, st')) : ∃ c, od = ofB c := by
  simp only [evE, Option.bind_eq_some_iff, Option.map_eq_some_iff] at h
  obtain ⟨qa, ea, qb, eb, x, ex, y, ey, z, ez, e⟩ := h
  cases e
  exact ⟨_, rfl⟩
theorem cm2_ofB {o o' : Cm} {st st' : En} {od : Od} (h : evE C (.cm2 o o' ma mb mc) st = some (od, st')) : ∃ c, od = ofB c := by
  simp only [evE, Option.bind_eq_some_iff] at h
  obtain ⟨qa, ea, qb, eb, x, ex, y, ey, z, ez, e⟩ := h
  cases z with
  | false => cases e; exact ⟨_, rfl⟩
  | true =>
    rw [if_pos rfl] at e
    simp only [Option.bind_eq_some_iff, Option.map_eq_some_iff] at e
    obtain ⟨qc, ec, y, ey, u, eu, z, ez, e⟩ := e
    cases e
    exact ⟨_, rfl⟩
theorem mt_cm {o : Cm} (hr : Room k X.A) (ha : PE X a (tE X.K C ma)) (hb : PE X b (tE X.K C mb)) (hm : behindInMarks o.op b = false) : PT X (.Compare a [o.op] [b] pos) (tT X.K C (.v (.cm o ma mb))) :=
  tE_test (σ := []) (H := fun _ => none) (Q := fun _ _ => True) (pt_cmpR (cm_ok hr o) ha hb hm) (fun σ H Q h => by
    obtain ⟨F, st, od, st', r, e, q⟩ := h
    simp only [evE, Option.bind_eq_some_iff, Option.map_eq_some_iff] at e
    obtain ⟨qa, ea, qb, eb, x, ex, y, ey, z, ez, e⟩ := e
    cases e
    exact tE_two r ea eb fun u v F' H' g ra rb => ⟨F', x, y, z, g.rel.le, ra.rd g.rel ex, rb.rd g.rel ey, ez, q _ _ _ (Res.den g (Dn.bl _))⟩) fun _ _ _ _ _ h _ _ => cm_ofB h
theorem mt_and {rest : List Expr} {m m2 : T} (ha : PT X a (tT X.K C m)) (hb : PW X (.BoolOp .And (b :: rest) pos) (tT X.K C m2)) : PW X (.BoolOp .And (a :: b :: rest) pos) (tT X.K C (.and m m2)) :=
  ⟨fun wh pins s σ H Q I ⟨F, st, od, st', r, e, q⟩ => by
    simp only [evT, Option.bind_eq_some_iff] at e
    obtain ⟨qa, ea, e⟩ := e
    refine (pw_and ha hb).run wh pins s σ H Q I ⟨F, st, qa.1, qa.2, r, ea, fun F' H' g => ?_⟩
    cases h : qa.1 with
    | true =>
      rw [h, if_pos rfl] at e
      exact iteT ⟨F', qa.2, od, st', g.rel, e, fun F2 H2 g2 => q _ _ (g.trans g2)⟩
    | false =>
      rw [h, if_neg Bool.false_ne_true] at e
      cases e
      exact iteF (q _ _ g)⟩
theorem mt_or {rest : List Expr} {m m2 : T} (ha : PT X a (tT X.K C m)) (hb : PW X (.BoolOp .Or (b :: rest) pos) (tT X.K C m2)) : PW X (.BoolOp .Or (a :: b :: rest) pos) (tT X.K C (.or m m2)) :=
  ⟨fun wh pins s σ H Q I ⟨F, st, od, st', r, e, q⟩ => by
    simp only [evT, Option.bind_eq_some_iff] at e
    obtain ⟨qa, ea, e⟩ := e
    refine (pw_or ha hb).run wh pins s σ H Q I ⟨F, st, qa.1, qa.2, r, ea, fun F' H' g => ?_⟩
    cases h : qa.1 with
    | false =>
      rw [h, if_neg Bool.false_ne_true] at e
      exact iteF ⟨F', qa.2, od, st', g.rel, e, fun F2 H2 g2 => q _ _ (g.trans g2)⟩
    | true =>
      rw [h, if_pos rfl] at e
      cases e
      exact iteT (q _ _ g)⟩
theorem mt_not {m : T} (ha : PT X a (tT X.K C m)) : PT X (.UnaryOp .Not a pos) (tT X.K C (.nt m)) := pt_mono (pt_not ha) fun σ H Q ⟨F, st, b, st', r, e, q⟩ => by
  simp only [evT, Option.map_eq_some_iff] at e
  obtain ⟨qa, ea, e⟩ := e
  cases e
  exact ⟨F, st, qa.1, qa.2, r, ea, q⟩
end
end Mi
end
section
/-! Mi14: statements without loops. -/
namespace Mi
open PySem PySem.Spec
open PyProof.Rows hiding St Fr
open L2

section
variable {K : PySem.W.Frag} {F H F0 H0 F1 H1 F2 H2 F' H' : Hp} {st st0 st1 st2 st' : En} {σ σ0 σ1 σ2 σ' : L2.St} {v : V} {od : Od} {d : D} {a : Addr} {i : Nat}
theorem Fro.back' (g : Go K st σ F H st1 σ1 F1 H1) (h : Fro st1 σ1 H1 v od) : Fro st σ H v od := by
  cases od with
  | va _ => trivial
  | pk _ => trivial
  | fe _ =>
    obtain ⟨a, e, h⟩ := h
    rcases h with h | h
    · exact ⟨a, e, g.stp.own a h⟩
    · refine ⟨a, e, .inr ?_⟩
      cases q : H a with
      | none => rfl
      | some o => exact absurd h (g.stp.live a (by rw [q]; simp))
/-- a slot takes a value that nobody changes, or nothing -/
theorem Rel.fr {s : Sl} (r : Rel K F st σ H) (hs : (s = .no) ∨ ∃ d, s = .fr d ∧ Den K F v d) : Go K st σ F H (st.set i s) (σ.set i (some v)) F H := by
  have no : s.owned = false := by rcases hs with rfl | ⟨d, rfl, _⟩ <;> rfl
  have ge : ∀ {j : Nat}, j ≠ i → (σ.set i (some v))[j]? = σ[j]? := fun h => List.getElem?_set_ne (Ne.symm h)
  have back : ∀ b, Owns (st.set i s) (σ.set i (some v)) b → Owns st σ b := fun b ⟨j, u, h1, h2, h3⟩ => by
    rcases get_set h1 with ⟨e, e2, _⟩ | ⟨e, h1⟩
    · subst e2; rw [no] at h2; cases h2
    · exact ⟨j, u, h1, h2, by rw [← ge e]; exact h3⟩
  refine ⟨⟨Same.refl F, fun b o h _ => h, fun b h => h, fun b h => .inl (back b h), fun b h => .inl h⟩, ⟨r.le, by rw [List.length_set, List.length_set]; exact r.len, fun j u h => ?_, fun j j' u u' b h1 h2 h3 h4 h5 h6 => ?_⟩, fun j d h => ?_⟩
  · rcases get_set h with ⟨e, e2, hl⟩ | ⟨e, h⟩
    · subst e2
      rcases hs with rfl | ⟨d, rfl, hd⟩
      · trivial
      · exact ⟨v, by rw [e, List.getElem?_set_self (by rw [r.len]; exact hl)], hd⟩
    · have z := r.sl j u h
      cases u with
      | no => trivial
      | fr d => obtain ⟨w, g1, g2⟩ := z; exact ⟨w, by rw [ge e]; exact g1, g2⟩
      | ow d => obtain ⟨w, g1, g2⟩ := z; exact ⟨w, by rw [ge e]; exact g1, g2⟩
      | bo d => obtain ⟨w, g1, g2⟩ := z; exact ⟨w, by rw [ge e]; exact g1, g2⟩
  · rcases get_set h1 with ⟨e, e2, _⟩ | ⟨e, h1⟩
    · subst e2; rw [no] at h3; cases h3
    · rcases get_set h2 with ⟨e', e2, _⟩ | ⟨e', h2⟩
      · subst e2; rw [no] at h4; cases h4
      · rw [ge e] at h5
        rw [ge e'] at h6
        exact r.inj j j' u u' b h1 h2 h3 h4 h5 h6
  · rcases get_set h with ⟨e, e2, _⟩ | ⟨e, h⟩
    · rw [← e2] at no; cases no
    · exact ⟨ge e, d, h⟩
/-- a slot takes a list in one hand -/
theorem Rel.ow (g : Go K st0 σ0 F0 H0 st σ F H) (hf : F a = none) (ho : OwnAt K F H a d) (hn : ¬ Owns st σ a) (fro : Owns st0 σ0 a ∨ H0 a = none) : Go K st0 σ0 F0 H0 (st.set i (.ow d)) (σ.set i (some (.ref a))) F H := by
  have r := g.rel
  have ge : ∀ {j : Nat}, j ≠ i → (σ.set i (some (V.ref a)))[j]? = σ[j]? := fun h => List.getElem?_set_ne (Ne.symm h)
  refine ⟨⟨g.stp.fr, g.stp.keep, g.stp.live, fun b hb => ?_, g.stp.frz⟩, ⟨r.le, by rw [List.length_set, List.length_set]; exact r.len, fun j u h => ?_, fun j j' u u' b h1 h2 h3 h4 h5 h6 => ?_⟩, fun j d h => ?_⟩
  · obtain ⟨j, u, h1, h2, h3⟩ := hb
    rcases get_set h1 with ⟨e, e2, hl⟩ | ⟨e, h1⟩
    · subst e
      rw [List.getElem?_set_self (by rw [r.len]; exact hl)] at h3
      cases h3
      exact fro
    · rw [ge e] at h3
      exact g.stp.own b ⟨j, u, h1, h2, h3⟩
  · rcases get_set h with ⟨e, e2, hl⟩ | ⟨e, h⟩
    · subst e2
      exact ⟨a, by rw [e, List.getElem?_set_self (by rw [r.len]; exact hl)], hf, ho⟩
    · have z := r.sl j u h
      cases u with
      | no => trivial
      | fr d => obtain ⟨w, g1, g2⟩ := z; exact ⟨w, by rw [ge e]; exact g1, g2⟩
      | ow d => obtain ⟨w, g1, g2⟩ := z; exact ⟨w, by rw [ge e]; exact g1, g2⟩
      | bo d => obtain ⟨w, g1, g2⟩ := z; exact ⟨w, by rw [ge e]; exact g1, g2⟩
  · rcases get_set h1 with ⟨e, e2, hl⟩ | ⟨e, k1⟩
    · rcases get_set h2 with ⟨e', _, _⟩ | ⟨e', k2⟩
      · rw [e, e']
      · subst e
        rw [List.getElem?_set_self (by rw [r.len]; exact hl)] at h5
        cases h5
        rw [ge e'] at h6
        exact absurd ⟨j', u', k2, h4, h6⟩ hn
    · rw [ge e] at h5
      rcases get_set h2 with ⟨e', _, hl⟩ | ⟨e', k2⟩
      · subst e'
        rw [List.getElem?_set_self (by rw [r.len]; exact hl)] at h6
        cases h6
        exact absurd ⟨j, u, k1, h3, h5⟩ hn
      · rw [ge e'] at h6
        exact r.inj j j' u u' b k1 k2 h3 h4 h5 h6
  · rcases get_set h with ⟨e, e2, _⟩ | ⟨e, h⟩
    · cases e2
    · obtain ⟨e1, d0, h0⟩ := g.bos j d h
      exact ⟨by rw [ge e]; exact e1, d0, h0⟩
/-- a value is stored -/
theorem Res.store {s : Sl} (r : Res K st σ F H st1 F1 H1 v od) (e : od.slot = some s) : Go K st σ F H (st1.set i s) (σ.set i (some v)) F1 H1 := by
  cases od with
  | va d =>
    cases e
    exact r.go.trans (r.go.rel.fr (.inr ⟨d, rfl, r.rel⟩))
  | fe d =>
    cases e
    obtain ⟨a, rfl, h1, h2, h3⟩ := r.rel
    obtain ⟨a', e', h4⟩ := r.fro
    cases e'
    exact Rel.ow r.go h1 h2 h3 h4
  | pk i => cases e
end

/-! ### the reading of statements -/
def EndR (K : PySem.W.Frag) (D : Ends) (st : En) (σ : L2.St) (H : Hp) (st' : En) (σ' : L2.St) (F' H' : Hp) : Out → Prop
  | .nx => D.nx σ' H'
  | .brk => D.bk σ' H'
  | .cont => D.ct σ' H'
  | .rt d b => ∀ v, ORel K F' H' st' σ' v (if b then .fe d else .va d) → Fro st σ H v (if b then .fe d else .va d) → D.rt v H'
def tS (K : PySem.W.Frag) (C : Ct) (m : S) : TS := fun D σ H => ∃ F st o st', Rel K F st σ H ∧ exS C m st = some (o, st') ∧ ∀ σ' F' H', Go K st σ F H st' σ' F' H' → EndR K D st σ H st' σ' F' H' o
def tSs (K : PySem.W.Frag) (C : Ct) (m : Ss) : TS := fun D σ H => ∃ F st o st', Rel K F st σ H ∧ exs C m st = some (o, st') ∧ ∀ σ' F' H', Go K st σ F H st' σ' F' H' → EndR K D st σ H st' σ' F' H' o
theorem EndR.back {K : PySem.W.Frag} {D : Ends} {st st1 st' : En} {σ σ1 σ' : L2.St} {F H F1 H1 F' H' : Hp} (g : Go K st σ F H st1 σ1 F1 H1) {o : Out} (h : EndR K D st σ H st' σ' F' H' o) : EndR K D st1 σ1 H1 st' σ' F' H' o := by
  cases o with
  | rt d b => exact fun v h1 h2 => h v h1 (Fro.back' g h2)
  | nx => exact h
  | brk => exact h
  | cont => exact h
section
variable {X : Cx} {st : Stmt} {t t' : TS}
theorem ps_mono (h : PS X st t) (w : ∀ D σ H, t' D σ H → t D σ H) : PS X st t' := ⟨fun pins s σ H D I q => h.run pins s σ H D I (w D σ H q)⟩
theorem pss_mono {sts : List Stmt} (h : PSs X sts t) (w : ∀ D σ H, t' D σ H → t D σ H) : PSs X sts t' := ⟨fun pins s σ H D I q => h.run pins s σ H D I (w D σ H q)⟩
end
section
variable {X : Cx} {e a b c : Expr} {es : List Expr} {pos : Pos} {C : Ct} {ma mb mc : Ex} {ms ms2 : Exs} {k : Nat} {st : Stmt} {rest sts sts2 : List Stmt} {s : S} {ss ss2 : Ss} {m : T}
theorem ms_nil : PSs X [] (tSs X.K C .nil) := pss_mono pss_nil fun D σ H ⟨F, st, o, st', r, e, q⟩ => by
  cases e
  exact q _ _ _ (Go.refl r)
theorem ms_cons (h1 : PS X st (tS X.K C s)) (h2 : PSs X rest (tSs X.K C ss)) : PSs X (st :: rest) (tSs X.K C (.cons s ss)) := pss_mono (pss_cons h1 h2) fun D σ H ⟨F, en, o, en', r, e, q⟩ => by
  simp only [exs, Option.bind_eq_some_iff] at e
  obtain ⟨⟨o1, st1⟩, e1, e⟩ := e
  refine ⟨F, en, o1, st1, r, e1, fun σ1 F1 H1 g1 => ?_⟩
  cases o1 with
  | nx => exact ⟨F1, st1, o, en', g1.rel, e, fun σ2 F2 H2 g2 => EndR.back g1 (q _ _ _ (g1.trans g2))⟩
  | brk => cases e; exact q _ _ _ g1
  | cont => cases e; exact q _ _ _ g1
  | rt d b => cases e; exact q _ _ _ g1
theorem ms_raise : PS X st (tS X.K C .raise) := ps_mono ps_never fun D σ H ⟨F, st, o, st', r, e, q⟩ => by cases e
theorem ms_pass : PS X (.Pass pos) (tS X.K C .pass) := ps_mono ps_pass fun D σ H ⟨F, st, o, st', r, e, q⟩ => by cases e; exact q _ _ _ (Go.refl r)
theorem ms_doc {x : Str} {j : Nat} {p2 : Pos} : PS X (.Expr (.Constant (.str x) j p2) pos) (tS X.K C .pass) := ps_mono ps_doc fun D σ H ⟨F, st, o, st', r, e, q⟩ => by cases e; exact q _ _ _ (Go.refl r)
theorem ms_brk : PS X (.Break pos) (tS X.K C .brk) := ps_mono ps_break fun D σ H ⟨F, st, o, st', r, e, q⟩ => by cases e; exact q _ _ _ (Go.refl r)
theorem ms_cont : PS X (.Continue pos) (tS X.K C .cont) := ps_mono ps_continue fun D σ H ⟨F, st, o, st', r, e, q⟩ => by cases e; exact q _ _ _ (Go.refl r)
theorem ms_retN : PS X (.Return none pos) (tS X.K C .retN) := ps_mono ps_retN fun D σ H ⟨F, st, o, st', r, e, q⟩ => by
  cases e
  exact q _ _ _ (Go.refl r) .non Dn.non trivial
/-- what swaps nothing: no comprehension -/
def noComp : Expr → Bool
  | .ListComp .. => false
  | .SetComp .. => false
  | .DictComp .. => false
  | _ => true
theorem sw_no {e : Expr} {t : Option Expr} {l : Nat} {env : Env} (h : noComp e = true) : swapsWith e t l env = pure false := by
  cases e <;> first | rfl | cases h
theorem ms_ex (hn : noComp e = true) (he : PE X e (tE X.K C ma)) : PS X (.Expr e pos) (tS X.K C (.ex ma)) := ps_mono (ps_expr he (sw_no hn)) fun D σ H ⟨F, st, o, st', r, e, q⟩ => by
  simp only [exS, Option.map_eq_some_iff] at e
  obtain ⟨qa, ea, e⟩ := e
  cases e
  exact ⟨F, st, qa.1, qa.2, r, ea, fun v F1 H1 ra => q _ _ _ ra.go⟩
theorem ms_ret (he : PE X e (tE X.K C ma)) : PS X (.Return (some e) pos) (tS X.K C (.ret ma)) := ps_mono (ps_ret he) fun D σ H ⟨F, st, o, st', r, e, q⟩ => by
  simp only [exS, Option.bind_eq_some_iff, Option.map_eq_some_iff] at e
  obtain ⟨qa, ea, o', eo, e⟩ := e
  cases e
  refine ⟨F, st, qa.1, qa.2, r, ea, fun v F1 H1 ra => ?_⟩
  unfold retE at eo
  have z := q _ _ _ ra.go
  split at eo
  · rename_i d hd
    cases eo
    exact z v (by have := ra.rel; rw [hd] at this; exact this) trivial
  · rename_i d hd
    cases eo
    exact z v (by have := ra.rel; rw [hd] at this; exact this) (by have := ra.fro; rw [hd] at this; exact this)
  · cases eo
theorem ms_retv {x : Str} {i : Nat} {p : Pos} (h : NameOk X.N X.env.scope x i) : PS X (.Return (some (.Name x p)) pos) (tS X.K C (.retv i)) := ps_mono (ps_ret (pe_var h.ix h.vis h.d1 h.d2)) fun D σ H ⟨F, st, o, st', r, e, q⟩ => by
  simp only [exS] at e
  split at e
  · rename_i d hd
    cases e
    obtain ⟨v, h1, h2⟩ := r.sl i _ hd
    exact ⟨v, h1, q _ _ _ (Go.refl r) v h2 trivial⟩
  · rename_i d hd
    cases e
    obtain ⟨a, h1, h2, h3⟩ := r.sl i _ hd
    refine ⟨_, h1, ?_⟩
    have g := r.fr (v := .ref a) (i := i) (s := .no) (.inl rfl)
    have hs : σ.set i (some (V.ref a)) = σ := by
      apply List.ext_getElem?
      intro j
      by_cases e : j = i
      · subst e
        rw [List.getElem?_set_self (get_lt h1), h1]
      · rw [List.getElem?_set_ne (Ne.symm e)]
    rw [hs] at g
    refine q _ _ _ g _ ⟨a, rfl, h2, h3, fun ⟨j, u, k1, k2, k3⟩ => ?_⟩ ⟨a, rfl, .inl ⟨i, _, hd, rfl, h1⟩⟩
    rcases get_set k1 with ⟨_, e2, _⟩ | ⟨e, k1⟩
    · subst e2; cases k2
    · exact e (r.inj j i u _ a k1 hd k2 rfl k3 h1)
  · cases e
theorem ms_if (hc : PT X c (tT X.K C m)) (ha : PSs X sts (tSs X.K C ss)) (hb : PSs X sts2 (tSs X.K C ss2)) : PS X (.If c sts sts2 pos) (tS X.K C (.ifs m ss ss2)) := ps_mono (ps_if hc ha hb) fun D σ H ⟨F, st, o, st', r, e, q⟩ => by
  simp only [exS, Option.bind_eq_some_iff] at e
  obtain ⟨qa, ea, e⟩ := e
  refine ⟨F, st, qa.1, qa.2, r, ea, fun F1 H1 g => ?_⟩
  cases h : qa.1 with
  | true =>
    rw [h, if_pos rfl] at e
    exact iteT ⟨F1, qa.2, o, st', g.rel, e, fun σ2 F2 H2 g2 => EndR.back g (q _ _ _ (g.trans g2))⟩
  | false =>
    rw [h, if_neg Bool.false_ne_true] at e
    exact iteF ⟨F1, qa.2, o, st', g.rel, e, fun σ2 F2 H2 g2 => EndR.back g (q _ _ _ (g.trans g2))⟩
/-- a name that is stored -/
structure StOk (X : Cx) (x : Str) (i : Nat) : Prop where
  ix : X.N[i]? = some x
  loc : Loc X.env.scope x
  fn : X.fn x = true ∨ X.env.scope.names.lookup x = some .local
theorem ms_asg {x : Str} {i : Nat} {p : Pos} (hN : X.N.Nodup) (h : StOk X x i) (hn : noComp e = true) (he : PE X e (tE X.K C ma)) : PS X (.Assign [.Name x p] e pos) (tS X.K C (.asg i ma)) := ps_mono (ps_set hN h.ix h.loc he (sw_no hn) h.fn) fun D σ H ⟨F, st, o, st', r, e, q⟩ => by
  simp only [exS, Option.bind_eq_some_iff, Option.map_eq_some_iff] at e
  obtain ⟨qa, ea, s, es, e⟩ := e
  cases e
  exact ⟨F, st, qa.1, qa.2, r, ea, fun v F1 H1 ra => q _ _ _ (ra.store es)⟩
theorem ms_aug {x : Str} {i : Nat} {p : Pos} {o : O2} (ho : o = .add ∨ o = .sub) (hN : X.N.Nodup) (h : StOk X x i) (he : PE X e (tE X.K C ma)) : PS X (.AugAssign (.Name x p) o.op e pos) (tS X.K C (.aug i o ma)) := by
  have key : ∀ (op : Operator) (f : Int → Int → Int), PIp X op (ipI f) → (∀ st q, exS C (.aug i o ma) st = some q → ∃ x qa y, st[i]? = some (.fr (.py (.int x))) ∧ evE C ma st = some qa ∧ rd qa.2 qa.1 = some (.py (.int y)) ∧ q = (.nx, qa.2.set i (.fr (.py (.int (f x y)))))) →
      PS X (.AugAssign (.Name x p) op e pos) (tS X.K C (.aug i o ma)) := fun op f hp hk => ps_mono (ps_aug hN h.ix h.loc he hp h.fn) fun D σ H ⟨F, st, o, st', r, e, q⟩ => by
    obtain ⟨x0, qa, y, h1, ea, ey, e⟩ := hk _ _ e
    cases e
    obtain ⟨v, g1, g2⟩ := r.sl i _ h1
    cases g2
    refine ⟨_, g1, F, st, qa.1, qa.2, r, ea, fun w F1 H1 ra => ?_⟩
    obtain rfl := (ra.rel.rd ra.go.rel ey).int
    exact ⟨x0, y, rfl, rfl, q _ _ _ (ra.go.trans (ra.go.rel.fr (.inr ⟨_, rfl, Dn.int _⟩)))⟩
  rcases ho with rfl | rfl
  · refine key .Add _ ip_add fun st q e => ?_
    simp only [exS] at e
    split at e
    · rename_i x0 hx
      simp only [Option.bind_eq_some_iff] at e
      obtain ⟨qa, ea, d, ed, e⟩ := e
      split at e
      · rename_i z y; cases e; exact ⟨x0, qa, _, hx, ea, ed, rfl⟩
      · rename_i z y h0; cases h0
      · cases e
    · cases e
  · refine key .Sub _ ip_sub fun st q e => ?_
    simp only [exS] at e
    split at e
    · rename_i x0 hx
      simp only [Option.bind_eq_some_iff] at e
      obtain ⟨qa, ea, d, ed, e⟩ := e
      split at e
      · rename_i z y h0; cases h0
      · rename_i z y; cases e; exact ⟨x0, qa, _, hx, ea, ed, rfl⟩
      · cases e
    · cases e
/-! ### several names -/
def gNs : List Nat → TGs
  | [] => gNil
  | i :: is => gCons (gName i) (gNs is)
inductive StsOk (X : Cx) : List Expr → List Nat → Prop
  | nil : StsOk X [] []
  | cons {x : Str} {p : Pos} {i : Nat} {es : List Expr} {is : List Nat} : StOk X x i → StsOk X es is → StsOk X (.Name x p :: es) (i :: is)
theorem pgs_ns (hN : X.N.Nodup) : ∀ {es : List Expr} {is : List Nat}, StsOk X es is → PGs X es (gNs is)
  | _, _, .nil => pgs_nil
  | _, _, .cons h t => pgs_cons (pg_name hN h.ix h.loc h.fn) (pgs_ns hN t)
theorem sts_each {env : Env} : ∀ {es : List Expr} {is : List Nat}, StsOk X es is → (assignEach es env).length = is.length ∧ (assignEach es env).findIdx? (·.1) = none
  | _, _, .nil => ⟨rfl, rfl⟩
  | _, _, .cons (x := x) (p := p) (es := es) h t => by
    obtain ⟨h1, h2⟩ := sts_each (env := env) t
    have e : assignEach (.Name x p :: es) env = (false, assign (.Name x p) env) :: assignEach es env := rfl
    rw [e]
    refine ⟨by rw [List.length_cons, List.length_cons, h1], ?_⟩
    rw [List.findIdx?_cons]
    simp [h2]
def setAll (st : En) : List Nat → List PyData → En
  | i :: is, p :: ps => setAll (st.set i (.fr (.py p))) is ps
  | _, _ => st
theorem bind_setAll : ∀ (tg : List Nat) (xs : List PyData) (st : En), (tg.zip xs).foldl (fun s q => s.set q.1 (.fr (.py q.2))) st = setAll st tg xs
  | [], _, _ => by simp [setAll]
  | _ :: _, [], _ => by simp [setAll]
  | i :: is, p :: ps, st => by rw [List.zip_cons_cons, List.foldl_cons, bind_setAll is ps]; rfl
theorem gNs_ok {K : PySem.W.Frag} {F H : Hp} {Q : L2.St → Hp → Prop} : ∀ {is : List Nat} {vs : List V} {ps : List PyData} {st : En} {σ : L2.St}, Rel K F st σ H → DnAll K F vs ps → vs.length = is.length → (∀ σ', Go K st σ F H (setAll st is ps) σ' F H → (∀ j, j ∉ is → σ'[j]? = σ[j]?) → Q σ' H) → gNs is vs σ H Q
  | [], [], _, st, σ, r, .nil, _, q => ⟨rfl, q _ (Go.refl r) fun _ _ => rfl⟩
  | i :: is, _, _, st, σ, r, .cons (v := v) (d := p) h t, hl, q => by
    have g := r.fr (v := v) (i := i) (s := .fr (.py p)) (.inr ⟨_, rfl, h⟩)
    exact ⟨v, _, rfl, gNs_ok g.rel t (Nat.succ.inj hl) fun σ' g2 n => q σ' (g.trans g2) fun j hj => by
      rw [n j fun z => hj (List.mem_cons_of_mem _ z), List.getElem?_set_ne fun z => hj (by rw [z]; exact List.mem_cons_self ..)]⟩
/-- the target of a loop, of an assignment -/
inductive TgOk (X : Cx) : Expr → List Nat → Bool → Prop
  | one {x : Str} {p : Pos} {i : Nat} : StOk X x i → TgOk X (.Name x p) [i] true
  | tup {es : List Expr} {k : Nat} {p : Pos} {is : List Nat} : StsOk X es is → TgOk X (.Tuple es k p) is false
/-- a value that is handed to a target: frozen, or a pair just made -/
def DnW (K : PySem.W.Frag) (F H : Hp) (one : Bool) (v : V) (p : PyData) : Prop := Dn K F v p ∨ (one = false ∧ ∃ a vs ps, v = .ref a ∧ ((p = .tuple ps ∧ H a = some (.tup vs)) ∨ (p = .list ps ∧ H a = some (.lst vs))) ∧ DnAll K F vs ps)
def gT (K : PySem.W.Frag) (is : List Nat) (one : Bool) : TG := fun v σ H Q => ∃ F st p st', Rel K F st σ H ∧ DnW K F H one v p ∧ bindT is one p st = some st' ∧ ∀ σ', Go K st σ F H st' σ' F H → (∀ j, j ∉ is → σ'[j]? = σ[j]?) → Q σ' H
theorem pg_mono {tg : Expr} {g g' : TG} (h : PG X tg g) (w : ∀ v σ H Q, g' v σ H Q → g v σ H Q) : PG X tg g' := ⟨fun pins s σ H v u Q I r q => h.run pins s σ H v u Q I r (w v σ H Q q)⟩
theorem pg_T {tg : Expr} {is : List Nat} {one : Bool} (hc : X.calm = true) (hN : X.N.Nodup) (h : TgOk X tg is one) : PG X tg (gT X.K is one) := by
  cases h with
  | one h =>
    refine pg_mono (pg_name hN h.ix h.loc h.fn) fun v σ H Q ⟨F, st, p, st', r, hd, e, q⟩ => ?_
    cases e
    rcases hd with hd | ⟨z, _⟩
    · exact q _ (r.fr (.inr ⟨_, rfl, hd⟩)) fun j hj => List.getElem?_set_ne fun z => hj (by rw [z]; exact List.mem_cons_self ..)
    · cases z
  | tup h =>
    obtain ⟨h1, h2⟩ := sts_each (env := X.env) h
    refine ⟨fun pins s σ H v u Q I rv ⟨F, st, p, st', r, hd, e, q⟩ => ?_⟩
    unfold bindT at e
    rw [if_neg Bool.false_ne_true] at e
    split at e
    · rename_i xs
      split at e
      · rename_i hl
        rw [bind_setAll] at e
        cases e
        refine (pg_tup hc (pgs_ns hN h) h1 h2).run pins s σ H v u Q I rv ?_
        rcases hd with hd | ⟨_, a, vs, ps, e1, (⟨e2, e3⟩ | ⟨e2, e3⟩), t2⟩
        · cases hd with
          | tup t1 t2 => exact ⟨_, _, rfl, (t1.same r.le).sq, (dpl_len t2).trans hl, gNs_ok r t2 ((dpl_len t2).trans hl) q⟩
        · cases e2
          exact ⟨a, vs, e1, .inl (.inl e3), (dpl_len t2).trans hl, gNs_ok r t2 ((dpl_len t2).trans hl) q⟩
        · cases e2
      · cases e
    · rename_i xs
      split at e
      · rename_i hl
        rw [bind_setAll] at e
        cases e
        refine (pg_lst hc (pgs_ns hN h) h1 h2).run pins s σ H v u Q I rv ?_
        rcases hd with hd | ⟨_, a, vs, ps, e1, (⟨e2, e3⟩ | ⟨e2, e3⟩), t2⟩
        · cases hd with
          | lst t1 t2 => exact ⟨_, _, rfl, .inl (.inl (r.le _ _ t1)), (dpl_len t2).trans hl, gNs_ok r t2 ((dpl_len t2).trans hl) q⟩
        · cases e2
        · cases e2
          exact ⟨a, vs, e1, .inl (.inl e3), (dpl_len t2).trans hl, gNs_ok r t2 ((dpl_len t2).trans hl) q⟩
      · cases e
    · cases e
theorem ms_asgT {tg : Expr} {is : List Nat} (hc : X.calm = true) (hN : X.N.Nodup) (h : TgOk X tg is false) (hn : noComp e = true) (hw : swappedStores [tg] e X.env = pure none) (he : PE X e (tE X.K C ma)) : PS X (.Assign [tg] e pos) (tS X.K C (.asgT is ma)) := by
  have h1 : (assignEach [tg] X.env).map (·.2) = [assign tg X.env] := by cases h; rfl
  refine ps_mono (ps_asg he (pg_T hc hN h) (sw_no hn) hw h1) fun D σ H ⟨F, st, o, st', r, e, q⟩ => ?_
  simp only [exS, Option.bind_eq_some_iff, Option.map_eq_some_iff] at e
  obtain ⟨qa, ea, d, ed, p, ep, s, es, e⟩ := e
  cases e
  refine ⟨F, st, qa.1, qa.2, r, ea, fun v F1 H1 ra => ?_⟩
  cases d with
  | py p' =>
    cases ep
    have hd : DnW X.K F1 H1 false v p := by
      have z := ra.rel.rd ra.go.rel ed
      cases p with
      | tuple xs =>
        rcases z with z | ⟨_, _, z⟩
        · exact .inl z
        · exact z.elim
      | list xs =>
        rcases z with z | ⟨a, e, vs, k1, k2⟩
        · exact .inl z
        · exact .inr ⟨rfl, a, vs, xs, e, .inr ⟨rfl, k1⟩, k2⟩
      | _ => unfold bindT at es; cases es
    exact ⟨F1, qa.2, p, _, ra.go.rel, hd, es, fun σ' g _ => q _ _ _ (ra.go.trans g)⟩
  | _ => cases ep
end
end Mi
end
section
/-! Mi15: lists that are changed, several names at once, loops. -/
namespace Mi
open PySem PySem.Spec
open PyProof.Rows hiding St Fr
open L2

section
variable {X : Cx} {e a b c : Expr} {es : List Expr} {pos : Pos} {C : Ct} {ma mb mc : Ex} {ms ms2 : Exs} {k : Nat} {st : Stmt} {rest sts sts2 : List Stmt} {s : S} {ss ss2 : Ss} {m : T}
theorem ms_app {x : Str} {i : Nat} {p apos cpos : Pos} (h : NameOk X.N X.env.scope x i) (ha : PE X a (tE X.K C ma)) (hs : noStar a = true) (hline : (apos.endLine == cpos.line) = true) :
    PS X (.Expr (.Call (.Attribute (.Name x p) "append" apos) [a] [] cpos) pos) (tS X.K C (.app i ma)) := by
  have pe := pe_bmG (X := X) PySem.F.plainAttrs_list PySem.F.slot_list_append PySem.F.type_list_append mt_append (pe_var (pos := p) h.ix h.vis h.d1 h.d2) (pa_cons ha pa_nil (star_cons hs)) base_name (by simp [noStars, hs]) (by simp) hline
  refine ps_mono (ps_expr pe (sw_no rfl)) fun D σ H ⟨F, st, o, st', r, e, q⟩ => ?_
  simp only [exS, Option.bind_eq_some_iff] at e
  obtain ⟨m0, em0, qa, ea, d, ed, p0, ep, m, em, e⟩ := e
  obtain ⟨a0, h1, h2⟩ := lstAt_tyG (v := .non) r em0
  refine ⟨_, h1, h2, F, st, qa.1, qa.2, r, ea, fun v F1 H1 ra => ?_⟩
  split at e
  · rename_i hl
    cases e
    obtain ⟨F2, s1, g2, hd⟩ := keep_one ra.go (Same.refl _) ra.rel ra.fro ed
    obtain ⟨s, a1, vs, g1, g2', g3, g4, g5, g6⟩ := lstAt_ok g2.rel em
    rw [h1] at g4; cases g4
    cases d <;> cases ep
    have gp := g2.rel.put g1 g2' (g3 _) h1 (dpl_app g6 (.cons hd .nil))
    have hz : vs.length < sizeLine := by
      have hs : sizeLine = 16777216 := sizeLine_eq
      have := dpl_len g6
      unfold lim at hl
      omega
    exact ⟨a0, vs, v, rfl, rfl, g5, hz, q _ _ _ (g2.trans gp)⟩
  · cases e
theorem ms_ext {x : Str} {i : Nat} {p apos cpos : Pos} (h : NameOk X.N X.env.scope x i) (ha : PE X a (tE X.K C ma)) (hs : noStar a = true) (hline : (apos.endLine == cpos.line) = true) :
    PS X (.Expr (.Call (.Attribute (.Name x p) "extend" apos) [a] [] cpos) pos) (tS X.K C (.ext i ma)) := by
  have pe := pe_bmG (X := X) PySem.F.plainAttrs_list PySem.F.slot_list_extend PySem.F.type_list_extend mt_extend (pe_var (pos := p) h.ix h.vis h.d1 h.d2) (pa_cons ha pa_nil (star_cons hs)) base_name (by simp [noStars, hs]) (by simp) hline
  refine ps_mono (ps_expr pe (sw_no rfl)) fun D σ H ⟨F, st, o, st', r, e, q⟩ => ?_
  simp only [exS, Option.bind_eq_some_iff] at e
  obtain ⟨m0, em0, qa, ea, d, ed, m, em, e⟩ := e
  obtain ⟨a0, h1, h2⟩ := lstAt_tyG (v := .non) r em0
  refine ⟨_, h1, h2, F, st, qa.1, qa.2, r, ea, fun v F1 H1 ra => ?_⟩
  split at e
  · rename_i ys
    split at e
    · rename_i hl
      cases e
      obtain ⟨b0, us, rfl, hb1, hb2⟩ := (ra.rel.rd ra.go.rel ed).list ra.go.rel.le
      obtain ⟨s, a1, vs, g1, g2', g3, g4, g5, g6⟩ := lstAt_ok ra.go.rel em
      rw [h1] at g4; cases g4
      have gp := ra.go.rel.put g1 g2' (g3 _) h1 (dpl_app g6 hb2)
      have hz : vs.length + us.length ≤ sizeLine := by
        have hs : sizeLine = 16777216 := sizeLine_eq
        have := dpl_len g6
        have := dpl_len hb2
        unfold lim at hl
        omega
      exact ⟨a0, b0, vs, us, rfl, rfl, g5, hb1, hz, q _ _ _ (ra.go.trans gp)⟩
    · cases e
  · cases e
theorem swS_no {e t : Expr} {l : Nat} {env : Env} (h : noComp e = true) : swapsWithSole [t] e l env = pure false := by
  unfold swapsWithSole
  exact sw_no h
theorem asg_sub {o i : Expr} {p : Pos} {env : Env} (hs : noSlice i = true) : ∀ v, assign (.Subscript o i p) env v = (do
      let ov ← holding [v] (eval o env)
      let iv ← holding [v, ov] (eval i env)
      standAt p
      holding [v, ov, iv] (setItem ov iv v)
      release [v, ov, iv] []) := by
  intro v
  cases i <;> first | rfl | cases hs
/-- o[i] = v: a list or a dict that is owned -/
def rSetO (K : PySem.W.Frag) : TSet := fun o i v H Q => ∃ F a d dk p d', o = .ref a ∧ Same F H ∧ OwnAt K F H a d ∧ RdR K F H i dk ∧ Dn K F v p ∧ putO d dk p = some d' ∧ ∀ o', OwnAt K F (upd H a o') a d' → Q (upd H a o')
theorem set_ok (hr : Room k X.A) : PSet X (rSetO X.K) := by
  intro pins s σ H o i v ov iv u Q I ro ri rv h
  obtain ⟨F, a, d, dk, p, d', rfl, le, ho, hk, hp, e, q⟩ := h
  unfold putO at e
  split at e
  · rename_i xs kn
    rw [Option.map_eq_some_iff] at e
    obtain ⟨j, ej, rfl⟩ := e
    obtain ⟨vs, h1, h2⟩ := ho
    obtain rfl := hk.int
    exact set_list pins s σ H _ _ v ov iv u Q I ro ri rv ⟨a, vs, kn, j, rfl, rfl, h1, by rw [dpl_len h2]; exact ej, q _ ⟨_, upd_same, dpl_set hp j h2⟩⟩
  · rename_i kvs x
    rw [Option.bind_eq_some_iff] at e
    obtain ⟨kk, ek, e⟩ := e
    split at e
    · rename_i hl
      cases e
      obtain ⟨vs, h1, h2⟩ := ho
      obtain rfl := dn_key (hk.dn le) ek
      cases ro
      have hu : X.A.units + 1 < cLine := by
        have := hr.units
        omega
      have hz : vs.length < sizeLine := by
        have hs : sizeLine = 16777216 := sizeLine_eq
        have := dkv_len h2
        unfold lim at hl
        omega
      exact d_setItem hu I (DPut.k (v := v) h1 hz) ri rv fun s' I' => ⟨_, I', q _ ⟨_, upd_same, dkv_put kk hp h2⟩⟩
    · cases e
  · cases e
theorem ms_setI {x : Str} {i : Nat} {p sp : Pos} (hr : Room k X.A) (h : NameOk X.N X.env.scope x i) (hs : noSlice b = true) (hn : noComp a = true) (ha : PE X a (tE X.K C ma)) (hb : PE X b (tE X.K C mb)) :
    PS X (.Assign [.Subscript (.Name x p) b sp] a pos) (tS X.K C (.setI i mb ma)) := by
  refine ps_mono (ps_asg ha (pg_sub (pe_var h.ix h.vis h.d1 h.d2) hb (set_ok hr) (asg_sub hs)) (swS_no hn) rfl rfl) fun D σ H ⟨F, st, o, st', r, e, q⟩ => ?_
  simp only [exS, Option.bind_eq_some_iff, Option.map_eq_some_iff] at e
  obtain ⟨qa, ea, d, ed, p0, ep, m0, em0, qk, ek, kd, ekd, m, em, d', ed', e⟩ := e
  cases e
  refine ⟨F, st, qa.1, qa.2, r, ea, fun v F1 H1 ra => ?_⟩
  obtain ⟨F2, s1, g2, hd⟩ := keep_one ra.go (Same.refl _) ra.rel ra.fro ed
  obtain ⟨s0, a0, k1, k2, k3, k4, k5⟩ := objAt_ok g2.rel em0
  refine ⟨_, k4, F2, qa.2, qk.1, qk.2, g2.rel, ek, fun w F3 H3 rk => ?_⟩
  obtain ⟨s, a1, g1, g2', g3, g4, g5⟩ := objAt_ok rk.go.rel em
  rw [k4] at g4; cases g4
  cases d <;> cases ep
  exact ⟨F3, a0, _, kd, _, d', rfl, rk.go.rel.le, g5, rk.rel.rd rk.go.rel ekd, dp_same rk.go.stp.fr _ _ hd, ed', fun o' ho => q _ _ _ ((g2.trans rk.go).trans (rk.go.rel.putO g1 g2' (g3 _) k4 ho))⟩
/-- x.setdefault(k, e), a statement -/
theorem ms_sdf {x : Str} {i : Nat} {p apos cpos : Pos} (h : NameOk X.N X.env.scope x i) (ha : PE X a (tE X.K C ma)) (hb : PE X b (tE X.K C mb)) (hs : noStar a = true) (hs2 : noStar b = true) (hline : (apos.endLine == cpos.line) = true) :
    PS X (.Expr (.Call (.Attribute (.Name x p) "setdefault" apos) [a, b] [] cpos) pos) (tS X.K C (.sdf i ma mb)) := by
  have m2 : M2 X (.Name x p) "setdefault" apos a b cpos := ⟨base_name, by rw [star_cons hs, star_cons hs2]; simp [starEach, keywordEach, backTo, backToKw], hline, by rw [star_cons hs, star_cons hs2]; rfl⟩
  have pe := pe_dsetd (X := X) (pe_var (pos := p) h.ix h.vis h.d1 h.d2) ha hb m2
  refine ps_mono (ps_expr pe (sw_no rfl)) fun D σ H ⟨F, st, o, st', r, e, q⟩ => ?_
  simp only [exS, Option.bind_eq_some_iff] at e
  obtain ⟨m0, em0, e⟩ := e
  split at e
  · rename_i hm
    simp only [Option.bind_eq_some_iff, Option.map_eq_some_iff] at e
    obtain ⟨qk, ek, kd, ekd, qe, ee, d, ed, p0, ep, m, em, d', ed', e⟩ := e
    cases e
    obtain ⟨s0, a0, k1, k2, k3, k4, k5⟩ := objAt_ok r em0
    have isd : IsD H a0 := by
      obtain ⟨d0, mk⟩ := m0
      cases d0 with
      | dct kvs =>
        obtain ⟨vs, h1, _⟩ := k5
        exact .inl ⟨vs, .inl h1⟩
      | _ => cases hm
    refine ⟨_, k4, a0, rfl, isd, F, st, qk.1, qk.2, r, ek, fun y F1 H1 rk => ⟨F1, qk.2, qe.1, qe.2, rk.go.rel, ee, fun v F2 H2 re => ?_⟩⟩
    obtain ⟨F3, s1, g2, hd⟩ := keep_one re.go (Same.refl _) re.rel re.fro ed
    obtain ⟨s, a1, g1, g2', g3, g4, g5⟩ := objAt_ok g2.rel em
    rw [k4] at g4; cases g4
    cases d <;> cases ep
    have hkey := (rk.rel.rd rk.go.rel ekd)
    obtain ⟨dm, mk⟩ := m
    change OwnAt X.K F3 H2 a0 dm at g5
    change sdfO dm kd _ = some d' at ed'
    unfold sdfO at ed'
    split at ed'
    · rename_i kvs x
      rw [Option.bind_eq_some_iff] at ed'
      obtain ⟨kk, ekk, ed'⟩ := ed'
      split at ed'
      · rename_i hl
        cases ed'
        obtain ⟨vs, h1, h2⟩ := g5
        obtain rfl := dn_key (hkey.dn rk.go.rel.le) ekk
        have hz : vs.length < sizeLine := by
          have hs : sizeLine = 16777216 := sizeLine_eq
          have := dkv_len h2
          unfold lim at hl
          omega
        have gg := rk.go.trans g2
        refine ⟨vs, kk, h1, rfl, hz, fun v' hv' => ?_, fun hn => ?_⟩
        · have is := dkv_some kk h2
          rw [hv'] at is
          have is' : (getK kvs kk).isSome = true := is.symm
          have same : upd H2 a0 (.dK vs) = H2 := by
            funext b
            by_cases e : b = a0
            · subst e; rw [upd_same]; exact h1.symm
            · rw [upd_ne e]
          have gp := g2.rel.putO (o' := .dK vs) (d' := .dct kvs) g1 g2' (g3 _) k4 ⟨vs, upd_same, h2⟩
          rw [same] at gp
          rw [if_pos is'] at q
          exact q _ _ _ (gg.trans gp)
        · have is := dkv_some kk h2
          rw [hn] at is
          have is' : ¬ (getK kvs kk).isSome = true := by rw [← is]; exact Bool.false_ne_true
          have gp := g2.rel.putO (o' := .dK (putK vs kk v)) (d' := .dct (putKd kvs kk _)) g1 g2' (g3 _) k4 ⟨_, upd_same, dkv_put kk hd h2⟩
          rw [if_neg is'] at q
          exact q _ _ _ (gg.trans gp)
      · cases ed'
    · cases ed'
  · cases e
/-- x[k], y = a pair -/
theorem ms_divI {x y : Str} {i j : Nat} {kn : Int} {kk tk : Nat} {p sp tp kp yp : Pos} (hc : X.calm = true) (hN : X.N.Nodup) (h : NameOk X.N X.env.scope x i) (hy : StOk X y j) (hn : noComp a = true) (hw : swappedStores [.Tuple [.Subscript (.Name x p) (.Constant (.int kn) kk kp) sp, .Name y yp] tk tp] a X.env = pure none) (ha : PE X a (tE X.K C ma)) :
    PS X (.Assign [.Tuple [.Subscript (.Name x p) (.Constant (.int kn) kk kp) sp, .Name y yp] tk tp] a pos) (tS X.K C (.divI i kn j ma)) := by
  have pgs := pgs_cons (X := X) (pg_sub (pos := sp) (pe_var (pos := p) h.ix h.vis h.d1 h.d2) (pe_int (i := kn) (j := kk) (pos := kp)) set_list (asg_sub rfl)) (pgs_cons (pg_name (pos := yp) hN hy.ix hy.loc hy.fn) pgs_nil)
  refine ps_mono (ps_asg ha (pg_tup hc pgs) (swS_no hn) hw rfl) fun D σ H ⟨F, st, o, st', r, e, q⟩ => ?_
  simp only [exS, Option.bind_eq_some_iff] at e
  obtain ⟨qa, ea, d, ed, m, em, e⟩ := e
  refine ⟨F, st, qa.1, qa.2, r, ea, fun v F1 H1 ra => ?_⟩
  split at e
  · rename_i da db
    simp only [Option.map_eq_some_iff] at e
    obtain ⟨n, en, e⟩ := e
    cases e
    have z := ra.rel.rd ra.go.rel ed
    rcases z with z | ⟨_, _, z⟩
    · cases z with
      | tup h1 h2 =>
        cases h2 with
        | cons z1 h2 =>
          cases h2 with
          | cons z2 h2 =>
            cases h2
            obtain ⟨s, a1, vs, g1, g2', g3, g4, g5, g6⟩ := lstAt_ok ra.go.rel em
            have gp := ra.go.rel.put g1 g2' (g3 _) g4 (dpl_set z1 n g6)
            have gs := gp.rel.fr (v := _) (i := j) (s := .fr (.py db)) (.inr ⟨_, rfl, z2⟩)
            exact ⟨_, _, rfl, (h1.same ra.go.rel.le).sq, rfl, _, _, rfl, ⟨_, g4, a1, vs, kn, n, rfl, rfl, g5, by rw [dpl_len g6]; exact en, _, _, rfl, rfl, q _ _ _ ((ra.go.trans gp).trans gs)⟩⟩
    · exact z.elim
  · cases e
end

/-! ### several names at once -/
def isFe : Od → Bool
  | .fe _ => true
  | _ => false
/-- what was just made is made apart -/
def FeNd : List V → List Od → Prop
  | v :: vs, o :: os => (isFe o = true → ∀ q ∈ vs.zip os, isFe q.2 = true → q.1 ≠ v) ∧ FeNd vs os
  | _, _ => True
def tN (K : PySem.W.Frag) (C : Ct) (m : Exs) : TA := fun σ H Q => ∃ F st os st', Rel K F st σ H ∧ evs C m st = some (os, st') ∧ ∀ vs F' H', Go K st σ F H st' σ F' H' → ORs K st H F' H' st' σ vs os → FeNd vs os → Q vs H'
section
variable {K : PySem.W.Frag} {F H F0 H0 F1 H1 F2 H2 F' H' : Hp} {st st0 st1 st2 st' : En} {σ σ0 σ1 σ2 σ' : L2.St} {v : V} {od : Od} {d : D} {a : Addr} {i : Nat}
theorem ors_fro : ∀ {vs : List V} {os : List Od}, ORs K st0 H0 F H st σ vs os → ∀ q ∈ vs.zip os, ORel K F H st σ q.1 q.2 ∧ Fro st0 σ H0 q.1 q.2
  | _, _, .nil, q, h => by cases h
  | _, _, .cons h f t, q, hq => by
    rw [List.zip_cons_cons] at hq
    rcases List.mem_cons.mp hq with rfl | hq
    · exact ⟨h, f⟩
    · exact ors_fro t q hq
theorem storeOne {s : Sl} (g : Go K st0 σ0 F0 H0 st σ F H) (h : ORel K F H st σ v od) (f : Fro st0 σ0 H0 v od) (e : od.slot = some s) :
    Go K st0 σ0 F0 H0 (st.set i s) (σ.set i (some v)) F H ∧ ∀ b, Owns (st.set i s) (σ.set i (some v)) b → Owns st σ b ∨ (isFe od = true ∧ v = .ref b) := by
  have r := g.rel
  have own : ∀ b, Owns (st.set i s) (σ.set i (some v)) b → Owns st σ b ∨ (s.owned = true ∧ v = .ref b) := fun b ⟨j, u, h1, h2, h3⟩ => by
    rcases get_set h1 with ⟨e1, e2, hl⟩ | ⟨ne, h1⟩
    · subst e2
      rw [e1, List.getElem?_set_self (by rw [r.len]; exact hl)] at h3
      cases h3
      exact .inr ⟨h2, rfl⟩
    · rw [List.getElem?_set_ne (Ne.symm ne)] at h3
      exact .inl ⟨j, u, h1, h2, h3⟩
  cases od with
  | va d =>
    cases e
    refine ⟨g.trans (r.fr (.inr ⟨d, rfl, h⟩)), fun b hb => (own b hb).elim .inl fun z => ?_⟩
    cases z.1
  | fe d =>
    cases e
    obtain ⟨a, rfl, h1, h2, h3⟩ := h
    obtain ⟨a', e', h4⟩ := f
    cases e'
    exact ⟨Rel.ow g h1 h2 h3 h4, fun b hb => (own b hb).elim .inl fun z => .inr ⟨rfl, z.2⟩⟩
  | pk i => cases e
def setV (σ : L2.St) : List Nat → List V → L2.St
  | i :: is, v :: vs => setV (σ.set i (some v)) is vs
  | _, _ => σ
theorem storeAll : ∀ {is : List Nat} {vs : List V} {os : List Od} {ss : List Sl} {st : En} {σ : L2.St}, Go K st0 σ0 F0 H0 st σ F H → vs.length = os.length → (∀ q ∈ vs.zip os, ORel K F H st σ q.1 q.2 ∧ Fro st0 σ0 H0 q.1 q.2) → FeNd vs os → slots os = some ss → is.length = vs.length →
    Go K st0 σ0 F0 H0 (setSl st is ss) (setV σ is vs) F H
  | [], [], [], _, st, σ, g, _, _, _, e, _ => by cases e; exact g
  | i :: is, v :: vs, o :: os, ss, st, σ, g, hl, h, nd, e, hi => by
    simp only [slots, Option.bind_eq_some_iff, Option.map_eq_some_iff] at e
    obtain ⟨s, es, ss', es', rfl⟩ := e
    obtain ⟨h1, h2⟩ := h (v, o) (by rw [List.zip_cons_cons]; exact List.mem_cons_self ..)
    obtain ⟨g1, own⟩ := storeOne (i := i) g h1 h2 es
    refine storeAll (is := is) g1 (Nat.succ.inj hl) (fun q hq => ?_) nd.2 es' (Nat.succ.inj hi)
    obtain ⟨k1, k2⟩ := h q (by rw [List.zip_cons_cons]; exact List.mem_cons_of_mem _ hq)
    refine ⟨?_, k2⟩
    obtain ⟨w, o2⟩ := q
    cases o2 with
    | va d => exact k1
    | fe d =>
      obtain ⟨a, e, n1, n2, n3⟩ := k1
      refine ⟨a, e, n1, n2, fun z => (own a z).elim n3 fun z => ?_⟩
      exact nd.1 z.1 _ hq rfl (e.trans z.2.symm)
    | pk j =>
      exfalso
      have key : ∀ {vs : List V} {os : List Od} {ss : List Sl} {w : V}, slots os = some ss → (w, Od.pk j) ∈ vs.zip os → False := fun {vs} => by
        induction vs with
        | nil => intro os ss w _ h; simp at h
        | cons v vs ih =>
          intro os ss w e h
          cases os with
          | nil => simp at h
          | cons o os =>
            simp only [slots, Option.bind_eq_some_iff, Option.map_eq_some_iff] at e
            obtain ⟨s, es, ss', es', rfl⟩ := e
            rw [List.zip_cons_cons] at h
            rcases List.mem_cons.mp h with h | h
            · cases h; cases es
            · exact ih es' h
      exact key es' hq
end
section
variable {X : Cx} {e a b c : Expr} {es : List Expr} {pos : Pos} {C : Ct} {ma mb mc : Ex} {ms ms2 : Exs} {k : Nat}
theorem mn_nil : PA X [] (tN X.K C .nil) := pa_mono pa_nil fun σ H Q ⟨F, st, os, st', r, e, q⟩ => by
  cases e
  exact q _ _ _ (Go.refl r) .nil trivial
theorem mn_cons (hs : noStar e = true) (ha : PE X e (tE X.K C ma)) (hr : PA X es (tN X.K C ms)) : PA X (e :: es) (tN X.K C (.cons ma ms)) := pa_mono (pa_cons ha hr (star_cons hs)) fun σ H Q ⟨F, st, os, st', r, e, q⟩ => by
  simp only [evs, Option.bind_eq_some_iff, Option.map_eq_some_iff] at e
  obtain ⟨qa, ea, qr, er, e⟩ := e
  cases e
  refine ⟨F, st, qa.1, qa.2, r, ea, fun v F1 H1 ra => ⟨F1, qa.2, qr.1, qr.2, ra.go.rel, er, fun vs F2 H2 g2 rr nd => q _ _ _ (ra.go.trans g2) (.cons (ra.rel.step g2) ra.fro (rr.back ra.go)) ⟨fun hf p hp hp2 ep => ?_, nd⟩⟩⟩
  obtain ⟨w, o2⟩ := p
  obtain ⟨_, k2⟩ := ors_fro rr _ hp
  have ep : w = v := ep
  subst ep
  have r1 := ra.rel
  cases hq : qa.1 with
  | fe d =>
    rw [hq] at r1
    obtain ⟨a, e1, n1, n2, n3⟩ := r1
    cases o2 with
    | fe d2 =>
      obtain ⟨a', e2, k⟩ := k2
      rw [show w = V.ref a from e1] at e2
      cases e2
      rcases k with k | k
      · exact n3 k
      · exact n2.live k
    | _ => cases hp2
  | _ => rw [hq] at hf; cases hf
theorem ma_of_mn (h : PA X es (tN X.K C ms)) : PA X es (tA X.K C ms) := pa_mono h fun σ H Q ⟨F, st, os, st', r, e, q⟩ => ⟨F, st, os, st', r, e, fun vs F' H' g rr _ => q vs F' H' g rr⟩
theorem mset {D : Ends} {σ : L2.St} {H : Hp} {is : List Nat} (h : tS X.K C (.par is ms) D σ H) : tN X.K C ms σ H fun vs H1 => vs.length = is.length ∧ D.nx (setV σ is vs) H1 := by
  obtain ⟨F, st, o, st', r, e, q⟩ := h
  simp only [exS, Option.bind_eq_some_iff] at e
  obtain ⟨qa, ea, ss, es, e⟩ := e
  refine ⟨F, st, qa.1, qa.2, r, ea, fun vs F1 H1 g rr nd => ?_⟩
  split at e
  · rename_i hl
    cases e
    have sl : ∀ {os : List Od} {ss : List Sl}, slots os = some ss → ss.length = os.length := fun {os} => by
      induction os with
      | nil => intro ss e; cases e; rfl
      | cons o os ih =>
        intro ss e
        simp only [slots, Option.bind_eq_some_iff, Option.map_eq_some_iff] at e
        obtain ⟨s, _, ss', es', rfl⟩ := e
        exact congrArg Nat.succ (ih es')
    have l1 : vs.length = is.length := by rw [rr.len, ← sl es, hl]
    exact ⟨l1, q _ _ _ (storeAll g rr.len (ors_fro rr) nd es l1.symm)⟩
  · cases e
theorem ms_par2 {i j : Nat} {x y : Str} {px py pt pt2 : Pos} {kt k2 : Nat} (hc : X.calm = true) (hN : X.N.Nodup) (hi : X.N[i]? = some x) (hj : X.N[j]? = some y) (hij : i ≠ j) (hx : X.env.scope.names.lookup x = some .local) (hy : X.env.scope.names.lookup y = some .local)
    (ha : PA X [a, b] (tN X.K C ms)) (hw : swappedStores [.Tuple [.Name x px, .Name y py] kt pt] (.Tuple [a, b] k2 pt2) X.env = pure (some [x, y])) :
    PS X (.Assign [.Tuple [.Name x px, .Name y py] kt pt] (.Tuple [a, b] k2 pt2) pos) (tS X.K C (.par [i, j] ms)) := by
  refine ps_mono (ps_par hc hN hi hj hij hx hy ha hw) fun D σ H h => ?_
  obtain ⟨F, st, os, st', r, e, q⟩ := mset h
  refine ⟨F, st, os, st', r, e, fun vs F1 H1 g rr nd => ?_⟩
  obtain ⟨l, q⟩ := q vs F1 H1 g rr nd
  match vs, l, q with
  | [v, w], _, q => exact ⟨v, w, rfl, q⟩
theorem ms_par3 {i j l : Nat} {x y z : Str} {px py pz pt pt2 : Pos} {kt k2 : Nat} (hc : X.calm = true) (hN : X.N.Nodup) (hi : X.N[i]? = some x) (hj : X.N[j]? = some y) (hl : X.N[l]? = some z) (hij : i ≠ j) (hil : i ≠ l) (hjl : j ≠ l)
    (hx : X.env.scope.names.lookup x = some .local) (hy : X.env.scope.names.lookup y = some .local) (hz : X.env.scope.names.lookup z = some .local)
    (ha : PA X [a, b, c] (tN X.K C ms)) (hw : swappedStores [.Tuple [.Name x px, .Name y py, .Name z pz] kt pt] (.Tuple [a, b, c] k2 pt2) X.env = pure (some [x, y, z])) :
    PS X (.Assign [.Tuple [.Name x px, .Name y py, .Name z pz] kt pt] (.Tuple [a, b, c] k2 pt2) pos) (tS X.K C (.par [i, j, l] ms)) := by
  refine ps_mono (ps_par3 hc hN hi hj hl hij hil hjl hx hy hz ha hw) fun D σ H h => ?_
  obtain ⟨F, st, os, st', r, e, q⟩ := mset h
  refine ⟨F, st, os, st', r, e, fun vs F1 H1 g rr nd => ?_⟩
  obtain ⟨l, q⟩ := q vs F1 H1 g rr nd
  match vs, l, q with
  | [v, w, u], _, q => exact ⟨v, w, u, rfl, q⟩
end
/-! ### several names at once, by way of a pair -/
theorem gNs_set {Q : L2.St → Hp → Prop} : ∀ {is : List Nat} {vs : List V} {σ : L2.St} {H : Hp}, vs.length = is.length → Q (setV σ is vs) H → gNs is vs σ H Q
  | [], [], _, _, _, q => ⟨rfl, q⟩
  | i :: is, v :: vs, σ, H, hl, q => ⟨v, vs, rfl, gNs_set (is := is) (vs := vs) (σ := σ.set i (some v)) (Nat.succ.inj hl) q⟩
theorem New.tmp {K : PySem.W.Frag} {F H : Hp} {T : Addr} {u : HO} (le : Same F H) (h1 : H T = none) : New F H F (upd H T u) := by
  refine ⟨Same.refl F, fun a o h => ?_, fun a o h => ?_, fun a h => .inl h⟩
  · rw [upd_ne (ne_of_none h h1)]; exact h
  · rw [upd_ne (ne_of_none (le a o h) h1)]; exact le a o h
theorem ms_parT {X : Cx} {C : Ct} {ts es : List Expr} {is : List Nat} {ms : Exs} {kt k2 : Nat} {pt pt2 pos : Pos} (hc : X.calm = true) (hN : X.N.Nodup) (ht : StsOk X ts is) (ha : PA X es (tN X.K C ms)) (few : is.length < 100) (hw : swappedStores [.Tuple ts kt pt] (.Tuple es k2 pt2) X.env = pure none) :
    PS X (.Assign [.Tuple ts kt pt] (.Tuple es k2 pt2) pos) (tS X.K C (.par is ms)) := by
  obtain ⟨h1, h2⟩ := sts_each (env := X.env) ht
  refine ps_mono (ps_asg (pe_tup ha) (pg_tup hc (pgs_ns hN ht) h1 h2) (swS_no rfl) hw rfl) fun D σ H ⟨F, st, o, st', r, e, q⟩ => ?_
  simp only [exS, Option.bind_eq_some_iff] at e
  obtain ⟨qa, ea, ss, es', e⟩ := e
  refine ⟨F, st, qa.1, qa.2, r, ea, fun vs F1 H1 g rr nd => ?_⟩
  split at e
  · rename_i hl
    cases e
    have sl : ∀ {os : List Od} {ss : List Sl}, slots os = some ss → ss.length = os.length := fun {os} => by
      induction os with
      | nil => intro ss e; cases e; rfl
      | cons o os ih =>
        intro ss e
        simp only [slots, Option.bind_eq_some_iff, Option.map_eq_some_iff] at e
        obtain ⟨s, _, ss', es2, rfl⟩ := e
        exact congrArg Nat.succ (ih es2)
    have l1 : vs.length = is.length := by rw [rr.len, ← sl es', hl]
    have z : vs.length ≤ sizeLine := by
      have hs : sizeLine = 16777216 := sizeLine_eq
      omega
    refine ⟨z, fun T hT => ⟨T, vs, rfl, .inl (.inl upd_same), l1, gNs_set l1 ?_⟩⟩
    have nw := New.tmp (K := X.K) (u := .tup vs) g.rel.le hT
    have gn := nw.go g.rel
    have rr2 := rr.step gn
    exact q _ _ _ (storeAll (g.trans gn) rr.len (ors_fro rr2) nd es' l1.symm)
  · cases e
end Mi
end
section
/-! Mi16: loops. -/
namespace Mi
open PySem PySem.Spec
open PyProof.Rows hiding St Fr
open L2

/-- what a loop walks, as data -/
def WalkD (K : PySem.W.Frag) (F : Hp) (J : It) (one : Bool) (xs : List PyData) : Prop := ∃ (G : Hp → Prop) (Y : Nat → Hp → V → Hp → Prop), Walk J xs.length G Y ∧ (∀ F' H, Same F F' → Same F' H → G H) ∧
  ∀ i F' x H H', i < xs.length → Same F F' → Same F' H → Y i H x H' → ∃ p, xs[i]? = some p ∧ New F' H F' H' ∧ DnW K F' H' one x p
def tI (K : PySem.W.Frag) (C : Ct) (one : Bool) (m : I) : TI := fun σ H R => ∃ F st xs st', Rel K F st σ H ∧ evI C m st = some (xs, st') ∧ ∀ J F' H', Go K st σ F H st' σ F' H' → WalkD K F' J one xs → R J H'
section
variable {X : Cx} {e a b c : Expr} {es : List Expr} {pos : Pos} {C : Ct} {ma mb mc : Ex} {ms ms2 : Exs} {k : Nat} {st : Stmt} {rest sts sts2 : List Stmt} {s : S} {ss ss2 : Ss} {m : T} {it : I}
theorem ms_while (hp : PassesOwn (model X.prog X.w) X.A X.env X.xe) (hc : PT X c (tT X.K C m)) (hb : PSs X sts (tSs X.K C ss)) : PS X (.While c sts [] pos) (tS X.K C (.whl m ss)) := ps_mono (ps_while hp hc hb) fun D σ H ⟨F, st, o, st', r, e, q⟩ => by
  refine ⟨fun n σ1 H1 => ∃ F1 st1, Go X.K st σ F H st1 σ1 F1 H1 ∧ whL (evT C m) (exs C ss) n st1 = some (o, st'), ⟨C.fuel, F, st, Go.refl r, e⟩, fun n σ1 H1 ⟨F1, st1, g1, e1⟩ => ?_⟩
  cases n with
  | zero => cases e1
  | succ n =>
    simp only [whL, Option.bind_eq_some_iff] at e1
    obtain ⟨qc, ec, e1⟩ := e1
    refine ⟨F1, st1, qc.1, qc.2, g1.rel, ec, fun F2 H2 g2 => ?_⟩
    cases h : qc.1 with
    | false =>
      rw [h, if_neg Bool.false_ne_true] at e1
      cases e1
      exact iteF (q _ _ _ (g1.trans g2))
    | true =>
      rw [h, if_pos rfl, Option.bind_eq_some_iff] at e1
      obtain ⟨⟨o1, st2⟩, e2, e1⟩ := e1
      refine iteT ⟨_, fun σ' H' hN => ⟨n, Nat.lt_succ_self n, hN⟩, F2, qc.2, o1, st2, g2.rel, e2, fun σ3 F3 H3 g3 => ?_⟩
      have g := (g1.trans g2).trans g3
      cases o1 with
      | nx => exact ⟨F3, st2, g, e1⟩
      | cont => exact ⟨F3, st2, g, e1⟩
      | brk => cases e1; exact q _ _ _ g
      | rt d b => cases e1; exact EndR.back (g1.trans g2) (q _ _ _ g)
theorem pi_mono {X : Cx} {tg iter : Expr} {wi wi' : TI} (h : PI X tg iter wi) (w : ∀ σ H R, wi' σ H R → wi σ H R) : PI X tg iter wi' := ⟨fun pins s σ H R I q => h.run pins s σ H R I (w σ H R q)⟩
theorem foldS {e : Expr} {env : Env} (h : noSet e = true) : ∀ x, foldedSetIterable e env x = pure x := by
  intro x
  cases e <;> first | rfl | cases h
theorem ms_for {tg iter : Expr} {is : List Nat} {one : Bool} (hp : PassesOwn (model X.prog X.w) X.A X.env X.xe) (hc : X.calm = true) (hN : X.N.Nodup) (ht : TgOk X tg is one) (hi : PI X tg iter (tI X.K C one it)) (hs : noSet iter = true) (hb : PSs X sts (tSs X.K C ss)) :
    PS X (.For tg iter sts [] pos) (tS X.K C (.fr is one it ss)) := ps_mono (ps_for hp hc hi (pg_T hc hN ht) hb (foldS hs)) fun D σ H ⟨F, st, o, st', r, e, q⟩ => by
  simp only [exS, Option.bind_eq_some_iff] at e
  obtain ⟨qi, ei, e⟩ := e
  refine ⟨F, st, qi.1, qi.2, r, ei, fun J F1 H1 g1 ⟨G, Y, w, hG, hY⟩ => ?_⟩
  refine for_it w (fun i σ' H' => ∃ Fi sti, Go X.K qi.2 σ F1 H1 sti σ' Fi H' ∧ frL (fun x s => (bindT is one x s).bind (exs C ss)) (qi.1.drop i) sti = some (o, st')) ⟨F1, qi.2, Go.refl g1.rel, e⟩ (fun i σ' H' _ ⟨Fi, sti, g, _⟩ => hG Fi H' g.stp.fr g.rel.le) (fun i x σ' H' H2 hlt ⟨Fi, sti, g, ef⟩ hy => ?_) (fun σ' H' ⟨Fi, sti, g, ef⟩ => ?_)
  · obtain ⟨p, hp, nw, hd⟩ := hY i Fi x H' H2 hlt g.stp.fr g.rel.le hy
    have ed : qi.1.drop i = p :: qi.1.drop (i + 1) := by
      rw [List.drop_eq_getElem_cons hlt]
      rw [List.getElem?_eq_getElem hlt] at hp
      cases hp
      rfl
    rw [ed] at ef
    simp only [frL, Option.bind_eq_some_iff] at ef
    obtain ⟨⟨o1, s3⟩, ⟨s2, eb, ex⟩, ef⟩ := ef
    have gn := nw.go g.rel
    refine ⟨Fi, sti, p, s2, gn.rel, hd, eb, fun σ3 g3 _ => ⟨Fi, s2, o1, s3, g3.rel, ex, fun σ4 F4 H4 g4 => ?_⟩⟩
    have gg := ((g.trans gn).trans g3).trans g4
    cases o1 with
    | nx => exact ⟨F4, s3, gg, ef⟩
    | cont => exact ⟨F4, s3, gg, ef⟩
    | brk => cases ef; exact q _ _ _ (g1.trans gg)
    | rt d b => cases ef; exact EndR.back (((g1.trans g).trans gn).trans g3) (q _ _ _ (g1.trans gg))
  · rw [List.drop_length] at ef
    cases ef
    exact q _ _ _ (g1.trans g)
/-! ### what is walked -/
theorem walkD_list {K : PySem.W.Frag} {F : Hp} {p : Addr} {vs : List V} {xs : List PyData} {one : Bool} (h : F p = some (.lst vs)) (hd : DnAll K F vs xs) : WalkD K F (Itl K p) one xs := by
  refine ⟨fun H => SqL K H p vs, _, by rw [← dpl_len hd]; exact walk_list (K := K) (a := p) (xs := vs), fun F' H s1 s2 => .inl (.inl (s2 _ _ (s1 _ _ h))), fun i F' x H H' hi s1 s2 hy => ?_⟩
  obtain ⟨rfl, hy⟩ := hy
  obtain ⟨q, h1, h2⟩ := dpl_get' hd hy
  exact ⟨q, h1, New.refl s2, .inl (dp_same s1 _ _ h2)⟩
theorem walkD_tup {K : PySem.W.Frag} {F : Hp} {p : Addr} {vs : List V} {xs : List PyData} {one : Bool} (h : Tp K F p vs) (hd : DnAll K F vs xs) : WalkD K F (Itt K p) one xs := by
  refine ⟨fun H => SqT K H p vs, _, by rw [← dpl_len hd]; exact walk_tup (K := K) (a := p) (xs := vs), fun F' H s1 s2 => ((h.same s1).same s2).sq, fun i F' x H H' hi s1 s2 hy => ?_⟩
  obtain ⟨rfl, hy⟩ := hy
  obtain ⟨q, h1, h2⟩ := dpl_get' hd hy
  exact ⟨q, h1, New.refl s2, .inl (dp_same s1 _ _ h2)⟩
theorem rngL_len (lo : Int) (n : Nat) : (rngL lo n).length = n := by unfold rngL; rw [List.length_map, List.length_range]
theorem walkD_rng {K : PySem.W.Frag} {F : Hp} {lo : Int} {n : Nat} {one : Bool} : WalkD K F (Itr lo n) one (rngL lo n) := by
  refine ⟨_, _, by rw [rngL_len]; exact walk_range (lo := lo) (n := n), fun _ _ _ _ => trivial, fun i F' x H H' hi s1 s2 hy => ?_⟩
  obtain ⟨rfl, rfl⟩ := hy
  rw [rngL_len] at hi
  refine ⟨.int (lo + i), ?_, New.refl s2, .inl (Dn.int _)⟩
  unfold rngL
  rw [List.getElem?_map, List.getElem?_range hi] <;> rfl
theorem mi_v {tg : Expr} {one : Bool} (ha : PE X a (tE X.K C ma)) : PI X tg a (tI X.K C one (.v ma)) := ⟨fun pins s σ H R I ⟨F, st, xs, st', r, e, q⟩ => by
  simp only [evI, Option.bind_eq_some_iff] at e
  obtain ⟨qa, ea, d, ed, e⟩ := e
  split at e
  · rename_i ys
    cases e
    refine (pi_list ha).run pins s σ H R I ⟨F, st, qa.1, qa.2, r, ea, fun v F1 H1 ra => ?_⟩
    obtain ⟨F2, s1, g2, hd⟩ := keep_one ra.go (Same.refl _) ra.rel ra.fro ed
    cases hd with
    | lst h1 h2 => exact ⟨_, rfl, ⟨_, .inl (.inl (g2.rel.le _ _ h1))⟩, q _ F2 _ g2 (walkD_list h1 h2)⟩
  · rename_i ys
    cases e
    refine (pi_tup ha).run pins s σ H R I ⟨F, st, qa.1, qa.2, r, ea, fun v F1 H1 ra => ?_⟩
    obtain ⟨F2, s1, g2, hd⟩ := keep_one ra.go (Same.refl _) ra.rel ra.fro ed
    cases hd with
    | tup h1 h2 => exact ⟨_, rfl, ⟨_, (h1.same g2.rel.le).sq⟩, q _ F2 _ g2 (walkD_tup h1 h2)⟩
  · cases e⟩
theorem okR_lim {i : Int} (h : okR i = true) : -(2 ^ 62) ≤ i ∧ i < 2 ^ 62 := by
  unfold okR at h
  simp only [Bool.and_eq_true, decide_eq_true_eq] at h
  omega
theorem evs_one {st : En} {q : List Od × En} (h : evs C ms st = some q) : True := trivial
theorem mi_rng1 {tg : Expr} {one : Bool} {p : Pos} (gl : Gl X "range") (hm : X.mg "range" = none) (hs : noStar a = true) (ha : PA X [a] (tA X.K C ms)) (hl : ∀ st os st', evs C ms st = some (os, st') → os.length = 1) : PI X tg (.Call (.Name "range" p) [a] [] pos) (tI X.K C one (.rng ms)) :=
  pi_mono (pi_range1 gl hm ha (star_cons hs)) fun σ H R ⟨F, st, xs, st', r, e, q⟩ => by
    simp only [evI, Option.bind_eq_some_iff, Option.map_eq_some_iff] at e
    obtain ⟨qa, ea, ds, ed, ys, ey, e⟩ := e
    cases e
    refine ⟨F, st, qa.1, qa.2, r, ea, fun vs F1 H1 g rr => ?_⟩
    have n1 := rr.len.trans (hl _ _ _ ea)
    have rd := rr.rds g.rel ed
    match vs, rd, n1 with
    | [v], .cons h1 .nil, _ =>
      unfold rngD at ey
      split at ey
      · rename_i j hz
        cases hz
        split at ey
        · rename_i ok
          cases ey
          obtain rfl := h1.int
          exact ⟨_, rfl, (okR_lim ok).1, (okR_lim ok).2, q _ F1 _ g walkD_rng⟩
        · cases ey
      · rename_i hz; cases hz
      · cases ey
theorem mi_rng2 {tg : Expr} {one : Bool} {p : Pos} (gl : Gl X "range") (hm : X.mg "range" = none) (hs : noStar a = true) (hs2 : noStar b = true) (ha : PA X [a, b] (tA X.K C ms)) (hl : ∀ st os st', evs C ms st = some (os, st') → os.length = 2) : PI X tg (.Call (.Name "range" p) [a, b] [] pos) (tI X.K C one (.rng ms)) :=
  pi_mono (pi_range2 gl hm ha (by rw [star_cons hs, star_cons hs2] <;> rfl) (star_cons hs2)) fun σ H R ⟨F, st, xs, st', r, e, q⟩ => by
    simp only [evI, Option.bind_eq_some_iff, Option.map_eq_some_iff] at e
    obtain ⟨qa, ea, ds, ed, ys, ey, e⟩ := e
    cases e
    refine ⟨F, st, qa.1, qa.2, r, ea, fun vs F1 H1 g rr => ?_⟩
    have n1 := rr.len.trans (hl _ _ _ ea)
    have rd := rr.rds g.rel ed
    match vs, rd, n1 with
    | [v, w], .cons h1 (.cons h2 .nil), _ =>
      unfold rngD at ey
      split at ey
      · rename_i hz; cases hz
      · rename_i i j hz
        cases hz
        split at ey
        · rename_i ok
          cases ey
          rw [Bool.and_eq_true] at ok
          obtain rfl := h1.int
          obtain rfl := h2.int
          exact ⟨_, _, rfl, ⟨(okR_lim ok.1).1, (okR_lim ok.1).2, (okR_lim ok.2).1, (okR_lim ok.2).2⟩, q _ F1 _ g walkD_rng⟩
        · cases ey
      · cases ey
theorem enuL_len : ∀ (k : Nat) (xs : List PyData), (enuL k xs).length = xs.length
  | _, [] => rfl
  | k, _ :: xs => congrArg Nat.succ (enuL_len (k + 1) xs)
theorem enuL_get : ∀ (xs : List PyData) (k i : Nat) (p : PyData), xs[i]? = some p → (enuL k xs)[i]? = some (.tuple [.int ((k + i : Nat) : Int), p])
  | [], _, i, p, h => by simp at h
  | x :: xs, k, 0, p, h => by simp at h; subst h; rfl
  | x :: xs, k, i + 1, p, h => by
    have := enuL_get xs (k + 1) i p (by simpa using h)
    show (enuL (k + 1) xs)[i]? = _
    rw [this, show k + 1 + i = k + (i + 1) by omega]
theorem zipL_len : ∀ (xs ys : List PyData), (zipL xs ys).length = min xs.length ys.length
  | [], ys => by simp [zipL]
  | _ :: _, [] => by simp [zipL]
  | x :: xs, y :: ys => by simp [zipL, zipL_len xs ys]
theorem zipL_get : ∀ (xs ys : List PyData) (i : Nat) (p q : PyData), xs[i]? = some p → ys[i]? = some q → (zipL xs ys)[i]? = some (.tuple [p, q])
  | [], _, i, p, q, h, _ => by simp at h
  | _ :: _, [], i, p, q, _, h => by simp at h
  | x :: xs, y :: ys, 0, p, q, h, h2 => by simp at h h2; subst h h2; rfl
  | x :: xs, y :: ys, i + 1, p, q, h, h2 => by
    have := zipL_get xs ys i p q (by simpa using h) (by simpa using h2)
    exact this
theorem pair_new {K : PySem.W.Frag} {F H H' : Hp} {T : Addr} {x y : V} {p q : PyData} (le : Same F H) (h1 : H T = none) (h2 : H' = upd H T (.tup [x, y])) (hx : Dn K F x p) (hy : Dn K F y q) : New F H F H' ∧ DnW K F H' false (.ref T) (.tuple [p, q]) := by
  subst h2
  refine ⟨⟨Same.refl F, fun a o h => ?_, fun a o h => ?_, fun a h => .inl h⟩, .inr ⟨rfl, T, [x, y], [p, q], rfl, .inl ⟨rfl, upd_same⟩, .cons hx (.cons hy .nil)⟩⟩
  · rw [upd_ne (ne_of_none h h1)]; exact h
  · rw [upd_ne (ne_of_none (le a o h) h1)]; exact le a o h
theorem mi_enu {p tp : Pos} {elts : List Expr} {kk : Nat} (gl : Gl X "enumerate") (hm : X.mg "enumerate" = none) (hs : noStar a = true) (ha : PA X [a] (tA X.K C ms)) : PI X (.Tuple elts kk tp) (.Call (.Name "enumerate" p) [a] [] pos) (tI X.K C false (.enu ms)) :=
  ⟨fun pins s σ H R I ⟨F, st, xs, st', r, e, q⟩ => by
    simp only [evI, Option.bind_eq_some_iff] at e
    obtain ⟨qa, ea, ds, ed, e⟩ := e
    have main : ∀ (J : It) (us : List V) (ys : List PyData) (F2 : Hp) (G : Hp → Prop), Walk J us.length G (YPair (fun i => some (.int (i : Nat))) (fun i => us[i]?)) → DnAll X.K F2 us ys → (∀ F' H, Same F2 F' → Same F' H → G H) → WalkD X.K F2 J false (enuL 0 ys) := by
      intro J us ys F2 G w h2 hG
      refine ⟨_, _, by rw [enuL_len, ← dpl_len h2]; exact w, hG, fun i F' x H H' hi s1 s2 hy => ?_⟩
      obtain ⟨T, x1, y1, rfl, k1, k2, k3, k4⟩ := hy
      cases k3
      obtain ⟨pv, j1, j2⟩ := dpl_get' h2 k4
      obtain ⟨n1, n2⟩ := pair_new s2 k1 k2 (Dn.int (i : Int)) (dp_same s1 _ _ j2)
      exact ⟨_, by rw [enuL_get _ _ _ _ j1, Nat.zero_add], n1, n2⟩
    split at e
    · rename_i ys
      cases e
      refine (pi_enum gl hm ha (star_cons hs)).run pins s σ H R I ⟨F, st, qa.1, qa.2, r, ea, fun vs F1 H1 g rr => ?_⟩
      obtain ⟨F2, s1, g2, hd⟩ := keep_all (fun {_ _ _} => trivial) rr ed (Same.refl _) g
      cases hd with
      | cons hd hn =>
        cases hn
        cases hd with
        | @lst a us _ h1 h2 =>
          exact ⟨a, us, rfl, .inl (.inl (g2.rel.le _ _ h1)), q _ F2 _ g2 (main _ us ys F2 _ (walk_enum (K := X.K) (a := a)) h2 fun F' H s1 s2 => .inl (.inl (s2 _ _ (s1 _ _ h1))))⟩
    · rename_i ys
      cases e
      refine (pi_enuT gl hm ha (star_cons hs)).run pins s σ H R I ⟨F, st, qa.1, qa.2, r, ea, fun vs F1 H1 g rr => ?_⟩
      obtain ⟨F2, s1, g2, hd⟩ := keep_all (fun {_ _ _} => trivial) rr ed (Same.refl _) g
      cases hd with
      | cons hd hn =>
        cases hn
        cases hd with
        | @tup a us _ h1 h2 =>
          exact ⟨a, us, rfl, (h1.same g2.rel.le).sq, q _ F2 _ g2 (main _ us ys F2 _ (walk_enuT (K := X.K) (a := a)) h2 fun F' H s1 s2 => ((h1.same s1).same s2).sq)⟩
    · cases e⟩
theorem walk_zT {K : PySem.W.Frag} {a b : Addr} {xs ys : List V} {n : Nat} (hn : n = min xs.length ys.length) : Walk (RZ.ItzT K a b) n (fun H => SqT K H a xs ∧ SqT K H b ys) (YPair (fun i => xs[i]?) (fun i => ys[i]?)) := by
  subst hn
  constructor
  · intro i H hi q
    have l1 : i < xs.length := by omega
    have l2 : i < ys.length := by omega
    exact ⟨xs, ys, xs[i], ys[i], q.1, q.2, by simp [l1], by simp [l2]⟩
  · intro H q
    exact ⟨xs, ys, q.1, q.2, by omega⟩
  · intro i H v H' hi q hy
    obtain ⟨T, x, y, c1, c2, c3, c4, c5⟩ := hy
    exact ⟨T, x, y, c1, c2, c3, c4 xs q.1, c5 ys q.2⟩
theorem mi_zip {p tp : Pos} {elts : List Expr} {kk : Nat} (gl : Gl X "zip") (hm : X.mg "zip" = none) (hs : noStar a = true) (hs2 : noStar b = true) (ha : PA X [a, b] (tA X.K C ms)) : PI X (.Tuple elts kk tp) (.Call (.Name "zip" p) [a, b] [] pos) (tI X.K C false (.zip ms)) :=
  pi_mono (RZ.pi_zipA gl hm ha (star_cons hs) (by rw [star_cons hs2] <;> rfl)) fun σ H R ⟨F, st, xs, st', r, e, q⟩ => by
    simp only [evI, Option.bind_eq_some_iff] at e
    obtain ⟨qa, ea, ds, ed, e⟩ := e
    have main : ∀ (J : It) (us ws : List V) (ys zs : List PyData) (F2 : Hp) (G : Hp → Prop), Walk J (min us.length ws.length) G (YPair (fun i => us[i]?) (fun i => ws[i]?)) → DnAll X.K F2 us ys → DnAll X.K F2 ws zs → (∀ F' H, Same F2 F' → Same F' H → G H) → WalkD X.K F2 J false (zipL ys zs) := by
      intro J us ws ys zs F2 G w h2 h4 hG
      refine ⟨_, _, by rw [zipL_len, ← dpl_len h2, ← dpl_len h4]; exact w, hG, fun i F' x H H' hi s1 s2 hy => ?_⟩
      obtain ⟨T, x1, y1, rfl, k1, k2, k3, k4⟩ := hy
      obtain ⟨pv, j1, j2⟩ := dpl_get' h2 k3
      obtain ⟨pw, j3, j4⟩ := dpl_get' h4 k4
      obtain ⟨n1, n2⟩ := pair_new s2 k1 k2 (dp_same s1 _ _ j2) (dp_same s1 _ _ j4)
      exact ⟨_, zipL_get _ _ _ _ _ j1 j3, n1, n2⟩
    split at e
    · rename_i ys zs
      cases e
      refine ⟨F, st, qa.1, qa.2, r, ea, fun vs F1 H1 g rr => ?_⟩
      obtain ⟨F2, s1, g2, hd⟩ := keep_all (fun {_ _ _} => trivial) rr ed (Same.refl _) g
      cases hd with
      | cons hd hn =>
        cases hn with
        | cons hd2 hn =>
          cases hn
          cases hd with
          | @lst a us _ h1 h2 =>
            cases hd2 with
            | @lst b ws _ h3 h4 =>
              exact ⟨a, b, us, ws, rfl, .inl ⟨.inl (.inl (g2.rel.le _ _ h1)), .inl (.inl (g2.rel.le _ _ h3)), q _ F2 _ g2 (main _ _ _ _ _ _ _ (walk_zip (K := X.K) (a := a) (b := b) (xs := us) (ys := ws) rfl) h2 h4 fun F' H s1 s2 => ⟨.inl (.inl (s2 _ _ (s1 _ _ h1))), .inl (.inl (s2 _ _ (s1 _ _ h3)))⟩)⟩⟩
    · rename_i ys zs
      cases e
      refine ⟨F, st, qa.1, qa.2, r, ea, fun vs F1 H1 g rr => ?_⟩
      obtain ⟨F2, s1, g2, hd⟩ := keep_all (fun {_ _ _} => trivial) rr ed (Same.refl _) g
      cases hd with
      | cons hd hn =>
        cases hn with
        | cons hd2 hn =>
          cases hn
          cases hd with
          | @tup a us _ h1 h2 =>
            cases hd2 with
            | @tup b ws _ h3 h4 =>
              exact ⟨a, b, us, ws, rfl, .inr ⟨(h1.same g2.rel.le).sq, (h3.same g2.rel.le).sq, q _ F2 _ g2 (main _ _ _ _ _ _ _ (walk_zT (K := X.K) (a := a) (b := b) (xs := us) (ys := ws) rfl) h2 h4 fun F' H s1 s2 => ⟨((h1.same s1).same s2).sq, ((h3.same s1).same s2).sq⟩)⟩⟩
    · cases e
end
end Mi
end
section
/-! Mi17: comprehensions. -/
namespace Mi
open PySem PySem.Spec
open PyProof.Rows hiding St Fr
open L2

section
variable {K : PySem.W.Frag} {F H F0 H0 F1 H1 F2 H2 F' H' : Hp} {st st0 st1 st2 st' : En} {σ σ0 σ1 σ2 σ' : L2.St} {v : V} {od : Od} {d : D} {a : Addr} {i : Nat}
theorem wipeV_len (σ : L2.St) (own : List Nat) : (L2.wipe σ own).length = σ.length := wipe_length σ own
theorem wipe_len (st : En) : ∀ own : List Nat, (Mi.wipe st own).length = st.length
  | [] => rfl
  | v :: vs => by unfold Mi.wipe; rw [List.length_set, wipe_len st vs]
theorem wipe_out (st : En) : ∀ {own : List Nat} {j : Nat}, j ∉ own → (Mi.wipe st own)[j]? = st[j]?
  | [], _, _ => rfl
  | v :: vs, j, h => by
    unfold Mi.wipe
    rw [List.getElem?_set_ne (fun e => h (by rw [e]; exact List.mem_cons_self ..)), wipe_out st fun z => h (List.mem_cons_of_mem _ z)]
theorem wipe_in (st : En) : ∀ {own : List Nat} {j : Nat} {s : Sl}, j ∈ own → (Mi.wipe st own)[j]? = some s → s = .no
  | v :: vs, j, s, h, e => by
    unfold Mi.wipe at e
    rcases get_set e with ⟨_, e2, _⟩ | ⟨ne, e⟩
    · exact e2
    · exact wipe_in st ((List.mem_cons.mp h).resolve_left ne) e
theorem wipeV_out (σ : L2.St) : ∀ {own : List Nat} {j : Nat}, j ∉ own → (L2.wipe σ own)[j]? = σ[j]?
  | [], _, _ => rfl
  | v :: vs, j, h => by
    unfold L2.wipe
    rw [List.getElem?_set_ne (fun e => h (by rw [e]; exact List.mem_cons_self ..)), wipeV_out σ fun z => h (List.mem_cons_of_mem _ z)]
theorem wipeV_in (σ : L2.St) : ∀ {own : List Nat} {j : Nat}, j ∈ own → j < σ.length → (L2.wipe σ own)[j]? = some none
  | v :: vs, j, h, hl => by
    unfold L2.wipe
    by_cases e : j = v
    · subst e; rw [List.getElem?_set_self (by rw [wipe_length]; exact hl)]
    · rw [List.getElem?_set_ne (Ne.symm e)]
      exact wipeV_in σ ((List.mem_cons.mp h).resolve_left e) hl
theorem wipeV_eq {own : List Nat} (hl : σ.length = σ'.length) (h : ∀ j, j ∉ own → σ[j]? = σ'[j]?) : L2.wipe σ own = L2.wipe σ' own := by
  apply List.ext_getElem?
  intro j
  by_cases e : j ∈ own
  · by_cases l : j < σ.length
    · rw [wipeV_in σ e l, wipeV_in σ' e (by rw [← hl]; exact l)]
    · rw [List.getElem?_eq_none (by rw [wipe_length]; omega), List.getElem?_eq_none (by rw [wipe_length]; omega)]
  · rw [wipeV_out σ e, wipeV_out σ' e, h j e]
/-- the own names of a block forgotten -/
theorem Rel.wipe (own : List Nat) (r : Rel K F st σ H) : Go K st σ F H (Mi.wipe st own) (L2.wipe σ own) F H := by
  have at' : ∀ {j : Nat} {s : Sl}, (Mi.wipe st own)[j]? = some s → s = .no ∨ (j ∉ own ∧ st[j]? = some s) := fun {j s} h => by
    by_cases e : j ∈ own
    · exact .inl (wipe_in st e h)
    · rw [wipe_out st e] at h; exact .inr ⟨e, h⟩
  refine ⟨⟨Same.refl F, fun b o h _ => h, fun b h => h, fun b ⟨j, s, h1, h2, h3⟩ => ?_, fun b h => .inl h⟩, ⟨r.le, by rw [wipe_len, wipe_length]; exact r.len, fun j s h => ?_, fun j j' s t b h1 h2 h3 h4 h5 h6 => ?_⟩, fun j d h => ?_⟩
  · rcases at' h1 with e | ⟨e, h⟩
    · rw [e] at h2; cases h2
    · rw [wipeV_out σ e] at h3; exact .inl ⟨j, s, h, h2, h3⟩
  · rcases at' h with e | ⟨e, h⟩
    · rw [e]; trivial
    · have z := r.sl j s h
      cases s with
      | no => trivial
      | fr d => obtain ⟨w, g1, g2⟩ := z; exact ⟨w, by rw [wipeV_out σ e]; exact g1, g2⟩
      | ow d => obtain ⟨w, g1, g2⟩ := z; exact ⟨w, by rw [wipeV_out σ e]; exact g1, g2⟩
      | bo d => obtain ⟨w, g1, g2⟩ := z; exact ⟨w, by rw [wipeV_out σ e]; exact g1, g2⟩
  · rcases at' h1 with e | ⟨e, h1⟩
    · rw [e] at h3; cases h3
    · rcases at' h2 with e' | ⟨e', h2⟩
      · rw [e'] at h4; cases h4
      · rw [wipeV_out σ e] at h5
        rw [wipeV_out σ e'] at h6
        exact r.inj j j' s t b h1 h2 h3 h4 h5 h6
  · rcases at' h with e | ⟨e, h⟩
    · cases e
    · exact ⟨wipeV_out σ e, d, h⟩
theorem back_len (st0 st : En) : ∀ own : List Nat, (back st0 st own).length = st.length
  | [] => rfl
  | v :: vs => by unfold back; rw [List.length_set, back_len st0 st vs]
theorem back_out (st0 st : En) : ∀ {own : List Nat} {j : Nat}, j ∉ own → (back st0 st own)[j]? = st[j]?
  | [], _, _ => rfl
  | v :: vs, j, h => by
    unfold back
    rw [List.getElem?_set_ne (fun e => h (by rw [e]; exact List.mem_cons_self ..)), back_out st0 st fun z => h (List.mem_cons_of_mem _ z)]
theorem back_in (st0 st : En) : ∀ {own : List Nat} {j : Nat} {s : Sl}, j ∈ own → (back st0 st own)[j]? = some s → s = st0.getD j .no
  | v :: vs, j, s, h, e => by
    unfold back at e
    rcases get_set e with ⟨e1, e2, _⟩ | ⟨ne, e⟩
    · rw [e2, e1]
    · exact back_in st0 st ((List.mem_cons.mp h).resolve_left ne) e
theorem calm_ok {s : Sl} (h : calmSl s = true) : s.owned = false := by cases s <;> first | rfl | cases h
/-- behind the block the frame's own names are there again -/
theorem Rel.back {own : List Nat} (r : Rel K F st σ H) (hc : (own.all fun i => calmSl (st.getD i .no)) = true) (g : Go K (Mi.wipe st own) (L2.wipe σ own) F H st1 (L2.wipe σ own) F1 H1) : Go K st σ F H (Mi.back st st1 own) σ F1 H1 ∧ ∀ b, Owns (Mi.back st st1 own) σ b → Owns st1 (L2.wipe σ own) b := by
  have calm : ∀ j ∈ own, (st.getD j .no).owned = false := fun j hj => calm_ok (List.all_eq_true.mp hc j hj)
  have r1 := g.rel
  have at' : ∀ {j : Nat} {s : Sl}, (Mi.back st st1 own)[j]? = some s → (j ∈ own ∧ s = st.getD j .no ∧ s.owned = false) ∨ (j ∉ own ∧ st1[j]? = some s) := fun {j s} h => by
    by_cases e : j ∈ own
    · have := back_in st st1 e h
      exact .inl ⟨e, this, by rw [this]; exact calm j e⟩
    · rw [back_out st st1 e] at h; exact .inr ⟨e, h⟩
  have own1 : ∀ b, Owns (Mi.back st st1 own) σ b → Owns st1 (L2.wipe σ own) b := fun b ⟨j, s, h1, h2, h3⟩ => by
    rcases at' h1 with ⟨_, _, z⟩ | ⟨e, h⟩
    · rw [z] at h2; cases h2
    · exact ⟨j, s, h, h2, by rw [wipeV_out σ e]; exact h3⟩
  have own0 : ∀ b, Owns (Mi.wipe st own) (L2.wipe σ own) b → Owns st σ b := fun b hb => ((Rel.wipe own r).stp.own b hb).resolve_right fun z => by
    have := (Rel.wipe own r).rel.owns hb
    exact this.2 z
  have ll : st1.length = st.length := by rw [← r1.len, wipe_length, r.len]
  refine ⟨⟨⟨g.stp.fr, fun b o h n => g.stp.keep b o h fun z => n (own0 b z), g.stp.live, fun b h => (g.stp.own b (own1 b h)).imp (own0 b) id, fun b h => (g.stp.frz b h).imp id (Or.imp (own0 b) id)⟩, ⟨r1.le, by rw [back_len, ll]; exact r.len, fun j s h => ?_, fun j j' s t b h1 h2 h3 h4 h5 h6 => ?_⟩, fun j d h => ?_⟩, own1⟩
  · rcases at' h with ⟨e, e2, e3⟩ | ⟨e, h⟩
    · cases hs : st[j]? with
      | none =>
        rw [List.getD_eq_getElem?_getD, hs] at e2
        rw [e2]; trivial
      | some s0 =>
        rw [List.getD_eq_getElem?_getD, hs] at e2
        have e2 : s = s0 := e2
        have z := r.sl j s0 hs
        rw [e2]
        rw [e2] at e3
        cases s0 with
        | no => trivial
        | fr d => obtain ⟨w, g1, g2⟩ := z; exact ⟨w, g1, g2.same g.stp.fr⟩
        | ow d => cases e3
        | bo d => cases e3
    · have z := r1.sl j s h
      cases s with
      | no => trivial
      | fr d => obtain ⟨w, g1, g2⟩ := z; exact ⟨w, by rw [← wipeV_out σ e]; exact g1, g2⟩
      | ow d => obtain ⟨w, g1, g2⟩ := z; exact ⟨w, by rw [← wipeV_out σ e]; exact g1, g2⟩
      | bo d => obtain ⟨w, g1, g2⟩ := z; exact ⟨w, by rw [← wipeV_out σ e]; exact g1, g2⟩
  · rcases at' h1 with ⟨_, _, z⟩ | ⟨e, h1⟩
    · rw [z] at h3; cases h3
    · rcases at' h2 with ⟨_, _, z⟩ | ⟨e', h2⟩
      · rw [z] at h4; cases h4
      · exact r1.inj j j' s t b h1 h2 h3 h4 (by rw [wipeV_out σ e]; exact h5) (by rw [wipeV_out σ e']; exact h6)
  · rcases at' h with ⟨_, _, z⟩ | ⟨e, h⟩
    · cases z
    · obtain ⟨_, d0, h0⟩ := g.bos j d h
      rw [wipe_out st e] at h0
      exact ⟨rfl, d0, h0⟩
theorem setAll_len : ∀ (is : List Nat) (ps : List PyData) (st : En), (setAll st is ps).length = st.length
  | [], _, _ => by simp [setAll]
  | _ :: _, [], _ => by simp [setAll]
  | i :: is, p :: ps, st => by
    show (setAll (st.set i (.fr (.py p))) is ps).length = st.length
    rw [setAll_len is ps, List.length_set]
theorem bind_len {is : List Nat} {one : Bool} {p : PyData} {s : En} (h : bindT is one p st = some s) : s.length = st.length := by
  unfold bindT at h
  split at h
  · split at h
    · cases h; rw [List.length_set]
    · cases h
  · split at h
    · split at h
      · rw [bind_setAll] at h
        cases h
        exact setAll_len _ _ _
      · cases h
    · split at h
      · rw [bind_setAll] at h
        cases h
        exact setAll_len _ _ _
      · cases h
    · cases h
theorem goD {D : Addr} {vs : List V} (g : Go K st0 σ F0 H0 st σ F H) (hn : ¬ Owns st σ D) (h0 : H0 D = none) (hF : F D = none) : Go K st0 σ F0 H0 st σ F (upd H D (.lst vs)) := by
  refine goFree (O := (· = D)) g ⟨Same.refl F, fun b o h n => ?_, fun b h => ?_, fun b h => .inl h, fun b h => .inl h⟩ (fun b o h => ?_) fun b e => ?_
  · rw [upd_ne n]; exact h
  · by_cases e : b = D
    · subst e; rw [upd_same]; simp
    · rw [upd_ne e]; exact h
  · rw [upd_ne (fun e => by rw [e, hF] at h; cases h)]; exact g.rel.le b o h
  · rw [e]; exact ⟨hn, .inr h0⟩
end
/-- a block's clauses: the targets, the tests -/
structure LcOk (X : Cx) (C : Ct) (elt tg iter : Expr) (ifs : List Expr) (scope : Scope) (own : List (Str × Nat)) (is : List Nat) (one : Bool) (it : I) (c : T) (m : Ex) : Prop where
  hi : PI X tg iter (tI X.K C one it)
  ok : BlkOk X.N X.env.scope scope own
  hg : ∀ (s : Shared) (H : Hp) (A : Addr) (cl : List (Str × Addr)) (fp : List Addr), PG (X.blk s H scope (compEnvC scope cl A X.env) fp) tg (gT X.K is one)
  ht : ∀ (s : Shared) (H : Hp) (A : Addr) (cl : List (Str × Addr)) (fp : List Addr), PTs (X.blk s H scope (compEnvC scope cl A X.env) fp) ifs (tT X.K C c)
  he : ∀ (s : Shared) (H : Hp) (A : Addr) (cl : List (Str × Addr)) (fp : List Addr), PE (X.blk s H scope (compEnvC scope cl A X.env) fp) elt (tE X.K C m)
  hs : noSet iter = true
  sub : ∀ i ∈ is, i ∈ own.map (·.2)
section
variable {X : Cx} {elt tg iter : Expr} {ifs : List Expr} {scope : Scope} {own : List (Str × Nat)} {is : List Nat} {one : Bool} {it : I} {c : T} {m : Ex} {C : Ct} {pos : Pos}
theorem tLc_ok (is_sub : ∀ i ∈ is, i ∈ own.map (·.2)) {σ : L2.St} {H : Hp} {Q : VK} (h : tE X.K C (.lc (own.map (·.2)) is one it c m) σ H Q) : tLc (tI X.K C one it) (gT X.K is one) (tT X.K C c) (tE X.K C m) (own.map (·.2)) σ H Q := by
  obtain ⟨F, st, od, st', r, e, q⟩ := h
  generalize own.map (·.2) = vs at *
  simp only [evE, Option.bind_eq_some_iff] at e
  obtain ⟨qi, ei, e⟩ := e
  split at e
  · rename_i calm
    simp only [Option.map_eq_some_iff] at e
    obtain ⟨⟨res, sf⟩, el, e⟩ := e
    cases e
    refine ⟨F, st, qi.1, qi.2, r, ei, fun J F1 H1 g1 ⟨G, Y, w, hG, hY⟩ D hD => ?_⟩
    have rw1 := Rel.wipe vs g1.rel
    have hF1 : F1 D = none := g1.rel.le.free hD
    have now : ∀ {s : En}, Rel X.K F1 s (L2.wipe σ vs) H1 → ¬ Owns s (L2.wipe σ vs) D := fun rr z => (rr.owns z).2 hD
    generalize hf : (fun x acc s => (bindT is one x s).bind fun s1 => (evT C c s1).bind fun qc => if qc.1 then (evE C m qc.2).bind fun qe => qe.1.val.bind fun d => d.pyd.bind fun p =>
        if acc.length < lim then some (acc ++ [p], Mi.wipe qe.2 vs) else none else some (acc, Mi.wipe qc.2 vs)) = f at el
    refine lc_it w (fun i H' => ∃ Fi si acc us, Go X.K (Mi.wipe qi.2 vs) (L2.wipe σ vs) F1 H1 si (L2.wipe σ vs) Fi H' ∧ H' D = some (.lst us) ∧ DnAll X.K Fi us acc ∧ Fi D = none ∧ ¬ Owns si (L2.wipe σ vs) D ∧ lcL f (qi.1.drop i) acc si = some (res, sf))
      ⟨F1, Mi.wipe qi.2 vs, [], [], goD (Go.refl rw1.rel) (now rw1.rel) hD hF1, upd_same, .nil, hF1, now rw1.rel, el⟩ (fun i H' _ ⟨Fi, si, acc, us, g, _⟩ => hG Fi H' g.stp.fr g.rel.le) (fun i x H' H2 hlt ⟨Fi, si, acc, us, g, k1, k2, k3, k4, ef⟩ hy => ?_) (fun H' ⟨Fi, si, acc, us, g, k1, k2, k3, k4, ef⟩ => ?_)
    · obtain ⟨p, hp, nw, hd⟩ := hY i Fi x H' H2 hlt g.stp.fr g.rel.le hy
      have ed : qi.1.drop i = p :: qi.1.drop (i + 1) := by
        rw [List.drop_eq_getElem_cons hlt]
        rw [List.getElem?_eq_getElem hlt] at hp
        cases hp
        rfl
      rw [ed] at ef
      rw [lcL, Option.bind_eq_some_iff] at ef
      obtain ⟨rr, e1, ef⟩ := ef
      rw [← hf] at e1
      simp only [Option.bind_eq_some_iff] at e1
      obtain ⟨s1, eb, qc, ec, e1⟩ := e1
      have gn := nw.go g.rel
      refine ⟨Fi, si, p, s1, gn.rel, hd, eb, fun σ2 g2 out => ⟨?_, ?_⟩⟩
      · refine wipeV_eq (by rw [g2.rel.len, ← wipe_length σ vs, gn.rel.len]; exact (bind_len eb)) fun j hj => ?_
        rw [out j fun z => hj (is_sub j z), wipeV_out σ hj]
      have hw : L2.wipe σ2 vs = L2.wipe σ vs := by
        refine wipeV_eq (by rw [g2.rel.len, ← wipe_length σ vs, gn.rel.len]; exact (bind_len eb)) fun j hj => ?_
        rw [out j fun z => hj (is_sub j z), wipeV_out σ hj]
      have D2 : H2 D = some (.lst us) := nw.hp D _ k1
      have o2 : ¬ Owns s1 σ2 D := fun z => (g2.stp.own D z).elim k4 fun z => by rw [D2] at z; cases z
      refine ⟨Fi, s1, qc.1, qc.2, g2.rel, ec, fun F3 H3 g3 => ?_⟩
      have D3 : H3 D = some (.lst us) := g3.stp.keep D _ D2 o2
      have o3 : ¬ Owns qc.2 σ2 D := fun z => (g3.stp.own D z).elim o2 fun z => by rw [D2] at z; cases z
      have f3 : F3 D = none := by
        cases e : F3 D with
        | none => rfl
        | some o =>
          rcases g3.stp.frz D (by rw [e]; simp) with z | z | z
          · exact absurd k3 z
          · exact absurd z o2
          · rw [D2] at z; cases z
      have gg := ((g.trans gn).trans g2).trans g3
      cases hq : qc.1 with
      | false =>
        rw [hq, if_neg Bool.false_ne_true] at e1
        cases e1
        refine iteF ?_
        have gw := Rel.wipe vs g3.rel
        have gt := gg.trans gw
        rw [hw] at gt gw
        exact ⟨F3, Mi.wipe qc.2 vs, acc, us, gt, D3, dpAll_same g3.stp.fr _ _ k2, f3, fun z => (gw.stp.own D z).elim o3 fun z => (by rw [D3] at z; cases z), ef⟩
      | true =>
        rw [hq, if_pos rfl, Option.bind_eq_some_iff] at e1
        obtain ⟨qe, ee, e1⟩ := e1
        rw [Option.bind_eq_some_iff] at e1
        obtain ⟨d, ed2, e1⟩ := e1
        rw [Option.bind_eq_some_iff] at e1
        obtain ⟨pv, ep, e1⟩ := e1
        refine iteT ⟨F3, qc.2, qe.1, qe.2, g3.rel, ee, fun y F4 H4 ra => ?_⟩
        split at e1
        · rename_i hl
          cases e1
          have D4 : H4 D = some (.lst us) := ra.go.stp.keep D _ D3 o3
          have o4 : ¬ Owns qe.2 σ2 D := fun z => (ra.go.stp.own D z).elim o3 fun z => by rw [D3] at z; cases z
          obtain ⟨F5, s5, g5, hd5⟩ := keep_one ra.go (Same.refl _) ra.rel ra.fro ed2
          have f5 : F5 D = none := by
            cases e : F5 D with
            | none => rfl
            | some o =>
              rcases g5.stp.frz D (by rw [e]; simp) with z | z | z
              · exact absurd f3 z
              · exact absurd z o3
              · rw [D3] at z; cases z
          cases d <;> cases ep
          have gw := Rel.wipe vs g5.rel
          have gt := (gg.trans g5).trans gw
          rw [hw] at gt gw
          have o5 : ¬ Owns (Mi.wipe qe.2 vs) (L2.wipe σ vs) D := fun z => (gw.stp.own D z).elim o4 fun z => (by rw [D4] at z; cases z)
          refine ⟨us, D4, ?_, F5, Mi.wipe qe.2 vs, acc ++ [_], us ++ [y], goD gt o5 hD f5, upd_same, dpl_app (dpAll_same (g3.stp.fr.trans g5.stp.fr) _ _ k2) (.cons hd5 .nil), f5, o5, ef⟩
          have hs : sizeLine = 16777216 := sizeLine_eq
          have := dpl_len k2
          unfold lim at hl
          omega
        · cases e1
    · rw [List.drop_length] at ef
      cases ef
      obtain ⟨gb, ob⟩ := Rel.back g1.rel calm g
      refine q _ Fi _ ⟨g1.trans gb, ⟨D, rfl, k3, ⟨us, k1, k2⟩, fun z => k4 (ob D z)⟩, Fro.back g1 ⟨D, rfl, .inr hD⟩⟩
  · cases e
end
end Mi
end
section
/-! Mi18: from the text's expressions to the evaluator's. -/
namespace Mi
open PySem PySem.Spec
open PyProof.Rows hiding St Fr
open L2

/-- what is known of a block before it runs -/
structure Zx where
  N : List Str
  sc : Scope
  fn : Str → Bool
  sg : List (Str × List Str × Bool)
  bl : List Str
def nmOk (x : Str) : Bool := !(x == ("__debug__" : Str)) && !(x == ("__classdict__" : Str))
def visB (k : Option NameKind) : Bool := match k with
  | some .local => true
  | some .cell => true
  | some .free => true
  | _ => false
def locB (k : Option NameKind) (b : Bool) : Bool := match k with
  | some .local => true
  | some .cell => b
  | _ => false
def Zx.ix (z : Zx) (x : Str) : Option Nat := if visB (z.sc.names.lookup x) && nmOk x && decide (z.N[z.N.idxOf x]? = some x) then some (z.N.idxOf x) else none
def Zx.st (z : Zx) (x : Str) : Option Nat := if locB (z.sc.names.lookup x) (z.fn x) && decide (z.N[z.N.idxOf x]? = some x) then some (z.N.idxOf x) else none
def Zx.gl (z : Zx) (x : Str) : Bool := decide (z.sc.names.lookup x = some .globalImplicit) && nmOk x
def Zx.bi (z : Zx) (x : Str) : Bool := z.gl x && z.bl.contains x
structure XOk (X : Cx) (k : Nat) (C : Ct) (z : Zx) : Prop where
  hn : X.N = z.N
  nd : X.N.Nodup
  sc : X.env.scope = z.sc
  kd : z.sc.kind = .function
  fn : ∀ x, z.fn x = true → X.fn x = true
  calm : X.calm = true
  room : Room k X.A
  g : X.A.guards = some []
  bl : ∀ x ∈ z.bl, X.mg x = none
  glo : ∀ x, GloOk X C x
  cal : ∀ x q, z.sg.lookup x = some q → CallOk X k C x q.1
section
variable {X : Cx} {k : Nat} {C : Ct} {z : Zx} {x : Str} {i : Nat}
theorem XOk.ix (h : XOk X k C z) (e : z.ix x = some i) : NameOk X.N X.env.scope x i := by
  unfold Zx.ix at e
  split at e
  · rename_i hc
    cases e
    simp only [Bool.and_eq_true, decide_eq_true_eq, nmOk, Bool.not_eq_true'] at hc
    obtain ⟨⟨h1, h2, h3⟩, h4⟩ := hc
    refine ⟨by rw [h.hn]; exact h4, ?_, h2, h3⟩
    rw [h.sc]
    unfold visB at h1
    split at h1
    · rename_i e; exact .inl e
    · rename_i e; exact .inr (.inl e)
    · rename_i e; exact .inr (.inr e)
    · cases h1
  · cases e
theorem XOk.st (h : XOk X k C z) (e : z.st x = some i) : StOk X x i := by
  unfold Zx.st at e
  split at e
  · rename_i hc
    cases e
    rw [Bool.and_eq_true, decide_eq_true_eq] at hc
    obtain ⟨h1, h4⟩ := hc
    unfold locB at h1
    split at h1
    · rename_i e
      exact ⟨by rw [h.hn]; exact h4, .inl (by rw [h.sc]; exact e), .inr (by rw [h.sc]; exact e)⟩
    · rename_i e
      exact ⟨by rw [h.hn]; exact h4, .inr (by rw [h.sc]; exact e), .inl (h.fn x h1)⟩
    · cases h1
  · cases e
theorem XOk.gl (h : XOk X k C z) (e : z.gl x = true) : Gl X x ∧ (x == ("__debug__" : Str)) = false := by
  unfold Zx.gl nmOk at e
  simp only [Bool.and_eq_true, decide_eq_true_eq, Bool.not_eq_true'] at e
  refine ⟨?_, e.2.1⟩
  show X.env.scope.names.lookup x = _
  rw [h.sc]
  exact e.1
theorem XOk.bi (h : XOk X k C z) (e : z.bi x = true) : Gl X x ∧ X.mg x = none := by
  unfold Zx.bi at e
  rw [Bool.and_eq_true] at e
  exact ⟨(h.gl e.1).1, h.bl x (by simpa using e.2)⟩
end

/-! ### the pieces -/
def rdE (z : Zx) (e : Expr) (r : Ex) : Ex := match e with
  | .Name x _ => (match z.ix x with
    | some i => .pk i
    | none => r)
  | _ => r
def trL (f : Expr → Ex) : List Expr → Exs
  | [] => .nil
  | e :: es => .cons (f e) (trL f es)
def trK (f : Keyword → Ex) : List Keyword → Exs
  | [] => .nil
  | k :: ks => .cons (f k) (trK f ks)
def kwNs : List Keyword → Option (List Str)
  | [] => some []
  | ⟨some x, _, _⟩ :: r => (kwNs r).map (x :: ·)
  | _ => none
def kwE : Keyword → Expr
  | ⟨_, e, _⟩ => e
def kwN : Keyword → Option Str
  | ⟨x, _, _⟩ => x
def o2Of : Operator → Option O2
  | .Add => some .add
  | .Sub => some .sub
  | .Mult => some .mul
  | .FloorDiv => some .fdiv
  | .Mod => some .mod
  | .Pow => some .pow
  | _ => none
def cmOf : CmpOp → Cm
  | .Eq => .eq
  | .NotEq => .ne
  | .Lt => .lt
  | .LtE => .le
  | .Gt => .gt
  | .GtE => .ge
  | .Is => .is
  | .IsNot => .isnot
  | .In => .isin
  | .NotIn => .notin
def bis : List Bi := [.len, .tuple, .list, .sorted, .min, .max, .sum, .any, .all, .abs, .int, .bool, .str, .repr, .divmod, .dict, .set]
def biOf (x : Str) : Option Bi := bis.find? fun b => b.nm == x
def tys : List Ty := [.int, .bool, .str, .list, .tuple]
def tyOf (z : Zx) (e : Expr) : Option Ty := match e with
  | .Name x _ => if z.bi x then tys.find? (fun t => t.s == x) else none
  | _ => none
def tysOf (z : Zx) : List Expr → Option (List Ty)
  | [] => some []
  | e :: es => (tyOf z e).bind fun t => (tysOf z es).map (t :: ·)
def tgIs (z : Zx) : List Expr → Option (List Nat)
  | [] => some []
  | .Name x _ :: es => (z.st x).bind fun i => (tgIs z es).map (i :: ·)
  | _ => none
def tgIx (z : Zx) (tg : Expr) : Option (List Nat × Bool) := match tg with
  | .Name x _ => (z.st x).map fun i => ([i], true)
  | .Tuple es _ _ => (tgIs z es).map fun is => (is, false)
  | _ => none
def rangeArgs (z : Zx) (e : Expr) : Option (List Expr) := match e with
  | .Call (.Name x _) es [] _ => if x = "range" && z.bi "range" && noStars es && (es.length == 1 || es.length == 2) then some es else none
  | _ => none
def ownOf (N : List Str) (scope : Scope) : List (Str × Nat) := scope.names.filterMap fun y => if (y.2 == .local || y.2 == .cell) && decide (y.1 ∈ N) then some (y.1, N.idxOf y.1) else none
def Zx.blk (z : Zx) (scope : Scope) : Zx := { z with sc := relS scope z.sc, fn := fun x => scope.names.lookup x == some .cell }

/-! ### one step of the translation -/
structure Rec where
  e : Zx → Expr → Ex
  t : Zx → Expr → T
def stBlt (f : Rec) (z : Zx) (x : Str) (es : List Expr) : Ex :=
  if z.bi x && noStars es && !es.isEmpty then
    (if x = "isinstance" then (match es with
      | [a, .Tuple ts _ _] => (match tysOf z ts with
        | some l => if l.length ≤ 100 then .isa (rdE z a (f.e z a)) l else .bad
        | none => .bad)
      | [a, t] => (match tyOf z t with
        | some l => .isa (rdE z a (f.e z a)) [l]
        | none => .bad)
      | _ => .bad)
    else (match es with
      | [e] => (match rangeArgs z e with
        | some as => if x = "list" then .bi .lrange (trL (fun e => rdE z e (f.e z e)) as) else if x = "tuple" then .bi .trange (trL (fun e => rdE z e (f.e z e)) as) else .bad
        | none => (match biOf x with
          | some b => .bi b (trL (fun e => rdE z e (f.e z e)) es)
          | none => .bad))
      | _ => (match biOf x with
        | some b => .bi b (trL (fun e => rdE z e (f.e z e)) es)
        | none => .bad)))
  else .bad
def stCal (f : Rec) (z : Zx) (x : Str) (ps : List Str) (io : Bool) (es : List Expr) (kws : List Keyword) : Ex :=
  match kwNs kws with
  | some ks => if callOk ps es.length ks && noStars es then
      (match es with
      | [] => .cal x (permOf ps 0 ks) (trK (fun k => if io && kwN k == ps.head? then rdE z (kwE k) (f.e z (kwE k)) else (f.e z (kwE k))) kws)
      | e :: r => .cal x (permOf ps (r.length + 1) ks) ((Exs.cons (if io then rdE z e (f.e z e) else (f.e z e)) (trL (fun e => (f.e z e)) r)).app (trK (fun k => (f.e z (kwE k))) kws)))
    else .bad
  | none => .bad
def stMe (f : Rec) (z : Zx) (o : Expr) (name : Str) (apos cpos : Pos) (es : List Expr) : Ex :=
  if (apos.endLine == cpos.line) && noStars es && decide (es.length < 29) then
    (match o with
    | .Name x _ => (match z.ix x, es with
      | some i, [a] => if name = "pop" then .pop i (rdE z a (f.e z a)) else if name = "count" then .me .count (.pk i) (trL (fun e => rdE z e (f.e z e)) es) else if name = "index" then .me .index (.pk i) (trL (fun e => rdE z e (f.e z e)) es) else .bad
      | some i, a :: r => if name = "index" then .me .index (.pk i) (trL (fun e => rdE z e (f.e z e)) es) else .bad
      | _, _ => .bad)
    | _ => .bad)
  else .bad
def stI (f : Rec) (z : Zx) (tg iter : Expr) : I × Bool :=
  match rangeArgs z iter with
  | some as => (.rng (trL (fun e => rdE z e (f.e z e)) as), true)
  | none => (match tg, iter with
    | .Tuple .., .Call (.Name x _) [a] [] _ => if x = "enumerate" && z.bi "enumerate" && noStar a then (.enu (trL (fun e => (f.e z e)) [a]), true) else (.v (f.e z iter), true)
    | .Tuple .., .Call (.Name x _) [a, b] [] _ => if x = "zip" && z.bi "zip" && noStar a && noStar b then (.zip (trL (fun e => (f.e z e)) [a, b]), true) else (.v (f.e z iter), true)
    | _, _ => (.v (f.e z iter), true))
def stLc (f : Rec) (z : Zx) (elt : Expr) (gs : List Comprehension) (scope : Scope) : Ex :=
  match gs with
  | [⟨tg, iter, ifs, asy⟩] => if asy = 0 && blkC z.N z.sc scope (ownOf z.N scope) && noSet iter && decide (scope.kind = .function) then
      (match tgIx (z.blk scope) tg, ifs with
      | some (is, one), [] => if is.all (fun i => decide (i ∈ (ownOf z.N scope).map (·.2))) then .lc ((ownOf z.N scope).map (·.2)) is one (stI f z tg iter).1 .yes (f.e (z.blk scope) elt) else .bad
      | some (is, one), [c] => if is.all (fun i => decide (i ∈ (ownOf z.N scope).map (·.2))) then .lc ((ownOf z.N scope).map (·.2)) is one (stI f z tg iter).1 (f.t (z.blk scope) c) (f.e (z.blk scope) elt) else .bad
      | _, _ => .bad)
    else .bad
  | _ => .bad
def stSub (f : Rec) (z : Zx) (a b : Expr) : Ex := match b with
  | .Slice lo hi none _ => .sl (rdE z a (f.e z a)) (match lo with
    | none => .no
    | some e => .so (rdE z e (f.e z e))) (match hi with
    | none => .no
    | some e => .so (rdE z e (f.e z e)))
  | .Slice none none (some (.UnaryOp .USub (.Constant (.int 1) _ _) _)) _ => .rev (rdE z a (f.e z a))
  | .Slice .. => .bad
  | b => .ix (rdE z a (f.e z a)) (rdE z b (f.e z b))
def stE (f : Rec) (z : Zx) (e : Expr) : Ex := match e with
  | .Constant v _ _ => (match litC v with
    | some p => .lit p
    | none => .bad)
  | .Name x _ => (match z.ix x with
    | some i => .var i
    | none => if z.gl x then .glo x else .bad)
  | .BinOp a o b _ => (match o2Of o with
    | some o => .op o (rdE z a (f.e z a)) (rdE z b (f.e z b))
    | none => .bad)
  | .UnaryOp .USub a _ => .neg (rdE z a (f.e z a))
  | .UnaryOp .Not a _ => .nt (rdE z a (f.e z a))
  | .BoolOp _ [a] _ => (f.e z a)
  | .BoolOp .And (a :: b :: r) p => .and (rdE z a (f.e z a)) (f.e z (.BoolOp .And (b :: r) p))
  | .BoolOp .Or (a :: b :: r) p => .or (rdE z a (f.e z a)) (f.e z (.BoolOp .Or (b :: r) p))
  | .Compare a [o] [b] _ => if noSet b then .cm (cmOf o) (rdE z a (f.e z a)) (rdE z b (f.e z b)) else .bad
  | .Compare a [o, o'] [b, c] _ => if noSet c then .cm2 (cmOf o) (cmOf o') (rdE z a (f.e z a)) (rdE z b (f.e z b)) (rdE z c (f.e z c)) else .bad
  | .IfExp c a b _ => .ite (f.t z c) (f.e z a) (f.e z b)
  | .Tuple es _ _ => if noStars es then .tup (trL (fun e => (f.e z e)) es) else .bad
  | .List es _ => if noStars es then .lst (trL (fun e => (f.e z e)) es) else .bad
  | .Dict [] [] _ => .dct0
  | .Subscript a b _ => stSub f z a b
  | .Call (.Name x _) es kws _ => if z.gl x then (match z.sg.lookup x with
      | some q => stCal f z x q.1 q.2 es kws
      | none => if kws.isEmpty then stBlt f z x es else .bad) else .bad
  | .Call (.Attribute o name apos) es kws cpos => if kws.isEmpty then stMe f z o name apos cpos es else .bad
  | .ListComp elt gs scope _ => stLc f z elt gs scope
  | _ => .bad
def stT (f : Rec) (z : Zx) (e : Expr) : T := match e with
  | .BoolOp _ [a] _ => (f.t z a)
  | .BoolOp .And (a :: b :: r) p => .and (f.t z a) (f.t z (.BoolOp .And (b :: r) p))
  | .BoolOp .Or (a :: b :: r) p => .or (f.t z a) (f.t z (.BoolOp .Or (b :: r) p))
  | .UnaryOp .Not a _ => .nt (f.t z a)
  | .Compare a [o] [b] _ => if noSet b then .v (.cm (cmOf o) (rdE z a (f.e z a)) (rdE z b (f.e z b))) else .v .bad
  | .Compare a [o, o'] [b, c] _ => if noSet c then .v (.cm2 (cmOf o) (cmOf o') (rdE z a (f.e z a)) (rdE z b (f.e z b)) (rdE z c (f.e z c))) else .v .bad
  | e => if plainT e then .v (rdE z e (f.e z e)) else .v .bad
def tr : Nat → Rec
  | 0 => ⟨fun _ _ => .bad, fun _ _ => .v .bad⟩
  | n + 1 => ⟨stE (tr n), stT (tr n)⟩
end Mi
end
section
/-! Mi19: the translation of expressions is sound. -/
namespace Mi
open PySem PySem.Spec
open PyProof.Rows hiding St Fr
open L2

def Snd (f : Rec) : Prop := ∀ (X : Cx) (k : Nat) (C : Ct) (z : Zx) (e : Expr), XOk X k C z → PE X e (tE X.K C (f.e z e)) ∧ PT X e (tT X.K C (f.t z e)) ∧ ∀ op vs p, e = .BoolOp op vs p → PW X e (tT X.K C (f.t z e))
section
variable {X : Cx} {k : Nat} {C : Ct} {z : Zx} {e a b c : Expr} {es : List Expr} {pos : Pos} {f : Rec}
theorem hd_star (h : noStars (e :: es) = true) : noStar e = true := by
  have : noStar e = true ∧ noStars es = true := by simpa [noStars] using h
  exact this.1
theorem bad_pe : PE X e (tE X.K C .bad) := ⟨fun pins s σ H Q I ⟨F, st, od, st', r, e, q⟩ => by cases e⟩
theorem bad_pw : PW X e (tT X.K C (.v .bad)) := ⟨fun wh pins s σ H Q I ⟨F, st, od, st', r, e, q⟩ => by cases e⟩
theorem bad_pt : PT X e (tT X.K C (.v .bad)) := bad_pw.pt
theorem rd_pe {r : Ex} (h : XOk X k C z) (he : PE X e (tE X.K C r)) : PE X e (tE X.K C (rdE z e r)) := by
  unfold rdE
  split
  · split
    · rename_i i hi; exact me_pk (h.ix hi)
    · exact he
  · exact he
theorem L_pa {g : Expr → Ex} : ∀ {es : List Expr}, (∀ e ∈ es, PE X e (tE X.K C (g e))) → noStars es = true → PA X es (tN X.K C (trL g es))
  | [], _, _ => mn_nil
  | e :: es, h, hs => by
    have h' : noStar e = true ∧ noStars es = true := by simpa [noStars] using hs
    exact mn_cons h'.1 (h e (List.mem_cons_self ..)) (L_pa (fun x hx => h x (List.mem_cons_of_mem _ hx)) h'.2)
theorem L_len {g : Expr → Ex} : ∀ {es : List Expr} {st : En} {q : List Od × En}, evs C (trL g es) st = some q → q.1.length = es.length
  | [], _, _, e => by cases e; rfl
  | e :: es, st, q, h => by
    simp only [trL, evs, Option.bind_eq_some_iff, Option.map_eq_some_iff] at h
    obtain ⟨qa, _, qr, er, e⟩ := h
    subst e
    exact congrArg Nat.succ (L_len er)
theorem K_pk {g : Keyword → Ex} : ∀ {kws : List Keyword}, (∀ k ∈ kws, PE X (kwE k) (tE X.K C (g k))) → PK X kws (tA X.K C (trK g kws))
  | [], _ => mk_nil
  | ⟨nm, e, p⟩ :: ks, h => mk_cons (h _ (List.mem_cons_self ..)) (K_pk fun x hx => h x (List.mem_cons_of_mem _ hx))
theorem K_len {g : Keyword → Ex} : ∀ {kws : List Keyword} {ks : List Str} {st : En} {q : List Od × En}, kwNs kws = some ks → evs C (trK g kws) st = some q → q.1.length = ks.length
  | [], _, _, _, h, e => by cases h; cases e; rfl
  | ⟨some x, v, p⟩ :: kws, ks, st, q, h, e => by
    simp only [kwNs, Option.map_eq_some_iff] at h
    obtain ⟨r, h, rfl⟩ := h
    simp only [trK, evs, Option.bind_eq_some_iff, Option.map_eq_some_iff] at e
    obtain ⟨qa, _, qr, er, e⟩ := e
    subst e
    exact congrArg Nat.succ (K_len h er)
  | ⟨none, v, p⟩ :: kws, ks, st, q, h, e => by cases h
theorem kw_map : ∀ {kws : List Keyword} {ks : List Str}, kwNs kws = some ks → kws.map (·.arg) = ks.map some
  | [], _, h => by cases h; rfl
  | ⟨some x, v, p⟩ :: kws, ks, h => by
    simp only [kwNs, Option.map_eq_some_iff] at h
    obtain ⟨r, h, rfl⟩ := h
    rw [List.map_cons, List.map_cons, kw_map h]
  | ⟨none, v, p⟩ :: kws, ks, h => by cases h
theorem cmOf_op (o : CmpOp) : (cmOf o).op = o := by cases o <;> rfl
theorem o2Of_op {o : Operator} {p : O2} (h : o2Of o = some p) : p.op = o := by cases o <;> cases h <;> rfl
theorem biOf_ok {x : Str} {b : Bi} (h : biOf x = some b) : b.nm = x ∧ b ≠ .lrange ∧ b ≠ .trange := by
  unfold biOf at h
  have h1 := List.find?_some h
  have h2 := List.mem_of_find?_eq_some h
  refine ⟨by simpa using h1, ?_, ?_⟩
  · intro e; subst e; revert h2; unfold bis; simp
  · intro e; subst e; revert h2; unfold bis; simp
theorem tyOf_ok {t : Ty} (h : XOk X k C z) (e1 : tyOf z e = some t) : (∃ p, e = .Name t.s p) ∧ Gl X t.s ∧ X.mg t.s = none := by
  unfold tyOf at e1
  split at e1
  · rename_i x p
    split at e1
    · rename_i hb
      have := List.find?_some e1
      have hx : t.s = x := by simpa using this
      subst hx
      exact ⟨⟨p, rfl⟩, h.bi hb⟩
    · cases e1
  · cases e1
theorem tysOf_ok (h : XOk X k C z) : ∀ {es : List Expr} {l : List Ty}, tysOf z es = some l → (∀ t ∈ l, Gl X t.s ∧ X.mg t.s = none) ∧ Paired (fun (t : Ty) (e : Expr) => ∃ p, e = Expr.Name t.s p) l es
  | [], _, e => by cases e; exact ⟨(fun _ h => by cases h), .nil⟩
  | e :: es, l, h1 => by
    simp only [tysOf, Option.bind_eq_some_iff, Option.map_eq_some_iff] at h1
    obtain ⟨t, ht, r, hr, rfl⟩ := h1
    obtain ⟨g1, g2⟩ := tysOf_ok h hr
    obtain ⟨k1, k2⟩ := tyOf_ok h ht
    exact ⟨fun t' ht' => (List.mem_cons.mp ht').elim (fun e => e ▸ k2) (g1 t'), .cons k1 g2⟩
theorem tgIs_ok (h : XOk X k C z) : ∀ {es : List Expr} {is : List Nat}, tgIs z es = some is → StsOk X es is
  | [], _, e => by cases e; exact .nil
  | e :: es, is, h1 => by
    unfold tgIs at h1
    split at h1
    · rename_i e; cases e
    · rename_i e0 x p es0 e
      cases e
      simp only [Option.bind_eq_some_iff, Option.map_eq_some_iff] at h1
      obtain ⟨i, hi, r, hr, rfl⟩ := h1
      exact .cons (h.st hi) (tgIs_ok h hr)
    · cases h1
theorem tgIx_ok {tg : Expr} {q : List Nat × Bool} (h : XOk X k C z) (e : tgIx z tg = some q) : TgOk X tg q.1 q.2 := by
  unfold tgIx at e
  split at e
  · simp only [Option.map_eq_some_iff] at e
    obtain ⟨i, hi, rfl⟩ := e
    exact .one (h.st hi)
  · simp only [Option.map_eq_some_iff] at e
    obtain ⟨i, hi, rfl⟩ := e
    exact .tup (tgIs_ok h hi)
  · cases e
theorem rangeArgs_ok {as : List Expr} (h : XOk X k C z) (h1 : rangeArgs z e = some as) : Gl X "range" ∧ X.mg "range" = none ∧ ∃ p p2, (∃ a, as = [a] ∧ noStar a = true ∧ e = .Call (.Name "range" p) [a] [] p2) ∨ ∃ a b, as = [a, b] ∧ noStar a = true ∧ noStar b = true ∧ e = .Call (.Name "range" p) [a, b] [] p2 := by
  unfold rangeArgs at h1
  split at h1
  · rename_i x p es p2
    split at h1
    · rename_i hc
      cases h1
      simp only [Bool.and_eq_true, Bool.or_eq_true, decide_eq_true_eq] at hc
      obtain ⟨⟨⟨rfl, hb⟩, hs⟩, hl⟩ := hc
      refine ⟨(h.bi hb).1, (h.bi hb).2, p, p2, ?_⟩
      match as, hs, hl with
      | [], _, hl => simp at hl
      | [a], hs, _ => exact .inl ⟨a, rfl, by simpa [noStars] using hs, rfl⟩
      | [a, b], hs, _ =>
        have : noStar a = true ∧ noStar b = true := by simpa [noStars] using hs
        exact .inr ⟨a, b, rfl, this.1, this.2, rfl⟩
      | _ :: _ :: _ :: _, _, hl => simp at hl
    · cases h1
  · cases h1
theorem XOk.blk {scope : Scope} {s : Shared} {H : Hp} {A : Addr} {cl : List (Str × Addr)} {fp : List Addr} (h : XOk X k C z) (hk : scope.kind = .function) : XOk (X.blk s H scope (compEnvC scope cl A X.env) fp) k C (z.blk scope) where
  hn := h.hn
  nd := h.nd
  sc := by
    show relS scope X.env.scope = relS scope z.sc
    rw [h.sc]
  kd := hk
  fn := fun x e => e
  calm := h.calm
  room := h.room
  g := h.g
  bl := h.bl
  glo := h.glo
  cal := fun x q e => by
    obtain ⟨f, fd, qual, as, body, sc, c⟩ := h.cal x q e
    exact ⟨f, fd, qual, as, body, sc, c.ar, c.hf, c.fg, c.mg, c.db⟩
/-! ### the pieces are sound -/
theorem fE (hf : Snd f) (h : XOk X k C z) (e : Expr) : PE X e (tE X.K C (f.e z e)) := (hf X k C z e h).1
theorem fR (hf : Snd f) (h : XOk X k C z) (e : Expr) : PE X e (tE X.K C (rdE z e (f.e z e))) := rd_pe h (fE hf h e)
theorem fT (hf : Snd f) (h : XOk X k C z) (e : Expr) : PT X e (tT X.K C (f.t z e)) := (hf X k C z e h).2.1
theorem rg_pe (hf : Snd f) (h : XOk X k C z) {as : List Expr} (h1 : rangeArgs z e = some as) : PRg X e (tRg X.K C (trL (fun e => rdE z e (f.e z e)) as)) := by
  obtain ⟨gl, hm, p, p2, ⟨a, rfl, hs, rfl⟩ | ⟨a, b, rfl, hs, hs2, rfl⟩⟩ := rangeArgs_ok h h1
  · exact mrg_1 gl hm hs (fR hf h a)
  · exact mrg_2 gl hm hs hs2 (fR hf h a) (fR hf h b)
theorem rg_star {as : List Expr} (h1 : rangeArgs z e = some as) : noStar e = true := by
  unfold rangeArgs at h1
  split at h1
  · rfl
  · cases h1
theorem stBlt_ok (hf : Snd f) (h : XOk X k C z) {x : Str} {p : Pos} : PE X (.Call (.Name x p) es [] pos) (tE X.K C (stBlt f z x es)) := by
  have many : ∀ (b : Bi) (e : Expr) (r : List Expr), biOf x = some b → z.bi x = true → noStars (e :: r) = true → PE X (.Call (.Name x p) (e :: r) [] pos) (tE X.K C (.bi b (trL (fun e => rdE z e (f.e z e)) (e :: r)))) := fun b e r hb hx hs => by
    obtain ⟨e1, n1, n2⟩ := biOf_ok hb
    obtain ⟨gl, hm⟩ := h.bi hx
    subst e1
    exact me_bi h.room h.calm h.g b n1 n2 gl hm hs (ma_of_mn (L_pa (fun e _ => fR hf h e) hs))
  unfold stBlt
  split
  · rename_i hc
    simp only [Bool.and_eq_true] at hc
    obtain ⟨⟨hx, hs⟩, hne⟩ := hc
    split
    · rename_i hi
      subst hi
      obtain ⟨gl, hm⟩ := h.bi hx
      split
      · rename_i a ts x1 p2
        split
        · rename_i l hl
          split
          · rename_i hle
            obtain ⟨g1, g2⟩ := tysOf_ok h hl
            exact me_isaT hle (hd_star hs) gl hm g1 g2 (fR hf h a)
          · exact bad_pe
        · exact bad_pe
      · rename_i a t hne
        split
        · rename_i l hl
          obtain ⟨⟨p2, rfl⟩, g1, g2⟩ := tyOf_ok h hl
          exact me_isa (hd_star hs) gl hm g1 g2 (fR hf h a)
        · exact bad_pe
      · exact bad_pe
    · split
      · rename_i e
        split
        · rename_i as has
          split
          · rename_i hx2
            subst hx2
            obtain ⟨gl, hm⟩ := h.bi hx
            exact me_lrange h.calm gl hm (rg_star has) (rg_pe hf h has)
          · split
            · rename_i hx2
              subst hx2
              obtain ⟨gl, hm⟩ := h.bi hx
              exact me_trange h.calm gl hm (rg_star has) (rg_pe hf h has)
            · exact bad_pe
        · split
          · rename_i b hb; exact many b e [] hb hx hs
          · exact bad_pe
      · split
        · rename_i b hb
          cases es with
          | nil => simp at hne
          | cons e r => exact many b e r hb hx hs
        · exact bad_pe
  · exact bad_pe
theorem stCal_ok (hf : Snd f) (h : XOk X k C z) {x : Str} {p : Pos} {kws : List Keyword} {ps : List Str} {io : Bool} (gl : Gl X x) (hx : CallOk X k C x ps) : PE X (.Call (.Name x p) es kws pos) (tE X.K C (stCal f z x ps io es kws)) := by
  unfold stCal
  split
  · rename_i ks hk
    split
    · rename_i hc
      rw [Bool.and_eq_true] at hc
      split
      · refine me_call0 hx h.room h.g gl hc.1 (kw_map hk) (K_pk fun q _ => ?_) fun st os st' e => K_len (q := (os, st')) hk e
        split
        · exact fR hf h _
        · exact fE hf h _
      · rename_i e r
        have h' : noStar e = true ∧ noStars r = true := by simpa [noStars] using hc.2
        refine me_call hx h.room h.g gl hc.1 hc.2 (kw_map hk) (ma_of_mn (mn_cons h'.1 ?_ (L_pa (fun e _ => fE hf h e) h'.2))) (K_pk fun q _ => fE hf h _) (fun st os st' e => ?_) fun st os st' e => K_len (q := (os, st')) hk e
        · split
          · exact fR hf h _
          · exact fE hf h _
        · simp only [evs, Option.bind_eq_some_iff, Option.map_eq_some_iff] at e
          obtain ⟨qa, _, qr, er, e⟩ := e
          cases e
          exact congrArg Nat.succ (L_len er)
    · exact bad_pe
  · exact bad_pe
theorem stMe_ok (hf : Snd f) (h : XOk X k C z) {o : Expr} {name : Str} {apos cpos : Pos} : PE X (.Call (.Attribute o name apos) es [] cpos) (tE X.K C (stMe f z o name apos cpos es)) := by
  unfold stMe
  split
  · rename_i hc
    simp only [Bool.and_eq_true, decide_eq_true_eq] at hc
    obtain ⟨⟨hl, hs⟩, hn⟩ := hc
    have L : ∀ {es : List Expr}, noStars es = true → PA X es (tA X.K C (trL (fun e => rdE z e (f.e z e)) es)) := fun hs => ma_of_mn (L_pa (fun e _ => fR hf h e) hs)
    split
    · rename_i x p
      split
      · rename_i i a hi
        have nm := h.ix hi
        split
        · rename_i e; subst e
          exact me_pop nm (fR hf h a) (by simpa [noStars] using hs) hl
        · split
          · rename_i e; subst e
            exact me_me (m := .count) h.room (by simp) (me_pk nm) base_name (L hs) hs hn hl
          · split
            · rename_i e; subst e
              exact me_me (m := .index) h.room (by simp) (me_pk nm) base_name (L hs) hs hn hl
            · exact bad_pe
      · rename_i i a r _ hi
        split
        · rename_i e; subst e
          exact me_me (m := .index) h.room (by simp) (me_pk (h.ix hi)) base_name (L hs) hs hn hl
        · exact bad_pe
      · exact bad_pe
    · exact bad_pe
  · exact bad_pe
theorem tgIx_tup {tg : Expr} {q : List Nat × Bool} (e : tgIx z tg = some q) : ∀ es kk p, tg = .Tuple es kk p → q.2 = false := fun es kk p h => by
  subst h
  simp only [tgIx, Option.map_eq_some_iff] at e
  obtain ⟨i, _, rfl⟩ := e
  rfl
theorem stI_ok (hf : Snd f) (h : XOk X k C z) {tg iter : Expr} {one : Bool} (ht : ∀ es kk p, tg = .Tuple es kk p → one = false) : PI X tg iter (tI X.K C one (stI f z tg iter).1) := by
  have L : ∀ {es : List Expr}, noStars es = true → PA X es (tA X.K C (trL (fun e => rdE z e (f.e z e)) es)) := fun hs => ma_of_mn (L_pa (fun e _ => fR hf h e) hs)
  have L' : ∀ {es : List Expr}, noStars es = true → PA X es (tA X.K C (trL (fun e => (f.e z e)) es)) := fun hs => ma_of_mn (L_pa (fun e _ => fE hf h e) hs)
  unfold stI
  split
  · rename_i as has
    obtain ⟨gl, hm, p, p2, ⟨a, rfl, hs, rfl⟩ | ⟨a, b, rfl, hs, hs2, rfl⟩⟩ := rangeArgs_ok h has
    · exact mi_rng1 gl hm hs (L (by simp [noStars, hs])) fun st os st' e => L_len (q := (os, st')) e
    · exact mi_rng2 gl hm hs hs2 (L (by simp [noStars, hs, hs2])) fun st os st' e => L_len (q := (os, st')) e
  · split
    · split
      · rename_i hc
        simp only [Bool.and_eq_true, decide_eq_true_eq] at hc
        obtain ⟨⟨rfl, hb⟩, hs⟩ := hc
        cases ht _ _ _ rfl
        exact mi_enu (h.bi hb).1 (h.bi hb).2 hs (L' (by simp [noStars, hs]))
      · exact mi_v (fE hf h _)
    · split
      · rename_i hc
        simp only [Bool.and_eq_true, decide_eq_true_eq] at hc
        obtain ⟨⟨⟨rfl, hb⟩, hs⟩, hs2⟩ := hc
        cases ht _ _ _ rfl
        exact mi_zip (h.bi hb).1 (h.bi hb).2 hs hs2 (L' (by simp [noStars, hs, hs2]))
      · exact mi_v (fE hf h _)
    · exact mi_v (fE hf h _)
end
end Mi
end
section
/-! Mi20: the translation of expressions is sound, the whole step. -/
namespace Mi
open PySem PySem.Spec
open PyProof.Rows hiding St Fr
open L2

section
variable {X : Cx} {k : Nat} {C : Ct} {z : Zx} {e a b c : Expr} {es : List Expr} {pos : Pos} {f : Rec} {m : T}
theorem lc_make (hf : Snd f) (h : XOk X k C z) {elt tg iter : Expr} {ifs : List Expr} {scope : Scope} {q : List Nat × Bool} {c : T} (hb : blkC z.N z.sc scope (ownOf z.N scope) = true) (hs : noSet iter = true) (hk : scope.kind = .function)
    (ht : tgIx (z.blk scope) tg = some q) (hi : q.1.all (fun i => decide (i ∈ (ownOf z.N scope).map (·.2))) = true) (hc : ∀ (X' : Cx), XOk X' k C (z.blk scope) → PTs X' ifs (tT X'.K C c)) :
    LcOk X C elt tg iter ifs scope (ownOf z.N scope) q.1 q.2 (stI f z tg iter).1 c (f.e (z.blk scope) elt) where
  hi := stI_ok hf h (tgIx_tup ht)
  ok := by
    have := blkOk_by hb
    rw [← h.hn, ← h.sc] at this
    rw [← h.hn]
    exact this
  hg := fun s H A cl fp => pg_T h.calm h.nd (tgIx_ok (h.blk hk) ht)
  ht := fun s H A cl fp => hc _ (h.blk hk)
  he := fun s H A cl fp => fE hf (h.blk hk) elt
  hs := hs
  sub := fun i hi' => by simpa using List.all_eq_true.mp hi i hi'
/-- a comprehension, or nothing -/
def LcOr (X : Cx) (C : Ct) (elt : Expr) (gs : List Comprehension) (scope : Scope) (m : Ex) : Prop := m = .bad ∨ ∃ tg iter ifs own is one it c m', gs = [⟨tg, iter, ifs, 0⟩] ∧ LcOk X C elt tg iter ifs scope own is one it c m' ∧ m = .lc (own.map (·.2)) is one it c m'
theorem mt_yes {X : Cx} : PTs X [] (tT X.K C .yes) := ⟨fun pins s σ H Q I ⟨F, st, b, st', r, e, q⟩ => by
  cases e
  exact pts_nil.run pins s σ H Q I (q _ _ (Go.refl r))⟩
theorem stLc_ok (hf : Snd f) (h : XOk X k C z) {elt : Expr} {gs : List Comprehension} {scope : Scope} : LcOr X C elt gs scope (stLc f z elt gs scope) := by
  unfold stLc
  split
  · rename_i tg iter ifs asy
    split
    · rename_i hc
      simp only [Bool.and_eq_true, decide_eq_true_eq] at hc
      obtain ⟨⟨⟨rfl, hb⟩, hs⟩, hk⟩ := hc
      split
      · rename_i is one ht
        split
        · rename_i hi
          exact .inr ⟨tg, iter, [], _, is, one, _, _, _, rfl, lc_make (q := (is, one)) hf h hb hs hk ht hi fun X' _ => mt_yes, rfl⟩
        · exact .inl rfl
      · rename_i is one c ht
        split
        · rename_i hi
          exact .inr ⟨tg, iter, [c], _, is, one, _, _, _, rfl, lc_make (q := (is, one)) hf h hb hs hk ht hi fun X' h' => pts_one (fT hf h' c), rfl⟩
        · exact .inl rfl
      · exact .inl rfl
    · exact .inl rfl
  · exact .inl rfl
theorem me_lc {elt tg iter : Expr} {ifs : List Expr} {scope : Scope} {own : List (Str × Nat)} {is : List Nat} {one : Bool} {it : I} {c : T} {m : Ex} (h : XOk X k C z) (L : LcOk X C elt tg iter ifs scope own is one it c m) :
    PE X (.ListComp elt [⟨tg, iter, ifs, 0⟩] scope pos) (tE X.K C (.lc (own.map (·.2)) is one it c m)) :=
  pe_mono (pe_lc h.calm h.nd L.hi L.ok L.hg L.ht L.he (foldS L.hs)) fun σ H Q q => tLc_ok L.sub q
theorem lcOr_pe {elt : Expr} {gs : List Comprehension} {scope : Scope} {m : Ex} (h : XOk X k C z) (L : LcOr X C elt gs scope m) : PE X (.ListComp elt gs scope pos) (tE X.K C m) := by
  rcases L with rfl | ⟨tg, iter, ifs, own, is, one, it, c, m', rfl, L, rfl⟩
  · exact bad_pe
  · exact me_lc h L
theorem stSub_ok (hf : Snd f) (h : XOk X k C z) : PE X (.Subscript a b pos) (tE X.K C (stSub f z a b)) := by
  have O : ∀ (o : Option Expr), PO X o (tO X.K C (match o with
    | none => .no
    | some e => .so (rdE z e (f.e z e)))) := fun o => by
    cases o with
    | none => exact mo_none
    | some e => exact mo_some (fR hf h e)
  unfold stSub
  split
  · exact me_sl (fR hf h a) (O _) (O _)
  · exact me_rev (fR hf h a)
  · exact bad_pe
  · rename_i h1 h2 h3
    refine me_ix h.room ?_ (fR hf h a) (fR hf h b)
    cases b <;> first | rfl | exact absurd rfl (h3 _ _ _ _)
theorem me_one {op : BoolOp} {m : Ex} (h : PE X a (tE X.K C m)) : PE X (.BoolOp op [a] pos) (tE X.K C m) := pe_one h
theorem mt_one {op : BoolOp} {m : T} (h : PT X a (tT X.K C m)) : PW X (.BoolOp op [a] pos) (tT X.K C m) := by
  cases op with
  | And => exact pw_and1 h
  | Or => exact pw_or1 h
theorem stE_ok (hf : Snd f) (h : XOk X k C z) : PE X e (tE X.K C (stE f z e)) := by
  unfold stE
  split
  · split
    · rename_i p hp; exact me_lit hp
    · exact bad_pe
  · split
    · rename_i i hi; exact me_var (h.ix hi)
    · split
      · rename_i hg; exact me_glo (h.gl hg).1 (h.glo _) (h.gl hg).2
      · exact bad_pe
  · split
    · rename_i a o b p _ q hq
      have := me_op (pos := p) (o := q) (fR hf h a) (fR hf h b)
      rw [o2Of_op hq] at this
      exact this
    · exact bad_pe
  · exact me_neg (fR hf h _)
  · exact me_not (fR hf h _)
  · exact me_one (fE hf h _)
  · exact me_and (fR hf h _) (fE hf h _)
  · exact me_or (fR hf h _) (fE hf h _)
  · rename_i a o b p
    split
    · rename_i hs
      have := me_cm (pos := p) (o := cmOf o) h.room (fR hf h a) (fR hf h b) (nomarks hs)
      rw [cmOf_op] at this
      exact this
    · exact bad_pe
  · rename_i a o o' b c p
    split
    · rename_i hs
      have := me_cm2 (pos := p) (o := cmOf o) (o' := cmOf o') h.room (fR hf h a) (fR hf h b) (fR hf h c) (nomarks hs)
      rw [cmOf_op, cmOf_op] at this
      exact this
    · exact bad_pe
  · exact me_ite (fT hf h _) (fE hf h _) (fE hf h _)
  · split
    · rename_i hs; exact me_tup (ma_of_mn (L_pa (fun e _ => fE hf h e) hs))
    · exact bad_pe
  · split
    · rename_i hs; exact me_lst (ma_of_mn (L_pa (fun e _ => fE hf h e) hs))
    · exact bad_pe
  · exact me_dct0
  · exact stSub_ok hf h
  · rename_i x p es kws p2
    split
    · rename_i hg
      split
      · rename_i q hq; exact stCal_ok hf h (h.gl hg).1 (h.cal x q hq)
      · split
        · rename_i hk
          cases kws with
          | nil => exact stBlt_ok hf h
          | cons _ _ => cases hk
        · exact bad_pe
    · exact bad_pe
  · rename_i o name apos es kws cpos
    split
    · rename_i hk
      cases kws with
      | nil => exact stMe_ok hf h
      | cons _ _ => cases hk
    · exact bad_pe
  · exact lcOr_pe h (stLc_ok hf h)
  · exact bad_pe
theorem mt_cm2 {o o' : Cm} {ma mb mc : Ex} (hr : Room k X.A) (ha : PE X a (tE X.K C ma)) (hb : PE X b (tE X.K C mb)) (hc : PE X c (tE X.K C mc)) (hm : lastMarks [o.op, o'.op] [b, c] = false) :
    PT X (.Compare a [o.op, o'.op] [b, c] pos) (tT X.K C (.v (.cm2 o o' ma mb mc))) :=
  tE_test (σ := []) (H := fun _ => none) (Q := fun _ _ => True) (pt_chain (cm_ok hr o) (cm_ok hr o') ha hb hc hm) (fun σ H Q h => by
    obtain ⟨F, st, od, st', r, e, q⟩ := h
    simp only [evE, Option.bind_eq_some_iff] at e
    obtain ⟨qa, ea, qb, eb, x, ex, y, ey, z, ez, e⟩ := e
    refine tE_two r ea eb fun u v F' H' g ra rb => ⟨F', x, y, z, g.rel.le, ra.rd g.rel ex, rb.rd g.rel ey, ez, z, rfl, ?_⟩
    cases z with
    | false =>
      cases e
      exact iteF (q _ _ _ (Res.den g (Dn.bl _)))
    | true =>
      rw [if_pos rfl] at e
      simp only [Option.bind_eq_some_iff, Option.map_eq_some_iff] at e
      obtain ⟨qc, ec, y', ey', u', eu', z', ez', e⟩ := e
      cases e
      refine iteT ⟨F', qb.2, qc.1, qc.2, g.rel, ec, fun w F2 H2 rc => ?_⟩
      exact ⟨F2, y', u', z', rc.go.rel.le, (rb.step rc.go).rd rc.go.rel ey', rc.rel.rd rc.go.rel eu', ez', q _ _ _ (Res.den (g.trans rc.go) (Dn.bl _))⟩) fun _ _ _ _ _ h _ _ => cm2_ofB h
theorem stT_ok (hf : Snd f) (h : XOk X k C z) : PT X e (tT X.K C (stT f z e)) ∧ ∀ op vs p, e = .BoolOp op vs p → PW X e (tT X.K C (stT f z e)) := by
  unfold stT
  split
  · have := mt_one (op := ‹BoolOp›) (pos := ‹Pos›) (fT hf h ‹Expr›)
    exact ⟨this.pt, fun _ _ _ _ => this⟩
  · rename_i a b r p
    have := mt_and (pos := p) (fT hf h a) ((hf X k C z (.BoolOp .And (b :: r) p) h).2.2 _ _ _ rfl)
    exact ⟨this.pt, fun _ _ _ _ => this⟩
  · rename_i a b r p
    have := mt_or (pos := p) (fT hf h a) ((hf X k C z (.BoolOp .Or (b :: r) p) h).2.2 _ _ _ rfl)
    exact ⟨this.pt, fun _ _ _ _ => this⟩
  · exact ⟨mt_not (fT hf h _), fun _ _ _ e => by cases e⟩
  · rename_i a o b p
    refine ⟨?_, fun _ _ _ e => by cases e⟩
    split
    · rename_i hs
      have := mt_cm (pos := p) (o := cmOf o) h.room (fR hf h a) (fR hf h b) (nomarks hs)
      rw [cmOf_op] at this
      exact this
    · exact bad_pt
  · rename_i a o o' b c p
    refine ⟨?_, fun _ _ _ e => by cases e⟩
    split
    · rename_i hs
      have := mt_cm2 (pos := p) (o := cmOf o) (o' := cmOf o') h.room (fR hf h a) (fR hf h b) (fR hf h c) (nomarks hs)
      rw [cmOf_op, cmOf_op] at this
      exact this
    · exact bad_pt
  · split
    · rename_i hp
      exact ⟨mt_v hp (fR hf h _), fun _ _ _ e => by subst e; cases hp⟩
    · exact ⟨bad_pt, fun _ _ _ _ => bad_pw⟩
theorem snd_tr : ∀ n, Snd (tr n)
  | 0 => fun X k C z e h => ⟨bad_pe, bad_pt, fun _ _ _ _ => bad_pw⟩
  | n + 1 => fun X k C z e h => ⟨stE_ok (snd_tr n) h, (stT_ok (snd_tr n) h).1, (stT_ok (snd_tr n) h).2⟩
end
end Mi
end
section
/-! Mi21: the translation of statements, and that it is sound. -/
namespace Mi
open PySem PySem.Spec
open PyProof.Rows hiding St Fr
open L2

def noTup : Expr → Bool
  | .Tuple .. => false
  | _ => true
def strd : Expr → Bool
  | .Starred .. => true
  | _ => false
def isLc (z : Zx) (x : Str) : Bool := decide (z.sc.names.lookup x = some .local)
/-- a, b = c, d stored from the right -/
def swB (vs : List Expr) : Bool := !(vs.any strd) && !(vs.all (foldedForSure 8)) && !(vs.all (constantsAlone 8))
def isLC : Expr → Bool
  | .ListComp .. => true
  | _ => false
def asgS (f : Rec) (z : Zx) (tg e : Expr) : S := match tg, e with
  | .Name x _, e => if noComp e || isLC e then (match z.st x with
    | some i => .asg i (f.e z e)
    | none => .raise) else .raise
  | .Subscript (.Name x _) b _, e => if noSlice b && noComp e then (match z.ix x with
    | some i => .setI i (rdE z b (f.e z b)) (f.e z e)
    | none => .raise) else .raise
  | .Tuple [.Name x px, .Name y py] kt pt, .Tuple [a, b] k2 pt2 => if isLc z x && isLc z y && decide (x ≠ y) && (py.line == px.line) && noStars [a, b] && swB [a, b] then (match z.st x, z.st y with
      | some i, some j => if i ≠ j then .par [i, j] (trL (fun e => (f.e z e)) [a, b]) else .raise
      | _, _ => .raise)
    else if [a, b].all (foldedForSure 8) then (match tgIs z [.Name x px, .Name y py] with
      | some is => .asgT is (f.e z (.Tuple [a, b] k2 pt2))
      | none => .raise)
    else if !(isLc z x && isLc z y && (py.line == px.line)) && noStars [a, b] then (match tgIs z [.Name x px, .Name y py] with
      | some is => if is.length < 100 then .par is (trL (fun e => (f.e z e)) [a, b]) else .raise
      | none => .raise) else .raise
  | .Tuple [.Name x px, .Name y py, .Name w pw] kt pt, .Tuple [a, b, c] k2 pt2 => if isLc z x && isLc z y && isLc z w && decide (x ≠ y) && decide (x ≠ w) && decide (y ≠ w) && (py.line == px.line) && (pw.line == px.line) && noStars [a, b, c] && swB [a, b, c] then (match z.st x, z.st y, z.st w with
      | some i, some j, some l => if i ≠ j ∧ i ≠ l ∧ j ≠ l then .par [i, j, l] (trL (fun e => (f.e z e)) [a, b, c]) else .raise
      | _, _, _ => .raise)
    else if [a, b, c].all (foldedForSure 8) then (match tgIs z [.Name x px, .Name y py, .Name w pw] with
      | some is => .asgT is (f.e z (.Tuple [a, b, c] k2 pt2))
      | none => .raise)
    else if !(isLc z x && isLc z y && isLc z w && (py.line == px.line) && (pw.line == px.line)) && noStars [a, b, c] then (match tgIs z [.Name x px, .Name y py, .Name w pw] with
      | some is => if is.length < 100 then .par is (trL (fun e => (f.e z e)) [a, b, c]) else .raise
      | none => .raise) else .raise
  | .Tuple [.Subscript (.Name x p) (.Constant (.int kn) kk kp) sp, .Name y yp] tk tp, e => if noTup e && noComp e then (match z.ix x, z.st y with
    | some i, some j => .divI i kn j (rdE z e (f.e z e))
    | _, _ => .raise) else .raise
  | .Tuple es k p, e => if noTup e && noComp e then (match tgIs z es with
    | some is => .asgT is (rdE z e (f.e z e))
    | none => .raise) else .raise
  | _, _ => .raise
def exprS (f : Rec) (z : Zx) (e : Expr) : S := match e with
  | .Constant (.str _) _ _ => .pass
  | .Call (.Attribute (.Name x p) name apos) [a] [] cpos => if name = "append" ∧ (apos.endLine == cpos.line) = true ∧ noStar a = true then (match z.ix x with
      | some i => .app i (f.e z a)
      | none => .raise)
    else if name = "extend" ∧ (apos.endLine == cpos.line) = true ∧ noStar a = true then (match z.ix x with
      | some i => .ext i (rdE z a (f.e z a))
      | none => .raise)
    else .ex (f.e z e)
  | .Call (.Attribute (.Name x p) name apos) [a, b] [] cpos => if name = "setdefault" ∧ (apos.endLine == cpos.line) = true ∧ noStar a = true ∧ noStar b = true then (match z.ix x with
      | some i => .sdf i (rdE z a (f.e z a)) (f.e z b)
      | none => .raise)
    else .ex (f.e z e)
  | e => if noComp e then .ex (f.e z e) else .raise
def retS (f : Rec) (z : Zx) (e : Expr) : S := match e with
  | .Name x _ => (match z.ix x with
    | some i => .retv i
    | none => .ret (f.e z e))
  | e => .ret (f.e z e)
def ssL (g : Stmt → S) : List Stmt → Ss
  | [] => .nil
  | s :: r => .cons (g s) (ssL g r)
def augOf : Operator → Option O2
  | .Add => some .add
  | .Sub => some .sub
  | _ => none
def stS (f : Rec) (z : Zx) (g : Stmt → S) (s : Stmt) : S := match s with
  | .Assign [tg] e _ => asgS f z tg e
  | .Expr e _ => exprS f z e
  | .Return none _ => .retN
  | .Return (some e) _ => retS f z e
  | .Pass _ => .pass
  | .Break _ => .brk
  | .Continue _ => .cont
  | .If c a b _ => .ifs (f.t z c) (ssL g a) (ssL g b)
  | .While c b [] _ => .whl (f.t z c) (ssL g b)
  | .For tg iter b [] _ => if noSet iter then (match tgIx z tg with
    | some q => .fr q.1 q.2 (stI f z tg iter).1 (ssL g b)
    | none => .raise) else .raise
  | .AugAssign (.Name x _) op e _ => (match z.st x, augOf op with
    | some i, some o => .aug i o (rdE z e (f.e z e))
    | _, _ => .raise)
  | _ => .raise
def trS (f : Rec) (z : Zx) : Nat → Stmt → S
  | 0, _ => .raise
  | n + 1, s => stS f z (trS f z n) s

section
variable {X : Cx} {k : Nat} {C : Ct} {z : Zx} {e a b c : Expr} {es : List Expr} {pos : Pos} {f : Rec} {st : Stmt}
theorem blkK (h : XOk X k C z) : X.env.blockKind = .function := by
  have hk : X.env.scope.kind = .function := by rw [h.sc]; exact h.kd
  unfold Env.blockKind
  rw [hk]
  rfl
theorem sw_notup {tg : Expr} {env : Env} (h : noTup e = true) : swappedStores [tg] e env = pure none := by
  cases e <;> cases tg <;> first | rfl | cases h
theorem sw_fold2 {x y w u : Expr} {kt k2 : Nat} {pt pt2 : Pos} {env : Env} (h : [a, b].all (foldedForSure 8) = true) : swappedStores [.Tuple [x, y] kt pt] (.Tuple [a, b] k2 pt2) env = pure none := by
  unfold swappedStores
  simp only [h, if_true]
  split <;> first | rfl | (split <;> first | rfl | (split <;> rfl))
theorem sw_fold3 {x y w : Expr} {kt k2 : Nat} {pt pt2 : Pos} {env : Env} (h : [a, b, c].all (foldedForSure 8) = true) : swappedStores [.Tuple [x, y, w] kt pt] (.Tuple [a, b, c] k2 pt2) env = pure none := by
  unfold swappedStores
  simp only [h, if_true]
  split <;> first | rfl | (split <;> first | rfl | (split <;> rfl))
theorem lc_ok {x : Str} (h : XOk X k C z) (e : isLc z x = true) : X.env.kindOf x = some .local := by
  show X.env.scope.names.lookup x = _
  rw [h.sc]
  unfold isLc at e
  exact of_decide_eq_true e
theorem st_ok2 (h : XOk X k C z) {es : List Expr} {is : List Nat} (e : tgIs z es = some is) : ∀ kk p, TgOk X (.Tuple es kk p) is false := fun kk p => .tup (tgIs_ok h e)
theorem any_strd {vs : List Expr} {g : Expr → Bool} (hg : ∀ e, g e = strd e) (h : vs.any strd = false) : ¬ (vs.any g = true) := by
  rw [funext hg, h]
  exact Bool.false_ne_true
theorem sw_par2 {x y : Str} {px py pt pt2 : Pos} {kt k2 : Nat} (h : XOk X k C z) (hx : isLc z x = true) (hy : isLc z y = true) (hne : x ≠ y) (hl : (py.line == px.line) = true) (hs : swB [a, b] = true) :
    swappedStores [.Tuple [.Name x px, .Name y py] kt pt] (.Tuple [a, b] k2 pt2) X.env = pure (some [x, y]) := by
  unfold swB at hs
  simp only [Bool.and_eq_true, Bool.not_eq_true'] at hs
  obtain ⟨⟨h1, h2⟩, h3⟩ := hs
  have e1 := lc_ok h hx
  have e2 := lc_ok h hy
  have hl' : py.line = px.line := by simpa using hl
  have hne' : (y == x) = false := by simpa using fun e => hne e.symm
  have hne2 : (x == y) = false := by simpa using hne
  unfold swappedStores
  simp only [blkK h]
  rw [if_neg (by simp), if_neg (any_strd ?_ h1), h2, h3]
  · simp [e1, e2, hl', Expr.pos, List.eraseDups, List.eraseDupsBy, List.eraseDupsBy.loop, hne', hne2]
  · intro e; cases e <;> rfl
theorem sw_par3 {x y w : Str} {px py pw pt pt2 : Pos} {kt k2 : Nat} (h : XOk X k C z) (hx : isLc z x = true) (hy : isLc z y = true) (hw : isLc z w = true) (hxy : x ≠ y) (hxw : x ≠ w) (hyw : y ≠ w) (hl : (py.line == px.line) = true) (hl2 : (pw.line == px.line) = true) (hs : swB [a, b, c] = true) :
    swappedStores [.Tuple [.Name x px, .Name y py, .Name w pw] kt pt] (.Tuple [a, b, c] k2 pt2) X.env = pure (some [x, y, w]) := by
  unfold swB at hs
  simp only [Bool.and_eq_true, Bool.not_eq_true'] at hs
  obtain ⟨⟨h1, h2⟩, h3⟩ := hs
  have e1 := lc_ok h hx
  have e2 := lc_ok h hy
  have e3 := lc_ok h hw
  have hl' : py.line = px.line := by simpa using hl
  have hl2' : pw.line = px.line := by simpa using hl2
  have n1 : (y == x) = false := by simpa using fun e => hxy e.symm
  have n2 : (w == x) = false := by simpa using fun e => hxw e.symm
  have n3 : (w == y) = false := by simpa using fun e => hyw e.symm
  unfold swappedStores
  simp only [blkK h]
  rw [if_neg (by simp), if_neg (any_strd ?_ h1), h2, h3]
  · simp [e1, e2, e3, hl', hl2', Expr.pos, List.eraseDups, List.eraseDupsBy, List.eraseDupsBy.loop, n1, n2, n3]
  · intro e; cases e <;> rfl
end
theorem loc_eq {X : Cx} {k : Nat} {C : Ct} {z : Zx} (h : XOk X k C z) (x : Str) : (X.env.kindOf x == some .local) = isLc z x := by
  show (X.env.scope.names.lookup x == some .local) = _
  rw [h.sc]
  unfold isLc
  cases z.sc.names.lookup x with
  | none => rfl
  | some k => cases k <;> rfl
theorem sw_cell2 {X : Cx} {k : Nat} {C : Ct} {z : Zx} {a b : Expr} {x y : Str} {px py pt pt2 : Pos} {kt k2 : Nat} (h : XOk X k C z) (hc : (isLc z x && isLc z y && (py.line == px.line)) = false) :
    swappedStores [.Tuple [.Name x px, .Name y py] kt pt] (.Tuple [a, b] k2 pt2) X.env = pure none := by
  have kx := loc_eq h x
  have ky := loc_eq h y
  unfold swappedStores
  simp only [blkK h]
  rw [if_neg (by simp)]
  split
  · rfl
  · rw [if_pos]
    cases hx : isLc z x <;> cases hy : isLc z y <;> cases hl : (py.line == px.line) <;> simp_all [Expr.pos]
theorem sw_cell3 {X : Cx} {k : Nat} {C : Ct} {z : Zx} {a b c : Expr} {x y w : Str} {px py pw pt pt2 : Pos} {kt k2 : Nat} (h : XOk X k C z) (hc : (isLc z x && isLc z y && isLc z w && (py.line == px.line) && (pw.line == px.line)) = false) :
    swappedStores [.Tuple [.Name x px, .Name y py, .Name w pw] kt pt] (.Tuple [a, b, c] k2 pt2) X.env = pure none := by
  have kx := loc_eq h x
  have ky := loc_eq h y
  have kw := loc_eq h w
  unfold swappedStores
  simp only [blkK h]
  rw [if_neg (by simp)]
  split
  · rfl
  · rw [if_pos]
    cases hx : isLc z x <;> cases hy : isLc z y <;> cases hw : isLc z w <;> cases hl : (py.line == px.line) <;> cases hl2 : (pw.line == px.line) <;> simp_all [Expr.pos]
end Mi
end
section
/-! Mi22: statements, sound. -/
namespace Mi
open PySem PySem.Spec
open PyProof.Rows hiding St Fr
open L2

/-- a translation of expressions that is sound, of comprehensions too -/
structure Snd2 (f : Rec) : Prop where
  e : Snd f
  lc : ∀ (X : Cx) (k : Nat) (C : Ct) (z : Zx) (elt : Expr) (gs : List Comprehension) (scope : Scope) (p : Pos), XOk X k C z → LcOr X C elt gs scope (f.e z (.ListComp elt gs scope p))
theorem snd2_tr : ∀ n, Snd2 (tr n)
  | 0 => ⟨snd_tr 0, fun _ _ _ _ _ _ _ _ _ => .inl rfl⟩
  | n + 1 => ⟨snd_tr (n + 1), fun _ _ _ _ _ _ _ _ h => stLc_ok (snd_tr n) h⟩
section
variable {X : Cx} {k : Nat} {C : Ct} {z : Zx} {e a b c : Expr} {es : List Expr} {pos : Pos} {f : Rec} {st : Stmt}
theorem asg_read {te : TE} {ma : Ex} {i : Nat} (w : ∀ σ H Q, tE X.K C ma σ H Q → te σ H Q) : ∀ D σ H, tS X.K C (.asg i ma) D σ H → tAsg te (gName i) D σ H := fun D σ H ⟨F, st, o, st', r, e, q⟩ => by
  simp only [exS, Option.bind_eq_some_iff, Option.map_eq_some_iff] at e
  obtain ⟨qa, ea, s, es, e⟩ := e
  cases e
  exact w σ H _ ⟨F, st, qa.1, qa.2, r, ea, fun v F1 H1 ra => q _ _ _ (ra.store es)⟩
theorem sw_lc {elt : Expr} {gs : List Comprehension} {scope : Scope} {pos py : Pos} {y : Str} {l : Nat} {env : Env} : swapsWith (.ListComp elt gs scope pos) (some (.Name y py)) l env =
    pure (env.blockKind == .function && env.kindOf y == some .local && py.line == pos.line && !(scope.names.any fun (n, k) => n == y && (k == .local || k == .cell))) := rfl
theorem asg_lc (h : XOk X k C z) {elt : Expr} {gs : List Comprehension} {scope : Scope} {p lp : Pos} {x : Str} {i : Nat} {m : Ex} (hs : StOk X x i) (L : LcOr X C elt gs scope m) : PS X (.Assign [.Name x p] (.ListComp elt gs scope lp) pos) (tS X.K C (.asg i m)) := by
  rcases L with rfl | ⟨tg, iter, ifs, own, is, one, it, c, m', rfl, L, rfl⟩
  · exact ⟨fun pins s σ H D I ⟨F, st, o, st', r, e, q⟩ => by simp only [exS] at e; cases e⟩
  · cases hb : (X.env.blockKind == .function && X.env.kindOf x == some .local && p.line == lp.line && !(scope.names.any fun (n, k) => n == x && (k == .local || k == .cell))) with
    | true =>
      have hl : X.env.scope.names.lookup x = some .local := by
        simp only [Bool.and_eq_true, beq_iff_eq] at hb
        exact hb.1.1.2
      exact ps_mono (ps_setLc h.calm h.nd hs.ix hl (by rw [sw_lc, hb]) L.hi L.ok L.hg L.ht L.he (foldS L.hs)) (asg_read fun σ H Q q => tLc_ok L.sub q)
    | false =>
      exact ps_mono (ps_set h.nd hs.ix hs.loc (pe_lc h.calm h.nd L.hi L.ok L.hg L.ht L.he (foldS L.hs)) (by rw [sw_lc, hb]) hs.fn) (asg_read fun σ H Q q => tLc_ok L.sub q)
theorem asg_any (hf : Snd2 f) (h : XOk X k C z) {x : Str} {p : Pos} {i : Nat} (hc : (noComp e || isLC e) = true) (hs : StOk X x i) : PS X (.Assign [.Name x p] e pos) (tS X.K C (.asg i (f.e z e))) := by
  rw [Bool.or_eq_true] at hc
  rcases hc with hc | hc
  · exact ms_asg h.nd hs hc (fE hf.e h e)
  · cases e with
    | ListComp elt gs scope lp => exact asg_lc h hs (hf.lc X k C z elt gs scope lp h)
    | _ => cases hc
theorem asgS_ok (hf : Snd2 f) (h : XOk X k C z) {tg : Expr} : PS X (.Assign [tg] e pos) (tS X.K C (asgS f z tg e)) := by
  have E := fun e => fE hf.e h e
  have R := fun e => fR hf.e h e
  have L : ∀ {es : List Expr}, noStars es = true → PA X es (tN X.K C (trL (fun e => (f.e z e)) es)) := fun hs => L_pa (fun e _ => E e) hs
  unfold asgS
  split
  · split
    · rename_i hc
      split
      · rename_i i hi
        exact asg_any hf h hc (h.st hi)
      · exact ms_raise
    · exact ms_raise
  · split
    · rename_i hc
      rw [Bool.and_eq_true] at hc
      split
      · rename_i i hi; exact ms_setI h.room (h.ix hi) hc.1 hc.2 (E _) (R _)
      · exact ms_raise
    · exact ms_raise
  · rename_i x px y py kt pt a b k2 pt2
    split
    · rename_i hc
      simp only [Bool.and_eq_true, decide_eq_true_eq] at hc
      obtain ⟨⟨⟨⟨⟨h1, h2⟩, h3⟩, h4⟩, h5⟩, h6⟩ := hc
      split
      · rename_i i j hi hj
        split
        · rename_i hij
          exact ms_par2 h.calm h.nd (h.st hi).ix (h.st hj).ix hij (lc_ok h h1) (lc_ok h h2) (L h5) (sw_par2 h h1 h2 h3 h4 h6)
        · exact ms_raise
      · exact ms_raise
    · split
      · rename_i hc
        split
        · rename_i is his
          exact ms_asgT h.calm h.nd (st_ok2 h his kt pt) rfl (sw_fold2 (w := a) (u := a) hc) (E _)
        · exact ms_raise
      · split
        · rename_i hc
          rw [Bool.and_eq_true, Bool.not_eq_true'] at hc
          split
          · rename_i is his
            split
            · rename_i few
              exact ms_parT h.calm h.nd (tgIs_ok h his) (L hc.2) few (sw_cell2 h hc.1)
            · exact ms_raise
          · exact ms_raise
        · exact ms_raise
  · rename_i x px y py w pw kt pt a b c k2 pt2
    split
    · rename_i hc
      simp only [Bool.and_eq_true, decide_eq_true_eq] at hc
      obtain ⟨⟨⟨⟨⟨⟨⟨⟨⟨h1, h2⟩, h3⟩, h4⟩, h5⟩, h6⟩, h7⟩, h8⟩, h9⟩, h10⟩ := hc
      split
      · rename_i i j l hi hj hl
        split
        · rename_i hd
          exact ms_par3 h.calm h.nd (h.st hi).ix (h.st hj).ix (h.st hl).ix hd.1 hd.2.1 hd.2.2 (lc_ok h h1) (lc_ok h h2) (lc_ok h h3) (L h9) (sw_par3 h h1 h2 h3 h4 h5 h6 h7 h8 h10)
        · exact ms_raise
      · exact ms_raise
    · split
      · rename_i hc
        split
        · rename_i is his
          exact ms_asgT h.calm h.nd (st_ok2 h his kt pt) rfl (sw_fold3 hc) (E _)
        · exact ms_raise
      · split
        · rename_i hc
          rw [Bool.and_eq_true, Bool.not_eq_true'] at hc
          split
          · rename_i is his
            split
            · rename_i few
              exact ms_parT h.calm h.nd (tgIs_ok h his) (L hc.2) few (sw_cell3 h hc.1)
            · exact ms_raise
          · exact ms_raise
        · exact ms_raise
  · split
    · rename_i hc
      rw [Bool.and_eq_true] at hc
      split
      · rename_i i j hi hj
        exact ms_divI h.calm h.nd (h.ix hi) (h.st hj) hc.2 (sw_notup hc.1) (R _)
      · exact ms_raise
    · exact ms_raise
  · split
    · rename_i hc
      rw [Bool.and_eq_true] at hc
      split
      · rename_i is his
        exact ms_asgT h.calm h.nd (st_ok2 h his _ _) hc.2 (sw_notup hc.1) (R _)
      · exact ms_raise
    · exact ms_raise
  · exact ms_raise
theorem exprS_ok (hf : Snd2 f) (h : XOk X k C z) : PS X (.Expr e pos) (tS X.K C (exprS f z e)) := by
  have E := fun e => fE hf.e h e
  have R := fun e => fR hf.e h e
  unfold exprS
  split
  · exact ms_doc
  · rename_i x p name apos a cpos
    split
    · rename_i hc
      obtain ⟨rfl, h1, h2⟩ := hc
      split
      · rename_i i hi; exact ms_app (h.ix hi) (E a) h2 h1
      · exact ms_raise
    · split
      · rename_i hc
        obtain ⟨rfl, h1, h2⟩ := hc
        split
        · rename_i i hi; exact ms_ext (h.ix hi) (R a) h2 h1
        · exact ms_raise
      · exact ms_ex rfl (E _)
  · split
    · rename_i hc
      obtain ⟨rfl, h1, h2, h3⟩ := hc
      split
      · rename_i i hi; exact ms_sdf (h.ix hi) (R _) (E _) h2 h3 h1
      · exact ms_raise
    · exact ms_ex rfl (E _)
  · split
    · rename_i hn; exact ms_ex hn (E _)
    · exact ms_raise
theorem retS_ok (hf : Snd2 f) (h : XOk X k C z) : PS X (.Return (some e) pos) (tS X.K C (retS f z e)) := by
  unfold retS
  split
  · split
    · rename_i i hi; exact ms_retv (h.ix hi)
    · exact ms_ret (fE hf.e h _)
  · exact ms_ret (fE hf.e h _)
theorem ssL_ok {g : Stmt → S} (hg : ∀ s, PS X s (tS X.K C (g s))) : ∀ ss : List Stmt, PSs X ss (tSs X.K C (ssL g ss))
  | [] => ms_nil
  | s :: ss => ms_cons (hg s) (ssL_ok hg ss)
theorem augOf_ok {o : Operator} {p : O2} (h : augOf o = some p) : p.op = o ∧ (p = .add ∨ p = .sub) := by
  cases o <;> cases h
  · exact ⟨rfl, .inl rfl⟩
  · exact ⟨rfl, .inr rfl⟩
theorem stS_ok (hf : Snd2 f) (h : XOk X k C z) (hp : PassesOwn (model X.prog X.w) X.A X.env X.xe) {g : Stmt → S} (hg : ∀ s, PS X s (tS X.K C (g s))) : PS X st (tS X.K C (stS f z g st)) := by
  unfold stS
  split
  · exact asgS_ok hf h
  · exact exprS_ok hf h
  · exact ms_retN
  · exact retS_ok hf h
  · exact ms_pass
  · exact ms_brk
  · exact ms_cont
  · exact ms_if (fT hf.e h _) (ssL_ok hg _) (ssL_ok hg _)
  · exact ms_while hp (fT hf.e h _) (ssL_ok hg _)
  · split
    · rename_i hs
      split
      · rename_i q hq
        exact ms_for hp h.calm h.nd (tgIx_ok h hq) (stI_ok hf.e h (tgIx_tup hq)) hs (ssL_ok hg _)
      · exact ms_raise
    · exact ms_raise
  · split
    · rename_i i o hi ho
      obtain ⟨e1, e2⟩ := augOf_ok ho
      subst e1
      exact ms_aug e2 h.nd (h.st hi) (fR hf.e h _)
    · exact ms_raise
  · exact ms_raise
theorem trS_ok (hf : Snd2 f) (h : XOk X k C z) (hp : PassesOwn (model X.prog X.w) X.A X.env X.xe) : ∀ (n : Nat) (st : Stmt), PS X st (tS X.K C (trS f z n st))
  | 0, _ => ms_raise
  | n + 1, _ => stS_ok hf h hp (trS_ok hf h hp n)
end
end Mi
end
section
/-! Mi23: the text's defs. -/
namespace Mi
open PySem PySem.Spec
open PyProof.Rows hiding St Fr
open L2

structure Df where
  x : Str
  as : List Arg
  body : List Stmt
  scope : Scope
  N : List Str
  io : Bool
abbrev Df.ps (d : Df) : List Str := d.as.map (·.arg)
def sgOf (ds : List Df) : List (Str × List Str × Bool) := ds.map fun d => (d.x, d.ps, d.io)
def Df.zx (d : Df) (sg : List (Str × List Str × Bool)) (bl : List Str) : Zx := ⟨d.N, d.scope, fun _ => true, sg, bl⟩
def Df.fd (d : Df) (sg : List (Str × List Str × Bool)) (bl : List Str) (m : Nat) : Fd := ⟨d.ps, d.N.length, d.io, ssL (trS (tr m) (d.zx sg bl) m) d.body⟩
def tabOf (ds : List Df) (gl : List (Str × PyData)) (bl : List Str) (m : Nat) : Tab := ⟨ds.map fun d => (d.x, d.fd (sgOf ds) bl m), gl⟩
def Df.okB (d : Df) : Bool := decide (d.scope.kind = .function) && !d.scope.isCoroutine && !d.scope.isGenerator && decide d.N.Nodup && decide (d.N.take d.ps.length = d.ps) &&
  (d.ps.all fun x => decide (d.scope.names.lookup x = some .local) || decide (d.scope.names.lookup x = some .cell)) && (d.scope.names.all fun y => !(y.2 == .free)) && !(d.x == ("__debug__" : Str)) && decide (d.io = true → d.ps ≠ [])
theorem Df.scp {d : Df} (h : d.okB = true) : FnScope d.N d.ps d.scope ∧ (d.x == ("__debug__" : Str)) = false ∧ (d.io = true → d.ps ≠ []) := by
  unfold Df.okB at h
  simp only [Bool.and_eq_true, decide_eq_true_eq, Bool.not_eq_true', List.all_eq_true, Bool.or_eq_true] at h
  obtain ⟨⟨⟨⟨⟨⟨⟨⟨h1, h2⟩, h3⟩, h4⟩, h5⟩, h6⟩, h7⟩, h8⟩, h9⟩ := h
  exact ⟨⟨h1, h2, h3, h4, h5, h6, fun y hy e => by have := h7 y hy; rw [e] at this; cases this⟩, h8, h9⟩
theorem lookup_find {α : Type} (g : Df → α) (x : Str) : ∀ ds : List Df, (ds.map fun d => (d.x, g d)).lookup x = (ds.find? fun d => x == d.x).map g
  | [] => rfl
  | d :: ds => by
    rw [List.map_cons, List.lookup_cons, List.find?_cons]
    cases h : (x == d.x) with
    | true => rfl
    | false => exact lookup_find g x ds
section
variable {K : PySem.W.Frag} {F H F' H' : Hp} {vs : List V} {ds : List D} {d : D}
theorem dens_len : ∀ {vs : List V} {ds : List D}, Dens K F vs ds → vs.length = ds.length
  | _, _, .nil => rfl
  | _, _, .cons _ t => congrArg Nat.succ (dens_len t)
theorem dens_at : ∀ {vs : List V} {ds : List D} {i : Nat} {d : D}, Dens K F vs ds → ds[i]? = some d → ∃ v, vs[i]? = some v ∧ Den K F v d
  | _, _, _, _, .nil, e => by simp at e
  | _, _, 0, _, .cons r _, e => by simp at e; subst e; exact ⟨_, rfl, r⟩
  | _, _, i + 1, d, .cons _ t, e => by
    obtain ⟨v, h1, h2⟩ := dens_at (i := i) (d := d) t (by simpa using e)
    exact ⟨v, by simpa using h1, h2⟩
theorem start_at {N : List Str} {i : Nat} {v : V} (h : vs[i]? = some v) : (L2.start N vs)[i]? = some (some v) := by
  unfold L2.start
  rw [List.getElem?_append_left (by rw [List.length_map]; exact get_lt h), List.getElem?_map, h] <;> rfl
theorem enter_fr {n i : Nat} {s : Sl} (h : (ds.map Sl.fr ++ List.replicate n Sl.no)[i]? = some s) : s = .no ∨ ∃ d, ds[i]? = some d ∧ s = .fr d := by
  by_cases l : i < ds.length
  · rw [List.getElem?_append_left (by rw [List.length_map]; exact l), List.getElem?_map, List.getElem?_eq_getElem l] at h
    cases h
    exact .inr ⟨_, List.getElem?_eq_getElem l, rfl⟩
  · rw [List.getElem?_append_right (by rw [List.length_map]; omega)] at h
    have := List.mem_of_getElem? h
    exact .inl (List.eq_of_mem_replicate this)
/-- how a def's frame stands at its entry -/
structure EntR (K : PySem.W.Frag) (F H : Hp) (st : En) (σ : L2.St) (io : Bool) (vs : List V) : Prop where
  rel : Rel K F st σ H
  own : ∀ a, Owns st σ a ↔ LentAt io vs a
  bo : ∀ d0, st[0]? = some (Sl.bo d0) → io = true
  v0 : σ[0]? = vs.head?.map some
theorem ent_ok {Fd0 : Fd} {N : List Str} (le : Same F H) (hn : Fd0.n = N.length) (hv : vs.length ≤ N.length) (hne : Fd0.io = true → vs ≠ []) (h : ArgR K F H Fd0.io vs ds) (hpos : vs ≠ [] ∨ N = [] ∨ True) : ds.length = vs.length ∧ (Rel K F (enter Fd0 ds) (L2.start N vs) H ∧ (∀ a, Owns (enter Fd0 ds) (L2.start N vs) a ↔ LentAt Fd0.io vs a)) := by
  unfold enter
  cases hio : Fd0.io with
  | false =>
    rw [hio] at h
    have h : Dens K F vs ds := h
    have ll := dens_len h
    have at' : ∀ {i : Nat} {s : Sl}, (ds.map Sl.fr ++ List.replicate (Fd0.n - ds.length) Sl.no)[i]? = some s → s.owned = false ∧ SlR K F H (L2.start N vs) i s := fun {i s} e => by
      rcases enter_fr e with rfl | ⟨d, h1, rfl⟩
      · exact ⟨rfl, trivial⟩
      · obtain ⟨v, h2, h3⟩ := dens_at h h1
        exact ⟨rfl, v, start_at h2, h3⟩
    refine ⟨ll.symm, ⟨le, ?_, fun i s e => (at' e).2, fun i j s t a h1 h2 h3 => ?_⟩, fun a => ⟨fun ⟨i, s, h1, h2, _⟩ => ?_, fun z => ?_⟩⟩
    · unfold L2.start
      simp only [List.length_append, List.length_map, List.length_replicate]
      omega
    · rw [(at' h1).1] at h3; cases h3
    · rw [(at' h1).1] at h2; cases h2
    · cases z.1
  | true =>
    rw [hio] at h
    match vs, ds, h with
    | v :: vr, d :: dr, h =>
      obtain ⟨⟨a, rfl, hF, hO⟩, hd⟩ := h
      have ll := dens_len hd
      have at' : ∀ {i : Nat} {s : Sl}, (Sl.bo d :: dr.map Sl.fr ++ List.replicate (Fd0.n - (d :: dr).length) Sl.no)[i]? = some s → (i = 0 ∧ s = .bo d) ∨ (s.owned = false ∧ SlR K F H (L2.start N (V.ref a :: vr)) i s) := fun {i s} e => by
        cases i with
        | zero => cases e; exact .inl ⟨rfl, rfl⟩
        | succ i =>
          rcases enter_fr (i := i) (s := s) (by simpa using e) with rfl | ⟨d', h1, rfl⟩
          · exact .inr ⟨rfl, trivial⟩
          · obtain ⟨v, h2, h3⟩ := dens_at hd h1
            exact .inr ⟨rfl, v, start_at (by simpa using h2), h3⟩
      have s0 : (L2.start N (V.ref a :: vr))[0]? = some (some (V.ref a)) := start_at rfl
      refine ⟨by simp [ll], ⟨le, ?_, fun i s e => ?_, fun i j s t b h1 h2 h3 h4 _ _ => ?_⟩, fun b => ⟨fun ⟨i, s, h1, h2, h3⟩ => ?_, fun z => ?_⟩⟩
      · unfold L2.start
        simp only [List.length_append, List.length_map, List.length_replicate, List.length_cons] at hv ⊢
        omega
      · rcases at' e with ⟨rfl, rfl⟩ | ⟨_, z⟩
        · exact ⟨a, s0, hF, hO⟩
        · exact z
      · rcases at' h1 with ⟨e, _⟩ | ⟨z, _⟩
        · rcases at' h2 with ⟨e', _⟩ | ⟨z, _⟩
          · rw [e, e']
          · rw [z] at h4; cases h4
        · rw [z] at h3; cases h3
      · rcases at' h1 with ⟨e, _⟩ | ⟨z, _⟩
        · subst e
          rw [s0] at h3
          cases h3
          exact ⟨rfl, rfl⟩
        · rw [z] at h2; cases h2
      · have e : V.ref a = V.ref b := by simpa using z.2
        cases e
        exact ⟨0, .bo d, rfl, rfl, s0⟩
    | [], _, h => exact absurd rfl (hne hio)
/-- the def's end -/
theorem ret_ok {Fd0 : Fd} {st' : En} {σ σ' : L2.St} {st : En} {v : V} {b : Bool} {fin : D} (r : Rel K F st σ H) (own : ∀ a, Owns st σ a ↔ LentAt Fd0.io vs a) (h0 : ∀ a, LentAt Fd0.io vs a → σ[0]? = some (some (V.ref a))) (g : Go K st σ F H st' σ' F' H') (hl : lentE Fd0.io st' = some fin)
    (ho : ORel K F' H' st' σ' v (if b then .fe d else .va d)) (hf : Fro st σ H v (if b then .fe d else .va d)) : RetR K F H Fd0.io vs d b fin v F' H' := by
  have lent : ∀ a, LentAt Fd0.io vs a → Owns st' σ' a ∧ F' a = none ∧ OwnAt K F' H' a fin := fun a ha => by
    have io := ha.1
    rw [io] at hl
    unfold lentE at hl
    split at hl
    · rename_i z; cases z
    · rename_i dd tl _
      cases hl
      have e0 : (Sl.bo fin :: tl)[0]? = some (Sl.bo fin) := rfl
      obtain ⟨e1, _⟩ := g.bos 0 fin e0
      obtain ⟨c, k1, k2, k3⟩ := g.rel.sl 0 _ e0
      rw [e1, h0 a ha] at k1
      cases k1
      exact ⟨⟨0, _, e0, rfl, by rw [e1]; exact h0 a ha⟩, k2, k3⟩
    · cases hl
  refine ⟨⟨g.stp.fr, fun a o h n => g.stp.keep a o h fun z => n ((own a).mp z), g.stp.live, fun a h => .inl h, fun a h => (g.stp.frz a h).imp id (Or.imp (own a).mp id)⟩, g.rel.le, fun a ha => (lent a ha).2, fun e => ?_, fun e => ?_⟩
  · subst e; exact ho
  · subst e
    obtain ⟨a, e1, h1, h2, h3⟩ := ho
    obtain ⟨a', e2, h4⟩ := hf
    rw [e1] at e2; cases e2
    refine ⟨a, e1, h4.resolve_left fun z => h3 (lent a ((own a).mp z)).1, h1, h2⟩
end
/-- the text, as it lies in the heap -/
structure Txt (K : PySem.W.Frag) (mg : Str → Option Value) (ds : List Df) (gl : List (Str × PyData)) (bl : List Str) : Prop where
  ok : ∀ d ∈ ds, d.okB = true
  fn : ∀ d ∈ ds, ∃ f fd, FunD K d.x d.x (simpleArgs d.as) d.body d.scope [] [] f fd ∧ mg d.x = some (.ref f)
  bl : ∀ x ∈ bl, mg x = none
  gl : ∀ x p, gl.lookup x = some p → ∃ v u, mg x = some u ∧ RelV v u ∧ ∀ F, Dn K F v p
theorem all_fn {P : Program} {w : World} {K : PySem.W.Frag} {mg : Str → Option Value} {base : Heap} {ds : List Df} {gl : List (Str × PyData)} {bl : List Str} {fuel m : Nat} (T : Txt K mg ds gl bl) :
    ∀ (n : Nat) (x : Str) (d : Df), (ds.find? fun d => x == d.x) = some d → ∀ f fd, FunD K d.x d.x (simpleArgs d.as) d.body d.scope [] [] f fd → FnG P w K mg base n f fd d.ps (spC K (run (tabOf ds gl bl m) fuel n x) d.io d.ps.length)
  | 0, x, d, hd, f, fd, FD => ⟨fun vs H Q E h => h.1, fun A outer s H args us vs Q hr hg e0 hb r ⟨_, F, ds, d, b, fin, _, e, _⟩ => by cases e⟩
  | n + 1, x, d, hd, f, fd, FD => by
    have hm := List.mem_of_find?_eq_some hd
    obtain ⟨S, hdb, hio⟩ := Df.scp (T.ok d hm)
    refine fnG_of FD S (fun vs H Q E h => by rw [h.1]) fun cdv A outer s H vs Q hr hg hsp => ?_
    have hz : XOk (cxOf CX0 P w K mg base d.N d.x d.scope f cdv A outer s H E0).nox n ((tabOf ds gl bl m).ct fuel (run (tabOf ds gl bl m) fuel n)) (d.zx (sgOf ds) bl) := {
      hn := rfl
      nd := S.nd
      sc := rfl
      kd := S.kind
      fn := fun _ _ => rfl
      calm := rfl
      room := hr
      g := hg
      bl := T.bl
      glo := fun x p e => T.gl x p e
      cal := fun y q e => by
        have e : (sgOf ds).lookup y = some q := e
        unfold sgOf at e
        rw [lookup_find (fun d => (d.ps, d.io)) y ds, Option.map_eq_some_iff] at e
        obtain ⟨d2, h2, rfl⟩ := e
        have hy : y = d2.x := by have := List.find?_some h2; simpa using this
        have hm2 := List.mem_of_find?_eq_some h2
        obtain ⟨f2, fd2, FD2, mg2⟩ := T.fn d2 hm2
        have io2 : ((tabOf ds gl bl m).ct fuel (run (tabOf ds gl bl m) fuel n)).io y = d2.io := by
          show ((ds.map fun d => (d.x, d.fd (sgOf ds) bl m)).lookup y).elim false Fd.io = d2.io
          rw [lookup_find (fun d => d.fd (sgOf ds) bl m) y ds, h2] <;> rfl
        have fn2 := all_fn (P := P) (w := w) (base := base) (fuel := fuel) (m := m) T n y d2 h2 f2 fd2 FD2
        subst hy
        refine ⟨f2, fd2, d2.x, d2.as, d2.body, d2.scope, ⟨rfl, FD2, ?_, mg2, (Df.scp (T.ok d2 hm2)).2.1⟩⟩
        rw [io2]
        exact fn2 }
    refine ⟨_, ssL_ok (trS_ok (snd2_tr m) hz PassesOwn.never m) d.body, ?_⟩
    obtain ⟨hlen, F, as, rd, b, fin, le, e, ha, q⟩ := hsp
    have hF : (tabOf ds gl bl m).fds.lookup x = some (d.fd (sgOf ds) bl m) := by
      show (ds.map fun d => (d.x, d.fd (sgOf ds) bl m)).lookup x = _
      rw [lookup_find (fun d => d.fd (sgOf ds) bl m) x ds, hd] <;> rfl
    simp only [run, hF, Option.bind_some] at e
    have hpl : d.ps.length ≤ d.N.length := by have := congrArg List.length S.pre; rw [List.length_take] at this; omega
    obtain ⟨l1, r, own⟩ := ent_ok (Fd0 := d.fd (sgOf ds) bl m) (N := d.N) le rfl (by rw [hlen]; exact hpl) (fun h z => hio h (List.length_eq_zero_iff.mp (by rw [← hlen, z] <;> rfl))) ha (.inr (.inr trivial))
    split at e
    · simp only [Option.bind_eq_some_iff] at e
      obtain ⟨⟨o, st'⟩, ex, fin', hl, e⟩ := e
      refine ⟨F, _, o, st', r, ex, fun σ' F' H' g => ?_⟩
      have h0 : ∀ a, LentAt d.io vs a → (L2.start d.N vs)[0]? = some (some (V.ref a)) := fun a ha => start_at (by
        cases vs with
        | nil => cases ha.2
        | cons v vr => exact ha.2)
      cases o with
      | rt d' b' =>
        cases e
        exact fun v h1 h2 => q v F' H' (ret_ok (Fd0 := d.fd (sgOf ds) bl m) r own h0 g hl h1 h2)
      | nx =>
        cases e
        exact q _ F' H' (ret_ok (Fd0 := d.fd (sgOf ds) bl m) (b := false) r own h0 g hl Dn.non trivial)
      | brk => cases e
      | cont => cases e
    · cases e
end Mi
end
section
/-! Mi24: a law's end. -/
namespace Mi
open PySem PySem.Spec
open PyProof.Rows hiding St Fr
open L2

section
variable {P : Program} {w : World} {K : PySem.W.Frag} {mg mb : Str → Option Value} {k : Nat} {fa a : Addr} {fd : FuncData} {x : Str} {sp : Sp} {t : Shared} {us : List Value} {ns : List Int} {H : Hp}
/-- the heap's part that is not told stays; so it is the module's -/
theorem top_env (inK : K.In t.heap) (g1 : t.heap.Ns mainGlobals mg) (g2 : t.heap.Ns builtinsNs mb) (g3 : ∀ y : Str, y ≠ "__name__" → mb y = bootBuiltins y) (g4 : t.heap.NoLimit) (g5 : t.gens = #[])
    (hl : t.heap.get? a = some { cls := .type "list", data := .seq us.toArray }) (tell : HOk P w H t.heap) (one : ∀ b, H b ≠ none → b = a) (apart : H a ≠ none → K.lookup a = none) :
    K.In (hidT t.heap H) ∧ (hidT t.heap H).Ns mainGlobals mg ∧ Env0 P w K mg (hidT t.heap H) callerA [] t H := by
  have quiet : ∀ {b : Addr} {o : Obj}, (H b ≠ none → b ≠ a) → t.heap.get? b = some o → (hidT t.heap H).get? b = some o := fun {b o} hb ho => by
    refine hidT_get ho ?_
    cases hH : H b with
    | none => rfl
    | some u => exact absurd (one b (by rw [hH]; simp)) (hb (by rw [hH]; simp))
  have spaces : ∀ {b : Addr} {m : Str → Option Value}, t.heap.Ns b m → (hidT t.heap H).Ns b m := by
    intro b m hb
    obtain ⟨o, es, ep, ho, hd, rest⟩ := hb
    refine ⟨o, es, ep, quiet (fun _ e => ?_) ho, hd, rest⟩
    subst e
    rw [hl] at ho
    cases ho
    exact Data.noConfusion (show Data.seq us.toArray _ = Data.dict es ep from hd)
  have inB : K.In (hidT t.heap H) := fun b o e => quiet (fun n e2 => by
    subst e2
    rw [apart n] at e
    cases e) (inK b o e)
  obtain ⟨mc, l1, l2⟩ := g4
  refine ⟨inB, spaces g1, rfl, ⟨inB, spaces g1, ⟨mb, spaces g2, g3⟩, mc, spaces l1, l2⟩, fun b o e => of_hidT e, Nat.le_of_eq (hidT_size _ _), trivial, fun b hb => ?_, tell, .of_eq g5⟩
  cases (show b ∈ ([] : List Addr) from hb)
theorem top_run (inK : K.In t.heap) (g1 : t.heap.Ns mainGlobals mg) (g2 : t.heap.Ns builtinsNs mb) (g3 : ∀ y : Str, y ≠ "__name__" → mb y = bootBuiltins y) (g4 : t.heap.NoLimit) (g5 : t.gens = #[])
    (hl : t.heap.get? a = some { cls := .type "list", data := .seq us.toArray }) (tell : HOk P w H t.heap) (one : ∀ b, H b ≠ none → b = a) (apart : H a ≠ none → K.lookup a = none) (only : Only H) (room : Room k callerA)
    (fn : ∀ base : Heap, K.In base → base.Ns mainGlobals mg → FnG P w K mg base k fa fd [x] sp) (bd : ∀ (s : Shared) (u : Value), BindsTo s fd ⟨[u], []⟩ [(x, u)]) (wish : sp [.ref a] H (fun v _ => v = .bl true) E0) :
    codeAny (model P w) callerA (.call (.ref fa) ⟨[.ref a], []⟩) (fun r s' => r = .ok (.ret (.bool true)) ∧ OldK t.heap s'.heap ∧ s'.os = t.os ∧ AllBare s'.gens) t := by
  obtain ⟨inB, spB, env⟩ := top_env (P := P) (w := w) inK g1 g2 g3 g4 g5 hl tell one apart
  have go := (fn _ inB spB).run callerA [] t H ⟨[.ref a], []⟩ [.ref a] [.ref a] _ room rfl env (bd t (.ref a)) (.cons rfl .nil) wish
  refine codeAny_mono go fun r s' h => ?_
  match r, h with
  | .ok (.ret u), h =>
    obtain ⟨v, H', os, bare, un, told, rel, ev⟩ := h
    have ev : v = .bl true := ev
    subst ev
    cases rel
    refine ⟨rfl, OldK.of_keep fun b o ho => ?_, os, bare⟩
    rcases only b with n | ⟨ob, xs, f⟩
    · refine un.keep b o ho n (fun z => ?_) (by simp)
      cases (show b ∈ ([] : List Addr) from z)
    · have now := (told b _ (un.frzs b ob _ f)).1
      have was := (tell b _ f).1
      rw [ho] at was
      cases was
      exact now
  | .ok .next, h => exact h.elim
  | .ok .brk, h => exact h.elim
  | .ok .cont, h => exact h.elim
  | .error e, h => exact h.elim
/-- a law's call: the script is a list of ints -/
theorem top_call (inK : K.In t.heap) (g1 : t.heap.Ns mainGlobals mg) (g2 : t.heap.Ns builtinsNs mb) (g3 : ∀ y : Str, y ≠ "__name__" → mb y = bootBuiltins y) (g4 : t.heap.NoLimit) (g5 : t.gens = #[])
    (hl : t.heap.get? a = some { cls := .type "list", data := .seq us.toArray }) (nums : IntsAre us ns) (few : ns.length ≤ sizeLine) (room : Room k callerA)
    (fn : ∀ base : Heap, K.In base → base.Ns mainGlobals mg → FnG P w K mg base k fa fd [x] sp) (bd : ∀ (s : Shared) (u : Value), BindsTo s fd ⟨[u], []⟩ [(x, u)])
    (wish : ∀ H : Hp, SqL K H a (ns.map V.int) → sp [.ref a] H (fun v _ => v = .bl true) E0) :
    codeAny (model P w) callerA (.call (.ref fa) ⟨[.ref a], []⟩) (fun r s' => r = .ok (.ret (.bool true)) ∧ OldK t.heap s'.heap ∧ s'.os = t.os ∧ AllBare s'.gens) t := by
  have rel := vals_ints nums
  have len : us.length = ns.length := nums.length
  cases hK : K.lookup a with
  | some o =>
    have ho := inK a o hK
    rw [hl] at ho
    cases ho
    refine top_run (H := fun _ => none) inK g1 g2 g3 g4 g5 hl (fun b u z => ?_) (fun b z => absurd rfl z) (fun z => absurd rfl z) (fun _ => .inl rfl) room fn bd (wish _ (.inr ⟨_, us.toArray, _, hK, rfl, rfl, rfl, ?_, by simpa using rel⟩))
    · cases (show (none : Option HO) = some u from z)
    · rw [List.size_toArray, len]; exact few
  | none =>
    let tell : HO := .frz { cls := .type "list", data := .seq us.toArray } (.lst (ns.map V.int))
    have at' : ∀ b, upd (fun _ => none) a tell b ≠ none → b = a := fun b z => by
      by_cases e : b = a
      · exact e
      · rw [upd_ne e] at z; exact absurd rfl z
    refine top_run (H := upd (fun _ => none) a tell) inK g1 g2 g3 g4 g5 hl (fun b u z => ?_) at' (fun _ => hK) (fun b => ?_) room fn bd (wish _ (.inl (.inr ⟨_, upd_same⟩)))
    · obtain rfl := at' b (by rw [z]; simp)
      rw [upd_same] at z
      cases z
      exact ⟨hl, by rw [List.length_map]; exact few, us, _, rel, hl⟩
    · by_cases e : b = a
      · subst e; exact .inr ⟨_, _, upd_same⟩
      · exact .inl (upd_ne e)
end
/-- THE END of a law: the evaluator answers True at every script -/
theorem top_law {l : PySem.W.OpenLaw} {n k : Nat} {q : Program} {loose : List Str} {XP : (Str → Option Value) → Heap → Prop} {YP : World → Heap → Prop} {d : DefRec} {x : Str} {ds : List Df} {gl : List (Str × PyData)} {bl : List Str} {fuel m : Nat} {dl : Df}
    (hn : l.most = some n) (hn2 : n ≤ sizeLine) (hdf : d.params.defaults = []) (room : Room k callerA) (hd : (ds.find? fun y => d.name == y.x) = some dl) (hps : dl.ps = [x]) (hio : dl.io = false)
    (F : ∀ (w : World) (mg : Str → Option Value) (fa : Addr) (h : Heap), YP w h → h.Ns mainGlobals mg → mg d.name = some (.ref fa) →
      ∃ (K : PySem.W.Frag) (fd : FuncData), K.In h ∧ (∀ (s : Shared) (u : Value), BindsTo s fd ⟨[u], []⟩ [(x, u)]) ∧ FunD K dl.x dl.x (simpleArgs dl.as) dl.body dl.scope [] [] fa fd ∧ Txt K mg ds gl bl)
    (law : ∀ ns : List Int, ns.length ≤ n → ∃ b fin, run (tabOf ds gl bl m) fuel k d.name [.scr ns] = some (.py (.bool true), b, fin)) :
    PySem.W.WalkO q loose XP YP l.row.toRowW d [] (fun f vs => PySem.call f vs) := by
  refine Att.attach_call hn hdf fun w s0 t mg mb fa o pm cd doc a us ns G Y ho ho2 hcd hmg hl nums few hg => ?_
  obtain ⟨K, fd, inK, bd, FD, T⟩ := F w mg fa _ Y G.T.g hmg
  have fn : ∀ base : Heap, K.In base → base.Ns mainGlobals mg → FnG l.prog w K mg base k fa fd [x] (spC K (run (tabOf ds gl bl m) fuel k d.name) false 1) := fun base _ _ => by
    have z := all_fn (P := l.prog) (w := w) (base := base) (fuel := fuel) (m := m) T k d.name dl hd fa fd FD
    rw [hps, hio] at z
    exact z
  refine top_call inK G.T.g G.T.b G.T.builtins G.T.nolimit hg hl nums (Nat.le_trans few hn2) room fn bd fun H hS => ?_
  obtain ⟨b, fin, e⟩ := law ns few
  refine ⟨rfl, H, [.scr ns], _, b, fin, Same.refl H, e, .cons ⟨a, rfl, hS⟩ .nil, fun v F' H' hr => ?_⟩
  cases b with
  | false =>
    have := hr.va rfl
    cases this
    rfl
  | true =>
    obtain ⟨c, _, _, _, h⟩ := hr.fe rfl
    exact h.elim
end Mi
end
section
/-! Mi25: the text of a row: its defs, its constants, and what the head tells of them. -/
namespace Mi
open PySem PySem.Spec
open PyProof.Rows hiding St Fr
open L2

/-! ### the defs of a text -/
def ownNames (sc : Scope) : List Str := sc.names.filterMap fun y => if y.2 == .local || y.2 == .cell then some y.1 else none
def gensIt : Comprehension → Expr
  | ⟨_, e, _, _⟩ => e
def gensIfs : Comprehension → List Expr
  | ⟨_, _, l, _⟩ => l
/-- the names that an expression's blocks store -/
def cvE : Nat → Expr → List Str
  | 0, _ => []
  | n + 1, e => match e with
    | .BoolOp _ es _ => es.flatMap (cvE n)
    | .BinOp a _ b _ => cvE n a ++ cvE n b
    | .UnaryOp _ a _ => cvE n a
    | .IfExp a b c _ => cvE n a ++ cvE n b ++ cvE n c
    | .ListComp elt gs sc _ => ownNames sc ++ cvE n elt ++ gs.flatMap fun g => cvE n (gensIt g) ++ (gensIfs g).flatMap (cvE n)
    | .DictComp k v gs sc _ => ownNames sc ++ cvE n k ++ cvE n v ++ gs.flatMap fun g => cvE n (gensIt g) ++ (gensIfs g).flatMap (cvE n)
    | .SetComp elt gs sc _ => ownNames sc ++ cvE n elt ++ gs.flatMap fun g => cvE n (gensIt g) ++ (gensIfs g).flatMap (cvE n)
    | .Compare a _ bs _ => cvE n a ++ bs.flatMap (cvE n)
    | .Call f as ks _ => cvE n f ++ as.flatMap (cvE n) ++ ks.flatMap fun k => cvE n (kwE k)
    | .Attribute a _ _ => cvE n a
    | .Subscript a b _ => cvE n a ++ cvE n b
    | .Tuple es _ _ => es.flatMap (cvE n)
    | .List es _ => es.flatMap (cvE n)
    | .Slice a b c _ => (a.elim [] (cvE n)) ++ (b.elim [] (cvE n)) ++ (c.elim [] (cvE n))
    | _ => []
def cvS : Nat → Stmt → List Str
  | 0, _ => []
  | n + 1, s => match s with
    | .Assign ts e _ => ts.flatMap (cvE 60) ++ cvE 60 e
    | .Expr e _ => cvE 60 e
    | .Return (some e) _ => cvE 60 e
    | .If c a b _ => cvE 60 c ++ a.flatMap (cvS n) ++ b.flatMap (cvS n)
    | .While c b _ _ => cvE 60 c ++ b.flatMap (cvS n)
    | .For _ i b _ _ => cvE 60 i ++ b.flatMap (cvS n)
    | .AugAssign t _ e _ => cvE 60 t ++ cvE 60 e
    | _ => []
/-- the first of each -/
def onces : List Str → List Str → List Str
  | acc, [] => acc.reverse
  | acc, x :: xs => if decide (x ∈ acc) then onces acc xs else onces (x :: acc) xs
def potIo (as : List Arg) : Bool := match as with
  | ⟨x, _, _⟩ :: _ => x == ("pot" : Str)
  | [] => false
def mkDf (st : Stmt) : Option Df := match st with
  | .FunctionDef n ⟨[], as, none, [], [], none, []⟩ b [] _ _ sc _ _ _ => some ⟨n, as, b, sc, onces [] (as.map (·.arg) ++ ownNames sc ++ b.flatMap (cvS 60)), potIo as⟩
  | _ => none
def dfsOf (p : List Stmt) : List Df := p.filterMap mkDf
def defNames (p : List Stmt) : List Str := p.filterMap fun st => match st with
  | .FunctionDef n .. => some n
  | .ClassDef n .. => some n
  | .Assign [.Name n _] _ _ => if n == "__name__" then none else some n
  | _ => none
/-! ### its constants -/
mutual
def constP (gl : List (Str × PyData)) : Nat → Expr → Option PyData
  | 0, _ => none
  | n + 1, e => match e with
    | .Constant v _ _ => litC v
    | .UnaryOp .USub (.Constant (.int i) _ _) _ => some (.int (-i))
    | .Name x _ => gl.lookup x
    | .Tuple es _ _ => (constPs gl n es).map .tuple
    | _ => none
def constPs (gl : List (Str × PyData)) : Nat → List Expr → Option (List PyData)
  | _, [] => some []
  | 0, _ => none
  | n + 1, e :: es => (constP gl n e).bind fun p => (constPs gl n es).map (p :: ·)
end
def glosOf : List (Str × PyData) → List Stmt → List (Str × PyData)
  | gl, [] => gl
  | gl, .Assign [.Name x _] e _ :: r => if x == "__name__" then glosOf gl r else (match constP gl 60 e with
    | some p => glosOf (gl ++ [(x, p)]) r
    | none => glosOf gl r)
  | gl, _ :: r => glosOf gl r
def allBl : List Str := ["len", "tuple", "list", "sorted", "min", "max", "sum", "any", "all", "abs", "int", "bool", "str", "repr", "divmod", "dict", "set", "isinstance", "range", "enumerate", "zip"]
def blOf (p : List Stmt) : List Str := allBl.filter fun x => decide (x ∉ defNames p)
/-! ### what the head tells -/
mutual
def datB (K : PySem.W.Frag) : Value → PyData → Bool
  | v, .none => (match v with
    | .none => true
    | _ => false)
  | v, .bool b => (match v with
    | .bool c => b == c
    | _ => false)
  | v, .int i => (match v with
    | .int j _ => decide (i = j)
    | _ => false)
  | v, .str x => (match v with
    | .str y _ => decide (x = y)
    | _ => false)
  | v, .tuple ps => (match v with
    | .ref a => (match K.lookup a with
      | some ⟨.type c, none, .seq its _, _⟩ => decide (c = "tuple") && decide (its.size ≤ sizeLine) && datAll K its.toList ps
      | _ => false)
    | _ => false)
  | _, _ => false
def datAll (K : PySem.W.Frag) : List Value → List PyData → Bool
  | [], [] => true
  | v :: vs, p :: ps => datB K v p && datAll K vs ps
  | _, _ => false
end
mutual
theorem datB_ok {K : PySem.W.Frag} : ∀ (p : PyData) (u : Value), datB K u p = true → ∃ v, RelV v u ∧ ∀ F, Dn K F v p
  | .none, u, h => by
    cases u <;> first | exact ⟨.non, rfl, fun _ => .non⟩ | (simp [datB] at h)
  | .bool b, u, h => by
    cases u <;> first | (rename_i c; have e : b = c := by simpa [datB] using h
                         subst e; exact ⟨.bl b, rfl, fun _ => .bl b⟩) | (simp [datB] at h)
  | .int i, u, h => by
    cases u <;> first | (rename_i c t; have e : i = c := by simpa [datB] using h
                         subst e; exact ⟨.int i, ⟨t, rfl⟩, fun _ => .int i⟩) | (simp [datB] at h)
  | .str i, u, h => by
    cases u <;> first | (rename_i c t; have e : i = c := by simpa [datB] using h
                         subst e; exact ⟨.str i, ⟨t, rfl⟩, fun _ => .str i⟩) | (simp [datB] at h)
  | .tuple ps, u, h => by
    unfold datB at h
    split at h
    · rename_i a
      split at h
      · rename_i c its n sl hk
        simp only [Bool.and_eq_true, decide_eq_true_eq] at h
        obtain ⟨⟨rfl, h2⟩, h3⟩ := h
        obtain ⟨vs, h4, h5⟩ := datAll_ok ps its.toList h3
        exact ⟨.ref a, rfl, fun F => .tup (.inr ⟨_, its, n, hk, rfl, rfl, rfl, h2, h4⟩) (h5 F)⟩
      · cases h
    · cases h
  | .list _, u, h => by unfold datB at h; cases h
  | .dict _, u, h => by unfold datB at h; cases h
theorem datAll_ok {K : PySem.W.Frag} : ∀ (ps : List PyData) (us : List Value), datAll K us ps = true → ∃ vs, Vals vs us ∧ ∀ F, DnAll K F vs ps
  | [], us, h => by
    cases us with
    | nil => exact ⟨[], .nil, fun _ => .nil⟩
    | cons _ _ => unfold datAll at h; cases h
  | p :: ps, us, h => by
    cases us with
    | nil => unfold datAll at h; cases h
    | cons u us =>
      unfold datAll at h
      rw [Bool.and_eq_true] at h
      obtain ⟨v, h1, h2⟩ := datB_ok p u h.1
      obtain ⟨vs, h3, h4⟩ := datAll_ok ps us h.2
      exact ⟨v :: vs, .cons h1 h3, fun F => .cons (h2 F) (h4 F)⟩
end
def glB (K : PySem.W.Frag) (gl : List (Str × PyData)) : Bool := gl.all fun q => match PySem.W.nsIn K mainGlobals q.1 with
  | some (some v) => datB K v q.2
  | _ => false
theorem glB_ok {K : PySem.W.Frag} {h : Heap} {mg : Str → Option Value} {gl : List (Str × PyData)} (inK : K.In h) (G : h.Ns mainGlobals mg) (c : glB K gl = true) : ∀ x p, gl.lookup x = some p → ∃ v u, mg x = some u ∧ RelV v u ∧ ∀ F, Dn K F v p := by
  intro x p hx
  have := List.all_eq_true.mp c (x, p) (PySem.mem_of_lookup hx)
  split at this
  · rename_i v hv
    obtain ⟨w, h1, h2⟩ := datB_ok p v this
    exact ⟨w, v, PySem.W.mg_of inK G hv, h1, h2⟩
  · cases this
def Df.he (d : Df) : He.DefD := ⟨(d.x, none), d.x, d.x, simpleArgs d.as, d.body, d.scope, [], []⟩
def fasOf (ds : List Df) (bl : List Str) : List He.Fa := ds.map (fun d => .glo d.x) ++ bl.map .free
def obsM (fa : List He.Fa) (fn : List He.DefD) (gl : List (Str × PyData)) (K : PySem.W.Frag) : Bool × He.AlD := (glB K gl, He.obsD fa fn K)
def obsMG (n : Nat) (fa : List He.Fa) (fn : List He.DefD) (gl : List (Str × PyData)) (g : Addr → Option Obj) : Bool × He.AlD := obsM fa fn gl (He.frG g (He.asD g n))
def hookM (n : Nat) (fa : List He.Fa) (fn : List He.DefD) (gl : List (Str × PyData)) : PySem.W.Hook where
  α := Bool × He.AlD
  obs := fun s => obsMG n fa fn gl s.heap.get?
  val := fun _ => (true, He.valD fn)
  says := fun _ h => ∃ K : PySem.W.Frag, K.In h ∧ obsM fa fn gl K = (true, He.valD fn)
  of := fun _ _ e => ⟨_, He.frG_in, e⟩
  keeps := fun _ _ _ ⟨K, hK, c⟩ k => ⟨K, PySem.W.Frag.In.keeps hK k, c⟩
theorem obsMG_eq {n : Nat} {fa : List He.Fa} {fn : List He.DefD} {gl : List (Str × PyData)} {g : Addr → Option Obj} {s : Shared} (h : ∀ a, g a = s.heap.get? a) : obsMG n fa fn gl g = (hookM n fa fn gl).obs s := by
  have e : g = s.heap.get? := funext h
  rw [e] <;> rfl
theorem txt_of {K : PySem.W.Frag} {h : Heap} {mg : Str → Option Value} {ds : List Df} {gl : List (Str × PyData)} {bl : List Str} (inK : K.In h) (G : h.Ns mainGlobals mg) (ok : ds.all Df.okB = true)
    (c : obsM (fasOf ds bl) (ds.map Df.he) gl K = (true, He.valD (ds.map Df.he))) : Txt K mg ds gl bl := by
  have c1 : glB K gl = true := congrArg Prod.fst c
  have c2 : He.SaysD (fasOf ds bl) (ds.map Df.he) K := congrArg Prod.snd c
  refine ⟨fun d hd => List.all_eq_true.mp ok d hd, fun d hd => ?_, fun x hx => ?_, glB_ok inK G c1⟩
  · obtain ⟨i, hi⟩ := List.mem_iff_getElem?.mp hd
    obtain ⟨fd, FD⟩ := c2.def_ i (d := d.he) (by rw [List.getElem?_map, hi] <;> rfl)
    have f := c2.fact i (f := .glo d.x) (by
      unfold fasOf
      rw [List.getElem?_append_left (by rw [List.length_map]; exact get_lt hi), List.getElem?_map, hi] <;> rfl)
    exact ⟨_, fd, FD, He.glo_ok inK G f⟩
  · obtain ⟨i, hi⟩ := List.mem_iff_getElem?.mp hx
    have f := c2.fact ((ds.map fun d => He.Fa.glo d.x).length + i) (f := .free x) (by
      unfold fasOf
      rw [List.getElem?_append_right (Nat.le_add_right _ _), Nat.add_sub_cancel_left, List.getElem?_map, hi] <;> rfl)
    exact He.free_ok inK G f
end Mi
end
section
/-! Mi26: a law by its text. -/
namespace Mi
open PySem PySem.Spec
open PyProof.Rows hiding St Fr
open L2

theorem law_fd {K : PySem.W.Frag} {mg : Str → Option Value} {ds : List Df} {gl : List (Str × PyData)} {bl : List Str} {x : Str} {dl : Df} {fa : Addr} (T : Txt K mg ds gl bl) (hd : dl ∈ ds) (hps : dl.ps = [x]) (hmg : mg dl.x = some (.ref fa)) :
    ∃ fd : FuncData, (∀ (s : Shared) (u : Value), BindsTo s fd ⟨[u], []⟩ [(x, u)]) ∧ FunD K dl.x dl.x (simpleArgs dl.as) dl.body dl.scope [] [] fa fd := by
  obtain ⟨f, fd, FD, hf⟩ := T.fn dl hd
  rw [hmg] at hf
  cases hf
  refine ⟨fd, fun s u => ?_, FD⟩
  have z := FunD.bindsA (ps := dl.ps) FD (fun kV doc pm an cdv ct us hl => ?_) s [u] (by rw [hps] <;> rfl)
  · rw [hps] at z
    exact z
  · have nd : dl.ps.Nodup := by rw [hps]; simp
    have hl' : us.length = dl.as.length := by rw [hl, List.length_map]
    have b := bind_ok (x := dl.x) (qual := dl.x) (as := dl.as) (body := dl.body) (scope := dl.scope) (kV := kV) (doc := doc) (pm := pm) (an := an) (cdv := cdv) (ct := ct) (us := us) (ws := []) (ks := []) nd (by simp) (by simp) (by simpa using hl') (fun p hp => by rw [List.append_nil, hl, List.take_of_length_le (Nat.le_refl _)]; exact hp) rfl
    simp only [List.zip_nil_left, List.append_nil] at b
    rw [b]
    refine congrArg pure (congrArg (List.zip dl.ps) ?_)
    have e : permOf dl.ps us.length [] = (List.range us.length) := by
      unfold permOf
      rw [hl, List.take_of_length_le (Nat.le_refl _), List.append_nil]
      exact permSelf nd
    rw [e]
    apply List.ext_getElem
    · simp
    · intro i h1 h2
      simp only [List.getElem_map, List.getElem_range, List.getD_eq_getElem?_getD, List.getElem?_eq_getElem h2, Option.getD_some]
where
  permSelf : ∀ {l : List Str}, l.Nodup → l.map (fun p => l.idxOf p) = List.range l.length := fun {l} h => by
    apply List.ext_getElem
    · simp
    · intro i h1 h2
      simp only [List.getElem_map, List.getElem_range]
      exact h.idxOf_getElem i (by simpa using h1)
/-- a law whose text is of this kind: the evaluator answers True at every script -/
theorem law_of {l : PySem.W.OpenLaw} {n k lev : Nat} {q : Program} {loose : List Str} {XP : (Str → Option Value) → Heap → Prop} {d : DefRec} {x : Str} {ds : List Df} {gl : List (Str × PyData)} {bl : List Str} {fuel m : Nat} {dl : Df}
    (hn : l.most = some n) (hn2 : n ≤ sizeLine) (hdf : d.params.defaults = []) (room : Room k callerA) (hd : (ds.find? fun y => d.name == y.x) = some dl) (hps : dl.ps = [x]) (hio : dl.io = false) (ok : ds.all Df.okB = true)
    (law : ∀ ns : List Int, ns.length ≤ n → ∃ b fin, run (tabOf ds gl bl m) fuel k d.name [.scr ns] = some (.py (.bool true), b, fin)) :
    PySem.W.WalkO q loose XP (hookM lev (fasOf ds bl) (ds.map Df.he) gl).says l.row.toRowW d [] (fun f vs => PySem.call f vs) := by
  refine top_law hn hn2 hdf room hd hps hio (fun w mg fa h Y G hmg => ?_) law
  obtain ⟨K, inK, c⟩ := Y
  have T := txt_of inK G ok c
  have e : d.name = dl.x := by have := List.find?_some hd; simpa using this
  rw [e] at hmg
  obtain ⟨fd, b, FD⟩ := law_fd T (List.mem_of_find?_eq_some hd) hps hmg
  exact ⟨K, fd, inK, b, FD, T⟩
end Mi
end
section
/-! Ev: the evaluator's equations, for plain proofs. -/
namespace Mi
open PySem
section
variable {C : Ct} {st : En} {e a b c : Ex} {es : Exs}
@[simp] theorem ev_lit {p : PyData} : evE C (.lit p) st = some (.va (.py p), st) := id rfl
@[simp] theorem ev_var {i : Nat} : evE C (.var i) st = (match st[i]? with
    | some (.fr d) => some (.va d, st)
    | some (.ow d) => some (.va d, st.set i (.fr d))
    | _ => none) := id rfl
@[simp] theorem ev_pk {i : Nat} : evE C (.pk i) st = (match st[i]? with
    | some .no => none
    | some _ => some (.pk i, st)
    | none => none) := id rfl
@[simp] theorem ev_glo {x : Str} : evE C (.glo x) st = (C.glo x).map fun p => (.va (.py p), st) := id rfl
@[simp] theorem ev_op {o : O2} : evE C (.op o a b) st = (evE C a st).bind fun qa => (evE C b qa.2).bind fun qb => (rd qb.2 qa.1).bind fun x => (rd qb.2 qb.1).bind fun y => (op2 o x y).map fun z => (z, qb.2) := id rfl
@[simp] theorem ev_neg : evE C (.neg a) st = (evE C a st).bind fun qa => (match rd qa.2 qa.1 with
    | some (.py (.int i)) => some (ofI (-i), qa.2)
    | _ => none) := id rfl
@[simp] theorem ev_cm {o : Cm} : evE C (.cm o a b) st = (evE C a st).bind fun qa => (evE C b qa.2).bind fun qb => (rd qb.2 qa.1).bind fun x => (rd qb.2 qb.1).bind fun y => (cmp o x y).map fun z => (ofB z, qb.2) := id rfl
@[simp] theorem ev_cm2 {o o' : Cm} : evE C (.cm2 o o' a b c) st = (evE C a st).bind fun qa => (evE C b qa.2).bind fun qb => (rd qb.2 qa.1).bind fun x => (rd qb.2 qb.1).bind fun y => (cmp o x y).bind fun z =>
      if z then (evE C c qb.2).bind fun qc => (rd qc.2 qb.1).bind fun y => (rd qc.2 qc.1).bind fun u => (cmp o' y u).map fun z => (ofB z, qc.2) else some (ofB false, qb.2) := id rfl
@[simp] theorem ev_and : evE C (.and a b) st = (evE C a st).bind fun qa => (match rd qa.2 qa.1 with
    | some (.py (.bool c)) => if c then evE C b qa.2 else some (ofB false, qa.2)
    | _ => none) := id rfl
@[simp] theorem ev_or : evE C (.or a b) st = (evE C a st).bind fun qa => (match rd qa.2 qa.1 with
    | some (.py (.bool c)) => if c then some (ofB true, qa.2) else evE C b qa.2
    | _ => none) := id rfl
@[simp] theorem ev_nt : evE C (.nt a) st = (evE C a st).bind fun qa => (match rd qa.2 qa.1 with
    | some (.py (.bool c)) => some (ofB (!c), qa.2)
    | _ => none) := id rfl
@[simp] theorem ev_ite {m : T} : evE C (.ite m a b) st = (evT C m st).bind fun q => if q.1 then evE C a q.2 else evE C b q.2 := id rfl
@[simp] theorem ev_tup : evE C (.tup es) st = (evs C es st).bind fun q => (vals q.1).bind fun ds => (pyds ds).bind fun ps => if ps.length ≤ lim then some (.va (.py (.tuple ps)), q.2) else none := id rfl
@[simp] theorem ev_lst : evE C (.lst es) st = (evs C es st).bind fun q => (vals q.1).bind fun ds => (pyds ds).bind fun ps => if ps.length ≤ lim then some (.fe (.py (.list ps)), q.2) else none := id rfl
@[simp] theorem ev_ix : evE C (.ix a b) st = (evE C a st).bind fun qa => (evE C b qa.2).bind fun qi => (rd qi.2 qa.1).bind fun x => (rd qi.2 qi.1).bind fun y => (item x y).map fun z => (.va z, qi.2) := id rfl
@[simp] theorem ev_sl {lo hi : Pt} : evE C (.sl a lo hi) st = (evE C a st).bind fun qa => (evP C lo qa.2).bind fun ql => (evP C hi ql.2).bind fun qh => (rd qh.2 qa.1).bind fun x => (sliceD x ql.1 qh.1).map fun o => (o, qh.2) := id rfl
@[simp] theorem ev_rev : evE C (.rev a) st = (evE C a st).bind fun qa => (rd qa.2 qa.1).bind fun x => (revD x).map fun o => (o, qa.2) := id rfl
@[simp] theorem ev_bi {f : Bi} : evE C (.bi f es) st = (evs C es st).bind fun q => (rds q.2 q.1).bind fun ds => (biD f ds).map fun o => (o, q.2) := id rfl
@[simp] theorem ev_isa {ts : List Ty} : evE C (.isa a ts) st = (evE C a st).bind fun qa => (rd qa.2 qa.1).bind fun d => d.pyd.map fun p => (ofB (ts.any (isTy p)), qa.2) := id rfl
@[simp] theorem ev_cal {f : Str} {perm : List Nat} : evE C (.cal f perm es) st = (evs C es st).bind fun q => callE C f perm q.1 q.2 := id rfl
@[simp] theorem ev_me {m : Me} : evE C (.me m a es) st = (evE C a st).bind fun qa => (rd qa.2 qa.1).bind fun x0 => (evs C es qa.2).bind fun q => (rd q.2 qa.1).bind fun x => if x0.tupD == x.tupD && x0.lstD == x.lstD then (rds q.2 q.1).bind fun ds => (meD m x ds).map fun o => (o, q.2) else none := id rfl
@[simp] theorem ev_pop {i : Nat} : evE C (.pop i e) st = (lstAt st i).bind fun _ => (evE C e st).bind fun q => (rd q.2 q.1).bind fun k => (lstAt q.2 i).bind fun m => (match k with
    | .py (.int k) => if okR k then (L2.ixN m.1.length k).bind fun j => (m.1[j]?).map fun p => (.va (.py p), q.2.set i (m.2 (.py (.list (m.1.eraseIdx j))))) else none
    | _ => none) := id rfl
@[simp] theorem ev_dct0 : evE C .dct0 st = some (.fe (.dct []), st) := id rfl
theorem ev_lc {own tg : List Nat} {one : Bool} {it : I} {c : T} : evE C (.lc own tg one it c e) st = (evI C it st).bind fun q => if own.all (fun i => calmSl (q.2.getD i .no)) then
      (lcL (fun x acc s => (bindT tg one x s).bind fun s1 => (evT C c s1).bind fun qc => if qc.1 then (evE C e qc.2).bind fun qe => qe.1.val.bind fun d => d.pyd.bind fun p =>
        if acc.length < lim then some (acc ++ [p], wipe qe.2 own) else none else some (acc, wipe qc.2 own)) q.1 [] (wipe q.2 own)).map fun r => (.fe (.py (.list r.1)), back q.2 r.2 own)
      else none := id rfl
@[simp] theorem evP_no : evP C .no st = some (none, st) := id rfl
@[simp] theorem evP_so : evP C (.so e) st = (evE C e st).bind fun q => (match rd q.2 q.1 with
    | some (.py (.int i)) => some (some i, q.2)
    | _ => none) := id rfl
@[simp] theorem evT_v : evT C (.v e) st = (evE C e st).bind fun q => ((rd q.2 q.1).bind D.tru).map fun b => (b, q.2) := id rfl
@[simp] theorem evT_and {x y : T} : evT C (.and x y) st = (evT C x st).bind fun q => if q.1 then evT C y q.2 else some (false, q.2) := id rfl
@[simp] theorem evT_or {x y : T} : evT C (.or x y) st = (evT C x st).bind fun q => if q.1 then some (true, q.2) else evT C y q.2 := id rfl
@[simp] theorem evT_nt {x : T} : evT C (.nt x) st = (evT C x st).map fun q => (!q.1, q.2) := id rfl
@[simp] theorem evT_yes : evT C .yes st = some (true, st) := id rfl
@[simp] theorem evs_nil : evs C .nil st = some ([], st) := id rfl
@[simp] theorem evs_cons : evs C (.cons e es) st = (evE C e st).bind fun q => (evs C es q.2).map fun r => (q.1 :: r.1, r.2) := id rfl
@[simp] theorem evI_rng : evI C (.rng es) st = (evs C es st).bind fun q => (rds q.2 q.1).bind fun ds => (rngD ds).map fun xs => (xs, q.2) := id rfl
@[simp] theorem evI_enu : evI C (.enu es) st = (evs C es st).bind fun q => (vals q.1).bind fun ds => (match ds with
    | [.py (.list xs)] => some (enuL 0 xs, q.2)
    | [.py (.tuple xs)] => some (enuL 0 xs, q.2)
    | _ => none) := id rfl
@[simp] theorem evI_zip : evI C (.zip es) st = (evs C es st).bind fun q => (vals q.1).bind fun ds => (match ds with
    | [.py (.list xs), .py (.list ys)] => some (zipL xs ys, q.2)
    | [.py (.tuple xs), .py (.tuple ys)] => some (zipL xs ys, q.2)
    | _ => none) := id rfl
@[simp] theorem evI_v : evI C (.v e) st = (evE C e st).bind fun q => q.1.val.bind fun d => (match d with
    | .py (.list xs) => some (xs, q.2)
    | .py (.tuple xs) => some (xs, q.2)
    | _ => none) := id rfl
end
section
variable {C : Ct} {st : En} {e a b c : Ex} {es : Exs} {s : S} {ss ss2 : Ss} {m : T} {i : Nat}
@[simp] theorem ex_asg : exS C (.asg i e) st = (evE C e st).bind fun q => q.1.slot.map fun s => (.nx, q.2.set i s) := id rfl
@[simp] theorem ex_asgT {is : List Nat} : exS C (.asgT is e) st = (evE C e st).bind fun q => (rd q.2 q.1).bind fun d => d.pyd.bind fun p => (bindT is false p q.2).map fun s => (.nx, s) := id rfl
@[simp] theorem ex_par {is : List Nat} : exS C (.par is es) st = (evs C es st).bind fun q => (slots q.1).bind fun ss => if ss.length = is.length then some (.nx, setSl q.2 is ss) else none := id rfl
@[simp] theorem ex_divI {k : Int} {j : Nat} : exS C (.divI i k j e) st = (evE C e st).bind fun q => (rd q.2 q.1).bind fun d => (lstAt q.2 i).bind fun m => (match d with
    | .py (.tuple [a, b]) => (L2.ixN m.1.length k).map fun n => (.nx, (q.2.set i (m.2 (.py (.list (m.1.set n a))))).set j (.fr (.py b)))
    | _ => none) := id rfl
@[simp] theorem ex_setI {k : Ex} : exS C (.setI i k e) st = (evE C e st).bind fun q => q.1.val.bind fun d => d.pyd.bind fun p => (objAt q.2 i).bind fun _ => (evE C k q.2).bind fun qk => (rd qk.2 qk.1).bind fun kd => (objAt qk.2 i).bind fun m =>
      (putO m.1 kd p).map fun d' => (.nx, qk.2.set i (m.2 d')) := id rfl
@[simp] theorem ex_sdf {k : Ex} : exS C (.sdf i k e) st = (objAt st i).bind fun m0 => if m0.1.isDct then (evE C k st).bind fun qk => (rd qk.2 qk.1).bind fun kd => (evE C e qk.2).bind fun q => q.1.val.bind fun d => d.pyd.bind fun p => (objAt q.2 i).bind fun m =>
      (sdfO m.1 kd p).map fun d' => (.nx, q.2.set i (m.2 d')) else none := id rfl
@[simp] theorem ex_aug {o : O2} : exS C (.aug i o e) st = (match st[i]? with
    | some (.fr (.py (.int x))) => (evE C e st).bind fun q => (rd q.2 q.1).bind fun d => (match o, d with
      | .add, .py (.int y) => some (.nx, q.2.set i (.fr (.py (.int (x + y)))))
      | .sub, .py (.int y) => some (.nx, q.2.set i (.fr (.py (.int (x - y)))))
      | _, _ => none)
    | _ => none) := id rfl
@[simp] theorem ex_app : exS C (.app i e) st = (lstAt st i).bind fun _ => (evE C e st).bind fun q => q.1.val.bind fun d => d.pyd.bind fun p => (lstAt q.2 i).bind fun m =>
      if m.1.length < lim then some (.nx, q.2.set i (m.2 (.py (.list (m.1 ++ [p]))))) else none := id rfl
@[simp] theorem ex_ext : exS C (.ext i e) st = (lstAt st i).bind fun _ => (evE C e st).bind fun q => (rd q.2 q.1).bind fun d => (lstAt q.2 i).bind fun m => (match d with
    | .py (.list ys) => if m.1.length + ys.length < lim then some (.nx, q.2.set i (m.2 (.py (.list (m.1 ++ ys))))) else none
    | _ => none) := id rfl
@[simp] theorem ex_ex : exS C (.ex e) st = (evE C e st).map fun q => (.nx, q.2) := id rfl
@[simp] theorem ex_ret : exS C (.ret e) st = (evE C e st).bind fun q => (retE q.1).map fun o => (o, q.2) := id rfl
@[simp] theorem ex_retv : exS C (.retv i) st = (match st[i]? with
    | some (.fr d) => some (.rt d false, st)
    | some (.ow d) => some (.rt d true, st.set i .no)
    | _ => none) := id rfl
@[simp] theorem ex_retN : exS C .retN st = some (.rt (.py .none) false, st) := id rfl
@[simp] theorem ex_pass : exS C .pass st = some (.nx, st) := id rfl
@[simp] theorem ex_brk : exS C .brk st = some (.brk, st) := id rfl
@[simp] theorem ex_cont : exS C .cont st = some (.cont, st) := id rfl
@[simp] theorem ex_ifs : exS C (.ifs m ss ss2) st = (evT C m st).bind fun q => if q.1 then exs C ss q.2 else exs C ss2 q.2 := id rfl
theorem ex_whl : exS C (.whl m ss) st = whL (evT C m) (exs C ss) C.fuel st := id rfl
theorem ex_fr {tg : List Nat} {one : Bool} {it : I} : exS C (.fr tg one it ss) st = (evI C it st).bind fun q => frL (fun x s => (bindT tg one x s).bind (exs C ss)) q.1 q.2 := id rfl
@[simp] theorem exs_nil : exs C .nil st = some (.nx, st) := id rfl
@[simp] theorem exs_cons : exs C (.cons s ss) st = (exS C s st).bind fun r => match r.1 with
    | .nx => exs C ss r.2
    | .brk => some (.brk, r.2)
    | .cont => some (.cont, r.2)
    | .rt d b => some (.rt d b, r.2) := id rfl
end
@[simp] theorem rd_va {st : En} {d : D} : rd st (.va d) = some d := id rfl
@[simp] theorem rd_fe {st : En} {d : D} : rd st (.fe d) = some d := id rfl
@[simp] theorem rd_pk {st : En} {i : Nat} : rd st (.pk i) = (st[i]?).bind Sl.con := id rfl
@[simp] theorem rd_ofI {st : En} {i : Int} : rd st (ofI i) = some (.py (.int i)) := id rfl
@[simp] theorem rd_ofB {st : En} {i : Bool} : rd st (ofB i) = some (.py (.bool i)) := id rfl
@[simp] theorem con_fr {d : D} : (Sl.fr d).con = some d := id rfl
@[simp] theorem con_ow {d : D} : (Sl.ow d).con = some d := id rfl
@[simp] theorem con_bo {d : D} : (Sl.bo d).con = some d := id rfl
@[simp] theorem val_va {d : D} : (Od.va d).val = some d := id rfl
@[simp] theorem val_fe {d : D} : (Od.fe d).val = some d := id rfl
@[simp] theorem val_ofI {i : Int} : (ofI i).val = some (.py (.int i)) := id rfl
@[simp] theorem val_ofB {i : Bool} : (ofB i).val = some (.py (.bool i)) := id rfl
@[simp] theorem slot_va {d : D} : (Od.va d).slot = some (.fr d) := id rfl
@[simp] theorem slot_fe {d : D} : (Od.fe d).slot = some (.ow d) := id rfl
@[simp] theorem slot_ofI {i : Int} : (ofI i).slot = some (.fr (.py (.int i))) := id rfl
@[simp] theorem slot_ofB {i : Bool} : (ofB i).slot = some (.fr (.py (.bool i))) := id rfl
@[simp] theorem ret_va {d : D} : retE (.va d) = some (.rt d false) := id rfl
@[simp] theorem ret_fe {d : D} : retE (.fe d) = some (.rt d true) := id rfl
@[simp] theorem ret_ofI {i : Int} : retE (ofI i) = some (.rt (.py (.int i)) false) := id rfl
@[simp] theorem ret_ofB {i : Bool} : retE (ofB i) = some (.rt (.py (.bool i)) false) := id rfl
@[simp] theorem pyd_py {p : PyData} : (D.py p).pyd = some p := id rfl
@[simp] theorem vals_nil : vals [] = some [] := id rfl
@[simp] theorem vals_cons {o : Od} {os : List Od} : vals (o :: os) = o.val.bind fun d => (vals os).map (d :: ·) := id rfl
@[simp] theorem vas_nil : vas [] = some [] := id rfl
@[simp] theorem vas_va {d : D} {os : List Od} : vas (.va d :: os) = (vas os).map (d :: ·) := id rfl
@[simp] theorem vas_ofI {i : Int} {os : List Od} : vas (ofI i :: os) = (vas os).map (.py (.int i) :: ·) := id rfl
@[simp] theorem pyds_nil : pyds [] = some [] := id rfl
@[simp] theorem pyds_cons {d : D} {ds : List D} : pyds (d :: ds) = d.pyd.bind fun p => (pyds ds).map (p :: ·) := id rfl
@[simp] theorem rds_nil {st : En} : rds st [] = some [] := id rfl
@[simp] theorem rds_cons {st : En} {o : Od} {os : List Od} : rds st (o :: os) = (rd st o).bind fun d => (rds st os).map (d :: ·) := id rfl
@[simp] theorem slots_nil : slots [] = some [] := id rfl
@[simp] theorem slots_cons {o : Od} {os : List Od} : slots (o :: os) = o.slot.bind fun s => (slots os).map (s :: ·) := id rfl
@[simp] theorem setSl_nil {st : En} : setSl st [] [] = st := id rfl
@[simp] theorem setSl_cons {st : En} {i : Nat} {is : List Nat} {s : Sl} {ss : List Sl} : setSl st (i :: is) (s :: ss) = setSl (st.set i s) is ss := id rfl
@[simp] theorem tru_bool {b : Bool} : (D.py (.bool b)).tru = some b := id rfl
@[simp] theorem tru_int {b : Int} : (D.py (.int b)).tru = some (b != 0) := id rfl
@[simp] theorem bind_one {i : Nat} {p : PyData} {st : En} : bindT [i] true p st = some (st.set i (.fr (.py p))) := id rfl
/-- the call of a def, by what it computes -/
theorem run_of {T : Tab} {fu n : Nat} {f : Str} {F : Fd} {ds : List D} (h : T.fds.lookup f = some F) (hl : ds.length = F.ps.length) : run T fu (n + 1) f ds = (exs (T.ct fu (run T fu n)) F.body (enter F ds)).bind fun r =>
      (lentE F.io r.2).bind fun fin => match r.1 with
      | .rt d b => some (d, b, fin)
      | .nx => some (.py .none, false, fin)
      | _ => none := by
  rw [run, h]
  simp only [Option.bind_some]
  rw [if_pos hl] <;> rfl
@[simp] theorem ct_call {T : Tab} {fu : Nat} {g : Str → List D → Option (D × Bool × D)} : (T.ct fu g).call = g := id rfl
@[simp] theorem ct_fuel {T : Tab} {fu : Nat} {g : Str → List D → Option (D × Bool × D)} : (T.ct fu g).fuel = fu := id rfl
theorem ct_io {T : Tab} {fu : Nat} {g : Str → List D → Option (D × Bool × D)} {f : Str} {F : Fd} (h : T.fds.lookup f = some F) : (T.ct fu g).io f = F.io := by
  show (T.fds.lookup f).elim false Fd.io = _
  rw [h] <;> rfl
/-- a call that lends nothing -/
theorem call_pl {C : Ct} {f : Str} {perm : List Nat} {os : List Od} {st : En} (h : C.io f = false) : callE C f perm os st = (vals (perm.map fun j => os.getD j (.pk 0))).bind fun ds => (C.call f ds).map fun q => (if q.2.1 then .fe q.1 else .va q.1, st) := by
  unfold callE
  rw [h]
  rfl
end Mi
end
section
/-! Ev2: data operations, comprehensions, loops, for plain proofs. -/
namespace Mi
open PySem
@[simp] theorem lent_f {st : En} : lentE false st = some (.py .none) := id rfl
@[simp] theorem lent_t {d : D} {st : En} : lentE true (.bo d :: st) = some d := id rfl
@[simp] theorem cmp_lt {i j : Int} : cmp .lt (.py (.int i)) (.py (.int j)) = some (decide (i < j)) := id rfl
@[simp] theorem cmp_le {i j : Int} : cmp .le (.py (.int i)) (.py (.int j)) = some (decide (i ≤ j)) := id rfl
@[simp] theorem cmp_gt {i j : Int} : cmp .gt (.py (.int i)) (.py (.int j)) = some (decide (j < i)) := id rfl
@[simp] theorem cmp_ge {i j : Int} : cmp .ge (.py (.int i)) (.py (.int j)) = some (decide (j ≤ i)) := id rfl
theorem eqv_int {i j : Int} : PyData.eqv (.int i) (.int j) = decide (i = j) := by
  simp [PyData.eqv]
  try rfl
@[simp] theorem cmp_eqi {i j : Int} : cmp .eq (.py (.int i)) (.py (.int j)) = some (decide (i = j)) := by
  show (if okDp (.int i) && okDp (.int j) then some (PyData.eqv (.int i) (.int j)) else none) = _
  rw [eqv_int]
  rfl
@[simp] theorem cmp_nei {i j : Int} : cmp .ne (.py (.int i)) (.py (.int j)) = some (!decide (i = j)) := by
  show (if okDp (.int i) && okDp (.int j) then some (!PyData.eqv (.int i) (.int j)) else none) = _
  rw [eqv_int]
  rfl
@[simp] theorem op_add {i j : Int} : op2 .add (.py (.int i)) (.py (.int j)) = some (ofI (i + j)) := id rfl
@[simp] theorem op_sub {i j : Int} : op2 .sub (.py (.int i)) (.py (.int j)) = some (ofI (i - j)) := id rfl
theorem op_mul {i j : Int} (h : okMul i j = true) : op2 .mul (.py (.int i)) (.py (.int j)) = some (ofI (i * j)) := by
  show (if okMul i j then some (ofI (i * j)) else none) = _
  rw [if_pos h]
theorem op_fdiv {i j : Int} (h : 0 < j) (h2 : j < 1073741824) : op2 .fdiv (.py (.int i)) (.py (.int j)) = some (ofI (i / j)) := if_pos ⟨h, h2⟩
theorem op_mod {i j : Int} (h : 0 < j) : op2 .mod (.py (.int i)) (.py (.int j)) = some (ofI (i % j)) := if_pos h
@[simp] theorem len_tup {xs : List PyData} : biD .len [.py (.tuple xs)] = some (ofI xs.length) := id rfl
@[simp] theorem len_lst {xs : List PyData} : biD .len [.py (.list xs)] = some (ofI xs.length) := id rfl
@[simp] theorem len_scr {xs : List Int} : biD .len [.scr xs] = some (ofI xs.length) := id rfl
@[simp] theorem tup_lst {xs : List PyData} : biD .tuple [.py (.list xs)] = some (.va (.py (.tuple xs))) := id rfl
@[simp] theorem tup_tup {xs : List PyData} : biD .tuple [.py (.tuple xs)] = some (.va (.py (.tuple xs))) := id rfl
@[simp] theorem lst_lst {xs : List PyData} : biD .list [.py (.list xs)] = some (.fe (.py (.list xs))) := id rfl
@[simp] theorem lst_tup {xs : List PyData} : biD .list [.py (.tuple xs)] = some (.fe (.py (.list xs))) := id rfl
@[simp] theorem int_int {i : Int} : biD .int [.py (.int i)] = some (ofI i) := id rfl
@[simp] theorem isTy_tup {xs : List PyData} : isTy (.tuple xs) .tuple = true := id rfl
@[simp] theorem isTy_ii {i : Int} : isTy (.int i) .int = true := id rfl
@[simp] theorem isTy_ib {i : Int} : isTy (.int i) .bool = false := id rfl
@[simp] theorem isTy_bb {i : Bool} : isTy (.bool i) .bool = true := id rfl
@[simp] theorem bools_nil : bools [] = some [] := id rfl
@[simp] theorem bools_cons {b : Bool} {r : List PyData} : bools (.bool b :: r) = (bools r).map (b :: ·) := id rfl
theorem bools_map {α : Type} (g : α → Bool) : ∀ l : List α, bools (l.map fun x => .bool (g x)) = some (l.map g)
  | [] => rfl
  | x :: l => by rw [List.map_cons, bools_cons, bools_map g l] <;> rfl
theorem all_bools {α : Type} {g : α → Bool} {l : List α} : biD .all [.py (.list (l.map fun x => .bool (g x)))] = some (ofB (l.all g)) := by
  show (bools _).map (fun bs => ofB (bs.all id)) = _
  rw [bools_map, Option.map_some]
  congr 2
  rw [List.all_map]
  rfl
theorem any_bools {α : Type} {g : α → Bool} {l : List α} : biD .any [.py (.list (l.map fun x => .bool (g x)))] = some (ofB (l.any g)) := by
  show (bools _).map (fun bs => ofB (bs.any id)) = _
  rw [bools_map, Option.map_some]
  congr 2
  rw [List.any_map]
  rfl
@[simp] theorem me_ixT {xs : List PyData} {ds : List D} : meD .index (.py (.tuple xs)) ds = indexD xs ds := id rfl
@[simp] theorem me_cnT {xs : List PyData} {ds : List D} : meD .count (.py (.tuple xs)) ds = countD xs ds := id rfl
@[simp] theorem me_cnL {xs : List PyData} {ds : List D} : meD .count (.py (.list xs)) ds = countD xs ds := id rfl
@[simp] theorem me_ixL {xs : List PyData} {ds : List D} : meD .index (.py (.list xs)) ds = index1 xs ds := id rfl
theorem index_1 {xs : List PyData} {x : PyData} {k : Nat} (h : okDp x = true) (e : (xs.findIdx? fun y => PyData.eqv y x) = some k) : indexD xs [.py x] = some (ofI (k : Int)) := by
  unfold indexD
  simp [h, e]
theorem index_2 {xs : List PyData} {x : PyData} {a k : Nat} (h : okDp x = true) (ha : a ≤ 1000) (e : ((xs.drop a).findIdx? fun y => PyData.eqv y x) = some k) : indexD xs [.py x, .py (.int (a : Int))] = some (ofI ((a : Int) + (k : Int))) := by
  have h1 : decide ((0 : Int) ≤ (a : Int)) = true := decide_eq_true (by omega)
  have h2 : decide ((a : Int) ≤ 1000000) = true := decide_eq_true (by omega)
  unfold indexD
  simp only [h, h1, h2, Bool.and_self, if_true, Int.toNat_natCast, e, Option.map_some]
theorem index_z {xs : List PyData} {x : PyData} {z b : Int} {k : Nat} (h : okDp x = true) (h0 : 0 ≤ z) (h1 : z ≤ 1000) (e : ((xs.drop z.toNat).findIdx? fun y => PyData.eqv y x) = some k) (hb : z + (k : Int) = b) : indexD xs [.py x, .py (.int z)] = some (ofI b) := by
  have q1 : decide ((0 : Int) ≤ z) = true := decide_eq_true h0
  have q2 : decide (z ≤ 1000000) = true := decide_eq_true (by omega)
  unfold indexD
  simp only [h, q1, q2, Bool.and_self, if_true, e, Option.map_some, hb]
/-- xs[i] -/
theorem item_nat {xs : List PyData} {k : Nat} {p : PyData} (h : xs[k]? = some p) : item (.py (.tuple xs)) (.py (.int (k : Int))) = some (.py p) ∧ item (.py (.list xs)) (.py (.int (k : Int))) = some (.py p) := by
  have lt : k < xs.length := (List.getElem?_eq_some_iff.mp h).1
  have e : L2.ixN xs.length (k : Int) = some k := by
    unfold L2.ixN
    simp
    omega
  have key : ((L2.ixN xs.length (k : Int)).bind fun k => (xs[k]?).map D.py) = some (D.py p) := by rw [e, Option.bind_some, h]; rfl
  exact ⟨key, key⟩
@[simp] theorem lim_le0 : 0 ≤ lim := by unfold lim; omega
@[simp] theorem lim_le1 : 1 ≤ lim := by unfold lim; omega
@[simp] theorem lim_le2 : 2 ≤ lim := by unfold lim; omega
@[simp] theorem lim_le3 : 3 ≤ lim := by unfold lim; omega
@[simp] theorem lim_le4 : 4 ≤ lim := by unfold lim; omega
@[simp] theorem lim_le5 : 5 ≤ lim := by unfold lim; omega
@[simp] theorem lim_le6 : 6 ≤ lim := by unfold lim; omega
@[simp] theorem lim_le7 : 7 ≤ lim := by unfold lim; omega
@[simp] theorem lim_le8 : 8 ≤ lim := by unfold lim; omega
/-! ### blocks -/
theorem back_wipe (st : En) (own : List Nat) : back st (wipe st own) own = st := by
  apply List.ext_getElem?
  intro j
  by_cases e : j ∈ own
  · by_cases l : j < st.length
    · have l2 : j < (back st (wipe st own) own).length := by rw [back_len, wipe_len]; exact l
      have := back_in st (wipe st own) e (List.getElem?_eq_getElem l2)
      rw [List.getElem?_eq_getElem l2, this, List.getD_eq_getElem?_getD, List.getElem?_eq_getElem l] <;> rfl
    · rw [List.getElem?_eq_none (by rw [back_len, wipe_len]; omega), List.getElem?_eq_none (by omega)]
  · rw [back_out _ _ e, wipe_out _ e]
theorem lcL_if {f : PyData → List PyData → En → Option (List PyData × En)} {s : En} (p : PyData → Bool) (g : PyData → PyData) : ∀ (xs acc : List PyData), acc.length + xs.length ≤ lim →
    (∀ x ∈ xs, ∀ acc, acc.length < lim → f x acc s = some (if p x then acc ++ [g x] else acc, s)) → lcL f xs acc s = some (acc ++ (xs.filter p).map g, s)
  | [], acc, _, _ => by simp [lcL]
  | x :: xs, acc, hl, h => by
    rw [List.length_cons] at hl
    rw [lcL, h x (List.mem_cons_self ..) acc (by omega), Option.bind_some]
    cases hp : p x with
    | true =>
      rw [if_pos rfl, lcL_if p g xs (acc ++ [g x]) (by rw [List.length_append]; simp; omega) fun y hy => h y (List.mem_cons_of_mem _ hy), List.filter_cons_of_pos hp]
      simp
    | false =>
      rw [if_neg Bool.false_ne_true, lcL_if p g xs acc (by omega) fun y hy => h y (List.mem_cons_of_mem _ hy), List.filter_cons_of_neg (by rw [hp]; simp)]
section
variable {C : Ct} {own tg : List Nat} {one : Bool} {it : I} {c : T} {e : Ex} {st st' : En} {xs : List PyData}
/-- a comprehension with a test -/
theorem lc_if (p : PyData → Bool) (g : PyData → PyData) (hI : evI C it st = some (xs, st')) (hc : (own.all fun i => calmSl (st'.getD i .no)) = true) (hl : xs.length ≤ lim)
    (h : ∀ x ∈ xs, ∃ s1 s2, bindT tg one x (wipe st' own) = some s1 ∧ evT C c s1 = some (p x, s2) ∧ (p x = false → wipe s2 own = wipe st' own) ∧ (p x = true → ∃ o s3, evE C e s2 = some (o, s3) ∧ o.val = some (.py (g x)) ∧ wipe s3 own = wipe st' own)) :
    evE C (.lc own tg one it c e) st = some (.fe (.py (.list ((xs.filter p).map g))), st') := by
  rw [ev_lc, hI, Option.bind_some]
  simp only
  rw [if_pos hc, lcL_if p g xs [] (by simpa using hl) fun x hx acc ha => ?_]
  · simp only [Option.map_some, List.nil_append, back_wipe]
  · obtain ⟨s1, s2, e1, e2, e3, e4⟩ := h x hx
    rw [e1, Option.bind_some, e2, Option.bind_some]
    simp only
    cases hp : p x with
    | false => simp [e3 hp]
    | true =>
      obtain ⟨o, s3, k1, k2, k3⟩ := e4 hp
      simp [k1, k2, k3, ha]
/-- a comprehension without a test -/
theorem lc_map (g : PyData → PyData) (hI : evI C it st = some (xs, st')) (hc : (own.all fun i => calmSl (st'.getD i .no)) = true) (hl : xs.length ≤ lim)
    (h : ∀ x ∈ xs, ∃ s1 o s3, bindT tg one x (wipe st' own) = some s1 ∧ evE C e s1 = some (o, s3) ∧ o.val = some (.py (g x)) ∧ wipe s3 own = wipe st' own) :
    evE C (.lc own tg one it .yes e) st = some (.fe (.py (.list (xs.map g))), st') := by
  have := lc_if (c := .yes) (fun _ => true) g hI hc hl fun x hx => by
    obtain ⟨s1, o, s3, k1, k2, k3, k4⟩ := h x hx
    exact ⟨s1, s1, k1, rfl, (fun z => by cases z), fun _ => ⟨o, s3, k2, k3, k4⟩⟩
  rw [this, List.filter_eq_self.mpr (by simp)]
/-- a loop whose turns end by themselves: J what holds of the frame ahead of turn i -/
theorem frL_J {f : PyData → En → Option (Out × En)} (J : Nat → En → Prop) : ∀ (xs : List PyData) (k : Nat) (s : En), J k s → (∀ i x s, xs[i]? = some x → J (k + i) s → ∃ s' o, f x s = some (o, s') ∧ (o = .nx ∨ o = .cont) ∧ J (k + i + 1) s') →
    ∃ s', frL f xs s = some (.nx, s') ∧ J (k + xs.length) s'
  | [], k, s, h, _ => ⟨s, rfl, h⟩
  | x :: xs, k, s, h, step => by
    obtain ⟨s1, o, e1, e2, h1⟩ := step 0 x s rfl h
    obtain ⟨s2, e3, h2⟩ := frL_J J xs (k + 1) s1 h1 fun i y s hy hj => by
      have := step (i + 1) y s hy (by rw [show k + (i + 1) = k + 1 + i by omega]; exact hj)
      rw [show k + (i + 1) + 1 = k + 1 + i + 1 by omega] at this
      exact this
    refine ⟨s2, ?_, by rw [List.length_cons, show k + (xs.length + 1) = k + 1 + xs.length by omega]; exact h2⟩
    rw [frL, e1, Option.bind_some]
    rcases e2 with rfl | rfl
    · exact e3
    · exact e3
/-- a loop whose turns change the frame in a known way -/
theorem frL_fold {f : PyData → En → Option (Out × En)} (g : En → PyData → En) : ∀ (xs : List PyData) (s : En), (∀ i x, xs[i]? = some x → f x ((xs.take i).foldl g s) = some (.nx, (xs.take (i + 1)).foldl g s)) → frL f xs s = some (.nx, xs.foldl g s)
  | [], s, _ => rfl
  | x :: xs, s, h => by
    have h0 := h 0 x rfl
    simp only [List.take_zero, List.foldl_nil, List.take_succ_cons, List.foldl_cons] at h0
    rw [frL, h0, Option.bind_some]
    exact frL_fold g xs (g s x) fun i y hy => by
      have := h (i + 1) y hy
      simpa using this
theorem lcL_J {f : PyData → List PyData → En → Option (List PyData × En)} (J : Nat → List PyData → En → Prop) : ∀ (xs : List PyData) (k : Nat) (acc : List PyData) (s : En), J k acc s →
    (∀ i x acc s, xs[i]? = some x → J (k + i) acc s → ∃ acc' s', f x acc s = some (acc', s') ∧ J (k + i + 1) acc' s') → ∃ acc' s', lcL f xs acc s = some (acc', s') ∧ J (k + xs.length) acc' s'
  | [], k, acc, s, h, _ => ⟨acc, s, rfl, h⟩
  | x :: xs, k, acc, s, h, step => by
    obtain ⟨a1, s1, e1, h1⟩ := step 0 x acc s rfl h
    obtain ⟨a2, s2, e2, h2⟩ := lcL_J J xs (k + 1) a1 s1 h1 fun i y acc s hy hj => by
      have := step (i + 1) y acc s hy (by rw [show k + (i + 1) = k + 1 + i by omega]; exact hj)
      rw [show k + (i + 1) + 1 = k + 1 + i + 1 by omega] at this
      exact this
    exact ⟨a2, s2, by rw [lcL, e1, Option.bind_some]; exact e2, by rw [List.length_cons, show k + (xs.length + 1) = k + 1 + xs.length by omega]; exact h2⟩
/-- while: J m ahead of the turn that has m turns behind it -/
theorem whL_J {c : En → Option (Bool × En)} {f : En → Option (Out × En)} (J : Nat → En → Prop) (D : En → Prop) (h0 : ∀ s, J 0 s → ∃ s', c s = some (false, s') ∧ D s') (h1 : ∀ m s, J (m + 1) s → ∃ s1 s2 o, c s = some (true, s1) ∧ f s1 = some (o, s2) ∧ (o = .nx ∨ o = .cont) ∧ J m s2) :
    ∀ (m fu : Nat) (s : En), m < fu → J m s → ∃ s', whL c f fu s = some (.nx, s') ∧ D s'
  | 0, fu + 1, s, _, h => by
    obtain ⟨s', e, d⟩ := h0 s h
    exact ⟨s', by rw [whL, e, Option.bind_some]; rfl, d⟩
  | m + 1, fu + 1, s, l, h => by
    obtain ⟨s1, s2, o, e1, e2, e3, h2⟩ := h1 m s h
    obtain ⟨s', e4, d⟩ := whL_J J D h0 h1 m fu s2 (by omega) h2
    refine ⟨s', ?_, d⟩
    rw [whL, e1, Option.bind_some]
    simp only [if_true]
    rw [e2, Option.bind_some]
    rcases e3 with rfl | rfl
    · exact e4
    · exact e4
end
end Mi
end
section
/-! Ev3: how long data are shown, how deep they are. -/
namespace Mi
open PySem
structure Sz (p : PyData) (k d : Nat) : Prop where
  lv : p.leavesShort 12 = true
  bk : p.bulk ≤ k
  dp : p.depth ≤ d
  sh : p.showable = true
structure SzA (xs : List PyData) (k d : Nat) : Prop where
  lv : PyData.leavesShortAll 12 xs = true
  bk : PyData.bulkAll xs ≤ k
  dp : PyData.depthAll xs ≤ d
  sh : PyData.showableAll xs = true
theorem sz_nat : ∀ i : Fin 100, (PyData.int ((i : Nat) : Int)).leavesShort 12 = true ∧ (PyData.int ((i : Nat) : Int)).showable = true := by decide +kernel
theorem Sz.nat {i : Nat} (h : i < 100) : Sz (.int (i : Int)) 0 0 := ⟨(sz_nat ⟨i, h⟩).1, Nat.le_refl 0, Nat.le_refl 0, (sz_nat ⟨i, h⟩).2⟩
theorem Sz.bool (b : Bool) : Sz (.bool b) 0 0 := ⟨rfl, Nat.le_refl 0, Nat.le_refl 0, rfl⟩
theorem Sz.non : Sz .none 0 0 := ⟨rfl, Nat.le_refl 0, Nat.le_refl 0, rfl⟩
theorem Sz.mono {p : PyData} {k k' d d' : Nat} (s : Sz p k d) (h : k ≤ k') (h2 : d ≤ d') : Sz p k' d' := ⟨s.lv, Nat.le_trans s.bk h, Nat.le_trans s.dp h2, s.sh⟩
theorem SzA.mono {p : List PyData} {k k' d d' : Nat} (s : SzA p k d) (h : k ≤ k') (h2 : d ≤ d') : SzA p k' d' := ⟨s.lv, Nat.le_trans s.bk h, Nat.le_trans s.dp h2, s.sh⟩
theorem SzA.nil {d : Nat} : SzA [] 0 d := ⟨rfl, Nat.le_refl 0, Nat.zero_le d, rfl⟩
theorem SzA.cons {x : PyData} {xs : List PyData} {k k2 d : Nat} (s : Sz x k d) (t : SzA xs k2 d) : SzA (x :: xs) (k + 1 + k2) d := by
  refine ⟨?_, ?_, ?_, ?_⟩
  · show (x.leavesShort 12 && PyData.leavesShortAll 12 xs) = true
    rw [s.lv, t.lv] <;> rfl
  · show x.bulk + 1 + PyData.bulkAll xs ≤ _
    have := s.bk
    have := t.bk
    omega
  · show max x.depth (PyData.depthAll xs) ≤ d
    exact Nat.max_le.mpr ⟨s.dp, t.dp⟩
  · show (x.showable && PyData.showableAll xs) = true
    rw [s.sh, t.sh] <;> rfl
theorem SzA.map {α : Type} {f : α → PyData} {k d : Nat} : ∀ {l : List α}, (∀ a ∈ l, Sz (f a) k d) → SzA (l.map f) (l.length * (k + 1)) d
  | [], _ => .mono .nil (Nat.zero_le _) (Nat.le_refl d)
  | a :: l, h => by
    refine (SzA.cons (h a (List.mem_cons_self ..)) (SzA.map fun b hb => h b (List.mem_cons_of_mem _ hb))).mono ?_ (Nat.le_refl d)
    rw [List.length_cons, Nat.add_mul]
    omega
theorem SzA.app {xs ys : List PyData} {k k2 d : Nat} (s : SzA xs k d) (t : SzA ys k2 d) : SzA (xs ++ ys) (k + k2) d := by
  induction xs generalizing k with
  | nil => exact t.mono (Nat.le_add_left _ _) (Nat.le_refl d)
  | cons x xs ih =>
    obtain ⟨h1, h2, h3, h4⟩ := s
    have h1 : (x.leavesShort 12 && PyData.leavesShortAll 12 xs) = true := h1
    have h2 : x.bulk + 1 + PyData.bulkAll xs ≤ k := h2
    have h3 : max x.depth (PyData.depthAll xs) ≤ d := h3
    have h4 : (x.showable && PyData.showableAll xs) = true := h4
    rw [Bool.and_eq_true] at h1 h4
    have z := ih (k := PyData.bulkAll xs) ⟨h1.2, Nat.le_refl _, Nat.le_trans (Nat.le_max_right _ _) h3, h4.2⟩
    have c := SzA.cons (k := x.bulk) ⟨h1.1, Nat.le_refl _, Nat.le_trans (Nat.le_max_left _ _) h3, h4.1⟩ z
    exact c.mono (by omega) (Nat.le_refl d)
theorem Sz.tup {xs : List PyData} {k d : Nat} (s : SzA xs k d) : Sz (.tuple xs) k (d + 1) := ⟨s.lv, s.bk, Nat.succ_le_succ s.dp, s.sh⟩
theorem Sz.lst {xs : List PyData} {k d : Nat} (s : SzA xs k d) : Sz (.list xs) k (d + 1) := ⟨s.lv, s.bk, Nat.succ_le_succ s.dp, s.sh⟩
theorem Sz.ok {p : PyData} {k d : Nat} (s : Sz p k d) (h : d ≤ 30) : okDp p = true := decide_eq_true (Nat.le_trans s.dp h)
theorem Sz.len {p : PyData} {k d : Nat} (s : Sz p k d) (h : k ≤ 60000) : p.shown.length ≤ lim := by
  have := PyData.shown_le_bulk 12 (by decide) p s.lv
  have := s.bk
  unfold lim
  omega
theorem repr_lst {xs : List PyData} {k d : Nat} (s : Sz (.list xs) k d) (h : k ≤ 60000) (h2 : d ≤ 30) : biD .repr [.py (.list xs)] = some (.va (.py (.str (PyData.list xs).shown))) := by
  show (if okDp (.list xs) && (PyData.list xs).showable && decide ((PyData.list xs).shown.length ≤ lim) then _ else none) = _
  rw [if_pos]
  rw [s.ok h2, s.sh, decide_eq_true (s.len h)] <;> rfl
theorem eqv_str {a : Str} : PyData.eqv (.str a) (.str a) = true := by simp [PyData.eqv]
/-- what is shown alike is not unlike -/
theorem ne_str {a : Str} : cmp .ne (.py (.str a)) (.py (.str a)) = some false := by
  show (if okDp (.str a) && okDp (.str a) then some (!PyData.eqv (.str a) (.str a)) else none) = _
  rw [eqv_str]
  rfl
theorem eq_str {a : Str} : cmp .eq (.py (.str a)) (.py (.str a)) = some true := by
  show (if okDp (.str a) && okDp (.str a) then some (PyData.eqv (.str a) (.str a)) else none) = _
  rw [eqv_str]
  rfl
end Mi
end
section
/-! Nm: letters named as they come; the least of some rows. -/
namespace Nm
open PySem Mi
abbrev jN (n : Nat) : PyData := .int (n : Int)
/-! ### names -/
def stp (a : List Nat × List Nat) (x : Nat) : List Nat × List Nat :=
  let s := if x ∈ a.1 then a.1 else a.1 ++ [x]
  (s, a.2 ++ [s.idxOf x])
def nmF (W : List Nat) : List Nat × List Nat := W.foldl stp ([], [])
/-- the letters as they come -/
def seen (W : List Nat) : List Nat := (nmF W).1
def nm (W : List Nat) : List Nat := (nmF W).2
theorem nmF_snoc (W : List Nat) (x : Nat) : nmF (W ++ [x]) = stp (nmF W) x := by
  unfold nmF
  rw [List.foldl_append]
  rfl
theorem seen_snoc (W : List Nat) (x : Nat) : seen (W ++ [x]) = if x ∈ seen W then seen W else seen W ++ [x] := by
  unfold seen
  rw [nmF_snoc]
  rfl
theorem nm_snoc (W : List Nat) (x : Nat) : nm (W ++ [x]) = nm W ++ [(seen (W ++ [x])).idxOf x] := by
  unfold nm seen
  rw [nmF_snoc]
  rfl
theorem snocR {α : Type} {P : List α → Prop} (h0 : P []) (h1 : ∀ l x, P l → P (l ++ [x])) (l : List α) : P l := by
  rw [← List.reverse_reverse (as := l)]
  generalize l.reverse = m
  induction m with
  | nil => exact h0
  | cons x m ih => rw [List.reverse_cons]; exact h1 _ _ ih
theorem mem_seen (W : List Nat) (x : Nat) : x ∈ seen W ↔ x ∈ W := by
  refine snocR (P := fun W => x ∈ seen W ↔ x ∈ W) (by simp [seen, nmF]) (fun W y ih => ?_) W
  rw [seen_snoc]
  split
  · rename_i h
    rw [ih, List.mem_append, List.mem_singleton]
    constructor
    · exact .inl
    · rintro (h' | rfl)
      · exact h'
      · exact ih.mp h
  · rw [List.mem_append, List.mem_append, ih]
theorem nodup_seen (W : List Nat) : (seen W).Nodup := by
  refine snocR (P := fun W => (seen W).Nodup) (by simp [seen, nmF]) (fun W y ih => ?_) W
  rw [seen_snoc]
  split
  · exact ih
  · rename_i h
    rw [List.nodup_append]
    refine ⟨ih, by simp, fun a ha b hb => ?_⟩
    rw [List.mem_singleton] at hb
    subst hb
    exact fun e => h (e ▸ ha)
/-- what has come stays in its place -/
theorem seen_pre (W V : List Nat) : ∃ t, seen (W ++ V) = seen W ++ t := by
  refine snocR (P := fun V => ∃ t, seen (W ++ V) = seen W ++ t) ⟨[], by simp⟩ (fun V y ih => ?_) V
  obtain ⟨t, ht⟩ := ih
  rw [← List.append_assoc, seen_snoc]
  split
  · exact ⟨t, ht⟩
  · exact ⟨t ++ [y], by rw [ht, List.append_assoc]⟩
theorem idx_pre {s t : List Nat} {x : Nat} (h : x ∈ s) : (s ++ t).idxOf x = s.idxOf x := by
  rw [List.idxOf_append, if_pos h]
theorem nm_eq (W : List Nat) : nm W = W.map fun x => (seen W).idxOf x := by
  refine snocR (P := fun W => nm W = W.map fun x => (seen W).idxOf x) rfl (fun W y ih => ?_) W
  rw [nm_snoc, ih, List.map_append]
  congr 1
  refine List.map_congr_left fun x hx => ?_
  obtain ⟨t, ht⟩ := seen_pre W [y]
  rw [ht, idx_pre ((mem_seen W x).mpr hx)]
theorem nm_len (W : List Nat) : (nm W).length = W.length := by rw [nm_eq, List.length_map]
/-- other letters for letters -/
theorem seen_map {g : Nat → Nat} (W : List Nat) (hg : ∀ x ∈ W, ∀ y ∈ W, g x = g y → x = y) : seen (W.map g) = (seen W).map g := by
  revert hg
  refine snocR (P := fun W => (∀ x ∈ W, ∀ y ∈ W, g x = g y → x = y) → seen (W.map g) = (seen W).map g) (fun _ => rfl) (fun W y ih hg => ?_) W
  have ih' := ih fun a ha b hb => hg a (List.mem_append_left _ ha) b (List.mem_append_left _ hb)
  rw [List.map_append, List.map_singleton, seen_snoc, seen_snoc, ih']
  have e : g y ∈ (seen W).map g ↔ y ∈ seen W := by
    rw [List.mem_map]
    constructor
    · rintro ⟨a, ha, e⟩
      have := hg a (List.mem_append_left _ ((mem_seen W a).mp ha)) y (by simp) e
      subst this
      exact ha
    · exact fun h => ⟨y, h, rfl⟩
  by_cases h : y ∈ seen W
  · rw [if_pos h, if_pos (e.mpr h)]
  · rw [if_neg h, if_neg fun q => h (e.mp q), List.map_append, List.map_singleton]
theorem idx_map {g : Nat → Nat} : ∀ (s : List Nat) (x : Nat), (∀ y ∈ s, g y = g x → y = x) → (s.map g).idxOf (g x) = s.idxOf x
  | [], _, _ => rfl
  | y :: s, x, h => by
    rw [List.map_cons, List.idxOf_cons, List.idxOf_cons, idx_map s x fun z hz => h z (List.mem_cons_of_mem _ hz)]
    by_cases e : y = x
    · subst e; simp
    · have e2 : ¬ g y = g x := fun q => e (h y (List.mem_cons_self ..) q)
      have b1 : (y == x) = false := by simpa using e
      have b2 : (g y == g x) = false := by simpa using e2
      rw [b1, b2]
theorem nm_map {g : Nat → Nat} (W : List Nat) (hg : ∀ x ∈ W, ∀ y ∈ W, g x = g y → x = y) : nm (W.map g) = nm W := by
  rw [nm_eq, nm_eq, seen_map W hg, List.map_map]
  refine List.map_congr_left fun x hx => ?_
  exact idx_map _ x fun y hy => hg y ((mem_seen W y).mp hy) x hx
theorem idx_inj {s : List Nat} {x y : Nat} (hx : x ∈ s) (hy : y ∈ s) (e : s.idxOf x = s.idxOf y) : x = y := by
  have h1 := List.idxOf_lt_length_of_mem hx
  have h2 := List.idxOf_lt_length_of_mem hy
  have e1 : s[s.idxOf x] = x := List.getElem_idxOf h1
  have e2 : s[s.idxOf y] = y := List.getElem_idxOf h2
  have q : s[s.idxOf x]? = s[s.idxOf y]? := by rw [e]
  rw [List.getElem?_eq_getElem h1, List.getElem?_eq_getElem h2, e1, e2] at q
  exact Option.some.inj q
/-- a turned row -/
def trn (W : List Nat) (k : Nat) : List Nat := W.drop k ++ W.take k
theorem trn_mem {W : List Nat} {k x : Nat} : x ∈ trn W k ↔ x ∈ W := by
  unfold trn
  rw [List.mem_append, Or.comm, ← List.mem_append, List.take_append_drop]
theorem trn_map {g : Nat → Nat} {W : List Nat} {k : Nat} : trn (W.map g) k = (trn W k).map g := by
  unfold trn
  rw [List.map_append, List.map_drop, List.map_take]
theorem trn_len {W : List Nat} {k : Nat} : (trn W k).length = W.length := by
  unfold trn
  rw [List.length_append, List.length_drop, List.length_take]
  omega
/-! ### the least one -/
def tI (l : List Int) : PyData := .tuple (l.map .int)
def minL (x : List Int) (xs : List (List Int)) : List Int := xs.foldl (fun a y => if y < a then y else a) x
theorem lt_tI (a b : List Int) : PySem.W.dataLt (tI a) (tI b) = decide (a < b) := PySem.W.dataLt_ints a b
theorem minD_tI : ∀ (xs : List (List Int)) (x : List Int), PySem.W.minD (tI x) (xs.map tI) = tI (minL x xs)
  | [], x => rfl
  | y :: xs, x => by
    show PySem.W.minD (if PySem.W.dataLt (tI y) (tI x) = true then tI y else tI x) (xs.map tI) = tI (minL (if y < x then y else x) xs)
    rw [lt_tI]
    by_cases h : y < x
    · rw [if_pos h, if_pos (decide_eq_true h), minD_tI xs y]
    · rw [if_neg h, if_neg (by rw [decide_eq_false h]; exact Bool.false_ne_true), minD_tI xs x]
theorem minL_mem : ∀ (xs : List (List Int)) (x : List Int), minL x xs ∈ x :: xs
  | [], x => by simp [minL]
  | y :: xs, x => by
    show minL (if y < x then y else x) xs ∈ _
    have := minL_mem xs (if y < x then y else x)
    rw [List.mem_cons] at this
    rcases this with h | h
    · rw [h]
      split <;> simp
    · simp [h]
theorem minL_le : ∀ (xs : List (List Int)) (x : List Int), ∀ y ∈ x :: xs, ¬ y < minL x xs
  | [], x, y, hy => by
    rw [List.mem_singleton] at hy
    subst hy
    exact List.lt_irrefl y
  | z :: xs, x, y, hy => by
    show ¬ y < minL (if z < x then z else x) xs
    have ih := minL_le xs (if z < x then z else x)
    have hm := ih (if z < x then z else x) (List.mem_cons_self ..)
    rcases List.mem_cons.mp hy with rfl | hy
    · by_cases h : z < y
      · rw [if_pos h] at hm ih ⊢
        intro q
        exact hm (List.lt_trans h q)
      · rw [if_neg h] at hm ih ⊢
        exact hm
    · rcases List.mem_cons.mp hy with rfl | hy
      · by_cases h : y < x
        · rw [if_pos h] at hm ih ⊢
          exact hm
        · rw [if_neg h] at hm ih ⊢
          intro q
          exact hm (List.lt_of_le_of_lt (List.not_lt.mp h) q)
      · exact ih y (List.mem_cons_of_mem _ hy)
/-- the least one hangs on the members alone -/
theorem minL_same {x y : List Int} {xs ys : List (List Int)} (h : ∀ a, a ∈ x :: xs ↔ a ∈ y :: ys) : minL x xs = minL y ys := by
  have h1 := minL_le ys y _ ((h _).mp (minL_mem xs x))
  have h2 := minL_le xs x _ ((h _).mpr (minL_mem ys y))
  exact List.le_antisymm (List.not_lt.mp h2) (List.not_lt.mp h1)
theorem alike_tI : ∀ (a b : List Int), PySem.W.alikeAll (a.map .int) (b.map .int) = true
  | [], _ => by simp [PySem.W.alikeAll]
  | x :: a, [] => by simp [PySem.W.alikeAll]
  | x :: a, y :: b => by
    rw [List.map_cons, List.map_cons, PySem.W.alikeAll, alike_tI a b]
    simp [PySem.W.alike]
theorem min_rows {L : List (List Nat)} {x : List Nat} {xs : List (List Nat)} (e : L = x :: xs) (hs : ∀ l ∈ L, ∀ v ∈ l, v < 100) :
    biD .min [.py (.list (L.map fun l => .tuple (l.map jN)))] = some (.va (.py (tI (minL (x.map fun (n : Nat) => (n : Int)) (xs.map fun l => l.map fun (n : Nat) => (n : Int)))))) := by
  subst e
  have c : ∀ l : List Nat, PyData.tuple (l.map jN) = tI (l.map fun (n : Nat) => (n : Int)) := fun l => by
    unfold tI
    rw [List.map_map]
    rfl
  have c0 : ((x :: xs).map fun l => PyData.tuple (l.map jN)) = tI (x.map fun (n : Nat) => (n : Int)) :: (xs.map fun l => l.map fun (n : Nat) => (n : Int)).map tI := by
    rw [List.map_cons, List.map_map, c]
    congr 1
    exact List.map_congr_left fun l _ => c l
  have ok : okDp (.list ((x :: xs).map fun l => PyData.tuple (l.map jN))) = true :=
    (Sz.lst (SzA.map (k := (((x :: xs).map List.length).sum)) (d := 1) fun l hl => (Sz.tup (SzA.map (k := 0) (d := 0) fun v hv => Sz.nat (hs l hl v hv))).mono (by
      have : ∀ (ll : List (List Nat)) (l : List Nat), l ∈ ll → l.length ≤ (ll.map List.length).sum := by
        intro ll
        induction ll with
        | nil => intro l h; cases h
        | cons a ll ih =>
          intro l h
          rw [List.map_cons, List.sum_cons]
          rcases List.mem_cons.mp h with rfl | h
          · omega
          · have := ih l h; omega
      have := this _ _ hl
      omega) (Nat.le_refl _))).ok (by omega)
  rw [c0] at ok ⊢
  have a1 : alikeB (tI (x.map fun (n : Nat) => (n : Int)) :: (xs.map fun l => l.map fun (n : Nat) => (n : Int)).map tI) = true := by
    rw [← List.map_cons (f := tI) (a := x.map fun (n : Nat) => (n : Int))]
    unfold alikeB
    rw [List.all_eq_true]
    intro p hp
    rw [List.all_eq_true]
    intro q hq
    obtain ⟨a, _, rfl⟩ := List.mem_map.mp hp
    obtain ⟨b, _, rfl⟩ := List.mem_map.mp hq
    unfold tI
    rw [PySem.W.alike]
    exact alike_tI a b
  have a2 : ((tI (x.map fun (n : Nat) => (n : Int)) :: (xs.map fun l => l.map fun (n : Nat) => (n : Int)).map tI).all fun z => !isNn z) = true := by
    rw [← List.map_cons (f := tI) (a := x.map fun (n : Nat) => (n : Int)), List.all_eq_true]
    intro p hp
    obtain ⟨a, _, rfl⟩ := List.mem_map.mp hp
    rfl
  show (if _ && _ && _ then some (Od.va (.py (PySem.W.minD _ _))) else none) = _
  rw [a1, a2, ok, minD_tI]
  rfl
end Nm
end
section
/-! Nm2: readings of a word, the least of them. -/
namespace Nm
open PySem Mi
def Rot (A B : List Nat) : Prop := ∃ k, k ≤ A.length ∧ B = trn A k
theorem trn_trn {R : List Nat} {a k : Nat} (ha : a ≤ R.length) (hk : k ≤ R.length) : trn (trn R a) k = if a + k ≤ R.length then trn R (a + k) else trn R (a + k - R.length) := by
  unfold trn
  have l1 : (R.drop a).length = R.length - a := List.length_drop
  by_cases h : a + k ≤ R.length
  · rw [if_pos h, List.drop_append, List.take_append, l1, List.drop_drop, show k - (R.length - a) = 0 by omega, List.drop_zero, List.take_zero, List.append_nil]
    have e : R.take (a + k) = R.take a ++ (R.drop a).take k := by
      rw [← List.take_append_drop a (R.take (a + k)), List.take_take, List.drop_take, Nat.min_eq_left (by omega), show a + k - a = k by omega]
    rw [e, List.append_assoc]
  · have d1 : (R.drop a).drop k = [] := List.drop_of_length_le (by rw [l1]; omega)
    have t1 : (R.drop a).take k = R.drop a := List.take_of_length_le (by rw [l1]; omega)
    rw [if_neg h, List.drop_append, List.take_append, l1, d1, t1, List.nil_append]
    have e1 : k - (R.length - a) = a + k - R.length := by omega
    rw [e1, List.take_take, Nat.min_eq_left (by omega)]
    have e2 : R.drop (a + k - R.length) = (R.take a).drop (a + k - R.length) ++ R.drop a := by
      have e3 := List.take_append_drop a R
      rw [show R.drop (a + k - R.length) = (R.take a ++ R.drop a).drop (a + k - R.length) by rw [e3], List.drop_append, show a + k - R.length - (R.take a).length = 0 by rw [List.length_take]; omega, List.drop_zero]
    rw [e2, List.append_assoc]
theorem trn_zero {R : List Nat} : trn R 0 = R := by simp [trn]
theorem trn_full {R : List Nat} : trn R R.length = R := by simp [trn]
theorem trn_rev {R : List Nat} {a : Nat} (ha : a ≤ R.length) : (trn R a).reverse = trn R.reverse (R.length - a) := by
  unfold trn
  rw [List.reverse_append, List.drop_reverse, List.take_reverse, show R.length - (R.length - a) = a by omega]
theorem Rot.refl (A : List Nat) : Rot A A := ⟨0, Nat.zero_le _, trn_zero.symm⟩
theorem Rot.trans {A B D : List Nat} (h : Rot A B) (g : Rot B D) : Rot A D := by
  obtain ⟨a, ha, rfl⟩ := h
  obtain ⟨k, hk, rfl⟩ := g
  rw [trn_len] at hk
  rw [trn_trn ha hk]
  split
  · rename_i q; exact ⟨_, q, rfl⟩
  · exact ⟨_, by omega, rfl⟩
theorem Rot.symm {A B : List Nat} (h : Rot A B) : Rot B A := by
  obtain ⟨a, ha, rfl⟩ := h
  refine ⟨A.length - a, by rw [trn_len]; omega, ?_⟩
  rw [trn_trn ha (by omega), if_pos (by omega), show a + (A.length - a) = A.length by omega, trn_full]
theorem Rot.rev {A B : List Nat} (h : Rot A B) : Rot A.reverse B.reverse := by
  obtain ⟨a, ha, rfl⟩ := h
  exact ⟨A.length - a, by rw [List.length_reverse]; omega, trn_rev ha⟩
theorem Rot.len {A B : List Nat} (h : Rot A B) : B.length = A.length := by
  obtain ⟨a, ha, rfl⟩ := h
  exact trn_len
/-- the readings, m from each side -/
def rds (W : List Nat) (m : Nat) : List (List Nat) := ((List.range m).map fun k => nm (trn W k)) ++ ((List.range m).map fun k => nm (trn W.reverse k))
theorem mem_rds {W : List Nat} {m : Nat} (hm : (m = max W.length 1) ∨ m = W.length + 1) (a : List Nat) : a ∈ rds W m ↔ ∃ V, (Rot W V ∨ Rot W.reverse V) ∧ a = nm V := by
  have one : ∀ R : List Nat, R.length = W.length → (a ∈ ((List.range m).map fun k => nm (trn R k)) ↔ ∃ V, Rot R V ∧ a = nm V) := fun R hR => by
    rw [List.mem_map]
    constructor
    · rintro ⟨k, hk, rfl⟩
      rw [List.mem_range] at hk
      refine ⟨trn R k, ?_, rfl⟩
      by_cases h : k ≤ R.length
      · exact ⟨k, h, rfl⟩
      · exact absurd (show k ≤ R.length by rcases hm with h | h <;> omega) h
    · rintro ⟨V, ⟨k, hk, rfl⟩, rfl⟩
      rw [hR] at hk
      by_cases h : k < m
      · exact ⟨k, List.mem_range.mpr h, rfl⟩
      · refine ⟨0, List.mem_range.mpr (by rcases hm with h | h <;> omega), ?_⟩
        have : k = R.length := by rcases hm with h | h <;> omega
        rw [this, trn_full, trn_zero]
  unfold rds
  rw [List.mem_append, one W rfl, one W.reverse (List.length_reverse ..)]
  constructor
  · rintro (⟨V, h, e⟩ | ⟨V, h, e⟩)
    · exact ⟨V, .inl h, e⟩
    · exact ⟨V, .inr h, e⟩
  · rintro ⟨V, h | h, e⟩
    · exact .inl ⟨V, h, e⟩
    · exact .inr ⟨V, h, e⟩
def castL (l : List Nat) : List Int := l.map fun (n : Nat) => (n : Int)
def leastI : List (List Nat) → List Int
  | [] => []
  | x :: xs => minL (castL x) (xs.map castL)
theorem least_same {L L' : List (List Nat)} (h : ∀ a, a ∈ L ↔ a ∈ L') (n : L ≠ []) (n' : L' ≠ []) : leastI L = leastI L' := by
  cases L with
  | nil => exact absurd rfl n
  | cons x xs =>
    cases L' with
    | nil => exact absurd rfl n'
    | cons y ys =>
      refine minL_same fun a => ?_
      rw [← List.map_cons, ← List.map_cons, List.mem_map, List.mem_map]
      exact ⟨fun ⟨b, hb, e⟩ => ⟨b, (h b).mp hb, e⟩, fun ⟨b, hb, e⟩ => ⟨b, (h b).mpr hb, e⟩⟩
theorem min_least {L : List (List Nat)} (n : L ≠ []) (hs : ∀ l ∈ L, ∀ v ∈ l, v < 100) : biD .min [.py (.list (L.map fun l => .tuple (l.map jN)))] = some (.va (.py (tI (leastI L)))) := by
  cases L with
  | nil => exact absurd rfl n
  | cons x xs => exact min_rows rfl hs
theorem rds_ne {W : List Nat} {m : Nat} (hm : 0 < m) : rds W m ≠ [] := by
  unfold rds
  cases m with
  | zero => omega
  | succ m => rw [List.range_succ]; simp
/-- the normal word -/
def norm (W : List Nat) : List Int := leastI (rds W (W.length + 1))
theorem norm_max (W : List Nat) : leastI (rds W (max W.length 1)) = norm W := by
  refine least_same (fun a => ?_) (rds_ne (by omega)) (rds_ne (by omega))
  rw [mem_rds (.inl rfl), mem_rds (.inr rfl)]
theorem norm_map {g : Nat → Nat} {W : List Nat} (hg : ∀ x ∈ W, ∀ y ∈ W, g x = g y → x = y) : norm (W.map g) = norm W := by
  have e : rds (W.map g) (W.length + 1) = rds W (W.length + 1) := by
    unfold rds
    congr 1
    · refine List.map_congr_left fun k _ => ?_
      rw [trn_map, nm_map _ fun x hx y hy => hg x (trn_mem.mp hx) y (trn_mem.mp hy)]
    · refine List.map_congr_left fun k _ => ?_
      rw [← List.map_reverse, trn_map, nm_map _ fun x hx y hy => hg x (List.mem_reverse.mp (trn_mem.mp hx)) y (List.mem_reverse.mp (trn_mem.mp hy))]
  unfold norm
  rw [List.length_map, e]
theorem norm_nm (W : List Nat) : norm (nm W) = norm W := by
  rw [nm_eq]
  exact norm_map fun x hx y hy e => idx_inj ((mem_seen W x).mpr hx) ((mem_seen W y).mpr hy) e
theorem norm_rot {W V : List Nat} (h : Rot W V ∨ Rot W.reverse V) : norm V = norm W := by
  have len : V.length = W.length := by
    rcases h with h | h
    · exact h.len
    · rw [h.len, List.length_reverse]
  unfold norm
  refine least_same (fun a => ?_) (rds_ne (by omega)) (rds_ne (by omega))
  rw [mem_rds (.inr rfl), mem_rds (.inr rfl)]
  have key : ∀ U, (Rot V U ∨ Rot V.reverse U) ↔ (Rot W U ∨ Rot W.reverse U) := fun U => by
    rcases h with h | h
    · exact ⟨fun z => z.elim (fun z => .inl (h.trans z)) fun z => .inr (h.rev.trans z), fun z => z.elim (fun z => .inl (h.symm.trans z)) fun z => .inr (h.rev.symm.trans z)⟩
    · have h2 : Rot W V.reverse := by have := h.rev; rwa [List.reverse_reverse] at this
      exact ⟨fun z => z.elim (fun z => .inr (h.trans z)) fun z => .inl (h2.trans z), fun z => z.elim (fun z => .inr (h2.symm.trans z)) fun z => .inl (h.symm.trans z)⟩
  exact ⟨fun ⟨U, z, e⟩ => ⟨U, (key U).mp z, e⟩, fun ⟨U, z, e⟩ => ⟨U, (key U).mpr z, e⟩⟩
/-- names are low -/
theorem nm_low {W : List Nat} {v : Nat} (h : v ∈ nm W) : v < (seen W).length := by
  rw [nm_eq] at h
  obtain ⟨x, hx, rfl⟩ := List.mem_map.mp h
  exact List.idxOf_lt_length_of_mem ((mem_seen W x).mpr hx)
theorem seen_le (L : List Nat) : (seen L).length ≤ L.length := by
  refine snocR (P := fun L => (seen L).length ≤ L.length) (by simp [seen, nmF]) (fun L y ih => ?_) L
  rw [seen_snoc]
  split
  · rw [List.length_append]; omega
  · rw [List.length_append, List.length_append]; simpa using ih
theorem rds_low {W : List Nat} {m : Nat} : ∀ l ∈ rds W m, ∀ v ∈ l, v < W.length := by
  intro l hl v hv
  unfold rds at hl
  rw [List.mem_append, List.mem_map, List.mem_map] at hl
  rcases hl with ⟨k, _, rfl⟩ | ⟨k, _, rfl⟩
  · have h1 := nm_low hv
    have h2 := seen_le (trn W k)
    rw [trn_len] at h2
    omega
  · have h1 := nm_low hv
    have h2 := seen_le (trn W.reverse k)
    rw [trn_len, List.length_reverse] at h2
    omega
/-- how often a named letter stands -/
theorem nm_count {W : List Nat} {i : Nat} (hi : i < (seen W).length) : (nm W).count i = W.count (seen W)[i] := by
  have hm : (seen W)[i] ∈ seen W := List.getElem_mem hi
  have hx : ∀ x ∈ W, ((seen W).idxOf x = i ↔ x = (seen W)[i]) := fun x hx => by
    constructor
    · intro e
      subst e
      exact (List.getElem_idxOf hi).symm
    · intro e
      have h1 := nodup_seen W
      rw [e]
      exact List.Nodup.idxOf_getElem h1 i hi
  rw [nm_eq, List.count_eq_countP, List.count_eq_countP, List.countP_map]
  refine List.countP_congr fun x hxW => ?_
  simp only [Function.comp, beq_iff_eq]
  exact hx x hxW
end Nm
end
section
namespace K10
open PySem Mi
def F_is_integer : Fd := ⟨["value"], 1, false, (.cons (.ret (.and (.isa (.pk 0) [.int]) (.nt (.isa (.pk 0) [.bool])))) .nil)⟩
def F_is_count : Fd := ⟨["value"], 1, false, (.cons (.ret (.and (.cal "is_integer" [0] (.cons (.var 0) .nil)) (.cm .ge (.pk 0) (.lit (.int (0)))))) .nil)⟩
def F_is_below : Fd := ⟨["value", "many"], 2, false, (.cons (.ret (.and (.cal "is_count" [0] (.cons (.var 0) .nil)) (.cm .lt (.pk 0) (.pk 1)))) .nil)⟩
def F_is_rising : Fd := ⟨["items"], 4, false, (.cons (.ret (.bi .all (.cons (.lc [1, 2, 3] [2, 3] false (.zip (.cons (.var 0) (.cons (.sl (.pk 0) (.so (.lit (.int (1)))) .no) .nil))) .yes (.cm .lt (.pk 2) (.pk 3))) .nil))) .nil)⟩
def F_is_word_of : Fd := ⟨["value"], 5, false, (.cons (.ifs (.or (.nt (.v (.isa (.pk 0) [.tuple]))) (.or (.v (.cm .eq (.op .mod (.bi .len (.cons (.pk 0) .nil)) (.lit (.int (2)))) (.lit (.int (1))))) (.v (.cm .gt (.bi .len (.cons (.pk 0) .nil)) (.op .mul (.lit (.int (2))) (.glo "MOST_LETTERS")))))) (.cons (.ret (.lit (.bool false))) .nil) .nil) (.cons (.asg 1 (.op .fdiv (.bi .len (.cons (.pk 0) .nil)) (.lit (.int (2))))) (.cons (.ret (.and (.bi .all (.cons (.lc [2, 3] [3] true (.v (.var 0)) .yes (.cal "is_below" [0, 1] (.cons (.var 3) (.cons (.var 1) .nil)))) .nil)) (.bi .all (.cons (.lc [2, 4] [4] true (.rng (.cons (.pk 1) .nil)) .yes (.cm .eq (.me .count (.pk 0) (.cons (.pk 4) .nil)) (.lit (.int (2))))) .nil)))) .nil)))⟩
def F_is_ring_of : Fd := ⟨["value"], 3, false, (.cons (.ifs (.or (.nt (.v (.isa (.pk 0) [.tuple]))) (.v (.cm .gt (.bi .len (.cons (.pk 0) .nil)) (.op .mul (.lit (.int (2))) (.glo "MOST_LETTERS"))))) (.cons (.ret (.lit (.bool false))) .nil) .nil) (.cons (.ret (.and (.bi .all (.cons (.lc [1, 2] [2] true (.v (.var 0)) .yes (.cal "is_count" [0] (.cons (.var 2) .nil))) .nil)) (.bi .all (.cons (.lc [1, 2] [2] true (.v (.var 0)) .yes (.cm .eq (.me .count (.pk 0) (.cons (.pk 2) .nil)) (.lit (.int (2))))) .nil)))) .nil))⟩
def F_is_letter_of : Fd := ⟨["word", "value"], 2, false, (.cons (.ret (.cal "is_below" [0, 1] (.cons (.var 1) (.cons (.cal "many_of" [0] (.cons (.var 0) .nil)) .nil)))) .nil)⟩
def F_is_position_of : Fd := ⟨["word", "value"], 2, false, (.cons (.ret (.cal "is_below" [0, 1] (.cons (.var 1) (.cons (.bi .len (.cons (.pk 0) .nil)) .nil)))) .nil)⟩
def F_are_letters_of : Fd := ⟨["word", "value"], 4, false, (.cons (.ret (.and (.isa (.pk 1) [.tuple]) (.and (.bi .all (.cons (.lc [2, 3] [3] true (.v (.var 1)) .yes (.cal "is_letter_of" [0, 1] (.cons (.var 0) (.cons (.var 3) .nil)))) .nil)) (.cal "is_rising" [0] (.cons (.var 1) .nil))))) .nil)⟩
def F_many_of : Fd := ⟨["word"], 1, false, (.cons (.ret (.op .fdiv (.bi .len (.cons (.pk 0) .nil)) (.lit (.int (2))))) .nil)⟩
def F_places_of : Fd := ⟨["word", "letter"], 3, false, (.cons (.asg 2 (.me .index (.pk 0) (.cons (.pk 1) .nil))) (.cons (.ret (.tup (.cons (.var 2) (.cons (.me .index (.pk 0) (.cons (.pk 1) (.cons (.op .add (.pk 2) (.lit (.int (1)))) .nil))) .nil)))) .nil))⟩
def F_between_of : Fd := ⟨["word", "letter"], 4, false, (.cons (.asgT [2, 3] (.cal "places_of" [0, 1] (.cons (.var 0) (.cons (.var 1) .nil)))) (.cons (.ret (.sl (.pk 0) (.so (.op .add (.pk 2) (.lit (.int (1))))) (.so (.pk 3)))) .nil))⟩
def F_around_of : Fd := ⟨["word", "letter"], 4, false, (.cons (.asgT [2, 3] (.cal "places_of" [0, 1] (.cons (.var 0) (.cons (.var 1) .nil)))) (.cons (.ret (.op .add (.sl (.pk 0) (.so (.op .add (.pk 3) (.lit (.int (1))))) .no) (.sl (.pk 0) .no (.so (.pk 2))))) .nil))⟩
def F_turned_of : Fd := ⟨["word", "position"], 2, false, (.cons (.ret (.op .add (.sl (.pk 0) (.so (.pk 1)) .no) (.sl (.pk 0) .no (.so (.pk 1))))) .nil)⟩
def F_relabelled : Fd := ⟨["letters"], 4, false, (.cons (.par [1, 2] (.cons .dct0 (.cons (.lst .nil) .nil))) (.cons (.fr [3] true (.v (.var 0)) (.cons (.sdf 1 (.pk 3) (.bi .len (.cons (.pk 1) .nil))) (.cons (.app 2 (.ix (.pk 1) (.pk 3))) .nil))) (.cons (.ret (.bi .tuple (.cons (.pk 2) .nil))) .nil)))⟩
def F_without_letters : Fd := ⟨["word", "letters"], 4, false, (.cons (.ret (.cal "relabelled" [0] (.cons (.lc [2, 3] [3] true (.v (.var 0)) (.v (.cm .notin (.pk 3) (.pk 1))) (.var 3)) .nil))) .nil)⟩
def F_only_letters : Fd := ⟨["word", "letters"], 4, false, (.cons (.ret (.cal "relabelled" [0] (.cons (.lc [2, 3] [3] true (.v (.var 0)) (.v (.cm .isin (.pk 3) (.pk 1))) (.var 3)) .nil))) .nil)⟩
def F_all_readings : Fd := ⟨["word"], 5, false, (.cons (.asg 1 (.lst .nil)) (.cons (.fr [2] true (.v (.tup (.cons (.var 0) (.cons (.rev (.pk 0)) .nil)))) (.cons (.ext 1 (.lc [3, 4] [4] true (.rng (.cons (.bi .max (.cons (.bi .len (.cons (.pk 2) .nil)) (.cons (.lit (.int (1))) .nil))) .nil)) .yes (.cal "relabelled" [0] (.cons (.cal "turned_of" [0, 1] (.cons (.var 2) (.cons (.var 4) .nil))) .nil)))) .nil)) (.cons (.retv 1) .nil)))⟩
def F_normal_of : Fd := ⟨["word"], 1, false, (.cons (.ret (.bi .min (.cons (.cal "all_readings" [0] (.cons (.var 0) .nil)) .nil))) .nil)⟩
def F_want_word : Fd := ⟨["value"], 1, false, (.cons (.ifs (.nt (.v (.cal "is_word_of" [0] (.cons (.var 0) .nil)))) (.cons .raise .nil) .nil) (.cons (.retv 0) .nil))⟩
def F_want_letter : Fd := ⟨["word", "value"], 2, false, (.cons (.ifs (.nt (.v (.cal "is_letter_of" [0, 1] (.cons (.var 0) (.cons (.var 1) .nil))))) (.cons .raise .nil) .nil) (.cons (.retv 1) .nil))⟩
def F_want_position : Fd := ⟨["word", "value"], 2, false, (.cons (.ifs (.nt (.v (.cal "is_position_of" [0, 1] (.cons (.var 0) (.cons (.var 1) .nil))))) (.cons .raise .nil) .nil) (.cons (.retv 1) .nil))⟩
def F_want_letters : Fd := ⟨["word", "value"], 2, false, (.cons (.ifs (.nt (.v (.cal "are_letters_of" [0, 1] (.cons (.var 0) (.cons (.var 1) .nil))))) (.cons .raise .nil) .nil) (.cons (.retv 1) .nil))⟩
def F_is_word : Fd := ⟨["value"], 1, false, (.cons (.ret (.cal "is_word_of" [0] (.cons (.var 0) .nil))) .nil)⟩
def F_letters : Fd := ⟨["word"], 1, false, (.cons (.ret (.cal "many_of" [0] (.cons (.cal "want_word" [0] (.cons (.var 0) .nil)) .nil))) .nil)⟩
def F_places : Fd := ⟨["word", "letter"], 2, false, (.cons (.ex (.cal "want_word" [0] (.cons (.var 0) .nil))) (.cons (.ret (.cal "places_of" [0, 1] (.cons (.var 0) (.cons (.cal "want_letter" [0, 1] (.cons (.var 0) (.cons (.var 1) .nil))) .nil)))) .nil))⟩
def F_letter_at : Fd := ⟨["word", "position"], 2, false, (.cons (.ex (.cal "want_word" [0] (.cons (.var 0) .nil))) (.cons (.ret (.ix (.pk 0) (.cal "want_position" [0, 1] (.cons (.var 0) (.cons (.var 1) .nil))))) .nil))⟩
def F_between : Fd := ⟨["word", "letter"], 2, false, (.cons (.ex (.cal "want_word" [0] (.cons (.var 0) .nil))) (.cons (.ret (.cal "between_of" [0, 1] (.cons (.var 0) (.cons (.cal "want_letter" [0, 1] (.cons (.var 0) (.cons (.var 1) .nil))) .nil)))) .nil))⟩
def F_around : Fd := ⟨["word", "letter"], 2, false, (.cons (.ex (.cal "want_word" [0] (.cons (.var 0) .nil))) (.cons (.ret (.cal "around_of" [0, 1] (.cons (.var 0) (.cons (.cal "want_letter" [0, 1] (.cons (.var 0) (.cons (.var 1) .nil))) .nil)))) .nil))⟩
def F_turned : Fd := ⟨["word", "position"], 2, false, (.cons (.ex (.cal "want_word" [0] (.cons (.var 0) .nil))) (.cons (.ret (.cal "turned_of" [0, 1] (.cons (.var 0) (.cons (.cal "want_position" [0, 1] (.cons (.var 0) (.cons (.var 1) .nil))) .nil)))) .nil))⟩
def F_backward : Fd := ⟨["word"], 1, false, (.cons (.ret (.rev (.cal "want_word" [0] (.cons (.var 0) .nil)))) .nil)⟩
def F_named : Fd := ⟨["ring"], 1, false, (.cons (.ifs (.nt (.v (.cal "is_ring_of" [0] (.cons (.var 0) .nil)))) (.cons .raise .nil) .nil) (.cons (.ret (.cal "relabelled" [0] (.cons (.var 0) .nil))) .nil))⟩
def F_without : Fd := ⟨["word", "letters"], 2, false, (.cons (.ex (.cal "want_word" [0] (.cons (.var 0) .nil))) (.cons (.ret (.cal "without_letters" [0, 1] (.cons (.var 0) (.cons (.cal "want_letters" [0, 1] (.cons (.var 0) (.cons (.var 1) .nil))) .nil)))) .nil))⟩
def F_only : Fd := ⟨["word", "letters"], 2, false, (.cons (.ex (.cal "want_word" [0] (.cons (.var 0) .nil))) (.cons (.ret (.cal "only_letters" [0, 1] (.cons (.var 0) (.cons (.cal "want_letters" [0, 1] (.cons (.var 0) (.cons (.var 1) .nil))) .nil)))) .nil))⟩
def F_normal : Fd := ⟨["word"], 1, false, (.cons (.ret (.cal "normal_of" [0] (.cons (.cal "want_word" [0] (.cons (.var 0) .nil)) .nil))) .nil)⟩
def F__law_pot : Fd := ⟨["script", "k"], 3, false, (.cons (.asg 2 (.ite (.v (.cm .lt (.pk 1) (.bi .len (.cons (.pk 0) .nil)))) (.bi .abs (.cons (.ix (.pk 0) (.pk 1)) .nil)) (.op .add (.op .mul (.lit (.int (19219))) (.pk 1)) (.lit (.int (20549)))))) (.cons (.ret (.lst (.cons (.bi .max (.cons (.lit (.int (0))) (.cons (.op .sub (.pk 2) (.op .pow (.lit (.int (10))) (.lit (.int (18))))) .nil))) (.cons (.op .add (.op .mod (.bi .int (.cons (.op .add (.op .add (.op .mul (.op .mod (.bi .int (.cons (.pk 2) .nil)) (.lit (.int (2147483549)))) (.lit (.int (17449)))) (.op .mul (.lit (.int (17659))) (.pk 1))) (.lit (.int (907)))) .nil)) (.lit (.int (2147483563)))) (.lit (.int (1)))) .nil)))) .nil))⟩
def F__law_draw : Fd := ⟨["pot", "size"], 3, true, (.cons (.ifs (.v (.cm .gt (.ix (.pk 0) (.lit (.int (0)))) (.lit (.int (0))))) (.cons (.divI 0 (0) 2 (.bi .divmod (.cons (.ix (.pk 0) (.lit (.int (0)))) (.cons (.pk 1) .nil)))) (.cons (.retv 2) .nil)) .nil) (.cons (.setI 0 (.lit (.int (1))) (.op .mod (.bi .int (.cons (.op .add (.op .mul (.ix (.pk 0) (.lit (.int (1)))) (.lit (.int (40692)))) (.lit (.int (17659)))) .nil)) (.lit (.int (2147483399))))) (.cons (.ret (.op .mod (.bi .int (.cons (.op .fdiv (.op .mod (.bi .int (.cons (.op .mul (.ix (.pk 0) (.lit (.int (1)))) (.ix (.pk 0) (.lit (.int (1))))) .nil)) (.lit (.int (2147483323)))) (.lit (.int (19)))) .nil)) (.pk 1))) .nil)))⟩
def F__law_word : Fd := ⟨["pot", "most"], 7, true, (.cons (.asg 2 (.cal "_law_draw" [0, 1] (.cons (.pk 0) (.cons (.op .add (.pk 1) (.lit (.int (1)))) .nil)))) (.cons (.par [3, 4] (.cons (.op .mul (.bi .lrange (.cons (.pk 2) .nil)) (.lit (.int (2)))) (.cons (.lst .nil) .nil))) (.cons (.fr [5] true (.rng (.cons (.op .mul (.lit (.int (2))) (.pk 2)) .nil)) (.cons (.asg 6 (.pop 3 (.cal "_law_draw" [0, 1] (.cons (.pk 0) (.cons (.bi .len (.cons (.pk 3) .nil)) .nil))))) (.cons (.app 4 (.var 6)) .nil))) (.cons (.ret (.bi .tuple (.cons (.pk 4) .nil))) .nil))))⟩
def F__law_named : Fd := ⟨["ring"], 4, false, (.cons (.par [1, 2] (.cons .dct0 (.cons (.lst .nil) .nil))) (.cons (.fr [3] true (.v (.var 0)) (.cons (.sdf 1 (.pk 3) (.bi .len (.cons (.pk 1) .nil))) (.cons (.app 2 (.ix (.pk 1) (.pk 3))) .nil))) (.cons (.ret (.bi .tuple (.cons (.pk 2) .nil))) .nil)))⟩
def F__law_places : Fd := ⟨["word", "letter"], 5, false, (.cons (.ret (.lc [2, 3, 4] [3, 4] false (.enu (.cons (.var 0) .nil)) (.v (.cm .eq (.pk 4) (.pk 1))) (.var 3))) .nil)⟩
def F__law_normal : Fd := ⟨["word"], 5, false, (.cons (.asg 1 (.lst .nil)) (.cons (.fr [2] true (.v (.lst (.cons (.var 0) (.cons (.rev (.pk 0)) .nil)))) (.cons (.ext 1 (.lc [3, 4] [4] true (.rng (.cons (.op .add (.bi .len (.cons (.pk 2) .nil)) (.lit (.int (1)))) .nil)) .yes (.cal "_law_named" [0] (.cons (.op .add (.sl (.pk 2) (.so (.pk 4)) .no) (.sl (.pk 2) .no (.so (.pk 4)))) .nil)))) .nil)) (.cons (.ret (.bi .min (.cons (.pk 1) .nil))) .nil)))⟩
def F__law_letters_right : Fd := ⟨["pot", "word"], 13, true, (.cons (.asg 2 (.op .fdiv (.bi .len (.cons (.pk 1) .nil)) (.lit (.int (2))))) (.cons (.fr [3] true (.rng (.cons (.lit (.int (3))) .nil)) (.cons (.par [4, 5] (.cons (.cal "_law_draw" [0, 1] (.cons (.pk 0) (.cons (.var 2) .nil))) (.cons (.cal "_law_draw" [0, 1] (.cons (.pk 0) (.cons (.bi .len (.cons (.pk 1) .nil)) .nil))) .nil))) (.cons (.asgT [6, 7] (.cal "_law_places" [0, 1] (.cons (.var 1) (.cons (.var 4) .nil)))) (.cons (.par [8, 9, 10] (.cons (.sl (.pk 1) (.so (.op .add (.pk 6) (.lit (.int (1))))) (.so (.pk 7))) (.cons (.op .add (.sl (.pk 1) (.so (.op .add (.pk 7) (.lit (.int (1))))) .no) (.sl (.pk 1) .no (.so (.pk 6)))) (.cons (.op .add (.sl (.pk 1) (.so (.pk 5)) .no) (.sl (.pk 1) .no (.so (.pk 5)))) .nil)))) (.cons (.asg 11 (.lst (.cons (.cal "places" [0, 1] (.cons (.var 1) (.cons (.var 4) .nil))) (.cons (.cal "between" [0, 1] (.cons (.var 1) (.cons (.var 4) .nil))) (.cons (.cal "around" [0, 1] (.cons (.var 1) (.cons (.var 4) .nil))) (.cons (.cal "letter_at" [0, 1] (.cons (.var 1) (.cons (.var 5) .nil))) (.cons (.cal "turned" [0, 1] (.cons (.var 1) (.cons (.var 5) .nil))) .nil))))))) (.cons (.asg 12 (.lst (.cons (.cal "places" [1, 0] (.cons (.var 4) (.cons (.var 1) .nil))) (.cons (.cal "between" [1, 0] (.cons (.var 4) (.cons (.var 1) .nil))) (.cons (.cal "around" [1, 0] (.cons (.var 4) (.cons (.var 1) .nil))) .nil))))) (.cons (.ext 12 (.lst (.cons (.cal "letter_at" [1, 0] (.cons (.var 5) (.cons (.var 1) .nil))) (.cons (.cal "turned" [1, 0] (.cons (.var 5) (.cons (.var 1) .nil))) .nil)))) (.cons (.ifs (.v (.cm .ne (.bi .repr (.cons (.lst (.cons (.var 11) (.cons (.var 12) .nil))) .nil)) (.bi .repr (.cons (.op .mul (.lst (.cons (.lst (.cons (.tup (.cons (.var 6) (.cons (.var 7) .nil))) (.cons (.var 8) (.cons (.var 9) (.cons (.ix (.pk 1) (.pk 5)) (.cons (.var 10) .nil)))))) .nil)) (.lit (.int (2)))) .nil)))) (.cons (.ret (.lit (.bool false))) .nil) .nil) .nil)))))))) (.cons (.ret (.lit (.bool true))) .nil)))⟩
def F__law_right : Fd := ⟨["pot"], 15, true, (.cons (.asg 1 (.cal "_law_word" [0, 1] (.cons (.pk 0) (.cons (.lit (.int (10))) .nil)))) (.cons (.asg 2 (.op .fdiv (.bi .len (.cons (.pk 1) .nil)) (.lit (.int (2))))) (.cons (.asg 4 (.bi .tuple (.cons (.lc [14, 3] [3] true (.rng (.cons (.pk 2) .nil)) (.v (.cm .eq (.cal "_law_draw" [0, 1] (.cons (.pk 0) (.cons (.lit (.int (2))) .nil))) (.lit (.int (0))))) (.var 3)) .nil))) (.cons (.par [5, 6] (.cons (.cal "_law_named" [0] (.cons (.lc [14, 3] [3] true (.v (.var 1)) (.v (.cm .notin (.pk 3) (.pk 4))) (.var 3)) .nil)) (.cons (.cal "_law_named" [0] (.cons (.lc [14, 3] [3] true (.v (.var 1)) (.v (.cm .isin (.pk 3) (.pk 4))) (.var 3)) .nil)) .nil))) (.cons (.asg 7 (.lst (.cons (.cal "is_word" [0] (.cons (.var 1) .nil)) (.cons (.cal "letters" [0] (.cons (.var 1) .nil)) (.cons (.cal "backward" [0] (.cons (.var 1) .nil)) (.cons (.cal "without" [0, 1] (.cons (.var 1) (.cons (.var 4) .nil))) (.cons (.cal "only" [0, 1] (.cons (.var 1) (.cons (.var 4) .nil))) (.cons (.cal "normal" [0] (.cons (.var 1) .nil)) .nil)))))))) (.cons (.asg 8 (.lst (.cons (.cal "is_word" [0] (.cons (.var 1) .nil)) (.cons (.cal "letters" [0] (.cons (.var 1) .nil)) (.cons (.cal "backward" [0] (.cons (.var 1) .nil)) (.cons (.cal "without" [1, 0] (.cons (.var 4) (.cons (.var 1) .nil))) (.cons (.cal "only" [1, 0] (.cons (.var 4) (.cons (.var 1) .nil))) (.cons (.cal "normal" [0] (.cons (.var 1) .nil)) .nil)))))))) (.cons (.ifs (.v (.cm .ne (.bi .repr (.cons (.lst (.cons (.var 7) (.cons (.var 8) .nil))) .nil)) (.bi .repr (.cons (.op .mul (.lst (.cons (.lst (.cons (.lit (.bool true)) (.cons (.var 2) (.cons (.rev (.pk 1)) (.cons (.var 5) (.cons (.var 6) (.cons (.cal "_law_normal" [0] (.cons (.var 1) .nil)) .nil))))))) .nil)) (.lit (.int (2)))) .nil)))) (.cons (.ret (.lit (.bool false))) .nil) .nil) (.cons (.par [9, 10] (.cons (.bi .lrange (.cons (.lit (.int (60))) .nil)) (.cons (.lst .nil) .nil))) (.cons (.fr [3] true (.rng (.cons (.pk 2) .nil)) (.cons (.app 10 (.op .mul (.pop 9 (.cal "_law_draw" [0, 1] (.cons (.pk 0) (.cons (.bi .len (.cons (.pk 9) .nil)) .nil)))) (.op .pow (.lit (.int (10))) (.lit (.int (9)))))) .nil)) (.cons (.asg 11 (.bi .tuple (.cons (.lc [14, 3] [3] true (.v (.var 1)) .yes (.ix (.pk 10) (.pk 3))) .nil))) (.cons (.ifs (.or (.v (.cm .ne (.bi .repr (.cons (.lst (.cons (.cal "named" [0] (.cons (.var 11) .nil)) (.cons (.cal "named" [0] (.cons (.var 11) .nil)) .nil))) .nil)) (.bi .repr (.cons (.op .mul (.lst (.cons (.cal "_law_named" [0] (.cons (.var 1) .nil)) .nil)) (.lit (.int (2)))) .nil)))) (.v (.cm .ne (.cal "normal" [0] (.cons (.cal "named" [0] (.cons (.var 11) .nil)) .nil)) (.cal "normal" [0] (.cons (.var 1) .nil))))) (.cons (.ret (.lit (.bool false))) .nil) .nil) (.cons (.ifs (.v (.cm .eq (.pk 2) (.lit (.int (0))))) (.cons (.ret (.lit (.bool true))) .nil) .nil) (.cons (.asg 12 (.cal "_law_draw" [0, 1] (.cons (.pk 0) (.cons (.bi .len (.cons (.pk 1) .nil)) .nil)))) (.cons (.asg 13 (.cal "named" [0] (.cons (.op .add (.sl (.rev (.pk 1)) (.so (.pk 12)) .no) (.sl (.rev (.pk 1)) .no (.so (.pk 12)))) .nil))) (.cons (.ret (.and (.cm .eq (.cal "normal" [0] (.cons (.var 13) .nil)) (.cal "normal" [0] (.cons (.var 1) .nil))) (.and (.cm .is (.cal "is_word" [0] (.cons (.var 13) .nil)) (.lit (.bool true))) (.cal "_law_letters_right" [0, 1] (.cons (.pk 0) (.cons (.var 1) .nil)))))) .nil)))))))))))))))⟩
def F_law : Fd := ⟨["script"], 3, false, (.cons (.asg 1 (.cal "_law_pot" [0, 1] (.cons (.var 0) (.cons (.lit (.int (0))) .nil)))) (.cons (.fr [2] true (.rng (.cons (.lit (.int (5))) .nil)) (.cons (.ifs (.nt (.v (.cal "_law_right" [0] (.cons (.pk 1) .nil)))) (.cons (.ret (.lit (.bool false))) .nil) .nil) .nil)) (.cons (.ret (.lit (.bool true))) .nil)))⟩
def tab : Tab := ⟨[(Str.ofString "is_integer", F_is_integer), (Str.ofString "is_count", F_is_count), (Str.ofString "is_below", F_is_below), (Str.ofString "is_rising", F_is_rising), (Str.ofString "is_word_of", F_is_word_of), (Str.ofString "is_ring_of", F_is_ring_of), (Str.ofString "is_letter_of", F_is_letter_of), (Str.ofString "is_position_of", F_is_position_of), (Str.ofString "are_letters_of", F_are_letters_of), (Str.ofString "many_of", F_many_of), (Str.ofString "places_of", F_places_of), (Str.ofString "between_of", F_between_of), (Str.ofString "around_of", F_around_of), (Str.ofString "turned_of", F_turned_of), (Str.ofString "relabelled", F_relabelled), (Str.ofString "without_letters", F_without_letters), (Str.ofString "only_letters", F_only_letters), (Str.ofString "all_readings", F_all_readings), (Str.ofString "normal_of", F_normal_of), (Str.ofString "want_word", F_want_word), (Str.ofString "want_letter", F_want_letter), (Str.ofString "want_position", F_want_position), (Str.ofString "want_letters", F_want_letters), (Str.ofString "is_word", F_is_word), (Str.ofString "letters", F_letters), (Str.ofString "places", F_places), (Str.ofString "letter_at", F_letter_at), (Str.ofString "between", F_between), (Str.ofString "around", F_around), (Str.ofString "turned", F_turned), (Str.ofString "backward", F_backward), (Str.ofString "named", F_named), (Str.ofString "without", F_without), (Str.ofString "only", F_only), (Str.ofString "normal", F_normal), (Str.ofString "_law_pot", F__law_pot), (Str.ofString "_law_draw", F__law_draw), (Str.ofString "_law_word", F__law_word), (Str.ofString "_law_named", F__law_named), (Str.ofString "_law_places", F__law_places), (Str.ofString "_law_normal", F__law_normal), (Str.ofString "_law_letters_right", F__law_letters_right), (Str.ofString "_law_right", F__law_right), (Str.ofString "law", F_law)], [(Str.ofString "MOST_LETTERS", (.int (10)))]⟩
theorem lk_is_integer : tab.fds.lookup (Str.ofString "is_integer") = some F_is_integer := by rfl
theorem lk_is_count : tab.fds.lookup (Str.ofString "is_count") = some F_is_count := by rfl
theorem lk_is_below : tab.fds.lookup (Str.ofString "is_below") = some F_is_below := by rfl
theorem lk_is_rising : tab.fds.lookup (Str.ofString "is_rising") = some F_is_rising := by rfl
theorem lk_is_word_of : tab.fds.lookup (Str.ofString "is_word_of") = some F_is_word_of := by rfl
theorem lk_is_ring_of : tab.fds.lookup (Str.ofString "is_ring_of") = some F_is_ring_of := by rfl
theorem lk_is_letter_of : tab.fds.lookup (Str.ofString "is_letter_of") = some F_is_letter_of := by rfl
theorem lk_is_position_of : tab.fds.lookup (Str.ofString "is_position_of") = some F_is_position_of := by rfl
theorem lk_are_letters_of : tab.fds.lookup (Str.ofString "are_letters_of") = some F_are_letters_of := by rfl
theorem lk_many_of : tab.fds.lookup (Str.ofString "many_of") = some F_many_of := by rfl
theorem lk_places_of : tab.fds.lookup (Str.ofString "places_of") = some F_places_of := by rfl
theorem lk_between_of : tab.fds.lookup (Str.ofString "between_of") = some F_between_of := by rfl
theorem lk_around_of : tab.fds.lookup (Str.ofString "around_of") = some F_around_of := by rfl
theorem lk_turned_of : tab.fds.lookup (Str.ofString "turned_of") = some F_turned_of := by rfl
theorem lk_relabelled : tab.fds.lookup (Str.ofString "relabelled") = some F_relabelled := by rfl
theorem lk_without_letters : tab.fds.lookup (Str.ofString "without_letters") = some F_without_letters := by rfl
theorem lk_only_letters : tab.fds.lookup (Str.ofString "only_letters") = some F_only_letters := by rfl
theorem lk_all_readings : tab.fds.lookup (Str.ofString "all_readings") = some F_all_readings := by rfl
theorem lk_normal_of : tab.fds.lookup (Str.ofString "normal_of") = some F_normal_of := by rfl
theorem lk_want_word : tab.fds.lookup (Str.ofString "want_word") = some F_want_word := by rfl
theorem lk_want_letter : tab.fds.lookup (Str.ofString "want_letter") = some F_want_letter := by rfl
theorem lk_want_position : tab.fds.lookup (Str.ofString "want_position") = some F_want_position := by rfl
theorem lk_want_letters : tab.fds.lookup (Str.ofString "want_letters") = some F_want_letters := by rfl
theorem lk_is_word : tab.fds.lookup (Str.ofString "is_word") = some F_is_word := by rfl
theorem lk_letters : tab.fds.lookup (Str.ofString "letters") = some F_letters := by rfl
theorem lk_places : tab.fds.lookup (Str.ofString "places") = some F_places := by rfl
theorem lk_letter_at : tab.fds.lookup (Str.ofString "letter_at") = some F_letter_at := by rfl
theorem lk_between : tab.fds.lookup (Str.ofString "between") = some F_between := by rfl
theorem lk_around : tab.fds.lookup (Str.ofString "around") = some F_around := by rfl
theorem lk_turned : tab.fds.lookup (Str.ofString "turned") = some F_turned := by rfl
theorem lk_backward : tab.fds.lookup (Str.ofString "backward") = some F_backward := by rfl
theorem lk_named : tab.fds.lookup (Str.ofString "named") = some F_named := by rfl
theorem lk_without : tab.fds.lookup (Str.ofString "without") = some F_without := by rfl
theorem lk_only : tab.fds.lookup (Str.ofString "only") = some F_only := by rfl
theorem lk_normal : tab.fds.lookup (Str.ofString "normal") = some F_normal := by rfl
theorem lk__law_pot : tab.fds.lookup (Str.ofString "_law_pot") = some F__law_pot := by rfl
theorem lk__law_draw : tab.fds.lookup (Str.ofString "_law_draw") = some F__law_draw := by rfl
theorem lk__law_word : tab.fds.lookup (Str.ofString "_law_word") = some F__law_word := by rfl
theorem lk__law_named : tab.fds.lookup (Str.ofString "_law_named") = some F__law_named := by rfl
theorem lk__law_places : tab.fds.lookup (Str.ofString "_law_places") = some F__law_places := by rfl
theorem lk__law_normal : tab.fds.lookup (Str.ofString "_law_normal") = some F__law_normal := by rfl
theorem lk__law_letters_right : tab.fds.lookup (Str.ofString "_law_letters_right") = some F__law_letters_right := by rfl
theorem lk__law_right : tab.fds.lookup (Str.ofString "_law_right") = some F__law_right := by rfl
theorem lk_law : tab.fds.lookup (Str.ofString "law") = some F_law := by rfl
abbrev lw := PySem.Challenge.rw_passedtwice_k10_whole_words_read_otherwi
theorem tab_eq : Mi.tabOf (Mi.dfsOf lw.prog.main.body) (Mi.glosOf [] lw.prog.main.body) (Mi.blOf lw.prog.main.body) 60 = tab := by kernel_rfl
end K10
end
section
namespace K10
open PySem Mi
abbrev iN (n : Nat) : PyData := .int (n : Int)
/-- a word as a value -/
abbrev tW (W : List Nat) : PyData := .tuple (W.map iN)
section
variable {fu n : Nat}
theorem r_many_of {W : List PyData} : run tab fu (n + 1) (Str.ofString "many_of") [.py (.tuple W)] = some (.py (.int ((W.length : Int) / 2)), false, .py .none) := by
  rw [run_of lk_many_of rfl]
  simp [F_many_of, enter, op2]
theorem r_is_integer {i : Int} : run tab fu (n + 1) (Str.ofString "is_integer") [.py (.int i)] = some (.py (.bool true), false, .py .none) := by
  rw [run_of lk_is_integer rfl]
  simp [F_is_integer, enter]
theorem r_is_count {i : Int} : run tab fu (n + 2) (Str.ofString "is_count") [.py (.int i)] = some (.py (.bool (decide (0 ≤ i))), false, .py .none) := by
  rw [run_of lk_is_count rfl]
  simp [F_is_count, enter, call_pl (ct_io lk_is_integer), r_is_integer]
theorem r_is_below {i j : Int} : run tab fu (n + 3) (Str.ofString "is_below") [.py (.int i), .py (.int j)] = some (.py (.bool (decide (0 ≤ i) && decide (i < j))), false, .py .none) := by
  rw [run_of lk_is_below rfl]
  simp [F_is_below, enter, call_pl (ct_io lk_is_count), r_is_count]
  by_cases h : 0 ≤ i <;> simp [h]
theorem r_is_letter_of {W : List PyData} {i : Int} : run tab fu (n + 4) (Str.ofString "is_letter_of") [.py (.tuple W), .py (.int i)] = some (.py (.bool (decide (0 ≤ i) && decide (i < (W.length : Int) / 2))), false, .py .none) := by
  rw [run_of lk_is_letter_of rfl]
  simp [F_is_letter_of, enter, call_pl (ct_io lk_is_below), call_pl (ct_io lk_many_of), r_many_of, r_is_below]
theorem r_is_position_of {W : List PyData} {i : Int} : run tab fu (n + 4) (Str.ofString "is_position_of") [.py (.tuple W), .py (.int i)] = some (.py (.bool (decide (0 ≤ i) && decide (i < (W.length : Int)))), false, .py .none) := by
  rw [run_of lk_is_position_of rfl]
  simp [F_is_position_of, enter, call_pl (ct_io lk_is_below), r_is_below]
end
end K10
end
section
namespace K10
open PySem Mi
/-- a word of closed lines: each letter twice -/
structure Wd (W : List Nat) : Prop where
  ev : W.length % 2 = 0
  few : W.length ≤ 20
  low : ∀ x ∈ W, x < W.length / 2
  two : ∀ i, i < W.length / 2 → W.count i = 2
theorem all_true {α : Type} {l : List α} : biD .all [.py (.list (l.map fun x => .bool true))] = some (ofB true) := by
  have := all_bools (g := fun _ => true) (l := l)
  rw [this, List.all_eq_true.mpr fun _ _ => rfl]
@[simp] theorem ct_glo {T : Tab} {fu : Nat} {g : Str → List D → Option (D × Bool × D)} {x : Str} : (T.ct fu g).glo x = T.glos.lookup x := rfl
theorem gl_ml : tab.glos.lookup (Str.ofString "MOST_LETTERS") = some (.int 10) := rfl
theorem lim_ok {n : Nat} (h : n ≤ 1000) : n ≤ lim := by unfold lim; omega
theorem cnt_map {i : Nat} : ∀ W : List Nat, (W.map iN).countP (fun y => PyData.eqv y (.int (i : Int))) = W.count i
  | [] => rfl
  | x :: W => by
    rw [List.map_cons, List.countP_cons, cnt_map W, List.count_cons, eqv_int]
    congr 1
    by_cases h : x = i
    · subst h; simp
    · have h2 : ¬ ((x : Int) = (i : Int)) := by omega
      simp [h, h2]
section
variable {fu n : Nat} {W : List Nat} {S : List Bool}
@[simp] theorem tW_len : (W.map iN).length = W.length := List.length_map ..
theorem rng_nat {k : Nat} (h : k ≤ 1000) : rngD [.py (.int (k : Int))] = some ((List.range k).map fun (j : Nat) => PyData.int (j : Int)) := by
  have this : okR (k : Int) = true := by unfold okR; simp; omega
  show (if okR (k : Int) then some (rngL 0 (k : Int).toNat) else none) = _
  rw [if_pos this]
  simp [rngL]
theorem cnt_map' {i : Nat} {W : List Nat} : W.countP ((fun y => PyData.eqv y (.int (i : Int))) ∘ iN) = W.count i := by
  rw [← cnt_map W, List.countP_map]
theorem Wd.half (h : Wd W) : ∃ m, W.length = 2 * m ∧ m ≤ 10 ∧ W.length / 2 = m := ⟨W.length / 2, by have := h.ev; omega, by have := h.few; omega, rfl⟩
theorem r_is_word_of (h : Wd W) : run tab fu (n + 4) (Str.ofString "is_word_of") [.py (tW W)] = some (.py (.bool true), false, .py .none) := by
  obtain ⟨m, h1, h2, h3⟩ := h.half
  have low := h.low
  have two := h.two
  rw [h3] at low two
  have e1 : (W.length : Int) % 2 = 0 := by omega
  have e2 : ¬ ((20 : Int) < (W.length : Int)) := by omega
  have e3 : ((W.length : Int) / 2) = (m : Int) := by omega
  rw [run_of lk_is_word_of rfl]
  have A : evE (tab.ct fu (run tab fu (n + 3))) (.lc [2, 3] [3] true (.v (.var 0)) .yes (.cal (Str.ofString "is_below") [0, 1] (.cons (.var 3) (.cons (.var 1) .nil)))) [.fr (.py (tW W)), .fr (.py (.int (m : Int))), .no, .no, .no] =
      some (.fe (.py (.list (W.map fun x => .bool true))), [.fr (.py (tW W)), .fr (.py (.int (m : Int))), .no, .no, .no]) := by
    rw [lc_map (fun _ => .bool true) (st' := [.fr (.py (tW W)), .fr (.py (.int (m : Int))), .no, .no, .no]) (xs := W.map iN) (by simp) rfl (lim_ok (by simp; omega)) fun x hx => ?_]
    · rw [List.map_map]
      rfl
    · obtain ⟨y, hy, rfl⟩ := List.mem_map.mp hx
      have lt2 : (y : Int) < (m : Int) := by have := low y hy; omega
      refine ⟨_, _, _, rfl, by simp [wipe, call_pl (ct_io lk_is_below), r_is_below]; exact ⟨rfl, rfl⟩, ?_, by simp [wipe]⟩
      simp [low y hy]
  have B : evE (tab.ct fu (run tab fu (n + 3))) (.lc [2, 4] [4] true (.rng (.cons (.pk 1) .nil)) .yes (.cm .eq (.me .count (.pk 0) (.cons (.pk 4) .nil)) (.lit (.int (2))))) [.fr (.py (tW W)), .fr (.py (.int (m : Int))), .no, .no, .no] =
      some (.fe (.py (.list ((List.range m).map fun x => .bool true))), [.fr (.py (tW W)), .fr (.py (.int (m : Int))), .no, .no, .no]) := by
    have rg := rng_nat (k := m) (by omega)
    rw [lc_map (fun _ => .bool true) (st' := [.fr (.py (tW W)), .fr (.py (.int (m : Int))), .no, .no, .no]) (xs := (List.range m).map fun (j : Nat) => PyData.int (j : Int)) (by simp [rg]) rfl (lim_ok (by simp; omega)) fun x hx => ?_]
    · rw [List.map_map]
      rfl
    · obtain ⟨y, hy, rfl⟩ := List.mem_map.mp hx
      have lt : y < m := by simpa using hy
      have c := two y lt
      have okd : okDp (.int (y : Int)) = true := rfl
      refine ⟨_, _, _, rfl, by simp [wipe, meD, countD, okd, D.tupD, D.lstD, cnt_map', c]; exact ⟨rfl, rfl⟩, rfl, by simp [wipe]⟩
  have S1 : evT (tab.ct fu (run tab fu (n + 3))) (.or (.nt (.v (.isa (.pk 0) [.tuple]))) (.or (.v (.cm .eq (.op .mod (.bi .len (.cons (.pk 0) .nil)) (.lit (.int (2)))) (.lit (.int (1))))) (.v (.cm .gt (.bi .len (.cons (.pk 0) .nil)) (.op .mul (.lit (.int (2))) (.glo (Str.ofString "MOST_LETTERS"))))))) [.fr (.py (tW W)), .no, .no, .no, .no] = some (false, [.fr (.py (tW W)), .no, .no, .no, .no]) := by
    simp [op_mod, op_mul, okMul, gl_ml, e1, e2]
  simp [F_is_word_of, enter, S1, op_fdiv, e3, A, B, all_true]
theorem r_want_word (h : Wd W) : run tab fu (n + 5) (Str.ofString "want_word") [.py (tW W)] = some (.py (tW W), false, .py .none) := by
  rw [run_of lk_want_word rfl]
  simp [F_want_word, enter, call_pl (ct_io lk_is_word_of), r_is_word_of h]
theorem r_want_letter {i : Nat} (hi : i < W.length / 2) : run tab fu (n + 5) (Str.ofString "want_letter") [.py (tW W), .py (.int (i : Int))] = some (.py (.int (i : Int)), false, .py .none) := by
  have e : (i : Int) < (W.length : Int) / 2 := by omega
  rw [run_of lk_want_letter rfl]
  simp [F_want_letter, enter, call_pl (ct_io lk_is_letter_of), r_is_letter_of, e]
theorem r_want_position {i : Nat} (hi : i < W.length) : run tab fu (n + 5) (Str.ofString "want_position") [.py (tW W), .py (.int (i : Int))] = some (.py (.int (i : Int)), false, .py .none) := by
  have e : (i : Int) < (W.length : Int) := by omega
  rw [run_of lk_want_position rfl]
  simp [F_want_position, enter, call_pl (ct_io lk_is_position_of), r_is_position_of, e]
end
end K10
end
section
namespace K10
open PySem Mi
/-! ### where a letter stands -/
def posR : Nat → List Nat → Nat → List Nat
  | _, [], _ => []
  | k, x :: W, i => if x = i then k :: posR (k + 1) W i else posR (k + 1) W i
theorem posR_len : ∀ (W : List Nat) (k i : Nat), (posR k W i).length = W.count i
  | [], _, _ => rfl
  | x :: W, k, i => by
    unfold posR
    by_cases h : x = i
    · subst h; rw [if_pos rfl, List.length_cons, posR_len W, List.count_cons_self]
    · rw [if_neg h, posR_len W, List.count_cons_of_ne h]
theorem posR_mem : ∀ (W : List Nat) (k i p : Nat), p ∈ posR k W i ↔ k ≤ p ∧ W[p - k]? = some i
  | [], k, i, p => by simp [posR]
  | x :: W, k, i, p => by
    unfold posR
    have ih := posR_mem W (k + 1) i p
    by_cases hp : p = k
    · subst hp
      have no : ¬ p ∈ posR (p + 1) W i := by rw [ih]; omega
      by_cases h : x = i <;> simp [h, no]
    · by_cases hk : k ≤ p
      · have e : p - k = (p - (k + 1)) + 1 := by omega
        rw [e, List.getElem?_cons_succ]
        by_cases h : x = i
        · rw [if_pos h, List.mem_cons, ih]
          constructor
          · rintro (z | z)
            · exact absurd z hp
            · exact ⟨hk, z.2⟩
          · exact fun z => .inr ⟨by omega, z.2⟩
        · rw [if_neg h, ih]
          exact ⟨fun z => ⟨hk, z.2⟩, fun z => ⟨by omega, z.2⟩⟩
      · by_cases h : x = i
        · rw [if_pos h, List.mem_cons, ih]; omega
        · rw [if_neg h, ih]; omega
theorem posR_first : ∀ (W : List Nat) (k i a : Nat) (r : List Nat), posR k W i = a :: r → k ≤ a ∧ (W.map iN).findIdx? (fun y => PyData.eqv y (.int (i : Int))) = some (a - k) ∧ posR (a + 1) (W.drop (a + 1 - k)) i = r
  | [], _, _, _, _, h => by cases h
  | x :: W, k, i, a, r, h => by
    unfold posR at h
    by_cases hx : x = i
    · subst hx
      rw [if_pos rfl] at h
      cases h
      refine ⟨Nat.le_refl _, ?_, ?_⟩
      · rw [List.map_cons, List.findIdx?_cons, eqv_int]; simp
      · rw [show k + 1 - k = 1 by omega]; rfl
    · rw [if_neg hx] at h
      obtain ⟨h1, h2, h3⟩ := posR_first W (k + 1) i a r h
      have ne : ¬ ((x : Int) = (i : Int)) := by omega
      refine ⟨by omega, ?_, ?_⟩
      · rw [List.map_cons, List.findIdx?_cons, eqv_int, h2]
        simp [ne]
        omega
      · rw [show a + 1 - k = (a + 1 - (k + 1)) + 1 by omega, List.drop_succ_cons]
        exact h3
/-- a letter's two places -/
structure Pl (W : List Nat) (i a b : Nat) : Prop where
  eq : posR 0 W i = [a, b]
  lt : a < b
  at_a : W[a]? = some i
  at_b : W[b]? = some i
  only : ∀ p, W[p]? = some i → p = a ∨ p = b
  ix1 : (W.map iN).findIdx? (fun y => PyData.eqv y (.int (i : Int))) = some a
  ix2 : ((W.map iN).drop (a + 1)).findIdx? (fun y => PyData.eqv y (.int (i : Int))) = some (b - (a + 1))
theorem pl_of {W : List Nat} (h : Wd W) {i : Nat} (hi : i < W.length / 2) : ∃ a b, Pl W i a b := by
  have l := (posR_len W 0 i).trans (h.two i hi)
  match e : posR 0 W i, l with
  | [a, b], _ =>
    obtain ⟨_, h2, h3⟩ := posR_first W 0 i a [b] e
    obtain ⟨k1, k2, _⟩ := posR_first _ (a + 1) i b [] h3
    have ma := (posR_mem W 0 i a).mp (by rw [e]; simp)
    have mb := (posR_mem W 0 i b).mp (by rw [e]; simp)
    refine ⟨a, b, e, by omega, ma.2, mb.2, fun p hp => ?_, h2, ?_⟩
    · have := (posR_mem W 0 i p).mpr ⟨Nat.zero_le _, hp⟩
      rw [e] at this
      simpa using this
    · rw [← List.map_drop]
      exact k2
theorem Pl.low {W : List Nat} {i a b : Nat} (P : Pl W i a b) : a < W.length ∧ b < W.length := ⟨(List.getElem?_eq_some_iff.mp P.at_a).1, (List.getElem?_eq_some_iff.mp P.at_b).1⟩
section
variable {fu n : Nat} {W : List Nat} {S : List Bool} {i a b p : Nat} {c : Bool}
theorem okd_i {i : Int} : okDp (.int i) = true := rfl
theorem ev_ix1 {C : Ct} {W : List PyData} {i a : Int} {u : Sl} (I1 : indexD W [.py (.int i)] = some (ofI a)) : evE C (.me .index (.pk 0) (.cons (.pk 1) .nil)) [.fr (.py (.tuple W)), .fr (.py (.int i)), u] = some (ofI a, [.fr (.py (.tuple W)), .fr (.py (.int i)), u]) := by
  simp [I1, D.tupD, D.lstD]
theorem ev_ix2 {C : Ct} {W : List PyData} {i a b : Int} (I2 : indexD W [.py (.int i), .py (.int (a + 1))] = some (ofI b)) : evE C (.me .index (.pk 0) (.cons (.pk 1) (.cons (.op .add (.pk 2) (.lit (.int (1)))) .nil))) [.fr (.py (.tuple W)), .fr (.py (.int i)), .fr (.py (.int a))] = some (ofI b, [.fr (.py (.tuple W)), .fr (.py (.int i)), .fr (.py (.int a))]) := by
  simp [I2, D.tupD, D.lstD]
theorem ev_places {C : Ct} {W : List PyData} {i a b : Int} (I1 : indexD W [.py (.int i)] = some (ofI a)) (I2 : indexD W [.py (.int i), .py (.int (a + 1))] = some (ofI b)) : exs C F_places_of.body [.fr (.py (.tuple W)), .fr (.py (.int i)), .no] = some (.rt (.py (.tuple [.int a, .int b])) false, [.fr (.py (.tuple W)), .fr (.py (.int i)), .fr (.py (.int a))]) := by
  have l2 : 2 ≤ lim := by unfold lim; omega
  simp [F_places_of, ev_ix1 (u := .no) I1, ev_ix2 I2, -ev_me, l2]
theorem r_places_of (h : Wd W) (P : Pl W i a b) : run tab fu (n + 1) (Str.ofString "places_of") [.py (tW W), .py (.int (i : Int))] = some (.py (.tuple [iN a, iN b]), false, .py .none) := by
  have few := h.few
  have lo := P.low
  have lt := P.lt
  have I1 := index_1 (xs := W.map iN) (x := .int (i : Int)) okd_i P.ix1
  have I2 : indexD (W.map iN) [.py (.int (i : Int)), .py (.int ((a : Int) + 1))] = some (ofI b) := index_z okd_i (by omega) (by omega) (by rw [show ((a : Int) + 1).toNat = a + 1 by omega]; exact P.ix2) (by omega)
  rw [run_of lk_places_of rfl]
  have z := ev_places (C := tab.ct fu (run tab fu n)) I1 I2
  show ((exs (tab.ct fu (run tab fu n)) F_places_of.body [.fr (.py (.tuple (W.map iN))), .fr (.py (.int (i : Int))), .no]).bind _) = _
  rw [z]
  rfl
end
end K10
end
section
namespace K10
open PySem Mi
theorem lim_lt {n : Nat} (h : n ≤ 1000) : n < lim := by unfold lim; omega
theorem cut_to {xs : List PyData} {k : Nat} {z : Int} (hz : z = (k : Int)) (h : k ≤ xs.length) : cutP xs none (some z) = xs.take k := by
  subst hz
  have e : HT.sIx xs.length xs.length (some (k : Int)) = k := by
    rw [HT.sIx_nat]
    omega
  have e0 : HT.sIx xs.length 0 none = 0 := rfl
  unfold cutP
  rw [e, e0]
  simp
theorem cut_from {xs : List PyData} {k : Nat} {z : Int} (hz : z = (k : Int)) (h : k ≤ xs.length) : cutP xs (some z) none = xs.drop k := by
  subst hz
  have e : HT.sIx xs.length 0 (some (k : Int)) = k := by
    rw [HT.sIx_nat]
    omega
  have e0 : HT.sIx xs.length xs.length none = xs.length := rfl
  unfold cutP
  rw [e, e0]
  exact List.take_of_length_le (by simp)
theorem cut_mid {xs : List PyData} {k j : Nat} {z y : Int} (hz : z = (k : Int)) (hy : y = (j : Int)) (h : k ≤ xs.length) (h2 : j ≤ xs.length) : cutP xs (some z) (some y) = (xs.drop k).take (j - k) := by
  subst hz hy
  have e : HT.sIx xs.length 0 (some (k : Int)) = k := by
    rw [HT.sIx_nat]
    omega
  have e2 : HT.sIx xs.length xs.length (some (j : Int)) = j := by
    rw [HT.sIx_nat]
    omega
  unfold cutP
  rw [e, e2]
theorem sl_tup {xs : List PyData} {lo hi : Option Int} : sliceD (.py (.tuple xs)) lo hi = some (.va (.py (.tuple (cutP xs lo hi)))) := id rfl
theorem add_tup {xs ys : List PyData} (h : xs.length + ys.length ≤ 1000) : op2 .add (.py (.tuple xs)) (.py (.tuple ys)) = some (.va (.py (.tuple (xs ++ ys)))) := if_pos (lim_ok h)
theorem rev_tup {xs : List PyData} : revD (.py (.tuple xs)) = some (.va (.py (.tuple xs.reverse))) := id rfl
section
variable {C : Ct} {W R A B : List PyData} {i a b p : Int}
theorem ev_turned (c1 : cutP W (some p) none = A) (c2 : cutP W none (some p) = B) (ad : op2 .add (.py (.tuple A)) (.py (.tuple B)) = some (.va (.py (.tuple (A ++ B))))) :
    exs C F_turned_of.body [.fr (.py (.tuple W)), .fr (.py (.int p))] = some (.rt (.py (.tuple (A ++ B))) false, [.fr (.py (.tuple W)), .fr (.py (.int p))]) := by
  simp [F_turned_of, sl_tup, c1, c2, ad]
theorem ev_between (h0 : C.io (Str.ofString "places_of") = false) (h1 : C.call (Str.ofString "places_of") [.py (.tuple W), .py (.int i)] = some (.py (.tuple [.int a, .int b]), false, .py .none)) (c : cutP W (some (a + 1)) (some b) = R) :
    exs C F_between_of.body [.fr (.py (.tuple W)), .fr (.py (.int i)), .no, .no] = some (.rt (.py (.tuple R)) false, [.fr (.py (.tuple W)), .fr (.py (.int i)), .fr (.py (.int a)), .fr (.py (.int b))]) := by
  simp [F_between_of, call_pl h0, h1, bindT, sl_tup, c]
theorem ev_around (h0 : C.io (Str.ofString "places_of") = false) (h1 : C.call (Str.ofString "places_of") [.py (.tuple W), .py (.int i)] = some (.py (.tuple [.int a, .int b]), false, .py .none)) (c1 : cutP W (some (b + 1)) none = A) (c2 : cutP W none (some a) = B) (ad : op2 .add (.py (.tuple A)) (.py (.tuple B)) = some (.va (.py (.tuple (A ++ B))))) :
    exs C F_around_of.body [.fr (.py (.tuple W)), .fr (.py (.int i)), .no, .no] = some (.rt (.py (.tuple (A ++ B))) false, [.fr (.py (.tuple W)), .fr (.py (.int i)), .fr (.py (.int a)), .fr (.py (.int b))]) := by
  simp [F_around_of, call_pl h0, h1, bindT, sl_tup, c1, c2, ad]
end
section
variable {fu n : Nat} {W : List Nat} {i a b p : Nat}
theorem tW_trn : (W.map iN).drop p ++ (W.map iN).take p = (Nm.trn W p).map iN := by
  unfold Nm.trn
  rw [List.map_append, List.map_drop, List.map_take]
theorem r_turned_of (hl : W.length ≤ 20) (hp : p ≤ W.length) : run tab fu (n + 1) (Str.ofString "turned_of") [.py (tW W), .py (.int (p : Int))] = some (.py (tW (Nm.trn W p)), false, .py .none) := by
  rw [run_of lk_turned_of rfl]
  have z := ev_turned (C := tab.ct fu (run tab fu n)) (W := W.map iN) (p := (p : Int)) (cut_from rfl (by simpa using hp)) (cut_to rfl (by simpa using hp)) (add_tup (by simp; omega))
  show ((exs (tab.ct fu (run tab fu n)) F_turned_of.body [.fr (.py (.tuple (W.map iN))), .fr (.py (.int (p : Int)))]).bind _) = _
  rw [z, tW_trn]
  rfl
/-- what stands between a letter's places, and around them -/
def btw (W : List Nat) (a b : Nat) : List Nat := (W.drop (a + 1)).take (b - (a + 1))
def arr (W : List Nat) (a b : Nat) : List Nat := W.drop (b + 1) ++ W.take a
theorem r_between_of (h : Wd W) (P : Pl W i a b) : run tab fu (n + 2) (Str.ofString "between_of") [.py (tW W), .py (.int (i : Int))] = some (.py (tW (btw W a b)), false, .py .none) := by
  have few := h.few
  have lo := P.low
  rw [run_of lk_between_of rfl]
  have q : (tab.ct fu (run tab fu (n + 1))).call (Str.ofString "places_of") [.py (.tuple (W.map iN)), .py (.int (i : Int))] = some (.py (.tuple [.int (a : Int), .int (b : Int)]), false, .py .none) := by
    rw [ct_call]
    exact r_places_of h P
  have z := ev_between (C := tab.ct fu (run tab fu (n + 1))) (ct_io lk_places_of) q (cut_mid (k := a + 1) (j := b) (by omega) rfl (by simp; omega) (by simp; omega))
  show ((exs (tab.ct fu (run tab fu (n + 1))) F_between_of.body [.fr (.py (.tuple (W.map iN))), .fr (.py (.int (i : Int))), .no, .no]).bind _) = _
  rw [z, ← List.map_drop, ← List.map_take]
  rfl
theorem r_around_of (h : Wd W) (P : Pl W i a b) : run tab fu (n + 2) (Str.ofString "around_of") [.py (tW W), .py (.int (i : Int))] = some (.py (tW (arr W a b)), false, .py .none) := by
  have few := h.few
  have lo := P.low
  rw [run_of lk_around_of rfl]
  have q : (tab.ct fu (run tab fu (n + 1))).call (Str.ofString "places_of") [.py (.tuple (W.map iN)), .py (.int (i : Int))] = some (.py (.tuple [.int (a : Int), .int (b : Int)]), false, .py .none) := by
    rw [ct_call]
    exact r_places_of h P
  have z := ev_around (C := tab.ct fu (run tab fu (n + 1))) (ct_io lk_places_of) q (cut_from (k := b + 1) (by omega) (by simp; omega)) (cut_to (k := a) rfl (by simp; omega)) (add_tup (by simp; omega))
  show ((exs (tab.ct fu (run tab fu (n + 1))) F_around_of.body [.fr (.py (.tuple (W.map iN))), .fr (.py (.int (i : Int))), .no, .no]).bind _) = _
  rw [z, ← List.map_drop, ← List.map_take, ← List.map_append]
  rfl
end
/-! ### names -/
def kv : Nat → List Nat → List (L2.Key × PyData)
  | _, [] => []
  | k, x :: s => (.inl (x : Int), .int (k : Int)) :: kv (k + 1) s
theorem kv_len : ∀ (s : List Nat) (k : Nat), (kv k s).length = s.length
  | [], _ => rfl
  | _ :: s, k => congrArg Nat.succ (kv_len s (k + 1))
theorem key_ne {x y : Nat} (h : y ≠ x) : ¬ ((.inl (y : Int) : L2.Key) = .inl (x : Int)) := fun e => h (by
  have := Sum.inl.inj e
  omega)
theorem get_kv : ∀ (s : List Nat) (k x : Nat), x ∈ s → getK (kv k s) (.inl (x : Int)) = some (.int ((k + s.idxOf x : Nat) : Int))
  | y :: s, k, x, h => by
    by_cases e : y = x
    · subst e
      simp [getK, kv]
    · have hx : x ∈ s := by
        rcases List.mem_cons.mp h with q | q
        · exact absurd q.symm e
        · exact q
      have ih := get_kv s (k + 1) x hx
      have b : (y == x) = false := by simpa using e
      have st : getK (kv k (y :: s)) (.inl (x : Int)) = getK (kv (k + 1) s) (.inl (x : Int)) := by
        unfold getK
        rw [kv, List.find?_cons_of_neg (by simpa using key_ne e)]
      rw [st, ih, List.idxOf_cons, b]
      simp only [cond_false]
      rw [show k + 1 + s.idxOf x = k + (s.idxOf x + 1) by omega]
theorem no_kv : ∀ (s : List Nat) (k x : Nat), x ∉ s → getK (kv k s) (.inl (x : Int)) = none ∧ (kv k s).any (fun q => decide (q.1 = .inl (x : Int))) = false
  | [], _, _, _ => ⟨rfl, rfl⟩
  | y :: s, k, x, h => by
    have e : y ≠ x := fun q => h (q ▸ List.mem_cons_self ..)
    obtain ⟨h1, h2⟩ := no_kv s (k + 1) x fun q => h (List.mem_cons_of_mem _ q)
    refine ⟨?_, ?_⟩
    · unfold getK at h1 ⊢
      rw [kv, List.find?_cons_of_neg (by simpa using key_ne e)]
      exact h1
    · rw [kv, List.any_cons, h2, decide_eq_false (key_ne e)]
      rfl
theorem kv_snoc : ∀ (s : List Nat) (k x : Nat), kv k s ++ [(.inl (x : Int), .int ((k + s.length : Nat) : Int))] = kv k (s ++ [x])
  | [], _, _ => rfl
  | y :: s, k, x => by
    rw [kv, List.cons_append, List.cons_append, kv, List.length_cons, show k + (s.length + 1) = k + 1 + s.length by omega, kv_snoc s (k + 1) x]
theorem put_kv {s : List Nat} {x : Nat} (h : x ∉ s) : putKd (kv 0 s) (.inl (x : Int)) (.int (s.length : Int)) = kv 0 (s ++ [x]) := by
  unfold putKd
  rw [(no_kv s 0 x h).2, if_neg Bool.false_ne_true, ← kv_snoc s 0 x, Nat.zero_add]
theorem len_dct {kvs : List (L2.Key × PyData)} : biD .len [.dct kvs] = some (ofI kvs.length) := id rfl
abbrev nBody : Ss := (.cons (.sdf 1 (.pk 3) (.bi .len (.cons (.pk 1) .nil))) (.cons (.app 2 (.ix (.pk 1) (.pk 3))) .nil))
theorem ev_name {C : Ct} {d : D} {kvs kvs' : List (L2.Key × PyData)} {x : Int} {r : PyData} {O : List PyData} (h : sdfO (.dct kvs) (.py (.int x)) (.int kvs.length) = some (.dct kvs')) (g : getK kvs' (.inl x) = some r) (hl : O.length < lim) :
    exs C nBody [.fr d, .ow (.dct kvs), .ow (.py (.list O)), .fr (.py (.int x))] = some (.nx, [.fr d, .ow (.dct kvs'), .ow (.py (.list (O ++ [r]))), .fr (.py (.int x))]) := by
  simp [objAt, D.isDct, h, item, keyP, g, lstAt, hl, len_dct]
theorem ev_names {C : Ct} {d : D} (W : List Nat) (hl : W.length ≤ 1000) : ∃ u, frL (fun x s => (bindT [3] true x s).bind (exs C nBody)) (W.map iN) [.fr d, .ow (.dct []), .ow (.py (.list [])), .no] = some (.nx, [.fr d, .ow (.dct (kv 0 (Nm.seen W))), .ow (.py (.list ((Nm.nm W).map iN))), u]) := by
  obtain ⟨s', e, u, hu⟩ := frL_J (f := fun x s => (bindT [3] true x s).bind (exs C nBody)) (fun k s => ∃ u, s = [.fr d, .ow (.dct (kv 0 (Nm.seen (W.take k)))), .ow (.py (.list ((Nm.nm (W.take k)).map iN))), u]) (W.map iN) 0 [.fr d, .ow (.dct []), .ow (.py (.list [])), .no] ⟨.no, rfl⟩ (by
    rintro j v s hv ⟨u, rfl⟩
    rw [Nat.zero_add]
    have hj : j < W.length := by have := (List.getElem?_eq_some_iff.mp hv).1; simpa using this
    have ev : v = iN W[j] := by
      rw [List.getElem?_map, List.getElem?_eq_getElem hj] at hv
      exact (Option.some.inj hv).symm
    subst ev
    have tk : W.take (j + 1) = W.take j ++ [W[j]] := by rw [List.take_succ, List.getElem?_eq_getElem hj]; rfl
    have sl : (Nm.seen (W.take j)).length ≤ 1000 := by
      have h1 : ∀ L : List Nat, (Nm.seen L).length ≤ L.length := fun L => by
        refine Nm.snocR (P := fun L => (Nm.seen L).length ≤ L.length) (by simp [Nm.seen, Nm.nmF]) (fun L y ih => ?_) L
        rw [Nm.seen_snoc]
        split
        · rw [List.length_append]; omega
        · rw [List.length_append, List.length_append]; simpa using ih
      have := h1 (W.take j)
      rw [List.length_take] at this
      omega
    refine ⟨_, .nx, ?_, .inl rfl, .fr (.py (iN W[j])), rfl⟩
    rw [bind_one, Option.bind_some, tk, Nm.nm_snoc, Nm.seen_snoc, List.map_append]
    generalize Nm.seen (W.take j) = sn at sl ⊢
    have hO : ((Nm.nm (W.take j)).map iN).length < lim := lim_lt (by rw [List.length_map, Nm.nm_len, List.length_take]; omega)
    generalize (Nm.nm (W.take j)).map iN = O at hO ⊢
    generalize W[j] = x
    have kl : (kv 0 sn).length < lim := lim_lt (by rw [kv_len]; exact sl)
    by_cases hx : x ∈ sn
    · rw [if_pos hx]
      refine ev_name ?_ ?_ hO
      · show (if (kv 0 sn).length < lim then some (if (getK (kv 0 sn) (.inl (x : Int))).isSome then D.dct (kv 0 sn) else _) else none) = _
        rw [if_pos kl, get_kv sn 0 x hx]
        rfl
      · rw [get_kv sn 0 x hx, Nat.zero_add]
    · rw [if_neg hx]
      refine ev_name (kvs' := kv 0 (sn ++ [x])) ?_ ?_ hO
      · show (if (kv 0 sn).length < lim then some (if (getK (kv 0 sn) (.inl (x : Int))).isSome then D.dct (kv 0 sn) else D.dct (putKd (kv 0 sn) (.inl (x : Int)) (.int ((kv 0 sn).length : Int)))) else none) = _
        rw [if_pos kl, (no_kv sn 0 x hx).1, kv_len, put_kv hx]
        rfl
      · rw [get_kv (sn ++ [x]) 0 x (by simp), Nat.zero_add])
  rw [Nat.zero_add, List.length_map, List.take_length] at hu
  exact ⟨u, by rw [e, hu]⟩
theorem ev_relabel {C : Ct} (W : List Nat) (hl : W.length ≤ 1000) {d : D} (hd : d = .py (tW W) ∨ d = .py (.list (W.map iN))) : ∃ st, exs C F_relabelled.body [.fr d, .no, .no, .no] = some (.rt (.py (tW (Nm.nm W))) false, st) := by
  obtain ⟨u, e⟩ := ev_names (C := C) (d := d) W hl
  have I : evI C (.v (.var 0)) [.fr d, .ow (.dct []), .ow (.py (.list [])), .no] = some (W.map iN, [.fr d, .ow (.dct []), .ow (.py (.list [])), .no]) := by
    rcases hd with rfl | rfl <;> simp
  have S1 : exS C (.par [1, 2] (.cons .dct0 (.cons (.lst .nil) .nil))) [.fr d, .no, .no, .no] = some (.nx, [.fr d, .ow (.dct []), .ow (.py (.list [])), .no]) := by simp
  have S2 : exS C (.fr [3] true (.v (.var 0)) nBody) [.fr d, .ow (.dct []), .ow (.py (.list [])), .no] = some (.nx, [.fr d, .ow (.dct (kv 0 (Nm.seen W))), .ow (.py (.list ((Nm.nm W).map iN))), u]) := by
    rw [ex_fr, I, Option.bind_some]
    exact e
  refine ⟨[.fr d, .ow (.dct (kv 0 (Nm.seen W))), .ow (.py (.list ((Nm.nm W).map iN))), u], ?_⟩
  rw [show F_relabelled.body = .cons (.par [1, 2] (.cons .dct0 (.cons (.lst .nil) .nil))) (.cons (.fr [3] true (.v (.var 0)) nBody) (.cons (.ret (.bi .tuple (.cons (.pk 2) .nil))) .nil)) from rfl, exs_cons, S1, Option.bind_some]
  simp only
  rw [exs_cons, S2, Option.bind_some]
  simp
section
variable {fu n : Nat} {W : List Nat}
theorem r_relabelled (hl : W.length ≤ 1000) {d : D} (hd : d = .py (tW W) ∨ d = .py (.list (W.map iN))) : run tab fu (n + 1) (Str.ofString "relabelled") [d] = some (.py (tW (Nm.nm W)), false, .py .none) := by
  obtain ⟨st, e⟩ := ev_relabel (C := tab.ct fu (run tab fu n)) W hl hd
  rw [run_of lk_relabelled rfl]
  show ((exs (tab.ct fu (run tab fu n)) F_relabelled.body [.fr d, .no, .no, .no]).bind _) = _
  rw [e]
  rfl
theorem r_lnamed (hl : W.length ≤ 1000) {d : D} (hd : d = .py (tW W) ∨ d = .py (.list (W.map iN))) : run tab fu (n + 1) (Str.ofString "_law_named") [d] = some (.py (tW (Nm.nm W)), false, .py .none) := by
  obtain ⟨st, e⟩ := ev_relabel (C := tab.ct fu (run tab fu n)) W hl hd
  rw [run_of lk__law_named rfl]
  show ((exs (tab.ct fu (run tab fu n)) F_relabelled.body [.fr d, .no, .no, .no]).bind _) = _
  rw [e]
  rfl
end
end K10
end
section
namespace K10
open PySem Mi
theorem Wd.perm {W V : List Nat} (h : Wd W) (p : V.Perm W) : Wd V := by
  have e := p.length_eq
  exact ⟨by rw [e]; exact h.ev, by rw [e]; exact h.few, fun x hx => by rw [e]; exact h.low x (p.mem_iff.mp hx), fun i hi => by rw [p.count_eq]; exact h.two i (by rw [← e]; exact hi)⟩
theorem perm_len {l s : List Nat} (h1 : l.Nodup) (h2 : s.Nodup) (h : ∀ x, x ∈ l ↔ x ∈ s) : l.length = s.length := by
  have a : ∀ {l s : List Nat}, l.Nodup → (∀ x ∈ l, x ∈ s) → l.length ≤ s.length := by
    intro l
    induction l with
    | nil => intro s _ _; exact Nat.zero_le _
    | cons x l ih =>
      intro s hn hs
      rw [List.nodup_cons] at hn
      have hx := hs x (List.mem_cons_self ..)
      have := ih (s := s.erase x) hn.2 fun y hy => by
        have hne : y ≠ x := fun e => hn.1 (e ▸ hy)
        exact (List.mem_erase_of_ne hne).mpr (hs y (List.mem_cons_of_mem _ hy))
      rw [List.length_erase_of_mem hx] at this
      have hp : 0 < s.length := List.length_pos_of_mem hx
      rw [List.length_cons]
      omega
  exact Nat.le_antisymm (a h1 fun x hx => (h x).mp hx) (a h2 fun x hx => (h x).mpr hx)
theorem Wd.has {W : List Nat} (h : Wd W) {i : Nat} (hi : i < W.length / 2) : i ∈ W := by
  have := h.two i hi
  exact List.count_pos_iff.mp (by omega)
theorem Wd.seen {W : List Nat} (h : Wd W) : (Nm.seen W).length = W.length / 2 := by
  have := perm_len (Nm.nodup_seen W) (List.nodup_range (n := W.length / 2)) fun x => by
    rw [Nm.mem_seen, List.mem_range]
    exact ⟨h.low x, fun hx => h.has hx⟩
  rw [this, List.length_range]
theorem Wd.nm {W : List Nat} (h : Wd W) : Wd (Nm.nm W) := by
  have e := Nm.nm_len W
  refine ⟨by rw [e]; exact h.ev, by rw [e]; exact h.few, fun x hx => ?_, fun i hi => ?_⟩
  · have := Nm.nm_low hx
    rw [h.seen] at this
    rw [e]
    exact this
  · rw [e] at hi
    have hi2 : i < (Nm.seen W).length := by rw [h.seen]; exact hi
    rw [Nm.nm_count hi2]
    have hm : (Nm.seen W)[i] ∈ W := (Nm.mem_seen W _).mp (List.getElem_mem hi2)
    exact h.two _ (h.low _ hm)
theorem Wd.trn {W : List Nat} (h : Wd W) {k : Nat} : Wd (Nm.trn W k) := h.perm (by
  have := List.perm_append_comm (l₁ := W.drop k) (l₂ := W.take k)
  rw [List.take_append_drop] at this
  exact this)
theorem Wd.rev {W : List Nat} (h : Wd W) : Wd W.reverse := h.perm (List.reverse_perm W)
theorem sz_row {L : List Nat} (h : ∀ v ∈ L, v < 100) : Sz (tW L) L.length 1 := (Sz.tup (SzA.map (k := 0) fun a ha => Sz.nat (h a ha))).mono (by omega) (Nat.le_refl 1)
theorem cmp_notin {x : Int} {ys : List PyData} : cmp .notin (.py (.int x)) (.py (.tuple ys)) = some (!hasB (.int x) ys) := id rfl
theorem cmp_isin {x : Int} {ys : List PyData} : cmp .isin (.py (.int x)) (.py (.tuple ys)) = some (hasB (.int x) ys) := id rfl
theorem has_nat {x : Nat} : ∀ lot : List Nat, hasB (.int (x : Int)) (lot.map iN) = decide (x ∈ lot)
  | [] => by simp [hasB]
  | y :: lot => by
    have ih := has_nat (x := x) lot
    unfold hasB at ih ⊢
    rw [List.map_cons, List.any_cons, ih, eqv_int]
    by_cases h : y = x
    · subst h; simp
    · have h2 : ¬ ((y : Int) = (x : Int)) := by omega
      have h3 : ¬ x = y := fun e => h e.symm
      simp [h2, h3]
theorem filt_nat {p : PyData → Bool} {q : Nat → Bool} (W : List Nat) (h : ∀ x, p (iN x) = q x) : (W.map iN).filter p = (W.filter q).map iN := by
  rw [List.filter_map]
  congr 1
  refine List.filter_congr fun x _ => ?_
  exact h x
section
variable {fu n : Nat} {W R lot : List Nat} {i a b p : Nat}
theorem r_is_ring_of (h2 : ∀ x ∈ R, R.count x = 2) (hl : R.length ≤ 20) : run tab fu (n + 4) (Str.ofString "is_ring_of") [.py (tW R)] = some (.py (.bool true), false, .py .none) := by
  have e2 : ¬ ((20 : Int) < (R.length : Int)) := by omega
  rw [run_of lk_is_ring_of rfl]
  have A : evE (tab.ct fu (run tab fu (n + 3))) (.lc [1, 2] [2] true (.v (.var 0)) .yes (.cal (Str.ofString "is_count") [0] (.cons (.var 2) .nil))) [.fr (.py (tW R)), .no, .no] =
      some (.fe (.py (.list (R.map fun x => .bool true))), [.fr (.py (tW R)), .no, .no]) := by
    rw [lc_map (fun _ => .bool true) (st' := [.fr (.py (tW R)), .no, .no]) (xs := R.map iN) (by simp) rfl (lim_ok (by simp; omega)) fun x hx => ?_]
    · rw [List.map_map]
      rfl
    · obtain ⟨y, hy, rfl⟩ := List.mem_map.mp hx
      refine ⟨_, _, _, rfl, by simp [wipe, call_pl (ct_io lk_is_count), r_is_count]; exact ⟨rfl, rfl⟩, rfl, by simp [wipe]⟩
  have B : evE (tab.ct fu (run tab fu (n + 3))) (.lc [1, 2] [2] true (.v (.var 0)) .yes (.cm .eq (.me .count (.pk 0) (.cons (.pk 2) .nil)) (.lit (.int (2))))) [.fr (.py (tW R)), .no, .no] =
      some (.fe (.py (.list (R.map fun x => .bool true))), [.fr (.py (tW R)), .no, .no]) := by
    rw [lc_map (fun _ => .bool true) (st' := [.fr (.py (tW R)), .no, .no]) (xs := R.map iN) (by simp) rfl (lim_ok (by simp; omega)) fun x hx => ?_]
    · rw [List.map_map]
      rfl
    · obtain ⟨y, hy, rfl⟩ := List.mem_map.mp hx
      have c := h2 y hy
      have okd : okDp (.int (y : Int)) = true := rfl
      refine ⟨_, _, _, rfl, by simp [wipe, meD, countD, okd, D.tupD, D.lstD, cnt_map', c]; exact ⟨rfl, rfl⟩, rfl, by simp [wipe]⟩
  have S1 : evT (tab.ct fu (run tab fu (n + 3))) (.or (.nt (.v (.isa (.pk 0) [.tuple]))) (.v (.cm .gt (.bi .len (.cons (.pk 0) .nil)) (.op .mul (.lit (.int (2))) (.glo (Str.ofString "MOST_LETTERS")))))) [.fr (.py (tW R)), .no, .no] = some (false, [.fr (.py (tW R)), .no, .no]) := by
    simp [op_mod, op_mul, okMul, gl_ml, e2]
  simp [F_is_ring_of, enter, S1, A, B, all_true]
theorem r_named (h2 : ∀ x ∈ R, R.count x = 2) (hl : R.length ≤ 20) : run tab fu (n + 5) (Str.ofString "named") [.py (tW R)] = some (.py (tW (Nm.nm R)), false, .py .none) := by
  rw [run_of lk_named rfl]
  simp [F_named, enter, call_pl (ct_io lk_is_ring_of), call_pl (ct_io lk_relabelled), r_is_ring_of h2 hl, r_relabelled (fu := fu) (n := n + 3) (W := R) (by omega) (.inl rfl)]
theorem zip_up : ∀ {L : List Nat}, L.Pairwise (· < ·) → ∀ q ∈ zipL (L.map iN) ((L.map iN).drop 1), ∃ a b : Nat, a < b ∧ q = .tuple [iN a, iN b]
  | [], _, q, h => by cases h
  | [x], _, q, h => by simp [zipL] at h
  | x :: y :: L, hp, q, h => by
    rw [List.pairwise_cons] at hp
    have h : q ∈ .tuple [iN x, iN y] :: zipL ((y :: L).map iN) (((y :: L).map iN).drop 1) := h
    rcases List.mem_cons.mp h with rfl | h
    · exact ⟨x, y, hp.1 y (List.mem_cons_self ..), rfl⟩
    · exact zip_up hp.2 q h
theorem zip_len : ∀ (A B : List PyData), (zipL A B).length ≤ A.length
  | [], _ => by simp [zipL]
  | _ :: _, [] => by simp [zipL]
  | x :: A, y :: B => by
    have := zip_len A B
    show (zipL A B).length + 1 ≤ A.length + 1
    omega
theorem r_is_rising (hp : lot.Pairwise (· < ·)) (hl : lot.length ≤ 1000) : run tab fu (n + 1) (Str.ofString "is_rising") [.py (tW lot)] = some (.py (.bool true), false, .py .none) := by
  rw [run_of lk_is_rising rfl]
  have I : evI (tab.ct fu (run tab fu n)) (.zip (.cons (.var 0) (.cons (.sl (.pk 0) (.so (.lit (.int (1)))) .no) .nil))) [.fr (.py (tW lot)), .no, .no, .no] = some (zipL (lot.map iN) ((lot.map iN).drop 1), [.fr (.py (tW lot)), .no, .no, .no]) := by
    have c : cutP (lot.map iN) (some 1) none = (lot.map iN).drop 1 := by
      cases lot with
      | nil => rfl
      | cons x l => exact cut_from (k := 1) rfl (by simp)
    simp [sl_tup, c]
  have A : evE (tab.ct fu (run tab fu n)) (.lc [1, 2, 3] [2, 3] false (.zip (.cons (.var 0) (.cons (.sl (.pk 0) (.so (.lit (.int (1)))) .no) .nil))) .yes (.cm .lt (.pk 2) (.pk 3))) [.fr (.py (tW lot)), .no, .no, .no] =
      some (.fe (.py (.list ((zipL (lot.map iN) ((lot.map iN).drop 1)).map fun x => .bool true))), [.fr (.py (tW lot)), .no, .no, .no]) := by
    refine lc_map (fun _ => .bool true) (st' := [.fr (.py (tW lot)), .no, .no, .no]) I rfl (lim_ok (Nat.le_trans (zip_len _ _) (by simpa using hl))) fun x hx => ?_
    obtain ⟨a, b, hab, rfl⟩ := zip_up hp x hx
    have lt : (a : Int) < (b : Int) := by omega
    exact ⟨_, _, _, rfl, by simp [wipe]; exact ⟨rfl, rfl⟩, by simp [hab], by simp [wipe]⟩
  simp [F_is_rising, enter, A, all_true]
theorem r_are_letters (hp : lot.Pairwise (· < ·)) (hl : lot.length ≤ 1000) (hv : ∀ v ∈ lot, v < W.length / 2) : run tab fu (n + 5) (Str.ofString "are_letters_of") [.py (tW W), .py (tW lot)] = some (.py (.bool true), false, .py .none) := by
  rw [run_of lk_are_letters_of rfl]
  have A : evE (tab.ct fu (run tab fu (n + 4))) (.lc [2, 3] [3] true (.v (.var 1)) .yes (.cal (Str.ofString "is_letter_of") [0, 1] (.cons (.var 0) (.cons (.var 3) .nil)))) [.fr (.py (tW W)), .fr (.py (tW lot)), .no, .no] =
      some (.fe (.py (.list (lot.map fun x => .bool true))), [.fr (.py (tW W)), .fr (.py (tW lot)), .no, .no]) := by
    rw [lc_map (fun _ => .bool true) (st' := [.fr (.py (tW W)), .fr (.py (tW lot)), .no, .no]) (xs := lot.map iN) (by simp) rfl (lim_ok (by simpa using hl)) fun x hx => ?_]
    · rw [List.map_map]
      rfl
    · obtain ⟨y, hy, rfl⟩ := List.mem_map.mp hx
      have lt : (y : Int) < (W.length : Int) / 2 := by have := hv y hy; omega
      exact ⟨_, _, _, rfl, by simp [wipe, call_pl (ct_io lk_is_letter_of), r_is_letter_of]; exact ⟨rfl, rfl⟩, by simp [lt], by simp [wipe]⟩
  simp [F_are_letters_of, enter, A, all_true, call_pl (ct_io lk_is_rising), r_is_rising (fu := fu) (n := n + 3) hp hl]
theorem r_want_letters (hp : lot.Pairwise (· < ·)) (hl : lot.length ≤ 1000) (hv : ∀ v ∈ lot, v < W.length / 2) : run tab fu (n + 6) (Str.ofString "want_letters") [.py (tW W), .py (tW lot)] = some (.py (tW lot), false, .py .none) := by
  rw [run_of lk_want_letters rfl]
  simp [F_want_letters, enter, call_pl (ct_io lk_are_letters_of), r_are_letters (fu := fu) (n := n) hp hl hv]
theorem r_without_letters (hl : W.length ≤ 20) : run tab fu (n + 2) (Str.ofString "without_letters") [.py (tW W), .py (tW lot)] = some (.py (tW (Nm.nm (W.filter fun x => !decide (x ∈ lot)))), false, .py .none) := by
  rw [run_of lk_without_letters rfl]
  have A : evE (tab.ct fu (run tab fu (n + 1))) (.lc [2, 3] [3] true (.v (.var 0)) (.v (.cm .notin (.pk 3) (.pk 1))) (.var 3)) [.fr (.py (tW W)), .fr (.py (tW lot)), .no, .no] =
      some (.fe (.py (.list ((W.filter fun x => !decide (x ∈ lot)).map iN))), [.fr (.py (tW W)), .fr (.py (tW lot)), .no, .no]) := by
    rw [lc_if (fun v => match v with
      | .int i => !hasB (.int i) (lot.map iN)
      | _ => false) (fun v => v) (st' := [.fr (.py (tW W)), .fr (.py (tW lot)), .no, .no]) (xs := W.map iN) (by simp) rfl (lim_ok (by simp; omega)) fun x hx => ?_]
    · rw [List.map_id', filt_nat (q := fun x => !decide (x ∈ lot)) W fun x => by rw [← has_nat]]
    · obtain ⟨y, hy, rfl⟩ := List.mem_map.mp hx
      refine ⟨_, [.fr (.py (tW W)), .fr (.py (tW lot)), .no, .fr (.py (iN y))], rfl, ?_, fun _ => rfl, fun _ => ⟨_, _, rfl, rfl, rfl⟩⟩
      simp only [evT_v, ev_cm, ev_pk, List.getElem?_cons_zero, List.getElem?_cons_succ, Option.bind_some, wipe, List.set_cons_succ, List.set_cons_zero, rd_pk, con_fr, cmp_notin, Option.map_some, rd_ofB, tru_bool]
  simp only [F_without_letters, exs_cons, ex_ret, ev_cal, evs_cons, evs_nil, enter, List.map_cons, List.map_nil, List.length_cons, List.length_nil, List.replicate, List.cons_append, List.nil_append, A, Option.bind_some, Option.map_some]
  simp [call_pl (ct_io lk_relabelled), r_relabelled (fu := fu) (n := n) (W := W.filter fun x => !decide (x ∈ lot)) (Nat.le_trans (List.length_filter_le _ _) (by omega)) (.inr rfl)]
theorem r_only_letters (hl : W.length ≤ 20) : run tab fu (n + 2) (Str.ofString "only_letters") [.py (tW W), .py (tW lot)] = some (.py (tW (Nm.nm (W.filter fun x => decide (x ∈ lot)))), false, .py .none) := by
  rw [run_of lk_only_letters rfl]
  have A : evE (tab.ct fu (run tab fu (n + 1))) (.lc [2, 3] [3] true (.v (.var 0)) (.v (.cm .isin (.pk 3) (.pk 1))) (.var 3)) [.fr (.py (tW W)), .fr (.py (tW lot)), .no, .no] =
      some (.fe (.py (.list ((W.filter fun x => decide (x ∈ lot)).map iN))), [.fr (.py (tW W)), .fr (.py (tW lot)), .no, .no]) := by
    rw [lc_if (fun v => match v with
      | .int i => hasB (.int i) (lot.map iN)
      | _ => false) (fun v => v) (st' := [.fr (.py (tW W)), .fr (.py (tW lot)), .no, .no]) (xs := W.map iN) (by simp) rfl (lim_ok (by simp; omega)) fun x hx => ?_]
    · rw [List.map_id', filt_nat (q := fun x => decide (x ∈ lot)) W fun x => by rw [← has_nat]]
    · obtain ⟨y, hy, rfl⟩ := List.mem_map.mp hx
      refine ⟨_, [.fr (.py (tW W)), .fr (.py (tW lot)), .no, .fr (.py (iN y))], rfl, ?_, fun _ => rfl, fun _ => ⟨_, _, rfl, rfl, rfl⟩⟩
      simp only [evT_v, ev_cm, ev_pk, List.getElem?_cons_zero, List.getElem?_cons_succ, Option.bind_some, wipe, List.set_cons_succ, List.set_cons_zero, rd_pk, con_fr, cmp_isin, Option.map_some, rd_ofB, tru_bool]
  simp only [F_only_letters, exs_cons, ex_ret, ev_cal, evs_cons, evs_nil, enter, List.map_cons, List.map_nil, List.length_cons, List.length_nil, List.replicate, List.cons_append, List.nil_append, A, Option.bind_some, Option.map_some]
  simp [call_pl (ct_io lk_relabelled), r_relabelled (fu := fu) (n := n) (W := W.filter fun x => decide (x ∈ lot)) (Nat.le_trans (List.length_filter_le _ _) (by omega)) (.inr rfl)]
end
end K10
end
section
namespace K10
open PySem Mi
theorem ev_two {C : Ct} {lc : Ex} {d : D} {q1 q2 : List PyData} {a b : PyData} (h1 : ∀ acc, evE C lc [.fr d, .ow (.py (.list acc)), .fr (.py a), .no, .no] = some (.fe (.py (.list q1)), [.fr d, .ow (.py (.list acc)), .fr (.py a), .no, .no]))
    (h2 : ∀ acc, evE C lc [.fr d, .ow (.py (.list acc)), .fr (.py b), .no, .no] = some (.fe (.py (.list q2)), [.fr d, .ow (.py (.list acc)), .fr (.py b), .no, .no])) (l : q1.length + q2.length ≤ 1000) :
    frL (fun x s => (bindT [2] true x s).bind (exs C (.cons (.ext 1 lc) .nil))) [a, b] [.fr d, .ow (.py (.list [])), .no, .no, .no] = some (.nx, [.fr d, .ow (.py (.list (q1 ++ q2))), .fr (.py b), .no, .no]) := by
  have t1 : q1.length < lim := lim_lt (by omega)
  have t2 : q1.length + q2.length < lim := lim_lt (by omega)
  have s1 : (bindT [2] true a [.fr d, .ow (.py (.list [])), .no, .no, .no]).bind (exs C (.cons (.ext 1 lc) .nil)) = some (.nx, [.fr d, .ow (.py (.list q1)), .fr (.py a), .no, .no]) := by
    simp [h1, lstAt, t1]
  have s2 : (bindT [2] true b [.fr d, .ow (.py (.list q1)), .fr (.py a), .no, .no]).bind (exs C (.cons (.ext 1 lc) .nil)) = some (.nx, [.fr d, .ow (.py (.list (q1 ++ q2))), .fr (.py b), .no, .no]) := by
    simp [h2, lstAt, t2]
  rw [frL, s1, Option.bind_some]
  simp only
  rw [frL, s2, Option.bind_some]
  rfl
abbrev rdQ (V : List Nat) (m : Nat) : List PyData := (List.range m).map fun k => tW (Nm.nm (Nm.trn V k))
abbrev lcP : Ex := (.lc [3, 4] [4] true (.rng (.cons (.bi .max (.cons (.bi .len (.cons (.pk 2) .nil)) (.cons (.lit (.int (1))) .nil))) .nil)) .yes (.cal (Str.ofString "relabelled") [0] (.cons (.cal (Str.ofString "turned_of") [0, 1] (.cons (.var 2) (.cons (.var 4) .nil))) .nil)))
abbrev lcQ : Ex := (.lc [3, 4] [4] true (.rng (.cons (.op .add (.bi .len (.cons (.pk 2) .nil)) (.lit (.int (1)))) .nil)) .yes (.cal (Str.ofString "_law_named") [0] (.cons (.op .add (.sl (.pk 2) (.so (.pk 4)) .no) (.sl (.pk 2) .no (.so (.pk 4)))) .nil)))
theorem rds_map {W : List Nat} {m : Nat} : (Nm.rds W m).map (fun l => PyData.tuple (l.map Nm.jN)) = rdQ W m ++ rdQ W.reverse m := by
  unfold Nm.rds rdQ
  rw [List.map_append, List.map_map, List.map_map]
  rfl
section
variable {fu n : Nat} {W R V lot : List Nat} {i a b p : Nat} {d : D}
theorem lc_P (hl : V.length ≤ 20) (acc : List PyData) : evE (tab.ct fu (run tab fu (n + 1))) lcP [.fr d, .ow (.py (.list acc)), .fr (.py (tW V)), .no, .no] = some (.fe (.py (.list (rdQ V (max V.length 1)))), [.fr d, .ow (.py (.list acc)), .fr (.py (tW V)), .no, .no]) := by
  obtain ⟨m, hm⟩ : ∃ m, max V.length 1 = m := ⟨_, rfl⟩
  rw [hm]
  have rg := rng_nat (k := m) (by omega)
  have mx : biD .max [.py (.int (V.length : Int)), .py (.int 1)] = some (ofI (m : Int)) := by
    show some (ofI (if (1 : Int) > (V.length : Int) then 1 else (V.length : Int))) = _
    congr 2
    split <;> omega
  have I : evI (tab.ct fu (run tab fu (n + 1))) (.rng (.cons (.bi .max (.cons (.bi .len (.cons (.pk 2) .nil)) (.cons (.lit (.int (1))) .nil))) .nil)) [.fr d, .ow (.py (.list acc)), .fr (.py (tW V)), .no, .no] = some ((List.range m).map iN, [.fr d, .ow (.py (.list acc)), .fr (.py (tW V)), .no, .no]) := by
    simp [mx, rg]
  rw [lc_map (fun v => match v with
    | .int i => tW (Nm.nm (Nm.trn V i.toNat))
    | v => v) (st' := [.fr d, .ow (.py (.list acc)), .fr (.py (tW V)), .no, .no]) (xs := (List.range m).map iN) I rfl (lim_ok (by simp; omega)) fun x hx => ?_]
  · rw [List.map_map]
    rfl
  · obtain ⟨y, hy, rfl⟩ := List.mem_map.mp hx
    have hy := List.mem_range.mp hy
    refine ⟨[.fr d, .ow (.py (.list acc)), .fr (.py (tW V)), .no, .fr (.py (iN y))], .va (.py (tW (Nm.nm (Nm.trn V y)))), [.fr d, .ow (.py (.list acc)), .fr (.py (tW V)), .no, .fr (.py (iN y))], rfl, ?_, rfl, rfl⟩
    have c1 := r_turned_of (fu := fu) (n := n) (W := V) (p := y) hl (by omega)
    have c2 := r_relabelled (fu := fu) (n := n) (W := Nm.trn V y) (d := .py (tW (Nm.trn V y))) (by rw [Nm.trn_len]; omega) (.inl rfl)
    simp [call_pl (ct_io lk_turned_of), call_pl (ct_io lk_relabelled), c1, c2]
theorem lc_Q (hl : V.length ≤ 20) (acc : List PyData) : evE (tab.ct fu (run tab fu (n + 1))) lcQ [.fr d, .ow (.py (.list acc)), .fr (.py (tW V)), .no, .no] = some (.fe (.py (.list (rdQ V (V.length + 1)))), [.fr d, .ow (.py (.list acc)), .fr (.py (tW V)), .no, .no]) := by
  obtain ⟨m, hm⟩ : ∃ m, V.length + 1 = m := ⟨_, rfl⟩
  rw [hm]
  have rg := rng_nat (k := m) (by omega)
  have ad : op2 .add (.py (.int (V.length : Int))) (.py (.int 1)) = some (ofI (m : Int)) := by
    show some (ofI ((V.length : Int) + 1)) = _
    congr 2
    omega
  have I : evI (tab.ct fu (run tab fu (n + 1))) (.rng (.cons (.op .add (.bi .len (.cons (.pk 2) .nil)) (.lit (.int (1)))) .nil)) [.fr d, .ow (.py (.list acc)), .fr (.py (tW V)), .no, .no] = some ((List.range m).map iN, [.fr d, .ow (.py (.list acc)), .fr (.py (tW V)), .no, .no]) := by
    simp [ad, rg, -op_add]
  rw [lc_map (fun v => match v with
    | .int i => tW (Nm.nm (Nm.trn V i.toNat))
    | v => v) (st' := [.fr d, .ow (.py (.list acc)), .fr (.py (tW V)), .no, .no]) (xs := (List.range m).map iN) I rfl (lim_ok (by simp; omega)) fun x hx => ?_]
  · rw [List.map_map]
    rfl
  · obtain ⟨y, hy, rfl⟩ := List.mem_map.mp hx
    have hy := List.mem_range.mp hy
    refine ⟨[.fr d, .ow (.py (.list acc)), .fr (.py (tW V)), .no, .fr (.py (iN y))], .va (.py (tW (Nm.nm (Nm.trn V y)))), [.fr d, .ow (.py (.list acc)), .fr (.py (tW V)), .no, .fr (.py (iN y))], rfl, ?_, rfl, rfl⟩
    have c2 := r_lnamed (fu := fu) (n := n) (W := Nm.trn V y) (d := .py (tW (Nm.trn V y))) (by rw [Nm.trn_len]; omega) (.inl rfl)
    have k1 := cut_from (xs := V.map iN) (k := y) (z := (y : Int)) rfl (by simp; omega)
    have k2 := cut_to (xs := V.map iN) (k := y) (z := (y : Int)) rfl (by simp; omega)
    have ad2 := add_tup (xs := (V.map iN).drop y) (ys := (V.map iN).take y) (by simp; omega)
    rw [tW_trn] at ad2
    have E : evE (tab.ct fu (run tab fu (n + 1))) (.op .add (.sl (.pk 2) (.so (.pk 4)) .no) (.sl (.pk 2) .no (.so (.pk 4)))) [.fr d, .ow (.py (.list acc)), .fr (.py (tW V)), .no, .fr (.py (iN y))] = some (.va (.py (tW (Nm.trn V y))), [.fr d, .ow (.py (.list acc)), .fr (.py (tW V)), .no, .fr (.py (iN y))]) := by
      simp [sl_tup, k1, k2, ad2, -List.map_drop, -List.map_take]
    rw [ev_cal, evs_cons, E]
    simp [call_pl (ct_io lk__law_named), c2]
theorem r_all_readings (hl : W.length ≤ 20) : run tab fu (n + 2) (Str.ofString "all_readings") [.py (tW W)] = some (.py (.list ((Nm.rds W (max W.length 1)).map fun l => .tuple (l.map Nm.jN))), true, .py .none) := by
  have hr : W.reverse.length = W.length := List.length_reverse ..
  have T := ev_two (C := tab.ct fu (run tab fu (n + 1))) (d := .py (tW W)) (a := tW W) (b := tW W.reverse) (q1 := rdQ W (max W.length 1)) (q2 := rdQ W.reverse (max W.reverse.length 1)) (lc_P (V := W) (n := n) hl) (lc_P (V := W.reverse) (n := n) (by rw [hr]; exact hl)) (by rw [hr]; simp; omega)
  rw [hr, ← rds_map] at T
  have I : evI (tab.ct fu (run tab fu (n + 1))) (.v (.tup (.cons (.var 0) (.cons (.rev (.pk 0)) .nil)))) [.fr (.py (tW W)), .ow (.py (.list [])), .no, .no, .no] = some ([tW W, tW W.reverse], [.fr (.py (tW W)), .ow (.py (.list [])), .no, .no, .no]) := by
    simp [rev_tup]
  rw [run_of lk_all_readings rfl]
  show ((exs (tab.ct fu (run tab fu (n + 1))) F_all_readings.body [.fr (.py (tW W)), .no, .no, .no, .no]).bind _) = _
  have S1 : exS (tab.ct fu (run tab fu (n + 1))) (.asg 1 (.lst .nil)) [.fr (.py (tW W)), .no, .no, .no, .no] = some (.nx, [.fr (.py (tW W)), .ow (.py (.list [])), .no, .no, .no]) := by simp
  have S2 : exS (tab.ct fu (run tab fu (n + 1))) (.fr [2] true (.v (.tup (.cons (.var 0) (.cons (.rev (.pk 0)) .nil)))) (.cons (.ext 1 lcP) .nil)) [.fr (.py (tW W)), .ow (.py (.list [])), .no, .no, .no] = some (.nx, [.fr (.py (tW W)), .ow (.py (.list ((Nm.rds W (max W.length 1)).map fun l => .tuple (l.map Nm.jN)))), .fr (.py (tW W.reverse)), .no, .no]) := by
    rw [ex_fr, I, Option.bind_some]
    exact T
  rw [show F_all_readings.body = .cons (.asg 1 (.lst .nil)) (.cons (.fr [2] true (.v (.tup (.cons (.var 0) (.cons (.rev (.pk 0)) .nil)))) (.cons (.ext 1 lcP) .nil)) (.cons (.retv 1) .nil)) from rfl, exs_cons, S1, Option.bind_some]
  simp only
  rw [exs_cons, S2, Option.bind_some]
  simp only [exs_cons, ex_retv, List.getElem?_cons_zero, List.getElem?_cons_succ, Option.bind_some]
  rfl
theorem rds_100 {m : Nat} (hl : W.length ≤ 20) : ∀ l ∈ Nm.rds W m, ∀ v ∈ l, v < 100 := fun l h v hv => by
  have := Nm.rds_low l h v hv
  omega
theorem r_normal_of (hl : W.length ≤ 20) : run tab fu (n + 3) (Str.ofString "normal_of") [.py (tW W)] = some (.py (Nm.tI (Nm.norm W)), false, .py .none) := by
  rw [run_of lk_normal_of rfl]
  have mn := Nm.min_least (L := Nm.rds W (max W.length 1)) (Nm.rds_ne (by omega)) (rds_100 hl)
  rw [Nm.norm_max] at mn
  simp only [F_normal_of, exs_cons, ex_ret, ev_bi, ev_cal, evs_cons, evs_nil, enter, List.map_cons, List.map_nil, List.length_cons, List.length_nil, List.replicate, List.cons_append, List.nil_append, ev_var, List.getElem?_cons_zero, Option.bind_some, Option.map_some, call_pl (ct_io lk_all_readings), F_all_readings, List.getD_cons_zero, vals_cons, vals_nil, val_va, ct_call, r_all_readings hl, if_true, rds_cons, rds_nil, rd_fe, mn, ret_va]
  rfl
theorem r_normal (h : Wd W) : run tab fu (n + 6) (Str.ofString "normal") [.py (tW W)] = some (.py (Nm.tI (Nm.norm W)), false, .py .none) := by
  rw [run_of lk_normal rfl]
  simp [F_normal, enter, call_pl (ct_io lk_normal_of), call_pl (ct_io lk_want_word), r_want_word h, r_normal_of (fu := fu) (n := n + 2) h.few]
theorem r_lnormal (hl : W.length ≤ 20) : run tab fu (n + 2) (Str.ofString "_law_normal") [.py (tW W)] = some (.py (Nm.tI (Nm.norm W)), false, .py .none) := by
  have hr : W.reverse.length = W.length := List.length_reverse ..
  have T := ev_two (C := tab.ct fu (run tab fu (n + 1))) (d := .py (tW W)) (a := tW W) (b := tW W.reverse) (q1 := rdQ W (W.length + 1)) (q2 := rdQ W.reverse (W.reverse.length + 1)) (lc_Q (V := W) (n := n) hl) (lc_Q (V := W.reverse) (n := n) (by rw [hr]; exact hl)) (by rw [hr]; simp; omega)
  rw [hr, ← rds_map] at T
  have mn := Nm.min_least (L := Nm.rds W (W.length + 1)) (Nm.rds_ne (by omega)) (rds_100 hl)
  have I : evI (tab.ct fu (run tab fu (n + 1))) (.v (.lst (.cons (.var 0) (.cons (.rev (.pk 0)) .nil)))) [.fr (.py (tW W)), .ow (.py (.list [])), .no, .no, .no] = some ([tW W, tW W.reverse], [.fr (.py (tW W)), .ow (.py (.list [])), .no, .no, .no]) := by
    simp [rev_tup]
  rw [run_of lk__law_normal rfl]
  show ((exs (tab.ct fu (run tab fu (n + 1))) F__law_normal.body [.fr (.py (tW W)), .no, .no, .no, .no]).bind _) = _
  have S1 : exS (tab.ct fu (run tab fu (n + 1))) (.asg 1 (.lst .nil)) [.fr (.py (tW W)), .no, .no, .no, .no] = some (.nx, [.fr (.py (tW W)), .ow (.py (.list [])), .no, .no, .no]) := by simp
  have S2 : exS (tab.ct fu (run tab fu (n + 1))) (.fr [2] true (.v (.lst (.cons (.var 0) (.cons (.rev (.pk 0)) .nil)))) (.cons (.ext 1 lcQ) .nil)) [.fr (.py (tW W)), .ow (.py (.list [])), .no, .no, .no] = some (.nx, [.fr (.py (tW W)), .ow (.py (.list ((Nm.rds W (W.length + 1)).map fun l => .tuple (l.map Nm.jN)))), .fr (.py (tW W.reverse)), .no, .no]) := by
    rw [ex_fr, I, Option.bind_some]
    exact T
  rw [show F__law_normal.body = .cons (.asg 1 (.lst .nil)) (.cons (.fr [2] true (.v (.lst (.cons (.var 0) (.cons (.rev (.pk 0)) .nil)))) (.cons (.ext 1 lcQ) .nil)) (.cons (.ret (.bi .min (.cons (.pk 1) .nil))) .nil)) from rfl, exs_cons, S1, Option.bind_some]
  simp only
  rw [exs_cons, S2, Option.bind_some]
  simp only [exs_cons, ex_ret, ev_bi, evs_cons, evs_nil, ev_pk, List.getElem?_cons_zero, List.getElem?_cons_succ, Option.bind_some, Option.map_some, rds_cons, rds_nil, rd_pk, con_ow, mn, ret_va]
  rfl
/-! ### what a word is asked -/
theorem r_is_word (h : Wd W) : run tab fu (n + 5) (Str.ofString "is_word") [.py (tW W)] = some (.py (.bool true), false, .py .none) := by
  rw [run_of lk_is_word rfl]
  simp [F_is_word, enter, call_pl (ct_io lk_is_word_of), r_is_word_of h]
theorem r_letters (h : Wd W) : run tab fu (n + 6) (Str.ofString "letters") [.py (tW W)] = some (.py (.int ((W.length : Int) / 2)), false, .py .none) := by
  rw [run_of lk_letters rfl]
  simp [F_letters, enter, call_pl (ct_io lk_want_word), call_pl (ct_io lk_many_of), r_want_word h, r_many_of]
theorem r_places (h : Wd W) (P : Pl W i a b) (hi : i < W.length / 2) : run tab fu (n + 6) (Str.ofString "places") [.py (tW W), .py (.int (i : Int))] = some (.py (.tuple [iN a, iN b]), false, .py .none) := by
  rw [run_of lk_places rfl]
  simp [F_places, enter, call_pl (ct_io lk_want_word), call_pl (ct_io lk_places_of), call_pl (ct_io lk_want_letter), r_want_word h, r_want_letter hi, r_places_of h P]
theorem r_between (h : Wd W) (P : Pl W i a b) (hi : i < W.length / 2) : run tab fu (n + 6) (Str.ofString "between") [.py (tW W), .py (.int (i : Int))] = some (.py (tW (btw W a b)), false, .py .none) := by
  rw [run_of lk_between rfl]
  simp [F_between, enter, call_pl (ct_io lk_want_word), call_pl (ct_io lk_between_of), call_pl (ct_io lk_want_letter), r_want_word h, r_want_letter hi, r_between_of (fu := fu) (n := n + 3) h P]
theorem r_around (h : Wd W) (P : Pl W i a b) (hi : i < W.length / 2) : run tab fu (n + 6) (Str.ofString "around") [.py (tW W), .py (.int (i : Int))] = some (.py (tW (arr W a b)), false, .py .none) := by
  rw [run_of lk_around rfl]
  simp [F_around, enter, call_pl (ct_io lk_want_word), call_pl (ct_io lk_around_of), call_pl (ct_io lk_want_letter), r_want_word h, r_want_letter hi, r_around_of (fu := fu) (n := n + 3) h P]
theorem r_turned (h : Wd W) (hp : p < W.length) : run tab fu (n + 6) (Str.ofString "turned") [.py (tW W), .py (.int (p : Int))] = some (.py (tW (Nm.trn W p)), false, .py .none) := by
  rw [run_of lk_turned rfl]
  simp [F_turned, enter, call_pl (ct_io lk_want_word), call_pl (ct_io lk_turned_of), call_pl (ct_io lk_want_position), r_want_word h, r_want_position hp, r_turned_of (fu := fu) (n := n + 4) h.few (show p ≤ W.length by omega)]
theorem r_letter_at (h : Wd W) (hp : p < W.length) : run tab fu (n + 6) (Str.ofString "letter_at") [.py (tW W), .py (.int (p : Int))] = some (.py (iN W[p]), false, .py .none) := by
  have it := (item_nat (xs := W.map iN) (k := p) (p := iN W[p]) (by rw [List.getElem?_map, List.getElem?_eq_getElem hp] <;> rfl)).1
  rw [run_of lk_letter_at rfl]
  simp [F_letter_at, enter, call_pl (ct_io lk_want_word), call_pl (ct_io lk_want_position), r_want_word h, r_want_position hp, it]
theorem r_backward (h : Wd W) : run tab fu (n + 6) (Str.ofString "backward") [.py (tW W)] = some (.py (tW W.reverse), false, .py .none) := by
  rw [run_of lk_backward rfl]
  simp [F_backward, enter, call_pl (ct_io lk_want_word), r_want_word h, rev_tup]
theorem r_without (h : Wd W) (hp : lot.Pairwise (· < ·)) (hl : lot.length ≤ 1000) (hv : ∀ v ∈ lot, v < W.length / 2) : run tab fu (n + 7) (Str.ofString "without") [.py (tW W), .py (tW lot)] = some (.py (tW (Nm.nm (W.filter fun x => !decide (x ∈ lot)))), false, .py .none) := by
  have c1 := r_without_letters (fu := fu) (n := n + 4) (W := W) (lot := lot) h.few
  have c2 := r_want_letters (fu := fu) (n := n) (W := W) (lot := lot) hp hl hv
  rw [run_of lk_without rfl]
  simp [F_without, enter, call_pl (ct_io lk_want_word), call_pl (ct_io lk_want_letters), call_pl (ct_io lk_without_letters), r_want_word h, c1, c2]
theorem r_only (h : Wd W) (hp : lot.Pairwise (· < ·)) (hl : lot.length ≤ 1000) (hv : ∀ v ∈ lot, v < W.length / 2) : run tab fu (n + 7) (Str.ofString "only") [.py (tW W), .py (tW lot)] = some (.py (tW (Nm.nm (W.filter fun x => decide (x ∈ lot)))), false, .py .none) := by
  have c1 := r_only_letters (fu := fu) (n := n + 4) (W := W) (lot := lot) h.few
  have c2 := r_want_letters (fu := fu) (n := n) (W := W) (lot := lot) hp hl hv
  rw [run_of lk_only rfl]
  simp [F_only, enter, call_pl (ct_io lk_want_word), call_pl (ct_io lk_want_letters), call_pl (ct_io lk_only_letters), r_want_word h, c1, c2]
end
end K10
end
section
namespace K10
open PySem Mi
abbrev pot (x y : Int) : D := .py (.list [.int x, .int y])
theorem ev_draw1 {C : Ct} {x y m : Int} (hx : 0 < x) (hm : 0 < m) (hm2 : m < 1000) : exs C F__law_draw.body [.bo (pot x y), .fr (.py (.int m)), .no] = some (.rt (.py (.int (x % m))) false, [.bo (pot (x / m) y), .fr (.py (.int m)), .fr (.py (.int (x % m)))]) := by
  have i0 : item (pot x y) (.py (.int 0)) = some (.py (.int x)) := rfl
  have dm : biD .divmod [.py (.int x), .py (.int m)] = some (.va (.py (.tuple [.int (x / m), .int (x % m)]))) := if_pos ⟨hm, by omega⟩
  have ix : L2.ixN 2 0 = some 0 := rfl
  simp [F__law_draw, i0, hx, dm, lstAt, ix]
theorem ev_draw2 {C : Ct} {x y m : Int} (hx : ¬ 0 < x) (hm : 0 < m) : ∃ y' r : Int, 0 ≤ r ∧ r < m ∧ exs C F__law_draw.body [.bo (pot x y), .fr (.py (.int m)), .no] = some (.rt (.py (.int r)) false, [.bo (pot x y'), .fr (.py (.int m)), .no]) := by
  have i0 : item (pot x y) (.py (.int 0)) = some (.py (.int x)) := rfl
  have i1 : item (pot x y) (.py (.int 1)) = some (.py (.int y)) := rfl
  have ix : L2.ixN 2 1 = some 1 := rfl
  generalize hy : (y * 40692 + 17659) % 2147483399 = z
  have i2 : item (pot x z) (.py (.int 1)) = some (.py (.int z)) := rfl
  have lo : 0 ≤ z := by rw [← hy]; exact Int.emod_nonneg _ (by decide)
  have hi : z < 2147483399 := by rw [← hy]; exact Int.emod_lt_of_pos _ (by decide)
  have k1 : okMul y 40692 = true := by unfold okMul; simp
  have k2 : okMul z z = true := by unfold okMul; simp; omega
  refine ⟨z, ((z * z) % 2147483323 / 19) % m, Int.emod_nonneg _ (by omega), Int.emod_lt_of_pos _ hm, ?_⟩
  have m1 : op2 .mul (.py (.int y)) (.py (.int 40692)) = some (ofI (y * 40692)) := op_mul k1
  have m2 : op2 .mul (.py (.int z)) (.py (.int z)) = some (ofI (z * z)) := op_mul k2
  have d1 : op2 .mod (.py (.int (y * 40692 + 17659))) (.py (.int 2147483399)) = some (ofI z) := by rw [op_mod (by decide), hy]
  have d2 : op2 .mod (.py (.int (z * z))) (.py (.int 2147483323)) = some (ofI (z * z % 2147483323)) := op_mod (by decide)
  have d3 : op2 .fdiv (.py (.int (z * z % 2147483323))) (.py (.int 19)) = some (ofI (z * z % 2147483323 / 19)) := op_fdiv (by decide) (by decide)
  have d4 : op2 .mod (.py (.int (z * z % 2147483323 / 19))) (.py (.int m)) = some (ofI (z * z % 2147483323 / 19 % m)) := op_mod hm
  simp [F__law_draw, i0, i1, hx, objAt, putO, ix, m1, d1]
  simp [i2, m2, d2, d3, d4]
section
variable {fu n : Nat} {x y : Int}
theorem r_draw {m : Nat} (x y : Int) (hm : 0 < m) (hm2 : m < 1000) : ∃ (r : Nat) (x' y' : Int), r < m ∧ run tab fu (n + 1) (Str.ofString "_law_draw") [pot x y, .py (.int (m : Int))] = some (.py (.int (r : Int)), false, pot x' y') := by
  rw [run_of lk__law_draw rfl]
  by_cases hx : 0 < x
  · refine ⟨(x % (m : Int)).toNat, x / m, y, ?_, ?_⟩
    · have := Int.emod_nonneg x (show (m : Int) ≠ 0 by omega)
      have := Int.emod_lt_of_pos x (show 0 < (m : Int) by omega)
      omega
    · have z := ev_draw1 (C := tab.ct fu (run tab fu n)) (x := x) (y := y) (m := (m : Int)) hx (by omega) (by omega)
      have e : (((x % (m : Int)).toNat : Nat) : Int) = x % (m : Int) := Int.toNat_of_nonneg (Int.emod_nonneg x (show (m : Int) ≠ 0 by omega))
      show ((exs (tab.ct fu (run tab fu n)) F__law_draw.body [.bo (pot x y), .fr (.py (.int (m : Int))), .no]).bind _) = _
      rw [z, e]
      rfl
  · obtain ⟨y', r, h0, h1, z⟩ := ev_draw2 (C := tab.ct fu (run tab fu n)) (x := x) (y := y) (m := (m : Int)) hx (by omega)
    refine ⟨r.toNat, x, y', by omega, ?_⟩
    show ((exs (tab.ct fu (run tab fu n)) F__law_draw.body [.bo (pot x y), .fr (.py (.int (m : Int))), .no]).bind _) = _
    rw [z, Int.toNat_of_nonneg h0]
    rfl

theorem call_bo {C : Ct} {f : Str} {perm : List Nat} {os r : List Od} {st : En} {i : Nat} {d : D} {ds : List D} {q : D × Bool × D} (h : C.io f = true) (e : (perm.map fun j => os.getD j (.pk 0)) = .pk i :: r) (hs : st[i]? = some (.bo d)) (hv : vals r = some ds) (hc : C.call f (d :: ds) = some q) :
    callE C f perm os st = some (if q.2.1 then .fe q.1 else .va q.1, st.set i (.bo q.2.2)) := by
  unfold callE
  rw [h]
  simp only [if_true, e, hs, hv, hc, Option.bind_some, Option.map_some]
theorem call_ow {C : Ct} {f : Str} {perm : List Nat} {os r : List Od} {st : En} {i : Nat} {d : D} {ds : List D} {q : D × Bool × D} (h : C.io f = true) (e : (perm.map fun j => os.getD j (.pk 0)) = .pk i :: r) (hs : st[i]? = some (.ow d)) (hv : vals r = some ds) (hc : C.call f (d :: ds) = some q) :
    callE C f perm os st = some (if q.2.1 then .fe q.1 else .va q.1, st.set i (.ow q.2.2)) := by
  unfold callE
  rw [h]
  simp only [if_true, e, hs, hv, hc, Option.bind_some, Option.map_some]
/-- a draw in an expression -/
theorem ev_drw {st : En} {i m : Nat} {e : Ex} {o : Od} (x y : Int) (hi : st[i]? = some (.bo (pot x y))) (he : evE (tab.ct fu (run tab fu (n + 1))) e st = some (o, st)) (ho : o.val = some (.py (.int (m : Int)))) (hm : 0 < m) (hm2 : m < 1000) :
    ∃ (r : Nat) (x' y' : Int), r < m ∧ evE (tab.ct fu (run tab fu (n + 1))) (.cal (Str.ofString "_law_draw") [0, 1] (.cons (.pk i) (.cons e .nil))) st = some (.va (.py (.int (r : Int))), st.set i (.bo (pot x' y'))) := by
  obtain ⟨r, x', y', hr, hc⟩ := r_draw (fu := fu) (n := n) x y hm hm2
  refine ⟨r, x', y', hr, ?_⟩
  have pk : evE (tab.ct fu (run tab fu (n + 1))) (.pk i) st = some (.pk i, st) := by rw [ev_pk, hi]
  rw [ev_cal, evs_cons, pk, Option.bind_some, evs_cons]
  simp only [he, Option.bind_some, evs_nil, Option.map_some]
  rw [call_bo (C := tab.ct fu (run tab fu (n + 1))) (q := (.py (.int (r : Int)), false, pot x' y')) (r := [o]) (ds := [.py (.int (m : Int))]) (ct_io lk__law_draw) rfl hi (by simp [ho]) (by rw [ct_call]; exact hc)]
  rfl
theorem cnt_range (j : Nat) : ∀ m : Nat, List.count j (List.range m) = if j < m then 1 else 0
  | 0 => rfl
  | m + 1 => by
    rw [List.range_succ, List.count_append, cnt_range j m, List.count_singleton]
    by_cases h : j = m
    · subst h; simp
    · by_cases h2 : j < m
      · have : ¬ m = j := fun e => h e.symm
        simp [h2, this]; omega
      · have : ¬ m = j := fun e => h e.symm
        simp [h2, this]; omega
/-- a list of numbers that holds each below m twice -/
abbrev Two (m : Nat) (W : List Nat) : Prop := W.Perm (List.range m ++ List.range m)
theorem Two.len {m : Nat} (h : Two m W) : W.length = 2 * m := by rw [h.length_eq]; simp; omega
theorem Two.wd {m : Nat} (h : Two m W) (hm : m ≤ 10) : Wd W := by
  have l := h.len
  refine ⟨by omega, by omega, fun z hz => ?_, fun j hj => ?_⟩
  · have := h.mem_iff.mp hz
    simp at this
    omega
  · rw [h.count_eq, List.count_append]
    have := cnt_range j m
    rw [if_pos (by omega)] at this
    omega
theorem ev_pot2 {C : Ct} {d : D} {k c : Int} : ∃ x y : Int, evE C (.lst (.cons (.bi .max (.cons (.lit (.int (0))) (.cons (.op .sub (.pk 2) (.op .pow (.lit (.int (10))) (.lit (.int (18))))) .nil))) (.cons (.op .add (.op .mod (.bi .int (.cons (.op .add (.op .add (.op .mul (.op .mod (.bi .int (.cons (.pk 2) .nil)) (.lit (.int (2147483549)))) (.lit (.int (17449)))) (.op .mul (.lit (.int (17659))) (.pk 1))) (.lit (.int (907)))) .nil)) (.lit (.int (2147483563)))) (.lit (.int (1)))) .nil))) [.fr d, .fr (.py (.int k)), .fr (.py (.int c))] =
    some (.fe (pot x y), [.fr d, .fr (.py (.int k)), .fr (.py (.int c))]) := by
  have pw : op2 .pow (.py (.int 10)) (.py (.int 18)) = some (ofI (10 ^ 18)) := rfl
  have mx : ∀ j : Int, biD .max [.py (.int 0), .py (.int j)] = some (ofI (if j > 0 then j else 0)) := fun _ => rfl
  have m1 : op2 .mod (.py (.int c)) (.py (.int 2147483549)) = some (ofI (c % 2147483549)) := op_mod (by decide)
  have m2 : ∀ j : Int, op2 .mul (.py (.int j)) (.py (.int 17449)) = some (ofI (j * 17449)) := fun j => op_mul (by unfold okMul; simp)
  have m3 : op2 .mul (.py (.int 17659)) (.py (.int k)) = some (ofI (17659 * k)) := op_mul (by unfold okMul; simp)
  have m4 : ∀ j : Int, op2 .mod (.py (.int j)) (.py (.int 2147483563)) = some (ofI (j % 2147483563)) := fun j => op_mod (by decide)
  generalize hz : (10 : Int) ^ 18 = z at pw
  refine ⟨if c - z > 0 then c - z else 0, (c % 2147483549 * 17449 + 17659 * k + 907) % 2147483563 + 1, ?_⟩
  simp only [ev_lst, evs_cons, evs_nil, ev_bi, ev_lit, ev_op, ev_pk, List.getElem?_cons_zero, List.getElem?_cons_succ, Option.bind_some, Option.map_some, rd_va, rd_pk, con_fr, pw, rd_ofI, op_sub, rds_cons, rds_nil, mx, int_int, m1, m2, m3, op_add, m4, vals_cons, vals_nil, val_ofI, pyds_cons, pyds_nil, pyd_py, List.length_cons, List.length_nil]
  simp
theorem ev_pot1 {C : Ct} {ns : List Int} {k : Nat} : ∃ c : Int, evE C (.ite (.v (.cm .lt (.pk 1) (.bi .len (.cons (.pk 0) .nil)))) (.bi .abs (.cons (.ix (.pk 0) (.pk 1)) .nil)) (.op .add (.op .mul (.lit (.int (19219))) (.pk 1)) (.lit (.int (20549))))) [.fr (.scr ns), .fr (.py (.int (k : Int))), .no] = some (ofI c, [.fr (.scr ns), .fr (.py (.int (k : Int))), .no]) := by
  have T : evT C (.v (.cm .lt (.pk 1) (.bi .len (.cons (.pk 0) .nil)))) [.fr (.scr ns), .fr (.py (.int (k : Int))), .no] = some (decide ((k : Int) < (ns.length : Int)), [.fr (.scr ns), .fr (.py (.int (k : Int))), .no]) := by
    simp
  by_cases h : k < ns.length
  · have d : decide ((k : Int) < (ns.length : Int)) = true := decide_eq_true (by omega)
    have it : item (.scr ns) (.py (.int (k : Int))) = some (.py (.int ns[k])) := by
      have e : L2.ixN ns.length (k : Int) = some k := by
        unfold L2.ixN
        simp
        omega
      show (L2.ixN ns.length (k : Int)).bind (fun k => (ns[k]?).map fun n => D.py (.int n)) = _
      rw [e, Option.bind_some, List.getElem?_eq_getElem h]
      rfl
    have ab : ∀ j : Int, biD .abs [.py (.int j)] = some (ofI (if j < 0 then -j else j)) := fun _ => rfl
    refine ⟨if ns[k] < 0 then -ns[k] else ns[k], ?_⟩
    rw [ev_ite, T, Option.bind_some]
    simp only [d, if_true, ev_bi, evs_cons, evs_nil, ev_ix, ev_pk, List.getElem?_cons_zero, List.getElem?_cons_succ, Option.bind_some, Option.map_some, rd_pk, con_fr, it, rds_cons, rds_nil, rd_va, ab]
  · have d : decide ((k : Int) < (ns.length : Int)) = false := decide_eq_false (by omega)
    have m3 : op2 .mul (.py (.int 19219)) (.py (.int (k : Int))) = some (ofI (19219 * (k : Int))) := op_mul (by unfold okMul; simp)
    refine ⟨19219 * (k : Int) + 20549, ?_⟩
    rw [ev_ite, T, Option.bind_some]
    simp only [d, Bool.false_eq_true, if_false, ev_op, ev_lit, ev_pk, List.getElem?_cons_zero, List.getElem?_cons_succ, Option.bind_some, Option.map_some, rd_pk, con_fr, rd_va, m3, rd_ofI, op_add]
theorem r_pot {ns : List Int} {k : Nat} : ∃ x y : Int, run tab fu (n + 1) (Str.ofString "_law_pot") [.scr ns, .py (.int (k : Int))] = some (pot x y, true, .py .none) := by
  obtain ⟨c, e1⟩ := ev_pot1 (C := tab.ct fu (run tab fu n)) (ns := ns) (k := k)
  obtain ⟨x, y, e2⟩ := ev_pot2 (C := tab.ct fu (run tab fu n)) (d := .scr ns) (k := (k : Int)) (c := c)
  refine ⟨x, y, ?_⟩
  rw [run_of lk__law_pot rfl]
  show ((exs (tab.ct fu (run tab fu n)) F__law_pot.body [.fr (.scr ns), .fr (.py (.int (k : Int))), .no]).bind _) = _
  rw [F__law_pot]
  have A : ∀ e, evE (tab.ct fu (run tab fu n)) e [.fr (.scr ns), .fr (.py (.int (k : Int))), .no] = some (ofI c, [.fr (.scr ns), .fr (.py (.int (k : Int))), .no]) → exS (tab.ct fu (run tab fu n)) (.asg 2 e) [.fr (.scr ns), .fr (.py (.int (k : Int))), .no] = some (.nx, [.fr (.scr ns), .fr (.py (.int (k : Int))), .fr (.py (.int c))]) := fun e he => by
    rw [ex_asg, he]
    rfl
  have B : ∀ e, evE (tab.ct fu (run tab fu n)) e [.fr (.scr ns), .fr (.py (.int (k : Int))), .fr (.py (.int c))] = some (.fe (pot x y), [.fr (.scr ns), .fr (.py (.int (k : Int))), .fr (.py (.int c))]) → exS (tab.ct fu (run tab fu n)) (.ret e) [.fr (.scr ns), .fr (.py (.int (k : Int))), .fr (.py (.int c))] = some (.rt (pot x y) true, [.fr (.scr ns), .fr (.py (.int (k : Int))), .fr (.py (.int c))]) := fun e he => by
    rw [ex_ret, he]
    rfl
  rw [exs_cons, A _ e1, Option.bind_some]
  simp only [exs_cons, B _ e2, Option.bind_some]
  rfl
end
end K10
end
section
namespace K10
open PySem Mi
theorem map_erase {α β : Type} {g : α → β} : ∀ (l : List α) (r : Nat), (l.map g).eraseIdx r = (l.eraseIdx r).map g
  | [], _ => rfl
  | _ :: _, 0 => rfl
  | x :: l, r + 1 => by
    show g x :: (l.map g).eraseIdx r = g x :: (l.eraseIdx r).map g
    rw [map_erase l r]
theorem perm_erase {α : Type} : ∀ (l : List α) (r : Nat) (h : r < l.length), (l[r] :: l.eraseIdx r).Perm l
  | [], _, h => by cases h
  | _ :: _, 0, _ => .refl _
  | x :: l, r + 1, h => by
    have h' : r < l.length := by simpa using h
    exact (List.Perm.swap x l[r] (l.eraseIdx r)).trans (List.Perm.cons x (perm_erase l r h'))
section
variable {fu n : Nat} {st : En} {l : Nat} {M : List Nat}
theorem ev_popd (x y : Int) (g0 : st[0]? = some (.bo (pot x y))) (gl : st[l]? = some (.ow (.py (.list (M.map iN))))) (hl0 : l ≠ 0) (hm : 0 < M.length) (hm2 : M.length < 1000) :
    ∃ (r : Nat) (x' y' : Int) (hr : r < M.length), evE (tab.ct fu (run tab fu (n + 1))) (.pop l (.cal (Str.ofString "_law_draw") [0, 1] (.cons (.pk 0) (.cons (.bi .len (.cons (.pk l) .nil)) .nil)))) st =
      some (.va (.py (iN M[r])), (st.set 0 (.bo (pot x' y'))).set l (.ow (.py (.list ((M.eraseIdx r).map iN))))) := by
  obtain ⟨r, x2, y2, hr, e⟩ := ev_drw (fu := fu) (n := n) (st := st) (i := 0) (m := M.length) (e := .bi .len (.cons (.pk l) .nil)) (o := ofI (M.length : Int)) x y g0 (by simp [gl]) rfl hm hm2
  refine ⟨r, x2, y2, hr, ?_⟩
  have gl2 : (st.set 0 (.bo (pot x2 y2)))[l]? = some (.ow (.py (.list (M.map iN)))) := by rw [List.getElem?_set_ne (Ne.symm hl0)]; exact gl
  have sl1 : lstAt st l = some (M.map iN, .ow) := by unfold lstAt; rw [gl]
  have sl2 : lstAt (st.set 0 (.bo (pot x2 y2))) l = some (M.map iN, .ow) := by unfold lstAt; rw [gl2]
  have hM' : M[r]? = some M[r] := List.getElem?_eq_getElem hr
  have ix : L2.ixN (M.map iN).length (r : Int) = some r := by
    unfold L2.ixN
    simp
    omega
  have okr : okR (r : Int) = true := by unfold okR; simp; omega
  have er : (M.map iN).eraseIdx r = (M.eraseIdx r).map iN := map_erase M r
  rw [ev_pop, sl1, Option.bind_some, e, Option.bind_some]
  simp only [rd_va, Option.bind_some, sl2, okr, if_true, ix, List.getElem?_map, hM', Option.map_some, er]
end
abbrev wS (x y : Int) (mo : PyData) (r : Int) (L F : List Nat) (u v : Sl) : En := [.bo (pot x y), .fr (.py mo), .fr (.py (.int r)), .ow (.py (.list (L.map iN))), .ow (.py (.list (F.map iN))), u, v]
abbrev wBody : Ss := (.cons (.asg 6 (.pop 3 (.cal (Str.ofString "_law_draw") [0, 1] (.cons (.pk 0) (.cons (.bi .len (.cons (.pk 3) .nil)) .nil))))) (.cons (.app 4 (.var 6)) .nil))
section
variable {fu n : Nat}
theorem w_turn {mo : PyData} {r : Int} {L F : List Nat} {u v : Sl} (x y : Int) (hL : 0 < L.length) (hL2 : L.length + F.length ≤ 100) : ∃ (x' y' : Int) (L' F' : List Nat) (v' : Sl), (F' ++ L').Perm (F ++ L) ∧ L'.length + 1 = L.length ∧
    exs (tab.ct fu (run tab fu (n + 1))) wBody (wS x y mo r L F u v) = some (.nx, wS x' y' mo r L' F' u v') := by
  obtain ⟨k, x', y', hk, e⟩ := ev_popd (fu := fu) (n := n) (st := wS x y mo r L F u v) (l := 3) (M := L) x y rfl rfl (by omega) hL (by omega)
  refine ⟨x', y', L.eraseIdx k, F ++ [L[k]], .fr (.py (iN L[k])), ?_, ?_, ?_⟩
  · rw [List.append_assoc]
    exact List.Perm.append_left F (perm_erase L k hk)
  · rw [List.length_eraseIdx]
    simp [hk]
    omega
  · have S1 : exS (tab.ct fu (run tab fu (n + 1))) (.asg 6 (.pop 3 (.cal (Str.ofString "_law_draw") [0, 1] (.cons (.pk 0) (.cons (.bi .len (.cons (.pk 3) .nil)) .nil))))) (wS x y mo r L F u v) = some (.nx, wS x' y' mo r (L.eraseIdx k) F u (.fr (.py (iN L[k])))) := by
      rw [ex_asg, e]
      rfl
    have lt : (F.map iN).length < lim := lim_lt (by rw [List.length_map]; omega)
    have S2 : exS (tab.ct fu (run tab fu (n + 1))) (.app 4 (.var 6)) (wS x' y' mo r (L.eraseIdx k) F u (.fr (.py (iN L[k])))) = some (.nx, wS x' y' mo r (L.eraseIdx k) (F ++ [L[k]]) u (.fr (.py (iN L[k])))) := by
      generalize (L.eraseIdx k).map iN = A
      have e2 : (F ++ [L[k]]).map iN = F.map iN ++ [iN L[k]] := by rw [List.map_append]; rfl
      show exS _ _ [.bo (pot x' y'), .fr (.py mo), .fr (.py (.int r)), .ow (.py (.list ((L.eraseIdx k).map iN))), .ow (.py (.list (F.map iN))), u, .fr (.py (iN L[k]))] = some (.nx, [.bo (pot x' y'), .fr (.py mo), .fr (.py (.int r)), .ow (.py (.list ((L.eraseIdx k).map iN))), .ow (.py (.list ((F ++ [L[k]]).map iN))), u, .fr (.py (iN L[k]))])
      rw [e2]
      generalize F.map iN = B at lt ⊢
      generalize iN L[k] = p
      generalize (L.eraseIdx k).map iN = A
      simp [lstAt, lt]
    rw [exs_cons, S1, Option.bind_some]
    simp only
    rw [exs_cons, S2]
    rfl
theorem r_word {most : Nat} (x y : Int) (hm : most ≤ 10) : ∃ (W : List Nat) (m : Nat) (x' y' : Int), m ≤ most ∧ Two m W ∧ run tab fu (n + 2) (Str.ofString "_law_word") [pot x y, .py (.int (most : Int))] = some (.py (tW W), false, pot x' y') := by
  obtain ⟨r, x1, y1, hr, e1⟩ := ev_drw (fu := fu) (n := n) (st := [.bo (pot x y), .fr (.py (.int (most : Int))), .no, .no, .no, .no, .no]) (i := 0) (m := most + 1) (e := .op .add (.pk 1) (.lit (.int (1)))) (o := ofI ((most : Int) + 1)) x y rfl (by simp) (by simp) (by omega) (by omega)
  have rg := rng_nat (k := r) (by omega)
  have rg2 := rng_nat (k := 2 * r) (by omega)
  have lr : biD .lrange [.py (.int (r : Int))] = some (.fe (.py (.list ((List.range r).map iN)))) := by
    show (rngD [.py (.int (r : Int))]).map _ = _
    rw [rg]
    rfl
  have mul : op2 .mul (.py (.list ((List.range r).map iN))) (.py (.int 2)) = some (.fe (.py (.list ((List.range r ++ List.range r).map iN)))) := by
    show (if (0 : Int) ≤ 2 ∧ (2 : Int) ≤ 1000 ∧ ((List.range r).map iN).length ≤ 1000 then _ else none) = _
    rw [if_pos ⟨by decide, by decide, by simp; omega⟩]
    have : (List.replicate (2 : Int).toNat ((List.range r).map iN)).flatten = (List.range r ++ List.range r).map iN := by
      rw [List.map_append]
      simp [List.replicate]
    rw [this]
  have mul2 : op2 .mul (.py (.int 2)) (.py (.int (r : Int))) = some (ofI ((2 * r : Nat) : Int)) := by
    rw [op_mul (by unfold okMul; simp)]
    congr 2
  have I : evI (tab.ct fu (run tab fu (n + 1))) (.rng (.cons (.op .mul (.lit (.int (2))) (.pk 2)) .nil)) (wS x1 y1 (.int (most : Int)) (r : Int) (List.range r ++ List.range r) [] .no .no) = some ((List.range (2 * r)).map iN, wS x1 y1 (.int (most : Int)) (r : Int) (List.range r ++ List.range r) [] .no .no) := by
    rw [evI_rng]
    simp only [evs_cons, evs_nil, ev_op, ev_lit, ev_pk, wS, List.getElem?_cons_zero, List.getElem?_cons_succ, Option.bind_some, rd_va, rd_pk, con_fr, mul2, Option.map_some, rds_cons, rds_nil, rd_ofI, rg2]
  have len : (List.range r ++ List.range r).length = 2 * r := by simp; omega
  obtain ⟨s', e2, x2, y2, L, F, u, v, rfl, hp, hl⟩ := frL_J (f := fun q s => (bindT [5] true q s).bind (exs (tab.ct fu (run tab fu (n + 1))) wBody)) (fun k s => ∃ (x' y' : Int) (L F : List Nat) (u v : Sl), s = wS x' y' (.int (most : Int)) (r : Int) L F u v ∧ (F ++ L).Perm (List.range r ++ List.range r) ∧ L.length + k = 2 * r) ((List.range (2 * r)).map iN) 0 (wS x1 y1 (.int (most : Int)) (r : Int) (List.range r ++ List.range r) [] .no .no) ⟨x1, y1, _, [], .no, .no, rfl, .refl _, by rw [len]; omega⟩ (by
    rintro j q s hq ⟨x', y', L, F, u, v, rfl, hp, hl⟩
    have hj : j < 2 * r := by have := (List.getElem?_eq_some_iff.mp hq).1; simpa using this
    have hlen := hp.length_eq
    rw [List.length_append, len] at hlen
    obtain ⟨x3, y3, L', F', v', hp', hl', e3⟩ := w_turn (fu := fu) (n := n) (mo := .int (most : Int)) (r := (r : Int)) (L := L) (F := F) (u := .fr (.py q)) (v := v) x' y' (by omega) (by omega)
    refine ⟨_, .nx, ?_, .inl rfl, x3, y3, L', F', .fr (.py q), v', rfl, hp'.trans hp, by omega⟩
    rw [bind_one, Option.bind_some]
    exact e3)
  have hL : L = [] := by
    rw [Nat.zero_add, List.length_map, List.length_range] at hl
    exact List.length_eq_zero_iff.mp (by omega)
  subst hL
  rw [List.append_nil] at hp
  refine ⟨F, r, x2, y2, by omega, hp, ?_⟩
  rw [run_of lk__law_word rfl]
  show ((exs (tab.ct fu (run tab fu (n + 1))) F__law_word.body [.bo (pot x y), .fr (.py (.int (most : Int))), .no, .no, .no, .no, .no]).bind _) = _
  have S1 : exS (tab.ct fu (run tab fu (n + 1))) (.asg 2 (.cal (Str.ofString "_law_draw") [0, 1] (.cons (.pk 0) (.cons (.op .add (.pk 1) (.lit (.int (1)))) .nil)))) [.bo (pot x y), .fr (.py (.int (most : Int))), .no, .no, .no, .no, .no] = some (.nx, [.bo (pot x1 y1), .fr (.py (.int (most : Int))), .fr (.py (.int (r : Int))), .no, .no, .no, .no]) := by
    rw [ex_asg, e1]
    rfl
  have S2 : exS (tab.ct fu (run tab fu (n + 1))) (.par [3, 4] (.cons (.op .mul (.bi .lrange (.cons (.pk 2) .nil)) (.lit (.int (2)))) (.cons (.lst .nil) .nil))) [.bo (pot x1 y1), .fr (.py (.int (most : Int))), .fr (.py (.int (r : Int))), .no, .no, .no, .no] = some (.nx, wS x1 y1 (.int (most : Int)) (r : Int) (List.range r ++ List.range r) [] .no .no) := by
    simp [lr, mul, -List.map_append]
  have S3 : exS (tab.ct fu (run tab fu (n + 1))) (.fr [5] true (.rng (.cons (.op .mul (.lit (.int (2))) (.pk 2)) .nil)) wBody) (wS x1 y1 (.int (most : Int)) (r : Int) (List.range r ++ List.range r) [] .no .no) = some (.nx, wS x2 y2 (.int (most : Int)) (r : Int) [] F u v) := by
    rw [ex_fr, I, Option.bind_some]
    exact e2
  rw [show F__law_word.body = .cons (.asg 2 (.cal (Str.ofString "_law_draw") [0, 1] (.cons (.pk 0) (.cons (.op .add (.pk 1) (.lit (.int (1)))) .nil)))) (.cons (.par [3, 4] (.cons (.op .mul (.bi .lrange (.cons (.pk 2) .nil)) (.lit (.int (2)))) (.cons (.lst .nil) .nil))) (.cons (.fr [5] true (.rng (.cons (.op .mul (.lit (.int (2))) (.pk 2)) .nil)) wBody) (.cons (.ret (.bi .tuple (.cons (.pk 4) .nil))) .nil))) from rfl, exs_cons, S1, Option.bind_some]
  simp only
  rw [exs_cons, S2, Option.bind_some]
  simp only
  rw [exs_cons, S3, Option.bind_some]
  simp
  rfl
end
end K10
end
section
namespace K10
open PySem Mi
section
variable {fu n : Nat} {x y : Int} {C : Ct} {st : En} {W : List Nat}
/-- the places of a letter, by the law's own look -/
theorem enu_pos : ∀ (W : List Nat) (k i : Nat), ((enuL k (W.map iN)).filter fun p => match p with
    | .tuple [.int _, .int z] => decide (z = (i : Int))
    | _ => false).map (fun p => match p with
    | .tuple [a, _] => a
    | p => p) = (posR k W i).map iN
  | [], _, _ => rfl
  | w :: W, k, i => by
    have ih := enu_pos W (k + 1) i
    rw [List.map_cons, enuL, posR]
    by_cases h : w = i
    · subst h
      rw [List.filter_cons_of_pos (by simp), List.map_cons, ih, if_pos rfl, List.map_cons]
    · rw [List.filter_cons_of_neg (by simp; omega), ih, if_neg h]
theorem r_lplaces {i a b : Nat} (h : Wd W) (P : Pl W i a b) : run tab fu (n + 1) (Str.ofString "_law_places") [.py (tW W), .py (.int (i : Int))] = some (.py (.list [iN a, iN b]), true, .py .none) := by
  have few := h.few
  have LC : evE (tab.ct fu (run tab fu n)) (.lc [2, 3, 4] [3, 4] false (.enu (.cons (.var 0) .nil)) (.v (.cm .eq (.pk 4) (.pk 1))) (.var 3)) [.fr (.py (tW W)), .fr (.py (.int (i : Int))), .no, .no, .no] = some (.fe (.py (.list [iN a, iN b])), [.fr (.py (tW W)), .fr (.py (.int (i : Int))), .no, .no, .no]) := by
    have en := enu_pos W 0 i
    rw [P.eq] at en
    rw [lc_if (fun p => match p with
      | .tuple [.int _, .int z] => decide (z = (i : Int))
      | _ => false) (fun p => match p with
      | .tuple [a, _] => a
      | p => p) (xs := enuL 0 (W.map iN)) (st' := [.fr (.py (tW W)), .fr (.py (.int (i : Int))), .no, .no, .no]) (by simp) rfl (lim_ok (by rw [enuL_len]; simp; omega)) fun p hp => ?_, en]
    · rfl
    · obtain ⟨j, hj⟩ := List.mem_iff_getElem?.mp hp
      have lj : j < W.length := by
        have := (List.getElem?_eq_some_iff.mp hj).1
        rw [enuL_len, List.length_map] at this
        exact this
      have g := enuL_get (W.map iN) 0 j (iN W[j]) (by rw [List.getElem?_map, List.getElem?_eq_getElem lj] <;> rfl)
      rw [hj] at g
      obtain rfl := Option.some.inj g
      generalize hs : ([.fr (.py (tW W)), .fr (.py (.int (i : Int))), .no, .fr (.py (.int ((0 + j : Nat) : Int))), .fr (.py (iN W[j]))] : En) = s1
      have w1 : wipe s1 [2, 3, 4] = [.fr (.py (tW W)), .fr (.py (.int (i : Int))), .no, .no, .no] := by rw [← hs]; rfl
      have e2 : evT (tab.ct fu (run tab fu n)) (.v (.cm .eq (.pk 4) (.pk 1))) s1 = some (decide (((W[j] : Nat) : Int) = (i : Int)), s1) := by
        subst hs
        simp
      have e3 : evE (tab.ct fu (run tab fu n)) (.var 3) s1 = some (.va (.py (.int ((0 + j : Nat) : Int))), s1) := by
        subst hs
        rfl
      exact ⟨s1, s1, by rw [← hs]; rfl, e2, fun _ => w1, fun _ => ⟨_, s1, e3, rfl, w1⟩⟩
  rw [run_of lk__law_places rfl]
  simp [F__law_places, enter, LC]
end

theorem exs_step {C : Ct} {s : S} {ss : Ss} {st st' : En} (h : exS C s st = some (.nx, st')) : exs C (.cons s ss) st = exs C ss st' := by
  rw [exs_cons, h]
  rfl
/-- a check by what is shown -/
theorem ex_chk {C : Ct} {st st1 st2 : En} {A B : Ex} {xs : List PyData} {sh : Str} {s : Ss} (hA : evE C A st = some (.fe (.py (.list xs)), st1)) (hB : evE C B st1 = some (.fe (.py (.list xs)), st2)) (rp : biD .repr [.py (.list xs)] = some (.va (.py (.str sh)))) :
    exS C (.ifs (.v (.cm .ne (.bi .repr (.cons A .nil)) (.bi .repr (.cons B .nil)))) s .nil) st = some (.nx, st2) := by
  have q1 : evE C (.bi .repr (.cons A .nil)) st = some (.va (.py (.str sh)), st1) := by
    rw [ev_bi, evs_cons, hA]
    simp [rp]
  have q2 : evE C (.bi .repr (.cons B .nil)) st1 = some (.va (.py (.str sh)), st2) := by
    rw [ev_bi, evs_cons, hB]
    simp [rp]
  rw [ex_ifs, evT_v, ev_cm, q1, Option.bind_some, q2]
  simp [ne_str]
theorem mul_two {X : PyData} : op2 .mul (.py (.list [X])) (.py (.int 2)) = some (.fe (.py (.list [X, X]))) := by
  show (if (0 : Int) ≤ 2 ∧ (2 : Int) ≤ 1000 ∧ ([X] : List PyData).length ≤ 1000 then _ else none) = _
  rw [if_pos ⟨by decide, by decide, by simp⟩]
  rfl
theorem lim_p : 5 < lim := by unfold lim; omega
/-! ### _law_letters_right -/
abbrev lS (P : D) (W : List PyData) (m t i p a b I O R T A : Sl) : En := [.bo P, .fr (.py (.tuple W)), m, t, i, p, a, b, I, O, R, T, A]
section
variable {C : Ct} {P : D} {W J O R : List PyData} {i p a b : Int} {m t s4 s5 s6 s7 s8 s9 s10 s11 s12 : Sl} {w : PyData}
abbrev l2 : Mi.S := (.asgT [6, 7] (.cal (Str.ofString "_law_places") [0, 1] (.cons (.var 1) (.cons (.var 4) .nil))))
abbrev l3 : Mi.S := (.par [8, 9, 10] (.cons (.sl (.pk 1) (.so (.op .add (.pk 6) (.lit (.int (1))))) (.so (.pk 7))) (.cons (.op .add (.sl (.pk 1) (.so (.op .add (.pk 7) (.lit (.int (1))))) .no) (.sl (.pk 1) .no (.so (.pk 6)))) (.cons (.op .add (.sl (.pk 1) (.so (.pk 5)) .no) (.sl (.pk 1) .no (.so (.pk 5)))) .nil))))
abbrev l4 : Mi.S := (.asg 11 (.lst (.cons (.cal (Str.ofString "places") [0, 1] (.cons (.var 1) (.cons (.var 4) .nil))) (.cons (.cal (Str.ofString "between") [0, 1] (.cons (.var 1) (.cons (.var 4) .nil))) (.cons (.cal (Str.ofString "around") [0, 1] (.cons (.var 1) (.cons (.var 4) .nil))) (.cons (.cal (Str.ofString "letter_at") [0, 1] (.cons (.var 1) (.cons (.var 5) .nil))) (.cons (.cal (Str.ofString "turned") [0, 1] (.cons (.var 1) (.cons (.var 5) .nil))) .nil)))))))
abbrev l5 : Mi.S := (.asg 12 (.lst (.cons (.cal (Str.ofString "places") [1, 0] (.cons (.var 4) (.cons (.var 1) .nil))) (.cons (.cal (Str.ofString "between") [1, 0] (.cons (.var 4) (.cons (.var 1) .nil))) (.cons (.cal (Str.ofString "around") [1, 0] (.cons (.var 4) (.cons (.var 1) .nil))) .nil)))))
abbrev l6 : Mi.S := (.ext 12 (.lst (.cons (.cal (Str.ofString "letter_at") [1, 0] (.cons (.var 5) (.cons (.var 1) .nil))) (.cons (.cal (Str.ofString "turned") [1, 0] (.cons (.var 5) (.cons (.var 1) .nil))) .nil))))
abbrev l7 : Mi.S := (.ifs (.v (.cm .ne (.bi .repr (.cons (.lst (.cons (.var 11) (.cons (.var 12) .nil))) .nil)) (.bi .repr (.cons (.op .mul (.lst (.cons (.lst (.cons (.tup (.cons (.var 6) (.cons (.var 7) .nil))) (.cons (.var 8) (.cons (.var 9) (.cons (.ix (.pk 1) (.pk 5)) (.cons (.var 10) .nil)))))) .nil)) (.lit (.int (2)))) .nil)))) (.cons (.ret (.lit (.bool false))) .nil) .nil)
theorem ev_l2 (h0 : C.io (Str.ofString "_law_places") = false) (h1 : C.call (Str.ofString "_law_places") [.py (.tuple W), .py (.int i)] = some (.py (.list [.int a, .int b]), true, .py .none)) :
    exS C l2 (lS P W m t (.fr (.py (.int i))) s5 s6 s7 s8 s9 s10 s11 s12) = some (.nx, lS P W m t (.fr (.py (.int i))) s5 (.fr (.py (.int a))) (.fr (.py (.int b))) s8 s9 s10 s11 s12) := by
  simp [call_pl h0, h1, bindT]
theorem ev_l3 {A1 A2 B1 B2 : List PyData} (c0 : cutP W (some (a + 1)) (some b) = J) (c1 : cutP W (some (b + 1)) none = A1) (c2 : cutP W none (some a) = A2) (c3 : cutP W (some p) none = B1) (c4 : cutP W none (some p) = B2)
    (d1 : op2 .add (.py (.tuple A1)) (.py (.tuple A2)) = some (.va (.py (.tuple O)))) (d2 : op2 .add (.py (.tuple B1)) (.py (.tuple B2)) = some (.va (.py (.tuple R)))) :
    exS C l3 (lS P W m t s4 (.fr (.py (.int p))) (.fr (.py (.int a))) (.fr (.py (.int b))) s8 s9 s10 s11 s12) = some (.nx, lS P W m t s4 (.fr (.py (.int p))) (.fr (.py (.int a))) (.fr (.py (.int b))) (.fr (.py (.tuple J))) (.fr (.py (.tuple O))) (.fr (.py (.tuple R))) s11 s12) := by
  simp [sl_tup, c0, c1, c2, c3, c4, d1, d2]
variable (i1 : C.io (Str.ofString "places") = false) (i2 : C.io (Str.ofString "between") = false) (i3 : C.io (Str.ofString "around") = false) (i4 : C.io (Str.ofString "letter_at") = false) (i5 : C.io (Str.ofString "turned") = false)
  (h1 : C.call (Str.ofString "places") [.py (.tuple W), .py (.int i)] = some (.py (.tuple [.int a, .int b]), false, .py .none)) (h2 : C.call (Str.ofString "between") [.py (.tuple W), .py (.int i)] = some (.py (.tuple J), false, .py .none)) (h3 : C.call (Str.ofString "around") [.py (.tuple W), .py (.int i)] = some (.py (.tuple O), false, .py .none))
  (h4 : C.call (Str.ofString "letter_at") [.py (.tuple W), .py (.int p)] = some (.py w, false, .py .none)) (h5 : C.call (Str.ofString "turned") [.py (.tuple W), .py (.int p)] = some (.py (.tuple R), false, .py .none))
abbrev lX (a b : Int) (J O R : List PyData) (w : PyData) : List PyData := [.tuple [.int a, .int b], .tuple J, .tuple O, w, .tuple R]
include i1 i2 i3 i4 i5 h1 h2 h3 h4 h5 in
theorem ev_l4 : exS C l4 (lS P W m t (.fr (.py (.int i))) (.fr (.py (.int p))) s6 s7 s8 s9 s10 s11 s12) = some (.nx, lS P W m t (.fr (.py (.int i))) (.fr (.py (.int p))) s6 s7 s8 s9 s10 (.ow (.py (.list (lX a b J O R w)))) s12) := by
  simp [call_pl i1, call_pl i2, call_pl i3, call_pl i4, call_pl i5, h1, h2, h3, h4, h5]
include i1 i2 i3 h1 h2 h3 in
theorem ev_l5 : exS C l5 (lS P W m t (.fr (.py (.int i))) (.fr (.py (.int p))) s6 s7 s8 s9 s10 s11 s12) = some (.nx, lS P W m t (.fr (.py (.int i))) (.fr (.py (.int p))) s6 s7 s8 s9 s10 s11 (.ow (.py (.list [.tuple [.int a, .int b], .tuple J, .tuple O])))) := by
  simp [call_pl i1, call_pl i2, call_pl i3, h1, h2, h3]
include i4 i5 h4 h5 in
theorem ev_l6 : exS C l6 (lS P W m t (.fr (.py (.int i))) (.fr (.py (.int p))) s6 s7 s8 s9 s10 s11 (.ow (.py (.list [.tuple [.int a, .int b], .tuple J, .tuple O])))) = some (.nx, lS P W m t (.fr (.py (.int i))) (.fr (.py (.int p))) s6 s7 s8 s9 s10 s11 (.ow (.py (.list (lX a b J O R w))))) := by
  simp [call_pl i4, call_pl i5, h4, h5, lstAt, lim_p]
theorem ev_l7 {sh : Str} (it : item (.py (.tuple W)) (.py (.int p)) = some (.py w)) (rp : biD .repr [.py (.list [.list (lX a b J O R w), .list (lX a b J O R w)])] = some (.va (.py (.str sh)))) :
    ∃ u v, exS C l7 (lS P W m t s4 (.fr (.py (.int p))) (.fr (.py (.int a))) (.fr (.py (.int b))) (.fr (.py (.tuple J))) (.fr (.py (.tuple O))) (.fr (.py (.tuple R))) (.ow (.py (.list (lX a b J O R w)))) (.ow (.py (.list (lX a b J O R w))))) = some (.nx, lS P W m t s4 (.fr (.py (.int p))) (.fr (.py (.int a))) (.fr (.py (.int b))) (.fr (.py (.tuple J))) (.fr (.py (.tuple O))) (.fr (.py (.tuple R))) u v) := by
  refine ⟨.fr (.py (.list (lX a b J O R w))), .fr (.py (.list (lX a b J O R w))), ?_⟩
  refine ex_chk (st1 := lS P W m t s4 (.fr (.py (.int p))) (.fr (.py (.int a))) (.fr (.py (.int b))) (.fr (.py (.tuple J))) (.fr (.py (.tuple O))) (.fr (.py (.tuple R))) (.fr (.py (.list (lX a b J O R w)))) (.fr (.py (.list (lX a b J O R w))))) (xs := [.list (lX a b J O R w), .list (lX a b J O R w)]) ?_ ?_ rp
  · simp
  · simp [it, mul_two]
end
end K10
end
section
namespace K10
open PySem Mi
theorem Wd.lt {W : List Nat} (h : Wd W) {v : Nat} (hv : v ∈ W) : v < 100 := by
  have := h.low v hv
  have := h.few
  omega
theorem sz20 {L : List Nat} (h : ∀ v ∈ L, v < 100) (hl : L.length ≤ 20) : Sz (tW L) 20 1 := (sz_row h).mono hl (Nat.le_refl 1)
theorem mem_btw {W : List Nat} {a b v : Nat} (h : v ∈ btw W a b) : v ∈ W := List.mem_of_mem_drop (List.mem_of_mem_take h)
theorem mem_arr {W : List Nat} {a b v : Nat} (h : v ∈ arr W a b) : v ∈ W := by
  unfold arr at h
  rcases List.mem_append.mp h with h | h
  · exact List.mem_of_mem_drop h
  · exact List.mem_of_mem_take h
section
variable {fu n : Nat} {W : List Nat}
abbrev l1 : Mi.S := (.par [4, 5] (.cons (.cal (Str.ofString "_law_draw") [0, 1] (.cons (.pk 0) (.cons (.var 2) .nil))) (.cons (.cal (Str.ofString "_law_draw") [0, 1] (.cons (.pk 0) (.cons (.bi .len (.cons (.pk 1) .nil)) .nil))) .nil)))
abbrev lBody : Ss := .cons l1 (.cons l2 (.cons l3 (.cons l4 (.cons l5 (.cons l6 (.cons l7 .nil))))))
theorem l_turn {m : Nat} {t s4 s5 s6 s7 s8 s9 s10 s11 s12 : Sl} (x y : Int) (h : Wd W) (hm : W.length = 2 * m) (h0 : 0 < m) : ∃ (x' y' : Int) (r4 r5 r6 r7 r8 r9 r10 r11 r12 : Sl),
    exs (tab.ct fu (run tab fu (n + 6))) lBody (lS (pot x y) (W.map iN) (.fr (.py (iN m))) t s4 s5 s6 s7 s8 s9 s10 s11 s12) = some (.nx, lS (pot x' y') (W.map iN) (.fr (.py (iN m))) t r4 r5 r6 r7 r8 r9 r10 r11 r12) := by
  have few := h.few
  obtain ⟨i, x1, y1, hi, e1⟩ := ev_drw (fu := fu) (n := n + 5) (st := lS (pot x y) (W.map iN) (.fr (.py (iN m))) t s4 s5 s6 s7 s8 s9 s10 s11 s12) (i := 0) (m := m) (e := .var 2) (o := .va (.py (iN m))) x y rfl rfl rfl h0 (by omega)
  obtain ⟨p, x2, y2, hp, e2⟩ := ev_drw (fu := fu) (n := n + 5) (st := lS (pot x1 y1) (W.map iN) (.fr (.py (iN m))) t s4 s5 s6 s7 s8 s9 s10 s11 s12) (i := 0) (m := W.length) (e := .bi .len (.cons (.pk 1) .nil)) (o := ofI (W.length : Int)) x1 y1 rfl (by simp) rfl (by omega) (by omega)
  have S1 : exS (tab.ct fu (run tab fu (n + 6))) l1 (lS (pot x y) (W.map iN) (.fr (.py (iN m))) t s4 s5 s6 s7 s8 s9 s10 s11 s12) = some (.nx, lS (pot x2 y2) (W.map iN) (.fr (.py (iN m))) t (.fr (.py (.int (i : Int)))) (.fr (.py (.int (p : Int)))) s6 s7 s8 s9 s10 s11 s12) := by
    have e1' : evE (tab.ct fu (run tab fu (n + 6))) (.cal (Str.ofString "_law_draw") [0, 1] (.cons (.pk 0) (.cons (.var 2) .nil))) (lS (pot x y) (W.map iN) (.fr (.py (iN m))) t s4 s5 s6 s7 s8 s9 s10 s11 s12) = some (.va (.py (.int (i : Int))), lS (pot x1 y1) (W.map iN) (.fr (.py (iN m))) t s4 s5 s6 s7 s8 s9 s10 s11 s12) := e1
    rw [ex_par, evs_cons, e1', Option.bind_some, evs_cons, e2]
    rfl
  have hi2 : i < W.length / 2 := by omega
  obtain ⟨a, b, P⟩ := pl_of h hi2
  have lo := P.low
  have lt := P.lt
  rw [show lBody = .cons l1 (.cons l2 (.cons l3 (.cons l4 (.cons l5 (.cons l6 (.cons l7 .nil)))))) from rfl, exs_step S1]
  rw [exs_step (ev_l2 (C := tab.ct fu (run tab fu (n + 6))) (ct_io lk__law_places) (by rw [ct_call]; exact r_lplaces (n := n + 5) h P))]
  have d1 := add_tup (xs := (W.map iN).drop (b + 1)) (ys := (W.map iN).take a) (by simp; omega)
  have d2 := add_tup (xs := (W.map iN).drop p) (ys := (W.map iN).take p) (by simp; omega)
  have g1 : (W.map iN).drop (b + 1) ++ (W.map iN).take a = (arr W a b).map iN := by unfold arr; rw [List.map_append, List.map_drop, List.map_take]
  have g0 : ((W.map iN).drop (a + 1)).take (b - (a + 1)) = (btw W a b).map iN := by unfold btw; rw [List.map_take, List.map_drop]
  rw [g1] at d1
  rw [tW_trn] at d2
  have c0 := cut_mid (xs := W.map iN) (k := a + 1) (j := b) (z := (a : Int) + 1) (y := (b : Int)) (by omega) rfl (by simp; omega) (by simp; omega)
  rw [g0] at c0
  rw [exs_step (ev_l3 (C := tab.ct fu (run tab fu (n + 6))) (p := (p : Int)) (a := (a : Int)) (b := (b : Int)) c0 (cut_from (k := b + 1) (by omega) (by simp; omega)) (cut_to (k := a) rfl (by simp; omega)) (cut_from (k := p) rfl (by simp; omega)) (cut_to (k := p) rfl (by simp; omega)) d1 d2)]
  have h1 : (tab.ct fu (run tab fu (n + 6))).call (Str.ofString "places") [.py (.tuple (W.map iN)), .py (.int (i : Int))] = some (.py (.tuple [.int (a : Int), .int (b : Int)]), false, .py .none) := by rw [ct_call]; exact r_places h P hi2
  have h2 : (tab.ct fu (run tab fu (n + 6))).call (Str.ofString "between") [.py (.tuple (W.map iN)), .py (.int (i : Int))] = some (.py (.tuple ((btw W a b).map iN)), false, .py .none) := by rw [ct_call]; exact r_between h P hi2
  have h3 : (tab.ct fu (run tab fu (n + 6))).call (Str.ofString "around") [.py (.tuple (W.map iN)), .py (.int (i : Int))] = some (.py (.tuple ((arr W a b).map iN)), false, .py .none) := by rw [ct_call]; exact r_around h P hi2
  have h4 : (tab.ct fu (run tab fu (n + 6))).call (Str.ofString "letter_at") [.py (.tuple (W.map iN)), .py (.int (p : Int))] = some (.py (iN W[p]), false, .py .none) := by rw [ct_call]; exact r_letter_at h hp
  have h5 : (tab.ct fu (run tab fu (n + 6))).call (Str.ofString "turned") [.py (.tuple (W.map iN)), .py (.int (p : Int))] = some (.py (.tuple ((Nm.trn W p).map iN)), false, .py .none) := by rw [ct_call]; exact r_turned h hp
  rw [exs_step (ev_l4 (C := tab.ct fu (run tab fu (n + 6))) (ct_io lk_places) (ct_io lk_between) (ct_io lk_around) (ct_io lk_letter_at) (ct_io lk_turned) h1 h2 h3 h4 h5)]
  rw [exs_step (ev_l5 (C := tab.ct fu (run tab fu (n + 6))) (ct_io lk_places) (ct_io lk_between) (ct_io lk_around) h1 h2 h3)]
  rw [exs_step (ev_l6 (C := tab.ct fu (run tab fu (n + 6))) (ct_io lk_letter_at) (ct_io lk_turned) h4 h5)]
  have it := (item_nat (xs := W.map iN) (k := p) (p := iN W[p]) (by rw [List.getElem?_map, List.getElem?_eq_getElem hp] <;> rfl)).1
  have sw : ∀ v ∈ W, v < 100 := fun v hv => h.lt hv
  have s1 : Sz (.tuple [.int (a : Int), .int (b : Int)]) 20 1 := (Sz.tup (SzA.cons (Sz.nat (show a < 100 by omega)) (SzA.cons (Sz.nat (show b < 100 by omega)) .nil))).mono (by omega) (Nat.le_refl 1)
  have s2 := sz20 (L := btw W a b) (fun v hv => sw v (mem_btw hv)) (by unfold btw; rw [List.length_take, List.length_drop]; omega)
  have s3 := sz20 (L := arr W a b) (fun v hv => sw v (mem_arr hv)) (by unfold arr; rw [List.length_append, List.length_take, List.length_drop]; omega)
  have s4' : Sz (iN W[p]) 20 1 := (Sz.nat (sw _ (List.getElem_mem hp))).mono (by omega) (by omega)
  have s5' := sz20 (L := Nm.trn W p) (fun v hv => sw v (Nm.trn_mem.mp hv)) (by rw [Nm.trn_len]; exact few)
  have sX := Sz.lst (SzA.cons s1 (SzA.cons s2 (SzA.cons s3 (SzA.cons s4' (SzA.cons s5' .nil)))))
  have rp := repr_lst (Sz.lst (SzA.cons sX (SzA.cons sX .nil))) (by omega) (by omega)
  obtain ⟨u, v, S7⟩ := ev_l7 (C := tab.ct fu (run tab fu (n + 6))) (P := pot x2 y2) (m := .fr (.py (iN m))) (t := t) (s4 := .fr (.py (.int (i : Int)))) (W := W.map iN) (p := (p : Int)) (a := (a : Int)) (b := (b : Int)) (J := (btw W a b).map iN) (O := (arr W a b).map iN) (R := (Nm.trn W p).map iN) (w := iN W[p]) it rp
  rw [exs_step S7]
  exact ⟨x2, y2, _, _, _, _, _, _, _, u, v, rfl⟩
theorem r_letters_right (x y : Int) (h : Wd W) (h0 : 0 < W.length) : ∃ x' y' : Int, run tab fu (n + 7) (Str.ofString "_law_letters_right") [pot x y, .py (tW W)] = some (.py (.bool true), false, pot x' y') := by
  obtain ⟨m, h1, h2, h3⟩ := h.half
  have few := h.few
  have rg := rng_nat (k := 3) (by omega)
  have fd : op2 .fdiv (.py (.int (W.length : Int))) (.py (.int 2)) = some (ofI (m : Int)) := by rw [op_fdiv (by decide) (by decide)]; congr 2; omega
  obtain ⟨s', e, x', y', t, r4, r5, r6, r7, r8, r9, r10, r11, r12, rfl⟩ := frL_J (f := fun q s => (bindT [3] true q s).bind (exs (tab.ct fu (run tab fu (n + 6))) lBody)) (fun _ s => ∃ (x' y' : Int) (t r4 r5 r6 r7 r8 r9 r10 r11 r12 : Sl), s = lS (pot x' y') (W.map iN) (.fr (.py (iN m))) t r4 r5 r6 r7 r8 r9 r10 r11 r12) ((List.range 3).map iN) 0 (lS (pot x y) (W.map iN) (.fr (.py (iN m))) .no .no .no .no .no .no .no .no .no .no) ⟨x, y, _, _, _, _, _, _, _, _, _, _, rfl⟩ (by
    rintro j q s hq ⟨x', y', t, r4, r5, r6, r7, r8, r9, r10, r11, r12, rfl⟩
    obtain ⟨x3, y3, q4, q5, q6, q7, q8, q9, q10, q11, q12, e3⟩ := l_turn (fu := fu) (n := n) (W := W) (m := m) (t := .fr (.py q)) (s4 := r4) (s5 := r5) (s6 := r6) (s7 := r7) (s8 := r8) (s9 := r9) (s10 := r10) (s11 := r11) (s12 := r12) x' y' h h1 (by omega)
    refine ⟨_, .nx, ?_, .inl rfl, x3, y3, .fr (.py q), q4, q5, q6, q7, q8, q9, q10, q11, q12, rfl⟩
    rw [bind_one, Option.bind_some]
    exact e3)
  refine ⟨x', y', ?_⟩
  rw [run_of lk__law_letters_right rfl]
  show ((exs (tab.ct fu (run tab fu (n + 6))) F__law_letters_right.body [.bo (pot x y), .fr (.py (tW W)), .no, .no, .no, .no, .no, .no, .no, .no, .no, .no, .no]).bind _) = _
  have S1 : exS (tab.ct fu (run tab fu (n + 6))) (.asg 2 (.op .fdiv (.bi .len (.cons (.pk 1) .nil)) (.lit (.int (2))))) [.bo (pot x y), .fr (.py (tW W)), .no, .no, .no, .no, .no, .no, .no, .no, .no, .no, .no] = some (.nx, lS (pot x y) (W.map iN) (.fr (.py (iN m))) .no .no .no .no .no .no .no .no .no .no) := by
    simp [fd]
  have S2 : exS (tab.ct fu (run tab fu (n + 6))) (.fr [3] true (.rng (.cons (.lit (.int (3))) .nil)) lBody) (lS (pot x y) (W.map iN) (.fr (.py (iN m))) .no .no .no .no .no .no .no .no .no .no) = some (.nx, lS (pot x' y') (W.map iN) (.fr (.py (iN m))) t r4 r5 r6 r7 r8 r9 r10 r11 r12) := by
    have I : evI (tab.ct fu (run tab fu (n + 6))) (.rng (.cons (.lit (.int (3))) .nil)) (lS (pot x y) (W.map iN) (.fr (.py (iN m))) .no .no .no .no .no .no .no .no .no .no) = some ((List.range 3).map iN, lS (pot x y) (W.map iN) (.fr (.py (iN m))) .no .no .no .no .no .no .no .no .no .no) := by
      have rg' : rngD [.py (.int 3)] = some ((List.range 3).map iN) := rg
      simp only [evI_rng, evs_cons, evs_nil, ev_lit, Option.bind_some, Option.map_some, rds_cons, rds_nil, rd_va, rg']
    rw [ex_fr, I, Option.bind_some]
    exact e
  rw [show F__law_letters_right.body = .cons (.asg 2 (.op .fdiv (.bi .len (.cons (.pk 1) .nil)) (.lit (.int (2))))) (.cons (.fr [3] true (.rng (.cons (.lit (.int (3))) .nil)) lBody) (.cons (.ret (.lit (.bool true))) .nil)) from rfl, exs_step S1, exs_step S2]
  simp
  rfl
end
end K10
end
section
namespace K10
open PySem Mi
/-! ### facts for _law_right -/
theorem least_mem {L : List (List Nat)} (h : L ≠ []) : ∃ l ∈ L, Nm.leastI L = Nm.castL l := by
  cases L with
  | nil => exact absurd rfl h
  | cons x xs =>
    have := Nm.minL_mem (xs.map Nm.castL) (Nm.castL x)
    rw [← List.map_cons (f := Nm.castL), List.mem_map] at this
    obtain ⟨l, hl, e⟩ := this
    exact ⟨l, hl, e.symm⟩
theorem tI_cast (l : List Nat) : Nm.tI (Nm.castL l) = tW l := by
  unfold Nm.tI Nm.castL
  rw [List.map_map]
  rfl
theorem rds_len {W : List Nat} {m : Nat} : ∀ l ∈ Nm.rds W m, l.length = W.length := fun l hl => by
  unfold Nm.rds at hl
  rw [List.mem_append, List.mem_map, List.mem_map] at hl
  rcases hl with ⟨k, _, rfl⟩ | ⟨k, _, rfl⟩
  · rw [Nm.nm_len, Nm.trn_len]
  · rw [Nm.nm_len, Nm.trn_len, List.length_reverse]
theorem sz_norm {W : List Nat} (h : W.length ≤ 20) : Sz (Nm.tI (Nm.norm W)) 20 1 := by
  obtain ⟨l, hl, e⟩ := least_mem (Nm.rds_ne (W := W) (m := W.length + 1) (by omega))
  have e' : Nm.norm W = Nm.castL l := e
  rw [e', tI_cast]
  exact sz20 (rds_100 h l hl) (by rw [rds_len l hl]; exact h)
theorem eqv_tI (l : List Int) : PyData.eqv (Nm.tI l) (Nm.tI l) = true := by
  refine PySem.W.eqv_refl_alike _ ?_
  unfold Nm.tI
  rw [PySem.W.alike]
  exact Nm.alike_tI l l
theorem cmp_norm {W : List Nat} (h : W.length ≤ 20) : cmp .ne (.py (Nm.tI (Nm.norm W))) (.py (Nm.tI (Nm.norm W))) = some false ∧ cmp .eq (.py (Nm.tI (Nm.norm W))) (.py (Nm.tI (Nm.norm W))) = some true := by
  have ok := (sz_norm h).ok (by omega)
  have e := eqv_tI (Nm.norm W)
  generalize Nm.tI (Nm.norm W) = p at ok e ⊢
  refine ⟨?_, ?_⟩
  · show (if okDp p && okDp p then some (!PyData.eqv p p) else none) = _
    rw [ok, e]
    rfl
  · show (if okDp p && okDp p then some (PyData.eqv p p) else none) = _
    rw [ok, e]
    rfl
theorem count_map {g : Nat → Nat} : ∀ (W : List Nat) (x : Nat), (∀ y ∈ W, g y = g x → y = x) → (W.map g).count (g x) = W.count x
  | [], _, _ => rfl
  | y :: W, x, h => by
    rw [List.map_cons, List.count_cons, List.count_cons, count_map W x fun z hz => h z (List.mem_cons_of_mem _ hz)]
    congr 1
    by_cases e : y = x
    · subst e; simp
    · have e2 : ¬ g y = g x := fun q => e (h y (List.mem_cons_self ..) q)
      simp [e, e2]
abbrev qS (P : D) (W M s3 lt le so to ag lf na ri at' ot : Sl) : En := [.bo P, W, M, s3, lt, le, so, to, ag, lf, na, ri, at', ot, .no]
section
variable {fu n : Nat} {W : List Nat}
/-- a lot of letters is drawn -/
abbrev q3 : Mi.S := (.asg 4 (.bi .tuple (.cons (.lc [14, 3] [3] true (.rng (.cons (.pk 2) .nil)) (.v (.cm .eq (.cal (Str.ofString "_law_draw") [0, 1] (.cons (.pk 0) (.cons (.lit (.int (2))) .nil))) (.lit (.int (0))))) (.var 3)) .nil)))
theorem ex_q3 {W' : Sl} {m : Nat} (x y : Int) (hm : m ≤ 10) : ∃ (x' y' : Int) (lot : List Nat), lot.Pairwise (· < ·) ∧ (∀ v ∈ lot, v < m) ∧ lot.length ≤ m ∧ exS (tab.ct fu (run tab fu (n + 1))) q3 (qS (pot x y) W' (.fr (.py (iN m))) .no .no .no .no .no .no .no .no .no .no .no) = some (.nx, qS (pot x' y') W' (.fr (.py (iN m))) .no (.fr (.py (tW lot))) .no .no .no .no .no .no .no .no .no) := by
  have rg := rng_nat (k := m) (by omega)
  have I : evI (tab.ct fu (run tab fu (n + 1))) (.rng (.cons (.pk 2) .nil)) (qS (pot x y) W' (.fr (.py (iN m))) .no .no .no .no .no .no .no .no .no .no .no) = some ((List.range m).map iN, qS (pot x y) W' (.fr (.py (iN m))) .no .no .no .no .no .no .no .no .no .no .no) := by
    simp [rg]
  have z := lcL_J (f := fun v acc s => (bindT [3] true v s).bind fun s1 => (evT (tab.ct fu (run tab fu (n + 1))) (.v (.cm .eq (.cal (Str.ofString "_law_draw") [0, 1] (.cons (.pk 0) (.cons (.lit (.int (2))) .nil))) (.lit (.int (0))))) s1).bind fun qc => if qc.1 then (evE (tab.ct fu (run tab fu (n + 1))) (.var 3) qc.2).bind fun qe => qe.1.val.bind fun d => d.pyd.bind fun p =>
        if acc.length < lim then some (acc ++ [p], wipe qe.2 [14, 3]) else none else some (acc, wipe qc.2 [14, 3]))
    (fun k acc s => ∃ (x' y' : Int) (lot : List Nat), acc = lot.map iN ∧ lot.Pairwise (· < ·) ∧ (∀ v ∈ lot, v < k) ∧ lot.length ≤ k ∧ s = qS (pot x' y') W' (.fr (.py (iN m))) .no .no .no .no .no .no .no .no .no .no .no) ((List.range m).map iN) 0 [] (qS (pot x y) W' (.fr (.py (iN m))) .no .no .no .no .no .no .no .no .no .no .no) ⟨x, y, [], rfl, .nil, (fun v hv => by cases hv), Nat.le_refl 0, rfl⟩ ?step
  case step =>
    rintro j v acc s hv ⟨x1, y1, lot, rfl, hp, hb, hl, rfl⟩
    rw [Nat.zero_add] at hb hl
    have hj : j < m := by have := (List.getElem?_eq_some_iff.mp hv).1; simpa using this
    have ev : v = iN j := by
      rw [List.getElem?_map, List.getElem?_range hj] at hv
      exact (Option.some.inj hv).symm
    subst ev
    obtain ⟨r, x2, y2, hr, e1⟩ := ev_drw (fu := fu) (n := n) (st := qS (pot x1 y1) W' (.fr (.py (iN m))) (.fr (.py (iN j))) .no .no .no .no .no .no .no .no .no .no) (i := 0) (m := 2) (e := .lit (.int (2))) (o := .va (.py (.int 2))) x1 y1 rfl rfl rfl (by omega) (by omega)
    have e2 : evT (tab.ct fu (run tab fu (n + 1))) (.v (.cm .eq (.cal (Str.ofString "_law_draw") [0, 1] (.cons (.pk 0) (.cons (.lit (.int (2))) .nil))) (.lit (.int (0))))) (qS (pot x1 y1) W' (.fr (.py (iN m))) (.fr (.py (iN j))) .no .no .no .no .no .no .no .no .no .no) = some (decide ((r : Int) = 0), qS (pot x2 y2) W' (.fr (.py (iN m))) (.fr (.py (iN j))) .no .no .no .no .no .no .no .no .no .no) := by
      rw [evT_v, ev_cm, e1]
      simp
    have b1 : (bindT [3] true (iN j) (qS (pot x1 y1) W' (.fr (.py (iN m))) .no .no .no .no .no .no .no .no .no .no .no)) = some (qS (pot x1 y1) W' (.fr (.py (iN m))) (.fr (.py (iN j))) .no .no .no .no .no .no .no .no .no .no) := rfl
    rw [b1, Option.bind_some, e2, Option.bind_some]
    by_cases h0 : (r : Int) = 0
    · refine ⟨(lot ++ [j]).map iN, qS (pot x2 y2) W' (.fr (.py (iN m))) .no .no .no .no .no .no .no .no .no .no .no, ?_, x2, y2, lot ++ [j], rfl, ?_, ?_, ?_, rfl⟩
      · simp only [decide_eq_true h0, if_true]
        have e3 : evE (tab.ct fu (run tab fu (n + 1))) (.var 3) (qS (pot x2 y2) W' (.fr (.py (iN m))) (.fr (.py (iN j))) .no .no .no .no .no .no .no .no .no .no) = some (.va (.py (iN j)), qS (pot x2 y2) W' (.fr (.py (iN m))) (.fr (.py (iN j))) .no .no .no .no .no .no .no .no .no .no) := rfl
        rw [e3, Option.bind_some]
        simp only [val_va, Option.bind_some, pyd_py]
        rw [if_pos (lim_lt (by rw [List.length_map]; omega)), List.map_append]
        rfl
      · rw [List.pairwise_append]
        refine ⟨hp, List.pairwise_singleton _ _, fun a ha b hb' => ?_⟩
        rw [List.mem_singleton] at hb'
        subst hb'
        exact hb a ha
      · intro v hv
        rcases List.mem_append.mp hv with hv | hv
        · have := hb v hv; omega
        · rw [List.mem_singleton] at hv; omega
      · rw [List.length_append]; simp; omega
    · refine ⟨lot.map iN, qS (pot x2 y2) W' (.fr (.py (iN m))) .no .no .no .no .no .no .no .no .no .no .no, ?_, x2, y2, lot, rfl, hp, fun v hv => by have := hb v hv; omega, by omega, rfl⟩
      simp only [decide_eq_false h0, Bool.false_eq_true, if_false]
      rfl
  obtain ⟨acc, s', e, x', y', lot, rfl, hp, hb, hl, rfl⟩ := z
  rw [Nat.zero_add, List.length_map, List.length_range] at hb hl
  refine ⟨x', y', lot, hp, hb, hl, ?_⟩
  have LC : evE (tab.ct fu (run tab fu (n + 1))) (.lc [14, 3] [3] true (.rng (.cons (.pk 2) .nil)) (.v (.cm .eq (.cal (Str.ofString "_law_draw") [0, 1] (.cons (.pk 0) (.cons (.lit (.int (2))) .nil))) (.lit (.int (0))))) (.var 3)) (qS (pot x y) W' (.fr (.py (iN m))) .no .no .no .no .no .no .no .no .no .no .no) = some (.fe (.py (.list (lot.map iN))), qS (pot x' y') W' (.fr (.py (iN m))) .no .no .no .no .no .no .no .no .no .no .no) := by
    rw [ev_lc, I, Option.bind_some]
    simp only
    have hc : (([14, 3] : List Nat).all fun i => calmSl ((qS (pot x y) W' (.fr (.py (iN m))) .no .no .no .no .no .no .no .no .no .no .no).getD i .no)) = true := rfl
    rw [if_pos hc]
    have w0 : wipe (qS (pot x y) W' (.fr (.py (iN m))) .no .no .no .no .no .no .no .no .no .no .no) [14, 3] = qS (pot x y) W' (.fr (.py (iN m))) .no .no .no .no .no .no .no .no .no .no .no := rfl
    rw [w0, e]
    rfl
  rw [ex_asg, ev_bi, evs_cons, LC]
  rfl
/-- letters of a lot, and the other ones -/
theorem lc_lot {P : D} {M lt' : Sl} {W lot : List Nat} {C : Ct} {o : Cm} {q : Nat → Bool} (hl : W.length ≤ 20) (ho : ∀ x : Nat, cmp o (.py (.int (x : Int))) (.py (.tuple (lot.map iN))) = some (q x)) :
    evE C (.lc [14, 3] [3] true (.v (.var 1)) (.v (.cm o (.pk 3) (.pk 4))) (.var 3)) (qS P (.fr (.py (tW W))) M .no (.fr (.py (tW lot))) .no .no .no .no .no .no .no .no .no) = some (.fe (.py (.list ((W.filter q).map iN))), qS P (.fr (.py (tW W))) M .no (.fr (.py (tW lot))) .no .no .no .no .no .no .no .no .no) := by
  rw [lc_if (fun v => match v with
    | .int i => (cmp o (.py (.int i)) (.py (.tuple (lot.map iN)))).getD false
    | _ => false) (fun v => v) (st' := qS P (.fr (.py (tW W))) M .no (.fr (.py (tW lot))) .no .no .no .no .no .no .no .no .no) (xs := W.map iN) (by simp) rfl (lim_ok (by simp; omega)) fun x hx => ?_]
  · rw [List.map_id', filt_nat (q := q) W fun x => by show (cmp o (.py (.int (x : Int))) (.py (.tuple (lot.map iN)))).getD false = _; rw [ho]; rfl]
  · obtain ⟨y, hy, rfl⟩ := List.mem_map.mp hx
    refine ⟨_, qS P (.fr (.py (tW W))) M (.fr (.py (iN y))) (.fr (.py (tW lot))) .no .no .no .no .no .no .no .no .no, rfl, ?_, fun _ => rfl, fun _ => ⟨_, _, rfl, rfl, rfl⟩⟩
    show evT C _ (qS P (.fr (.py (tW W))) M (.fr (.py (iN y))) (.fr (.py (tW lot))) .no .no .no .no .no .no .no .no .no) = some ((cmp o (.py (.int (y : Int))) (.py (.tuple (lot.map iN)))).getD false, _)
    rw [ho]
    simp only [evT_v, ev_cm, ev_pk, qS, List.getElem?_cons_zero, List.getElem?_cons_succ, Option.bind_some, rd_pk, con_fr, ho, Option.map_some, rd_ofB, tru_bool, Option.getD_some]
end
end K10
end
section
namespace K10
open PySem Mi
abbrev qX (L : PyData) (B U V N : PyData) : List PyData := [.bool true, L, B, U, V, N]
abbrev q5 : Mi.S := (.asg 7 (.lst (.cons (.cal (Str.ofString "is_word") [0] (.cons (.var 1) .nil)) (.cons (.cal (Str.ofString "letters") [0] (.cons (.var 1) .nil)) (.cons (.cal (Str.ofString "backward") [0] (.cons (.var 1) .nil)) (.cons (.cal (Str.ofString "without") [0, 1] (.cons (.var 1) (.cons (.var 4) .nil))) (.cons (.cal (Str.ofString "only") [0, 1] (.cons (.var 1) (.cons (.var 4) .nil))) (.cons (.cal (Str.ofString "normal") [0] (.cons (.var 1) .nil)) .nil))))))))
abbrev q6 : Mi.S := (.asg 8 (.lst (.cons (.cal (Str.ofString "is_word") [0] (.cons (.var 1) .nil)) (.cons (.cal (Str.ofString "letters") [0] (.cons (.var 1) .nil)) (.cons (.cal (Str.ofString "backward") [0] (.cons (.var 1) .nil)) (.cons (.cal (Str.ofString "without") [1, 0] (.cons (.var 4) (.cons (.var 1) .nil))) (.cons (.cal (Str.ofString "only") [1, 0] (.cons (.var 4) (.cons (.var 1) .nil))) (.cons (.cal (Str.ofString "normal") [0] (.cons (.var 1) .nil)) .nil))))))))
abbrev q7 : Mi.S := (.ifs (.v (.cm .ne (.bi .repr (.cons (.lst (.cons (.var 7) (.cons (.var 8) .nil))) .nil)) (.bi .repr (.cons (.op .mul (.lst (.cons (.lst (.cons (.lit (.bool true)) (.cons (.var 2) (.cons (.rev (.pk 1)) (.cons (.var 5) (.cons (.var 6) (.cons (.cal (Str.ofString "_law_normal") [0] (.cons (.var 1) .nil)) .nil))))))) .nil)) (.lit (.int (2)))) .nil)))) (.cons (.ret (.lit (.bool false))) .nil) .nil)
section
variable {C : Ct} {P : D} {W : List PyData} {K lot B U V N : PyData} {s3 le so to ag lf na ri at' ot : Sl}
  (i1 : C.io (Str.ofString "is_word") = false) (i2 : C.io (Str.ofString "letters") = false) (i3 : C.io (Str.ofString "backward") = false) (i4 : C.io (Str.ofString "without") = false) (i5 : C.io (Str.ofString "only") = false) (i6 : C.io (Str.ofString "normal") = false)
  (h1 : C.call (Str.ofString "is_word") [.py (.tuple W)] = some (.py (.bool true), false, .py .none)) (h2 : C.call (Str.ofString "letters") [.py (.tuple W)] = some (.py K, false, .py .none)) (h3 : C.call (Str.ofString "backward") [.py (.tuple W)] = some (.py B, false, .py .none))
  (h4 : C.call (Str.ofString "without") [.py (.tuple W), .py lot] = some (.py U, false, .py .none)) (h5 : C.call (Str.ofString "only") [.py (.tuple W), .py lot] = some (.py V, false, .py .none)) (h6 : C.call (Str.ofString "normal") [.py (.tuple W)] = some (.py N, false, .py .none))
include i1 i2 i3 i4 i5 i6 h1 h2 h3 h4 h5 h6 in
theorem ev_q5 : exS C q5 (qS P (.fr (.py (.tuple W))) (.fr (.py K)) s3 (.fr (.py lot)) le so to ag lf na ri at' ot) = some (.nx, qS P (.fr (.py (.tuple W))) (.fr (.py K)) s3 (.fr (.py lot)) le so (.ow (.py (.list (qX K B U V N)))) ag lf na ri at' ot) := by
  simp [call_pl i1, call_pl i2, call_pl i3, call_pl i4, call_pl i5, call_pl i6, h1, h2, h3, h4, h5, h6]
include i1 i2 i3 i4 i5 i6 h1 h2 h3 h4 h5 h6 in
theorem ev_q6 : exS C q6 (qS P (.fr (.py (.tuple W))) (.fr (.py K)) s3 (.fr (.py lot)) le so to ag lf na ri at' ot) = some (.nx, qS P (.fr (.py (.tuple W))) (.fr (.py K)) s3 (.fr (.py lot)) le so to (.ow (.py (.list (qX K B U V N)))) lf na ri at' ot) := by
  simp [call_pl i1, call_pl i2, call_pl i3, call_pl i4, call_pl i5, call_pl i6, h1, h2, h3, h4, h5, h6]
theorem ev_q7 {sh : Str} (i7 : C.io (Str.ofString "_law_normal") = false) (h7 : C.call (Str.ofString "_law_normal") [.py (.tuple W)] = some (.py N, false, .py .none)) (hB : B = .tuple W.reverse) (rp : biD .repr [.py (.list [.list (qX K B U V N), .list (qX K B U V N)])] = some (.va (.py (.str sh)))) :
    ∃ u v, exS C q7 (qS P (.fr (.py (.tuple W))) (.fr (.py K)) s3 (.fr (.py lot)) (.fr (.py U)) (.fr (.py V)) (.ow (.py (.list (qX K B U V N)))) (.ow (.py (.list (qX K B U V N)))) lf na ri at' ot) = some (.nx, qS P (.fr (.py (.tuple W))) (.fr (.py K)) s3 (.fr (.py lot)) (.fr (.py U)) (.fr (.py V)) u v lf na ri at' ot) := by
  refine ⟨.fr (.py (.list (qX K B U V N))), .fr (.py (.list (qX K B U V N))), ?_⟩
  refine ex_chk (st1 := qS P (.fr (.py (.tuple W))) (.fr (.py K)) s3 (.fr (.py lot)) (.fr (.py U)) (.fr (.py V)) (.fr (.py (.list (qX K B U V N)))) (.fr (.py (.list (qX K B U V N)))) lf na ri at' ot) (xs := [.list (qX K B U V N), .list (qX K B U V N)]) ?_ ?_ rp
  · simp
  · subst hB
    simp [call_pl i7, h7, rev_tup, mul_two]
end
/-! ### names that are drawn -/
abbrev nS (P : D) (W M s3 lt le so to ag : Sl) (L G : List Nat) (ri at' ot : Sl) : En := qS P W M s3 lt le so to ag (.ow (.py (.list (L.map iN)))) (.ow (.py (.list ((G.map (· * 1000000000)).map iN)))) ri at' ot
abbrev q9b : Ss := (.cons (.app 10 (.op .mul (.pop 9 (.cal (Str.ofString "_law_draw") [0, 1] (.cons (.pk 0) (.cons (.bi .len (.cons (.pk 9) .nil)) .nil)))) (.op .pow (.lit (.int (10))) (.lit (.int (9)))))) .nil)
section
variable {fu n : Nat} {W M s3 lt le so to ag ri at' ot : Sl}
theorem ev_pw {C : Ct} {st : En} : evE C (.op .pow (.lit (.int (10))) (.lit (.int (9)))) st = some (ofI 1000000000, st) := by
  have pw : op2 .pow (.py (.int 10)) (.py (.int 9)) = some (ofI 1000000000) := by
    show (if (0 : Int) ≤ 9 ∧ (9 : Int) ≤ 1000 ∧ (10 : Int).natAbs < 1000000 then _ else none) = _
    rw [if_pos ⟨by decide, by decide, by decide⟩]
    rfl
  rw [ev_op, ev_lit, Option.bind_some, ev_lit, Option.bind_some, rd_va, Option.bind_some, rd_va, Option.bind_some, pw]
  rfl
theorem n_turn {L G : List Nat} (x y : Int) (hL : 0 < L.length) (hL2 : L.length + G.length ≤ 100) : ∃ (x' y' : Int) (L' G' : List Nat), (G' ++ L').Perm (G ++ L) ∧ G'.length = G.length + 1 ∧
    exs (tab.ct fu (run tab fu (n + 1))) q9b (nS (pot x y) W M s3 lt le so to ag L G ri at' ot) = some (.nx, nS (pot x' y') W M s3 lt le so to ag L' G' ri at' ot) := by
  obtain ⟨k, x', y', hk, e⟩ := ev_popd (fu := fu) (n := n) (st := nS (pot x y) W M s3 lt le so to ag L G ri at' ot) (l := 9) (M := L) x y rfl rfl (by omega) hL (by omega)
  have e0 : evE (tab.ct fu (run tab fu (n + 1))) (.pop 9 (.cal (Str.ofString "_law_draw") [0, 1] (.cons (.pk 0) (.cons (.bi .len (.cons (.pk 9) .nil)) .nil)))) (nS (pot x y) W M s3 lt le so to ag L G ri at' ot) = some (.va (.py (iN L[k])), nS (pot x' y') W M s3 lt le so to ag (L.eraseIdx k) G ri at' ot) := e
  refine ⟨x', y', L.eraseIdx k, G ++ [L[k]], ?_, by simp, ?_⟩
  · rw [List.append_assoc]
    exact List.Perm.append_left G (perm_erase L k hk)
  · have ml : op2 .mul (.py (iN L[k])) (.py (.int 1000000000)) = some (ofI ((L[k] * 1000000000 : Nat) : Int)) := by
      rw [op_mul (by unfold okMul; simp)]
      congr 2
    have e1 : evE (tab.ct fu (run tab fu (n + 1))) (.op .mul (.pop 9 (.cal (Str.ofString "_law_draw") [0, 1] (.cons (.pk 0) (.cons (.bi .len (.cons (.pk 9) .nil)) .nil)))) (.op .pow (.lit (.int (10))) (.lit (.int (9))))) (nS (pot x y) W M s3 lt le so to ag L G ri at' ot) = some (ofI ((L[k] * 1000000000 : Nat) : Int), nS (pot x' y') W M s3 lt le so to ag (L.eraseIdx k) G ri at' ot) := by
      rw [ev_op, e0, Option.bind_some, ev_pw, Option.bind_some, rd_va, Option.bind_some, rd_ofI, Option.bind_some, ml]
      rfl
    have la : lstAt (nS (pot x y) W M s3 lt le so to ag L G ri at' ot) 10 = some ((G.map (· * 1000000000)).map iN, .ow) := rfl
    have la2 : lstAt (nS (pot x' y') W M s3 lt le so to ag (L.eraseIdx k) G ri at' ot) 10 = some ((G.map (· * 1000000000)).map iN, .ow) := rfl
    have lt' : ((G.map (· * 1000000000)).map iN).length < lim := lim_lt (by rw [List.length_map, List.length_map]; omega)
    rw [exs_cons, ex_app, la, Option.bind_some, e1, Option.bind_some, val_ofI, Option.bind_some, pyd_py, Option.bind_some, la2, Option.bind_some]
    rw [if_pos lt']
    have e2 : ((G ++ [L[k]]).map (· * 1000000000)).map iN = (G.map (· * 1000000000)).map iN ++ [.int ((L[k] * 1000000000 : Nat) : Int)] := by
      rw [List.map_append, List.map_append]
      rfl
    show some (Out.nx, qS (pot x' y') W M s3 lt le so to ag (.ow (.py (.list ((L.eraseIdx k).map iN)))) (.ow (.py (.list ((G.map (· * 1000000000)).map iN ++ [.int ((L[k] * 1000000000 : Nat) : Int)])))) ri at' ot) = _
    rw [← e2]
theorem ex_q9 {m : Nat} (x y : Int) (hm : m ≤ 10) (hs3 : calmSl s3 = true) : ∃ (x' y' : Int) (s3' : Sl) (L G : List Nat), calmSl s3' = true ∧ G.length = m ∧ (G ++ L).Perm (List.range 60) ∧
    exS (tab.ct fu (run tab fu (n + 1))) (.fr [3] true (.rng (.cons (.pk 2) .nil)) q9b) (nS (pot x y) W (.fr (.py (iN m))) s3 lt le so to ag (List.range 60) [] ri at' ot) = some (.nx, nS (pot x' y') W (.fr (.py (iN m))) s3' lt le so to ag L G ri at' ot) := by
  have rg := rng_nat (k := m) (by omega)
  have I : evI (tab.ct fu (run tab fu (n + 1))) (.rng (.cons (.pk 2) .nil)) (nS (pot x y) W (.fr (.py (iN m))) s3 lt le so to ag (List.range 60) [] ri at' ot) = some ((List.range m).map iN, nS (pot x y) W (.fr (.py (iN m))) s3 lt le so to ag (List.range 60) [] ri at' ot) := by
    generalize List.range 60 = R60
    have g2 : (nS (pot x y) W (.fr (.py (iN m))) s3 lt le so to ag R60 [] ri at' ot)[2]? = some (.fr (.py (iN m))) := rfl
    generalize nS (pot x y) W (.fr (.py (iN m))) s3 lt le so to ag R60 [] ri at' ot = st at g2 ⊢
    simp [g2, rg]
  obtain ⟨s', e, x', y', s3', L, G, rfl, hp, hG, hc⟩ := frL_J (f := fun q s => (bindT [3] true q s).bind (exs (tab.ct fu (run tab fu (n + 1))) q9b)) (fun k s => ∃ (x' y' : Int) (s3' : Sl) (L G : List Nat), s = nS (pot x' y') W (.fr (.py (iN m))) s3' lt le so to ag L G ri at' ot ∧ (G ++ L).Perm (List.range 60) ∧ G.length = k ∧ calmSl s3' = true) ((List.range m).map iN) 0 (nS (pot x y) W (.fr (.py (iN m))) s3 lt le so to ag (List.range 60) [] ri at' ot) ⟨x, y, s3, _, [], rfl, .refl _, rfl, hs3⟩ (by
    rintro j q s hq ⟨x', y', s3', L, G, rfl, hp, hG, hc⟩
    have hj : j < m := by have := (List.getElem?_eq_some_iff.mp hq).1; simpa using this
    have hlen := hp.length_eq
    rw [List.length_append, List.length_range] at hlen
    obtain ⟨x3, y3, L', G', hp', hG', e3⟩ := n_turn (fu := fu) (n := n) (W := W) (M := .fr (.py (iN m))) (s3 := .fr (.py q)) (lt := lt) (le := le) (so := so) (to := to) (ag := ag) (ri := ri) (at' := at') (ot := ot) (L := L) (G := G) x' y' (by omega) (by omega)
    refine ⟨_, .nx, ?_, .inl rfl, x3, y3, .fr (.py q), L', G', rfl, hp'.trans hp, by omega, rfl⟩
    rw [bind_one, Option.bind_some]
    exact e3)
  rw [Nat.zero_add, List.length_map, List.length_range] at hG
  refine ⟨x', y', s3', L, G, hc, hG, hp, ?_⟩
  rw [ex_fr, I, Option.bind_some]
  exact e
end
end K10
end
section
namespace K10
open PySem Mi
theorem evT_chk {C : Ct} {st st1 st2 : En} {A B : Ex} {xs : List PyData} {sh : Str} (hA : evE C A st = some (.fe (.py (.list xs)), st1)) (hB : evE C B st1 = some (.fe (.py (.list xs)), st2)) (rp : biD .repr [.py (.list xs)] = some (.va (.py (.str sh)))) :
    evT C (.v (.cm .ne (.bi .repr (.cons A .nil)) (.bi .repr (.cons B .nil)))) st = some (false, st2) := by
  have q1 : evE C (.bi .repr (.cons A .nil)) st = some (.va (.py (.str sh)), st1) := by
    rw [ev_bi, evs_cons, hA]
    simp [rp]
  have q2 : evE C (.bi .repr (.cons B .nil)) st1 = some (.va (.py (.str sh)), st2) := by
    rw [ev_bi, evs_cons, hB]
    simp [rp]
  rw [evT_v, ev_cm, q1, Option.bind_some, q2]
  simp [ne_str]
abbrev q10 : Mi.S := (.asg 11 (.bi .tuple (.cons (.lc [14, 3] [3] true (.v (.var 1)) .yes (.ix (.pk 10) (.pk 3))) .nil)))
abbrev q11 : Mi.S := (.ifs (.or (.v (.cm .ne (.bi .repr (.cons (.lst (.cons (.cal (Str.ofString "named") [0] (.cons (.var 11) .nil)) (.cons (.cal (Str.ofString "named") [0] (.cons (.var 11) .nil)) .nil))) .nil)) (.bi .repr (.cons (.op .mul (.lst (.cons (.cal (Str.ofString "_law_named") [0] (.cons (.var 1) .nil)) .nil)) (.lit (.int (2)))) .nil)))) (.v (.cm .ne (.cal (Str.ofString "normal") [0] (.cons (.cal (Str.ofString "named") [0] (.cons (.var 11) .nil)) .nil)) (.cal (Str.ofString "normal") [0] (.cons (.var 1) .nil))))) (.cons (.ret (.lit (.bool false))) .nil) .nil)
abbrev q12 : Mi.S := (.ifs (.v (.cm .eq (.pk 2) (.lit (.int (0))))) (.cons (.ret (.lit (.bool true))) .nil) .nil)
abbrev q13 : Mi.S := (.asg 12 (.cal (Str.ofString "_law_draw") [0, 1] (.cons (.pk 0) (.cons (.bi .len (.cons (.pk 1) .nil)) .nil))))
abbrev q14 : Mi.S := (.asg 13 (.cal (Str.ofString "named") [0] (.cons (.op .add (.sl (.rev (.pk 1)) (.so (.pk 12)) .no) (.sl (.rev (.pk 1)) .no (.so (.pk 12)))) .nil)))
abbrev q15 : Mi.S := (.ret (.and (.cm .eq (.cal (Str.ofString "normal") [0] (.cons (.var 13) .nil)) (.cal (Str.ofString "normal") [0] (.cons (.var 1) .nil))) (.and (.cm .is (.cal (Str.ofString "is_word") [0] (.cons (.var 13) .nil)) (.lit (.bool true))) (.cal (Str.ofString "_law_letters_right") [0, 1] (.cons (.pk 0) (.cons (.var 1) .nil))))))
section
variable {C : Ct} {P : D} {M s3 lt le so to ag lf na ri at' ot : Sl}
theorem ex_q10 {W G : List Nat} (hl : W.length ≤ 20) (hg : ∀ x ∈ W, x < G.length) (hs3 : calmSl s3 = true) :
    exS C q10 (qS P (.fr (.py (tW W))) M s3 lt le so to ag lf (.ow (.py (.list (G.map iN)))) ri at' ot) = some (.nx, qS P (.fr (.py (tW W))) M s3 lt le so to ag lf (.ow (.py (.list (G.map iN)))) (.fr (.py (tW (W.map fun x => G.getD x 0)))) at' ot) := by
  have LC : evE C (.lc [14, 3] [3] true (.v (.var 1)) .yes (.ix (.pk 10) (.pk 3))) (qS P (.fr (.py (tW W))) M s3 lt le so to ag lf (.ow (.py (.list (G.map iN)))) ri at' ot) = some (.fe (.py (.list ((W.map fun x => G.getD x 0).map iN))), qS P (.fr (.py (tW W))) M s3 lt le so to ag lf (.ow (.py (.list (G.map iN)))) ri at' ot) := by
    rw [lc_map (fun v => match v with
      | .int i => iN (G.getD i.toNat 0)
      | v => v) (st' := qS P (.fr (.py (tW W))) M s3 lt le so to ag lf (.ow (.py (.list (G.map iN)))) ri at' ot) (xs := W.map iN) (by simp) (by
        show ([14, 3].all fun i => calmSl ((qS P (.fr (.py (tW W))) M s3 lt le so to ag lf (.ow (.py (.list (G.map iN)))) ri at' ot).getD i .no)) = true
        simp [hs3]
        rfl) (lim_ok (by simp; omega)) fun x hx => ?_]
    · rw [List.map_map, List.map_map]
      rfl
    · obtain ⟨y, hy, rfl⟩ := List.mem_map.mp hx
      have hy' := hg y hy
      have e : G.getD y 0 = G[y] := by rw [List.getD_eq_getElem?_getD, List.getElem?_eq_getElem hy']; rfl
      have it := (item_nat (xs := G.map iN) (k := y) (p := iN G[y]) (by rw [List.getElem?_map, List.getElem?_eq_getElem hy'] <;> rfl)).2
      refine ⟨qS P (.fr (.py (tW W))) M (.fr (.py (iN y))) lt le so to ag lf (.ow (.py (.list (G.map iN)))) ri at' ot, .va (.py (iN G[y])), qS P (.fr (.py (tW W))) M (.fr (.py (iN y))) lt le so to ag lf (.ow (.py (.list (G.map iN)))) ri at' ot, rfl, ?_, by simp only [Int.toNat_natCast, e]; rfl, rfl⟩
      have g10 : (qS P (.fr (.py (tW W))) M (.fr (.py (iN y))) lt le so to ag lf (.ow (.py (.list (G.map iN)))) ri at' ot)[10]? = some (.ow (.py (.list (G.map iN)))) := rfl
      have g3 : (qS P (.fr (.py (tW W))) M (.fr (.py (iN y))) lt le so to ag lf (.ow (.py (.list (G.map iN)))) ri at' ot)[3]? = some (.fr (.py (iN y))) := rfl
      generalize qS P (.fr (.py (tW W))) M (.fr (.py (iN y))) lt le so to ag lf (.ow (.py (.list (G.map iN)))) ri at' ot = st at g10 g3 ⊢
      rw [ev_ix]
      simp only [ev_pk, g10, g3, Option.bind_some, rd_pk, con_ow, con_fr, it, Option.map_some]
  rw [ex_asg, ev_bi, evs_cons, LC]
  rfl
theorem ex_q11 {W R U N : PyData} {sh : Str} (i1 : C.io (Str.ofString "named") = false) (i2 : C.io (Str.ofString "_law_named") = false) (i3 : C.io (Str.ofString "normal") = false) (h1 : C.call (Str.ofString "named") [.py R] = some (.py U, false, .py .none)) (h2 : C.call (Str.ofString "_law_named") [.py W] = some (.py U, false, .py .none))
    (h3 : C.call (Str.ofString "normal") [.py U] = some (.py N, false, .py .none)) (h4 : C.call (Str.ofString "normal") [.py W] = some (.py N, false, .py .none)) (c : cmp .ne (.py N) (.py N) = some false) (rp : biD .repr [.py (.list [U, U])] = some (.va (.py (.str sh)))) :
    exS C q11 (qS P (.fr (.py W)) M s3 lt le so to ag lf na (.fr (.py R)) at' ot) = some (.nx, qS P (.fr (.py W)) M s3 lt le so to ag lf na (.fr (.py R)) at' ot) := by
  have T1 := evT_chk (C := C) (A := .lst (.cons (.cal (Str.ofString "named") [0] (.cons (.var 11) .nil)) (.cons (.cal (Str.ofString "named") [0] (.cons (.var 11) .nil)) .nil))) (B := .op .mul (.lst (.cons (.cal (Str.ofString "_law_named") [0] (.cons (.var 1) .nil)) .nil)) (.lit (.int (2)))) (xs := [U, U]) (st := qS P (.fr (.py W)) M s3 lt le so to ag lf na (.fr (.py R)) at' ot) (st1 := qS P (.fr (.py W)) M s3 lt le so to ag lf na (.fr (.py R)) at' ot) (st2 := qS P (.fr (.py W)) M s3 lt le so to ag lf na (.fr (.py R)) at' ot) (by simp [call_pl i1, h1]) (by simp [call_pl i2, h2, mul_two]) rp
  have T2 : evT C (.v (.cm .ne (.cal (Str.ofString "normal") [0] (.cons (.cal (Str.ofString "named") [0] (.cons (.var 11) .nil)) .nil)) (.cal (Str.ofString "normal") [0] (.cons (.var 1) .nil)))) (qS P (.fr (.py W)) M s3 lt le so to ag lf na (.fr (.py R)) at' ot) = some (false, qS P (.fr (.py W)) M s3 lt le so to ag lf na (.fr (.py R)) at' ot) := by
    simp [call_pl i1, call_pl i3, h1, h3, h4, c]
  rw [ex_ifs, evT_or, T1, Option.bind_some]
  simp only [Bool.false_eq_true, if_false]
  rw [T2, Option.bind_some]
  rfl
theorem ex_q14 {W O1 O2 O U : List PyData} {p : Int} (i1 : C.io (Str.ofString "named") = false) (c1 : cutP W.reverse (some p) none = O1) (c2 : cutP W.reverse none (some p) = O2) (ad : op2 .add (.py (.tuple O1)) (.py (.tuple O2)) = some (.va (.py (.tuple O)))) (h1 : C.call (Str.ofString "named") [.py (.tuple O)] = some (.py (.tuple U), false, .py .none)) :
    exS C q14 (qS P (.fr (.py (.tuple W))) M s3 lt le so to ag lf na ri (.fr (.py (.int p))) ot) = some (.nx, qS P (.fr (.py (.tuple W))) M s3 lt le so to ag lf na ri (.fr (.py (.int p))) (.fr (.py (.tuple U)))) := by
  simp [rev_tup, sl_tup, c1, c2, ad, call_pl i1, h1]
theorem ex_q15 {W U N : PyData} {P' : D} (i1 : C.io (Str.ofString "normal") = false) (i2 : C.io (Str.ofString "is_word") = false) (i3 : C.io (Str.ofString "_law_letters_right") = true) (h1 : C.call (Str.ofString "normal") [.py U] = some (.py N, false, .py .none)) (h2 : C.call (Str.ofString "normal") [.py W] = some (.py N, false, .py .none))
    (h3 : C.call (Str.ofString "is_word") [.py U] = some (.py (.bool true), false, .py .none)) (h4 : C.call (Str.ofString "_law_letters_right") [P, .py W] = some (.py (.bool true), false, P')) (c : cmp .eq (.py N) (.py N) = some true) :
    exS C q15 (qS P (.fr (.py W)) M s3 lt le so to ag lf na ri at' (.fr (.py U))) = some (.rt (.py (.bool true)) false, qS P' (.fr (.py W)) M s3 lt le so to ag lf na ri at' (.fr (.py U))) := by
  have E1 : evE C (.cm .eq (.cal (Str.ofString "normal") [0] (.cons (.var 13) .nil)) (.cal (Str.ofString "normal") [0] (.cons (.var 1) .nil))) (qS P (.fr (.py W)) M s3 lt le so to ag lf na ri at' (.fr (.py U))) = some (ofB true, qS P (.fr (.py W)) M s3 lt le so to ag lf na ri at' (.fr (.py U))) := by
    simp [call_pl i1, h1, h2, c]
  have ci : cmp .is (.py (.bool true)) (.py (.bool true)) = some true := rfl
  have E2 : evE C (.cm .is (.cal (Str.ofString "is_word") [0] (.cons (.var 13) .nil)) (.lit (.bool true))) (qS P (.fr (.py W)) M s3 lt le so to ag lf na ri at' (.fr (.py U))) = some (ofB true, qS P (.fr (.py W)) M s3 lt le so to ag lf na ri at' (.fr (.py U))) := by
    simp [call_pl i2, h3, ci]
  have A : evs C (.cons (.pk 0) (.cons (.var 1) .nil)) (qS P (.fr (.py W)) M s3 lt le so to ag lf na ri at' (.fr (.py U))) = some ([.pk 0, .va (.py W)], qS P (.fr (.py W)) M s3 lt le so to ag lf na ri at' (.fr (.py U))) := by simp
  have E3 : evE C (.cal (Str.ofString "_law_letters_right") [0, 1] (.cons (.pk 0) (.cons (.var 1) .nil))) (qS P (.fr (.py W)) M s3 lt le so to ag lf na ri at' (.fr (.py U))) = some (.va (.py (.bool true)), qS P' (.fr (.py W)) M s3 lt le so to ag lf na ri at' (.fr (.py U))) := by
    rw [ev_cal, A, Option.bind_some, call_bo (q := (.py (.bool true), false, P')) (r := [.va (.py W)]) (ds := [.py W]) i3 rfl rfl rfl h4]
    rfl
  rw [ex_ret, ev_and, E1, Option.bind_some]
  simp only [rd_ofB, if_true]
  rw [ev_and, E2, Option.bind_some]
  simp only [rd_ofB, if_true]
  rw [E3]
  rfl
end
section
variable {fu n : Nat}
theorem lr_nat {k : Nat} {z : Int} (hk : k ≤ 1000) (hz : z = (k : Int)) : biD .lrange [.py (.int z)] = some (.fe (.py (.list ((List.range k).map iN)))) := by
  subst hz
  show (rngD [.py (.int (k : Int))]).map _ = _
  rw [rng_nat hk]
  rfl
abbrev q1 : Mi.S := (.asg 1 (.cal (Str.ofString "_law_word") [0, 1] (.cons (.pk 0) (.cons (.lit (.int (10))) .nil))))
abbrev q2 : Mi.S := (.asg 2 (.op .fdiv (.bi .len (.cons (.pk 1) .nil)) (.lit (.int (2)))))
abbrev q4 : Mi.S := (.par [5, 6] (.cons (.cal (Str.ofString "_law_named") [0] (.cons (.lc [14, 3] [3] true (.v (.var 1)) (.v (.cm .notin (.pk 3) (.pk 4))) (.var 3)) .nil)) (.cons (.cal (Str.ofString "_law_named") [0] (.cons (.lc [14, 3] [3] true (.v (.var 1)) (.v (.cm .isin (.pk 3) (.pk 4))) (.var 3)) .nil)) .nil)))
abbrev q8 : Mi.S := (.par [9, 10] (.cons (.bi .lrange (.cons (.lit (.int (60))) .nil)) (.cons (.lst .nil) .nil)))
theorem right_body : F__law_right.body = .cons q1 (.cons q2 (.cons q3 (.cons q4 (.cons q5 (.cons q6 (.cons q7 (.cons q8 (.cons (.fr [3] true (.rng (.cons (.pk 2) .nil)) q9b) (.cons q10 (.cons q11 (.cons q12 (.cons q13 (.cons q14 (.cons q15 .nil)))))))))))))) := by rfl
theorem r_right (x y : Int) : ∃ x' y' : Int, run tab fu (n + 8) (Str.ofString "_law_right") [pot x y] = some (.py (.bool true), false, pot x' y') := by
  obtain ⟨W, m, x1, y1, hm, hW, e1⟩ := r_word (fu := fu) (n := n + 5) (most := 10) x y (by omega)
  have h := hW.wd hm
  have hlen := hW.len
  have few := h.few
  have half : W.length / 2 = m := by omega
  rw [run_of lk__law_right rfl]
  show ∃ x' y' : Int, ((exs (tab.ct fu (run tab fu (n + 7))) F__law_right.body (qS (pot x y) .no .no .no .no .no .no .no .no .no .no .no .no .no)).bind _) = _
  rw [right_body]
  have Q1 : exS (tab.ct fu (run tab fu (n + 7))) q1 (qS (pot x y) .no .no .no .no .no .no .no .no .no .no .no .no .no) = some (.nx, qS (pot x1 y1) (.fr (.py (tW W))) .no .no .no .no .no .no .no .no .no .no .no .no) := by
    have A : evs (tab.ct fu (run tab fu (n + 7))) (.cons (.pk 0) (.cons (.lit (.int (10))) .nil)) (qS (pot x y) .no .no .no .no .no .no .no .no .no .no .no .no .no) = some ([.pk 0, .va (.py (.int 10))], qS (pot x y) .no .no .no .no .no .no .no .no .no .no .no .no .no) := by simp
    rw [ex_asg, ev_cal, A, Option.bind_some, call_bo (C := tab.ct fu (run tab fu (n + 7))) (q := (.py (tW W), false, pot x1 y1)) (r := [.va (.py (.int 10))]) (ds := [.py (.int 10)]) (ct_io lk__law_word) rfl rfl rfl (by rw [ct_call]; exact e1)]
    rfl
  rw [exs_step Q1]
  have Q2 : exS (tab.ct fu (run tab fu (n + 7))) q2 (qS (pot x1 y1) (.fr (.py (tW W))) .no .no .no .no .no .no .no .no .no .no .no .no) = some (.nx, qS (pot x1 y1) (.fr (.py (tW W))) (.fr (.py (iN m))) .no .no .no .no .no .no .no .no .no .no .no) := by
    have fd : op2 .fdiv (.py (.int (W.length : Int))) (.py (.int 2)) = some (ofI (m : Int)) := by rw [op_fdiv (by decide) (by decide)]; congr 2; omega
    simp [fd]
  rw [exs_step Q2]
  obtain ⟨x2, y2, lot, lp, lb, ll, Q3⟩ := ex_q3 (fu := fu) (n := n + 6) (W' := .fr (.py (tW W))) (m := m) x1 y1 hm
  rw [exs_step Q3]
  have f1 := lc_lot (C := tab.ct fu (run tab fu (n + 7))) (P := pot x2 y2) (M := .fr (.py (iN m))) (lt' := .no) (W := W) (lot := lot) (o := .notin) (q := fun x => !decide (x ∈ lot)) few (fun x => by rw [cmp_notin, has_nat])
  have f2 := lc_lot (C := tab.ct fu (run tab fu (n + 7))) (P := pot x2 y2) (M := .fr (.py (iN m))) (lt' := .no) (W := W) (lot := lot) (o := .isin) (q := fun x => decide (x ∈ lot)) few (fun x => by rw [cmp_isin, has_nat])
  have fl : ∀ q : Nat → Bool, (W.filter q).length ≤ 1000 := fun q => Nat.le_trans (List.length_filter_le _ _) (by omega)
  have n1 := r_lnamed (fu := fu) (n := n + 6) (W := W.filter fun x => !decide (x ∈ lot)) (fl _) (d := .py (.list ((W.filter fun x => !decide (x ∈ lot)).map iN))) (.inr rfl)
  have n2 := r_lnamed (fu := fu) (n := n + 6) (W := W.filter fun x => decide (x ∈ lot)) (fl _) (d := .py (.list ((W.filter fun x => decide (x ∈ lot)).map iN))) (.inr rfl)
  generalize hU : W.filter (fun x => !decide (x ∈ lot)) = F1 at f1 n1
  generalize hV : W.filter (fun x => decide (x ∈ lot)) = F2 at f2 n2
  have Q4 : exS (tab.ct fu (run tab fu (n + 7))) q4 (qS (pot x2 y2) (.fr (.py (tW W))) (.fr (.py (iN m))) .no (.fr (.py (tW lot))) .no .no .no .no .no .no .no .no .no) = some (.nx, qS (pot x2 y2) (.fr (.py (tW W))) (.fr (.py (iN m))) .no (.fr (.py (tW lot))) (.fr (.py (tW (Nm.nm F1)))) (.fr (.py (tW (Nm.nm F2)))) .no .no .no .no .no .no .no) := by
    rw [ex_par, evs_cons, ev_cal, evs_cons, f1, Option.bind_some, evs_nil]
    simp only [Option.map_some, Option.bind_some]
    rw [call_pl (ct_io lk__law_named)]
    simp only [List.map_cons, List.map_nil, List.getD_cons_zero, vals_cons, vals_nil, val_fe, Option.bind_some, Option.map_some, ct_call, n1, Bool.false_eq_true, if_false]
    rw [evs_cons, ev_cal, evs_cons, f2, Option.bind_some, evs_nil]
    simp only [Option.map_some, Option.bind_some]
    rw [call_pl (ct_io lk__law_named)]
    simp only [List.map_cons, List.map_nil, List.getD_cons_zero, vals_cons, vals_nil, val_fe, Option.bind_some, Option.map_some, ct_call, n2, Bool.false_eq_true, if_false, evs_nil]
    rfl
  rw [exs_step Q4]
  have k1 : (tab.ct fu (run tab fu (n + 7))).call (Str.ofString "is_word") [.py (.tuple (W.map iN))] = some (.py (.bool true), false, .py .none) := by rw [ct_call]; exact r_is_word (n := n + 2) h
  have k2 : (tab.ct fu (run tab fu (n + 7))).call (Str.ofString "letters") [.py (.tuple (W.map iN))] = some (.py (iN m), false, .py .none) := by
    rw [ct_call]
    have z := r_letters (fu := fu) (n := n + 1) (W := W) h
    have e : ((W.length : Int) / 2) = (m : Int) := by omega
    rw [e] at z
    exact z
  have k3 : (tab.ct fu (run tab fu (n + 7))).call (Str.ofString "backward") [.py (.tuple (W.map iN))] = some (.py (tW W.reverse), false, .py .none) := by rw [ct_call]; exact r_backward (n := n + 1) h
  have lb' : ∀ v ∈ lot, v < W.length / 2 := by rw [half]; exact lb
  have k4 : (tab.ct fu (run tab fu (n + 7))).call (Str.ofString "without") [.py (.tuple (W.map iN)), .py (tW lot)] = some (.py (tW (Nm.nm F1)), false, .py .none) := by rw [ct_call, ← hU]; exact r_without (n := n) h lp (by omega) lb'
  have k5 : (tab.ct fu (run tab fu (n + 7))).call (Str.ofString "only") [.py (.tuple (W.map iN)), .py (tW lot)] = some (.py (tW (Nm.nm F2)), false, .py .none) := by rw [ct_call, ← hV]; exact r_only (n := n) h lp (by omega) lb'
  have k6 : (tab.ct fu (run tab fu (n + 7))).call (Str.ofString "normal") [.py (.tuple (W.map iN))] = some (.py (Nm.tI (Nm.norm W)), false, .py .none) := by rw [ct_call]; exact r_normal (n := n + 1) h
  have k7 : (tab.ct fu (run tab fu (n + 7))).call (Str.ofString "_law_normal") [.py (.tuple (W.map iN))] = some (.py (Nm.tI (Nm.norm W)), false, .py .none) := by rw [ct_call]; exact r_lnormal (n := n + 5) few
  rw [exs_step (ev_q5 (C := tab.ct fu (run tab fu (n + 7))) (ct_io lk_is_word) (ct_io lk_letters) (ct_io lk_backward) (ct_io lk_without) (ct_io lk_only) (ct_io lk_normal) k1 k2 k3 k4 k5 k6)]
  rw [exs_step (ev_q6 (C := tab.ct fu (run tab fu (n + 7))) (ct_io lk_is_word) (ct_io lk_letters) (ct_io lk_backward) (ct_io lk_without) (ct_io lk_only) (ct_io lk_normal) k1 k2 k3 k4 k5 k6)]
  have sw : ∀ v ∈ W, v < 100 := fun v hv => h.lt hv
  have nlow : ∀ F : List Nat, F.length ≤ 20 → Sz (tW (Nm.nm F)) 20 1 := fun F hF => sz20 (fun v hv => by
    have z1 := Nm.nm_low hv
    have z2 := Nm.seen_le F
    omega) (by rw [Nm.nm_len]; exact hF)
  have sN := sz_norm few
  have sX := Sz.lst (SzA.cons ((Sz.bool true).mono (Nat.zero_le 20) (Nat.zero_le 1)) (SzA.cons ((Sz.nat (show m < 100 by omega)).mono (Nat.zero_le 20) (Nat.zero_le 1)) (SzA.cons (sz20 (L := W.reverse) (fun v hv => sw v (List.mem_reverse.mp hv)) (by rw [List.length_reverse]; exact few)) (SzA.cons (nlow F1 (by rw [← hU]; exact Nat.le_trans (List.length_filter_le _ _) few)) (SzA.cons (nlow F2 (by rw [← hV]; exact Nat.le_trans (List.length_filter_le _ _) few)) (SzA.cons sN .nil))))))
  have rp7 := repr_lst (Sz.lst (SzA.cons sX (SzA.cons sX .nil))) (by omega) (by omega)
  obtain ⟨u7, u8, Q7⟩ := ev_q7 (C := tab.ct fu (run tab fu (n + 7))) (P := pot x2 y2) (W := W.map iN) (K := iN m) (lot := tW lot) (B := tW W.reverse) (U := tW (Nm.nm F1)) (V := tW (Nm.nm F2)) (N := Nm.tI (Nm.norm W)) (s3 := .no) (lf := .no) (na := .no) (ri := .no) (at' := .no) (ot := .no) (ct_io lk__law_normal) k7 (by rw [← List.map_reverse]) rp7
  rw [exs_step Q7]
  have Q8 : exS (tab.ct fu (run tab fu (n + 7))) q8 (qS (pot x2 y2) (.fr (.py (tW W))) (.fr (.py (iN m))) .no (.fr (.py (tW lot))) (.fr (.py (tW (Nm.nm F1)))) (.fr (.py (tW (Nm.nm F2)))) u7 u8 .no .no .no .no .no) = some (.nx, nS (pot x2 y2) (.fr (.py (tW W))) (.fr (.py (iN m))) .no (.fr (.py (tW lot))) (.fr (.py (tW (Nm.nm F1)))) (.fr (.py (tW (Nm.nm F2)))) u7 u8 (List.range 60) [] .no .no .no) := by
    have lr : biD .lrange [.py (.int 60)] = some (.fe (.py (.list ((List.range 60).map iN)))) := by
      exact lr_nat (k := 60) (by omega) rfl
    generalize (List.range 60) = R60 at lr ⊢
    simp [lr]
  rw [exs_step Q8]
  obtain ⟨x3, y3, s3', L, G, hc3, hG, hp, Q9⟩ := ex_q9 (fu := fu) (n := n + 6) (W := .fr (.py (tW W))) (m := m) (s3 := .no) (lt := .fr (.py (tW lot))) (le := .fr (.py (tW (Nm.nm F1)))) (so := .fr (.py (tW (Nm.nm F2)))) (to := u7) (ag := u8) (ri := .no) (at' := .no) (ot := .no) x2 y2 hm rfl
  rw [exs_step Q9]
  have Glen : (G.map (· * 1000000000)).length = m := by rw [List.length_map]; exact hG
  have lowm : ∀ x ∈ W, x < m := fun x hx => by have := h.low x hx; omega
  rw [exs_step (ex_q10 (C := tab.ct fu (run tab fu (n + 7))) (G := G.map (· * 1000000000)) few (fun x hx => by rw [Glen]; exact lowm x hx) hc3)]
  have nd : G.Nodup := (List.nodup_append.mp ((hp.nodup_iff).mpr List.nodup_range)).1
  have inj : ∀ a ∈ W, ∀ b ∈ W, (G.map (· * 1000000000)).getD a 0 = (G.map (· * 1000000000)).getD b 0 → a = b := fun a ha b hb e => by
    have la := lowm a ha
    have lb2 := lowm b hb
    rw [List.getD_eq_getElem?_getD, List.getD_eq_getElem?_getD, List.getElem?_eq_getElem (by rw [Glen]; exact la), List.getElem?_eq_getElem (by rw [Glen]; exact lb2)] at e
    simp only [Option.getD_some, List.getElem_map] at e
    have e' : G[a]'(by omega) = G[b]'(by omega) := by omega
    have i1 := List.Nodup.idxOf_getElem nd a (by omega)
    have i2 := List.Nodup.idxOf_getElem nd b (by omega)
    exact i1.symm.trans ((congrArg (fun z => List.idxOf z G) e').trans i2)
  have nmR := Nm.nm_map (g := fun x => (G.map (· * 1000000000)).getD x 0) W inj
  have cnt : ∀ v ∈ (W.map fun x => (G.map (· * 1000000000)).getD x 0), (W.map fun x => (G.map (· * 1000000000)).getD x 0).count v = 2 := fun v hv => by
    obtain ⟨a, ha, rfl⟩ := List.mem_map.mp hv
    rw [count_map (g := fun x => (G.map (· * 1000000000)).getD x 0) W a fun b hb e => inj b hb a ha e]
    exact h.two a (h.low a ha)
  have m1 : (tab.ct fu (run tab fu (n + 7))).call (Str.ofString "named") [.py (tW (W.map fun x => (G.map (· * 1000000000)).getD x 0))] = some (.py (tW (Nm.nm W)), false, .py .none) := by
    rw [ct_call]
    have z := r_named (fu := fu) (n := n + 2) (R := W.map fun x => (G.map (· * 1000000000)).getD x 0) cnt (by rw [List.length_map]; exact few)
    rw [nmR] at z
    exact z
  generalize (W.map fun x => (G.map (· * 1000000000)).getD x 0) = R at m1
  have m2 : (tab.ct fu (run tab fu (n + 7))).call (Str.ofString "_law_named") [.py (tW W)] = some (.py (tW (Nm.nm W)), false, .py .none) := by rw [ct_call]; exact r_lnamed (n := n + 6) (by omega) (.inl rfl)
  have m3 : (tab.ct fu (run tab fu (n + 7))).call (Str.ofString "normal") [.py (tW (Nm.nm W))] = some (.py (Nm.tI (Nm.norm W)), false, .py .none) := by
    rw [ct_call]
    have z := r_normal (fu := fu) (n := n + 1) h.nm
    rw [Nm.norm_nm] at z
    exact z
  have rpU := repr_lst (Sz.lst (SzA.cons (nlow W few) (SzA.cons (nlow W few) .nil))) (by omega) (by omega)
  rw [exs_step (ex_q11 (C := tab.ct fu (run tab fu (n + 7))) (ct_io lk_named) (ct_io lk__law_named) (ct_io lk_normal) m1 m2 m3 k6 (cmp_norm few).1 rpU)]
  have T12 : ∀ st : En, st[2]? = some (.fr (.py (iN m))) → evT (tab.ct fu (run tab fu (n + 7))) (.v (.cm .eq (.pk 2) (.lit (.int (0))))) st = some (decide ((m : Int) = 0), st) := fun st hst => by simp [hst]
  by_cases hz : m = 0
  · refine ⟨x3, y3, ?_⟩
    rw [exs_cons, ex_ifs, T12 _ rfl, Option.bind_some]
    simp only [decide_eq_true (show (m : Int) = 0 by omega), if_true]
    simp only [exs_cons, ex_ret, ev_lit, Option.bind_some, ret_va, Option.map_some]
    rfl
  · have Q12 : exS (tab.ct fu (run tab fu (n + 7))) q12 (qS (pot x3 y3) (.fr (.py (tW W))) (.fr (.py (iN m))) s3' (.fr (.py (tW lot))) (.fr (.py (tW (Nm.nm F1)))) (.fr (.py (tW (Nm.nm F2)))) u7 u8 (.ow (.py (.list (L.map iN)))) (.ow (.py (.list ((G.map (· * 1000000000)).map iN)))) (.fr (.py (tW R))) .no .no) = some (.nx, qS (pot x3 y3) (.fr (.py (tW W))) (.fr (.py (iN m))) s3' (.fr (.py (tW lot))) (.fr (.py (tW (Nm.nm F1)))) (.fr (.py (tW (Nm.nm F2)))) u7 u8 (.ow (.py (.list (L.map iN)))) (.ow (.py (.list ((G.map (· * 1000000000)).map iN)))) (.fr (.py (tW R))) .no .no) := by
      rw [ex_ifs, T12 _ rfl, Option.bind_some]
      simp only [decide_eq_false (show ¬ (m : Int) = 0 by omega), Bool.false_eq_true, if_false]
      rfl
    rw [exs_step Q12]
    obtain ⟨p, x4, y4, hp4, e4⟩ := ev_drw (fu := fu) (n := n + 6) (st := qS (pot x3 y3) (.fr (.py (tW W))) (.fr (.py (iN m))) s3' (.fr (.py (tW lot))) (.fr (.py (tW (Nm.nm F1)))) (.fr (.py (tW (Nm.nm F2)))) u7 u8 (.ow (.py (.list (L.map iN)))) (.ow (.py (.list ((G.map (· * 1000000000)).map iN)))) (.fr (.py (tW R))) .no .no) (i := 0) (m := W.length) (e := .bi .len (.cons (.pk 1) .nil)) (o := ofI (W.length : Int)) x3 y3 rfl (by simp) rfl (by omega) (by omega)
    have Q13 : exS (tab.ct fu (run tab fu (n + 7))) q13 (qS (pot x3 y3) (.fr (.py (tW W))) (.fr (.py (iN m))) s3' (.fr (.py (tW lot))) (.fr (.py (tW (Nm.nm F1)))) (.fr (.py (tW (Nm.nm F2)))) u7 u8 (.ow (.py (.list (L.map iN)))) (.ow (.py (.list ((G.map (· * 1000000000)).map iN)))) (.fr (.py (tW R))) .no .no) = some (.nx, qS (pot x4 y4) (.fr (.py (tW W))) (.fr (.py (iN m))) s3' (.fr (.py (tW lot))) (.fr (.py (tW (Nm.nm F1)))) (.fr (.py (tW (Nm.nm F2)))) u7 u8 (.ow (.py (.list (L.map iN)))) (.ow (.py (.list ((G.map (· * 1000000000)).map iN)))) (.fr (.py (tW R))) (.fr (.py (.int (p : Int)))) .no) := by
      rw [ex_asg, e4]
      rfl
    rw [exs_step Q13]
    have hv := (h.rev.trn (k := p))
    have vl : (Nm.trn W.reverse p).length = W.length := by rw [Nm.trn_len, List.length_reverse]
    have hcnt : ∀ v ∈ Nm.trn W.reverse p, (Nm.trn W.reverse p).count v = 2 := fun v hv' => hv.two v (hv.low v hv')
    have m5 : (tab.ct fu (run tab fu (n + 7))).call (Str.ofString "named") [.py (.tuple ((Nm.trn W.reverse p).map iN))] = some (.py (.tuple ((Nm.nm (Nm.trn W.reverse p)).map iN)), false, .py .none) := by
      rw [ct_call]
      exact r_named (n := n + 2) hcnt hv.few
    have ad := add_tup (xs := (W.reverse.map iN).drop p) (ys := (W.reverse.map iN).take p) (by simp; omega)
    rw [tW_trn] at ad
    have rv : (W.map iN).reverse = W.reverse.map iN := by rw [List.map_reverse]
    rw [exs_step (ex_q14 (C := tab.ct fu (run tab fu (n + 7))) (p := (p : Int)) (ct_io lk_named) (by rw [rv]; exact cut_from rfl (by simp; omega)) (by rw [rv]; exact cut_to rfl (by simp; omega)) ad m5)]
    have k8 : (tab.ct fu (run tab fu (n + 7))).call (Str.ofString "normal") [.py (.tuple ((Nm.nm (Nm.trn W.reverse p)).map iN))] = some (.py (Nm.tI (Nm.norm W)), false, .py .none) := by
      rw [ct_call]
      have z := r_normal (fu := fu) (n := n + 1) hv.nm
      rw [Nm.norm_nm, Nm.norm_rot (W := W) (V := Nm.trn W.reverse p) (.inr ⟨p, by rw [List.length_reverse]; omega, rfl⟩)] at z
      exact z
    have k9 : (tab.ct fu (run tab fu (n + 7))).call (Str.ofString "is_word") [.py (.tuple ((Nm.nm (Nm.trn W.reverse p)).map iN))] = some (.py (.bool true), false, .py .none) := by rw [ct_call]; exact r_is_word (n := n + 2) hv.nm
    obtain ⟨x5, y5, lr⟩ := r_letters_right (fu := fu) (n := n) (W := W) x4 y4 h (by omega)
    have Q15 := ex_q15 (C := tab.ct fu (run tab fu (n + 7))) (P := pot x4 y4) (P' := pot x5 y5) (M := .fr (.py (iN m))) (s3 := s3') (lt := .fr (.py (tW lot))) (le := .fr (.py (tW (Nm.nm F1)))) (so := .fr (.py (tW (Nm.nm F2)))) (to := u7) (ag := u8) (lf := .ow (.py (.list (L.map iN)))) (na := .ow (.py (.list ((G.map (· * 1000000000)).map iN)))) (ri := .fr (.py (tW R))) (at' := .fr (.py (.int (p : Int)))) (W := tW W) (ct_io lk_normal) (ct_io lk_is_word) (ct_io lk__law_letters_right) k8 k6 k9 (by rw [ct_call]; exact lr) (cmp_norm few).2
    refine ⟨x5, y5, ?_⟩
    rw [exs_cons, Q15]
    rfl
end
end K10
end
section
namespace K10
open PySem Mi
section
variable {fu n : Nat}
abbrev wT : Ss := (.cons (.ifs (.nt (.v (.cal (Str.ofString "_law_right") [0] (.cons (.pk 1) .nil)))) (.cons (.ret (.lit (.bool false))) .nil) .nil) .nil)
theorem r_law {ns : List Int} : run tab fu (n + 9) (Str.ofString "law") [.scr ns] = some (.py (.bool true), false, .py .none) := by
  obtain ⟨x0, y0, p0⟩ := r_pot (fu := fu) (n := n + 7) (ns := ns) (k := 0)
  have p0' : run tab fu (n + 8) (Str.ofString "_law_pot") [.scr ns, .py (.int 0)] = some (pot x0 y0, true, .py .none) := p0
  have S1 : exS (tab.ct fu (run tab fu (n + 8))) (.asg 1 (.cal (Str.ofString "_law_pot") [0, 1] (.cons (.var 0) (.cons (.lit (.int (0))) .nil)))) [.fr (.scr ns), .no, .no] = some (.nx, [.fr (.scr ns), .ow (pot x0 y0), .no]) := by
    simp [call_pl (ct_io lk__law_pot), p0']
  obtain ⟨s', e, x', y', u, rfl⟩ := frL_J (f := fun q s => (bindT [2] true q s).bind (exs (tab.ct fu (run tab fu (n + 8))) wT)) (fun _ s => ∃ (x' y' : Int) (u : Sl), s = [.fr (.scr ns), .ow (pot x' y'), u]) ((List.range 5).map iN) 0 [.fr (.scr ns), .ow (pot x0 y0), .no] ⟨x0, y0, .no, rfl⟩ (by
    rintro j q s hq ⟨x', y', u, rfl⟩
    obtain ⟨x2, y2, e2⟩ := r_right (fu := fu) (n := n) x' y'
    refine ⟨[.fr (.scr ns), .ow (pot x2 y2), .fr (.py q)], .nx, ?_, .inl rfl, x2, y2, .fr (.py q), rfl⟩
    rw [bind_one, Option.bind_some]
    show exs (tab.ct fu (run tab fu (n + 8))) wT [.fr (.scr ns), .ow (pot x' y'), .fr (.py q)] = _
    have A : evs (tab.ct fu (run tab fu (n + 8))) (.cons (.pk 1) .nil) [.fr (.scr ns), .ow (pot x' y'), .fr (.py q)] = some ([.pk 1], [.fr (.scr ns), .ow (pot x' y'), .fr (.py q)]) := by simp
    have E : evE (tab.ct fu (run tab fu (n + 8))) (.cal (Str.ofString "_law_right") [0] (.cons (.pk 1) .nil)) [.fr (.scr ns), .ow (pot x' y'), .fr (.py q)] = some (.va (.py (.bool true)), [.fr (.scr ns), .ow (pot x2 y2), .fr (.py q)]) := by
      rw [ev_cal, A, Option.bind_some, call_ow (C := tab.ct fu (run tab fu (n + 8))) (q := (.py (.bool true), false, pot x2 y2)) (r := []) (ds := []) (ct_io lk__law_right) rfl rfl rfl (by rw [ct_call]; exact e2)]
      rfl
    rw [exs_cons, ex_ifs, evT_nt, evT_v, E]
    rfl)
  rw [run_of lk_law rfl]
  show ((exs (tab.ct fu (run tab fu (n + 8))) F_law.body [.fr (.scr ns), .no, .no]).bind _) = _
  have S2 : exS (tab.ct fu (run tab fu (n + 8))) (.fr [2] true (.rng (.cons (.lit (.int (5))) .nil)) wT) [.fr (.scr ns), .ow (pot x0 y0), .no] = some (.nx, [.fr (.scr ns), .ow (pot x' y'), u]) := by
    have rg' : rngD [.py (.int 5)] = some ((List.range 5).map iN) := rng_nat (k := 5) (by omega)
    have I : evI (tab.ct fu (run tab fu (n + 8))) (.rng (.cons (.lit (.int (5))) .nil)) [.fr (.scr ns), .ow (pot x0 y0), .no] = some ((List.range 5).map iN, [.fr (.scr ns), .ow (pot x0 y0), .no]) := by
      simp only [evI_rng, evs_cons, evs_nil, ev_lit, Option.bind_some, Option.map_some, rds_cons, rds_nil, rd_va, rg']
    rw [ex_fr, I, Option.bind_some]
    exact e
  rw [show F_law.body = .cons _ (.cons (.fr [2] true (.rng (.cons (.lit (.int (5))) .nil)) wT) (.cons (.ret (.lit (.bool true))) .nil)) from rfl, exs_step S1, exs_step S2]
  simp
  rfl
end
end K10
theorem law10 (ns : List Int) (h : ns.length ≤ 63) : ∃ b fin, Mi.run (Mi.tabOf (Mi.dfsOf K10.lw.prog.main.body) (Mi.glosOf [] K10.lw.prog.main.body) (Mi.blOf K10.lw.prog.main.body) 60) 100000 40 "law" [.scr ns] = some (.py (.bool true), b, fin) := by
  rw [K10.tab_eq]
  exact ⟨false, .py .none, K10.r_law (n := 31)⟩
end
section
namespace K10
open PySem PySem.Spec PyProof.Rows L2
def ds : List Mi.Df := Mi.dfsOf lw.prog.main.body
def gl : List (Str × PyData) := Mi.glosOf [] lw.prog.main.body
def bl : List Str := Mi.blOf lw.prog.main.body
def fn : List He.DefD := ds.map Mi.Df.he
def fa : List He.Fa := Mi.fasOf ds bl
abbrev R : PySem.W.OpenRow := PySem.W.OpenLaw.row lw
def lastI : Nat := lw.prog.main.body.length - 1
abbrev hk : PySem.W.Hook := Mi.hookM 4 fa fn gl
def ob (s : PySem.W.SharedT) : Bool × He.AlD := Mi.obsMG 4 fa fn gl (HandSHeadRun.getT s)
theorem ob_eq (s : PySem.W.SharedT) : ob s = hk.obs s.abs := Mi.obsMG_eq (HandSHeadRun.getT_eq s)
def loose : List Str := Mi.defNames (lw.prog.main.body.take lastI)
theorem run (w : World) : HandSHeadRun.RunEq R (PySem.W.view R.prog [lastI]) hk ob 4000 loose w := by
  intro os
  kernel_rfl
theorem ok : ds.all Mi.Df.okB = true := by kernel_rfl
end K10
open PySem PySem.W PySem.Calls PyProof.Rows
theorem PySem.Challenge.cw_passedtwice_k10_whole_words_read_otherwi_holds : PySem.Challenge.rw_passedtwice_k10_whole_words_read_otherwi.Holds := by
  w_on; o_law
  refine HandSHeadRun.head_any (r := OpenLaw.row K10.lw) (q := view (OpenLaw.row K10.lw).prog [K10.lastI]) (H := K10.hk) (ob := K10.ob) (M := 4000) (loose := K10.loose) (d := HandSHeadRun.topDef (OpenLaw.row K10.lw).prog K10.lastI) (kwd := []) K10.ob_eq
    (by kernel_rfl) (fun s => by kernel_rfl) K10.run (by kernel_rfl) (by kernel_rfl) (by kernel_rfl) (by rfl) (by first | assumption | decide +kernel) (by decide +kernel) ⟨rfl, rfl, rfl, rfl, rfl, by decide +kernel⟩ ?hw ?hc
  case hw => w_witness2
  case hc =>
    have hnm : (HandSHeadRun.topDef (OpenLaw.row K10.lw).prog K10.lastI).name = ("law" : PySem.Str) := by kernel_rfl
    refine Mi.law_of (l := K10.lw) (n := 63) (k := 40) (lev := 4) (x := "script") (ds := K10.ds) (gl := K10.gl) (bl := K10.bl) (fuel := 100000) (m := 60) (dl := (K10.ds.find? fun y => ("law" : PySem.Str) == y.x).getD ⟨"", [], [], default, [], false⟩) rfl (by decide) (by kernel_rfl) ⟨rfl, by decide, by decide⟩ (by rw [hnm]; kernel_rfl) (by kernel_rfl) (by kernel_rfl) K10.ok ?_
    rw [hnm]
    exact law10
end
