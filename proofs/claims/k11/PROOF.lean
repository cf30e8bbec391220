import PyProof.Rows.All
import Wide.All
import OpenK.AllK
import Wide.FinOn
import HandS.ForMost
import KE.KDictKeyed
import KE.DatumOrd
import KE.SortData
import KE.KTupSum
import HandS.NoneIn
import HandS.TupLen
import HandS.Deep
import HandS.TupAny
import HandS.TupMul
import HandS.Wide
import HandS.IsInst
import HandS.Flow
import HandS.SortKw
import HandS.Codes
import HandS.ForExc
import HandS.CallSlots
import HandS.Property
import HandS.Zip
import HandS.RevRange
import KE.GoesEnum
import HandS.Iter
import KE.KDictWalk
import KE.KDictDisplayH
import KE.KDictCopyH
import HandS.DictComp
import KE.KDictItemsList
import HandS.ListItems
import HandS.Conv
import KE.KDictPairs
import KE.GoesRev
import HandS.Style
import HandS.TryMany
import HandS.Defaults
import HandS.HeadHook4
import KE.KStateDown
import HandS.Head0
import HandS.Head1
import HandS.Head2
import HandS.HeadEnd
import HandS.HeadHook1
import HandS.HeadHook2
import PySem.Challenge.RW_carpooldebts_k11_whole_debts_settled
set_option Elab.async false
set_option linter.all false
set_option maxRecDepth 100000
set_option maxHeartbeats 0
/-! EvA: the small syntax, deep values, the evaluator. -/
namespace Ev
open PySem L2

/-- deep values: what Python's data is, without addresses -/
inductive D where
  | non | bl (b : Bool) | int (i : Int) | str (x : Str)
  | tup (xs : List D) | lst (xs : List D) | dic (kvs : List (NestedKey × D)) | ins (c : Str) (fs : List (Str × D))
/-- a field of an owned instance: a value, or a list of its own -/
inductive FV where
  | v (d : D) | l (xs : List D)
/-- an object that one slot owns -/
inductive Ob where
  | lst (xs : List D) | dic (kvs : List (NestedKey × D)) | ins (c : Str) (fs : List (Str × FV)) | rng (s : Int) (cs : List Int) (k : Int) | scr (ns : List Int)
inductive Cell where
  | val (d : D) | own (o : Ob) | par (o : Ob) | exc (c : Str) (fs : List (Str × D))
abbrev Fr := List (Option Cell)
/-- what an expression gives: a value, a new object that nobody else holds, a slot's object -/
inductive R where
  | val (d : D) | tmp (o : Ob) | bor (i : Nat)
inductive RC where
  | val (d : D) | own (o : Ob)
inductive Out (α : Type) where
  | ok (a : α) (S : Fr) | exc (c : Str) (fs : List (Str × D)) (S : Fr) | bad
inductive Fl where
  | nx (S : Fr) | brk (S : Fr) | cnt (S : Fr) | ret (r : RC) (S : Fr) | exc (c : Str) (fs : List (Str × D)) (S : Fr) | bad
inductive FnRes where
  | ok (r : RC) (outs : List Ob) | exc (c : Str) (fs : List (Str × D)) (outs : List Ob) | bad
abbrev Calls := Str → List Cell → FnRes

@[reducible] def Out.bind {α β : Type} (x : Out α) (f : α → Fr → Out β) : Out β := match x with
  | .ok a S => f a S
  | .exc c fs S => .exc c fs S
  | .bad => .bad

inductive BOp where
  | add | sub | mul | fdiv | mod | pow | shl | shr | band
inductive COp where
  | eq | ne | lt | le | gt | ge | isin | notin | is | isnot
inductive BI where
  | abs | int | len | list | tuple | max | min | sum | sorted | str
inductive Tg where
  | one (i : Nat) | many (is : List Nat)

mutual
inductive E where
  | var (i : Nat) | ref (i : Nat) | con (d : D) | glo (x : Str)
  | tup (es : Es) | lst (es : Es)
  | bin (op : BOp) (a b : E) | neg (a : E) | not (a : E)
  | cmp (op : COp) (a b : E) | chain (p q : COp) (a b c : E)
  | and (es : Es) | or (es : Es) | ite (c : T) (a b : E)
  | call (f : Str) (es : Es) | new (c : Str) (es : Es) | prop (c p : Str) (a : E) | fld (c : Str) (a : E) (f : Str)
  | bi (b : BI) (es : Es) | isi (a : E) (c : Str)
  | sub (a b : E) | sli (a : E) (lo hi : Oe)
  | lc (elt : E) (tg : Tg) (it : It) (c : Ot)
  | lc2 (elt : E) (tg : Tg) (it : It) (tg1 : Tg) (it1 : It)
  | minN (es : Es) | itl (o : E) | pick (fs : List Str) (i : E) | tupR (a : E) | idx (o a : E) | dicL (a : E) | hold (i : Nat) (a : E) | dic0 | dic1 (k v : E) | get (o k x : E) | dc (k v : E) (tg : Tg) (it : It)
inductive T where
  | e (a : E) | inR (neg : Bool) (a b : E) | cmp (op : COp) (a b : E) | chain (p q : COp) (a b c : E) | not (t : T) | and (ts : Ts) | or (ts : Ts)
inductive Es where
  | nil | cons (e : E) (es : Es)
inductive Ts where
  | nil | cons (t : T) (ts : Ts)
inductive Oe where
  | none | some (e : E)
inductive Ot where
  | none | some (t : T)
inductive It where
  | seq (e : E) | rng (es : Es) | enm (es : Es) | zip (es : Es) | rev (e : E)
end
mutual
inductive St where
  | asg (fz : Bool) (i : Nat) (e : E) | unp (is : List Nat) (e : E) | par (zs : List Bool) (is : List Nat) (es : Es)
  | app (i : Nat) (e : E) | six (i : Nat) (k e : E) | del (i : Nat) (k : E)
  | atr (c : Str) (i : Nat) (f : Str) (e : E) | aug (op : BOp) (i : Nat) (e : E)
  | ife (c : T) (a b : Ss) | whl (n : Nat) (c : T) (kl : List Nat) (b : Ss) | fr (tg : Tg) (it : It) (kl : List Nat) (b : Ss)
  | ret (fz : Bool) (e : E) | retN | rse (c : Str) (fs : List Str) (es : Es) | tr (ok : List Str) (b : Ss) (hs : List (Str × D)) | exp (e : E) | pas | brk | kill (is : List Nat)
inductive Ss where
  | nil | cons (s : St) (ss : Ss)
end

/-! ### slots -/
def getC (S : Fr) (i : Nat) : Option Cell := match S[i]? with
  | some c => c
  | none => none
def setC (S : Fr) (i : Nat) (c : Option Cell) : Fr := S.set i c
/-- a slot forgotten (what came by reference stays) -/
def kill1 (S : Fr) (i : Nat) : Fr := match getC S i with
  | some (.par _) => S
  | _ => setC S i none
def killS (S : Fr) : List Nat → Fr
  | [] => S
  | i :: is => killS (kill1 S i) is
/-- a slot stored (not one that came by reference) -/
def putC (S : Fr) (i : Nat) (c : Cell) : Option Fr := match getC S i with
  | some (.par _) => none
  | _ => some (setC S i (some c))
/-- a slot's own object, however it came -/
def getO (S : Fr) (i : Nat) : Option Ob := match getC S i with
  | some (.own o) => some o
  | some (.par o) => some o
  | _ => none
def putO (S : Fr) (i : Nat) (o : Ob) : Fr := match getC S i with
  | some (.par _) => setC S i (some (.par o))
  | _ => setC S i (some (.own o))

def fvOf : FV → Option D
  | .v d => some d
  | .l _ => none
def fvsOf : List (Str × FV) → Option (List (Str × D))
  | [] => some []
  | (f, .v d) :: r => (fvsOf r).map ((f, d) :: ·)
  | (_, .l _) :: _ => none
/-- an object as a value, where it can be one -/
def obFz : Ob → Option D
  | .lst xs => some (.lst xs)
  | .dic kvs => some (.dic kvs)
  | .ins c fs => (fvsOf fs).map (.ins c ·)
  | .rng _ _ _ => none
  | .scr _ => none
/-- what a result reads as -/
def cont (S : Fr) : R → Option D
  | .val d => some d
  | .tmp o => obFz o
  | .bor i => (getO S i).bind obFz
/-- a slot's object made a value for good -/
def frz (S : Fr) (i : Nat) : Out D := match getC S i with
  | some (.val d) => .ok d S
  | some (.own o) => (match obFz o with
    | some d => .ok d (setC S i (some (.val d)))
    | none => .bad)
  | _ => .bad
def esc (r : R) (S : Fr) : Out D := match r with
  | .val d => .ok d S
  | .tmp o => (match obFz o with
    | some d => .ok d S
    | none => .bad)
  | .bor i => frz S i

/-! ### operators -/
def asInt : D → Option Int
  | .int i => some i
  | _ => none
def asInts : List D → Option (List Int)
  | [] => some []
  | .int i :: r => (asInts r).map (i :: ·)
  | _ :: _ => none
mutual
def toPD : D → Option PyData
  | .non => some .none
  | .bl b => some (.bool b)
  | .int i => some (.int i)
  | .str x => some (.str x)
  | .tup xs => (toPDs xs).map .tuple
  | .lst xs => (toPDs xs).map .list
  | .dic _ => none
  | .ins _ _ => none
def toPDs : List D → Option (List PyData)
  | [] => some []
  | d :: r => match toPD d, toPDs r with
    | some p, some ps => some (p :: ps)
    | _, _ => none
end
def pyEq (a b : D) : Option Bool := match toPD a, toPD b with
  | some p, some q => if SeqAt.shaped p && SeqAt.shaped q then some (PyData.eqv p q) else none
  | _, _ => none
/-- order of alike data -/
def pyLt (a b : D) : Option Bool := match toPD a, toPD b with
  | some p, some q => if SeqAt.shaped p && SeqAt.shaped q && PySem.W.alike p q then some (PySem.W.dataLt p q) else none
  | _, _ => none
/-- data told, to be compared -/
def encP (d : D) : PyData := (toPD d).getD .none
def ltB (a b : D) : Bool := PySem.W.dataLt (encP a) (encP b)
def minF (x : D) (xs : List D) : D := xs.foldl (fun a y => if ltB y a then y else a) x
def isTup : D → Bool
  | .tup _ => true
  | _ => false
def neTup : D → Bool
  | .tup (_ :: _) => true
  | _ => false
/-- tuples that can be compared, each with each -/
def cmpAll (ds : List D) : Bool := ds.all isTup && (match toPDs ds with
  | some ps => PyData.canLayAll0 ps && decide (PyData.depthAll ps ≤ 60) && ps.all fun p => ps.all fun q => PySem.W.alike p q
  | none => false)
def minLD : List D → Option D
  | [] => none
  | x :: xs => if cmpAll (x :: xs) then some (minF x xs) else none
/-- min(xs, default=None) -/
def minNR : List D → Option D
  | [.lst []] => some .non
  | [.lst (y :: ys)] => minLD (y :: ys)
  | _ => none
def leB : D → D → Bool := PySem.W.dataLe false encP
def isIntD : D → Bool
  | .int _ => true
  | _ => false
def sortD (ds : List D) : Option (List D) := if ((cmpAll ds && ds.all neTup) || ds.all isIntD) && decide (ds.length ≤ sizeLine) then some (ds.mergeSort leB) else none
def pyIn (a : D) (xs : List D) : Option Bool := match toPD a, toPDs xs with
  | some p, some qs => if SeqAt.shaped p && SeqAt.shaped (.list qs) then some (qs.any fun z => PyData.eqv z p) else none
  | _, _ => none
mutual
def toKey : D → Option NestedKey
  | .non => some .none
  | .int i => some (.num i)
  | .str x => some (.text x)
  | .tup xs => (toKeys xs).map .tup
  | _ => none
def toKeys : List D → Option (List NestedKey)
  | [] => some []
  | d :: r => match toKey d, toKeys r with
    | some p, some ps => some (p :: ps)
    | _, _ => none
end
mutual
def ofKey : NestedKey → D
  | .none => .non
  | .num i => .int i
  | .text x => .str x
  | .tup ks => .tup (ofKeys ks)
def ofKeys : List NestedKey → List D
  | [] => []
  | k :: r => ofKey k :: ofKeys r
end

/-- a tuple as a key of a dict -/
def kOf (ks : List D) : Option (List NestedKey) := (toKeys ks).bind fun k => if (NestedKey.tup k).depth ≤ 8 then some k else none
def lineOk (n : Nat) : Bool := decide (n ≤ sizeLine)
/-- below 2 ^ 128 -/
def wideI (i : Int) : Bool := decide (-(2 ^ 128) < i) && decide (i < 2 ^ 128)
/-- i in range(n), or not -/
def inRg (neg : Bool) (i n : Int) : Bool := if neg then !(decide (0 ≤ i) && decide (i < n)) else decide (0 ≤ i) && decide (i < n)
def smallI (i : Int) : Bool := decide (-(2 ^ 64) < i) && decide (i < 2 ^ 64)
def binD : BOp → D → D → Option R
  | .add, .int i, .int j => some (.val (.int (i + j)))
  | .add, .str x, .str y => if lineOk (x.length + y.length) then some (.val (.str (x ++ y))) else none
  | .add, .tup xs, .tup ys => if lineOk (xs.length + ys.length) then some (.val (.tup (xs ++ ys))) else none
  | .add, .lst xs, .lst ys => if lineOk (xs.length + ys.length) then some (.tmp (.lst (xs ++ ys))) else none
  | .sub, .int i, .int j => some (.val (.int (i - j)))
  | .mul, .int i, .int j => if smallI i || smallI j || (wideI i && wideI j) then some (.val (.int (i * j))) else none
  | .mul, .tup xs, .int k => if decide (1 ≤ k) && decide (k ≤ 1000) && decide (xs.length ≤ 1000) && !xs.isEmpty then some (.val (.tup (List.replicate k.toNat xs).flatten)) else if decide (k = 0) && !xs.isEmpty then some (.val (.tup [])) else none
  | .mul, .lst xs, .int k => if decide (0 ≤ k) && decide (k ≤ 1000) && lineOk (xs.length * k.toNat) then some (.tmp (.lst (List.replicate k.toNat xs).flatten)) else none
  | .fdiv, .int i, .int j => if decide (0 < j) && decide (j < 2 ^ 128) then some (.val (.int (i / j))) else none
  | .mod, .int i, .int j => if decide (0 < j) then some (.val (.int (i % j))) else none
  | .pow, .int i, .int j => if decide (0 ≤ j) && decide (j ≤ 1000) && smallI i then some (.val (.int (i ^ j.toNat))) else none
  | .shl, .int i, .int j => if decide (0 ≤ j) && decide (j ≤ 1000) && smallI i then some (.val (.int (i * 2 ^ j.toNat))) else none
  | .shr, .int i, .int j => if decide (0 ≤ j) then some (.val (.int (i / 2 ^ j.toNat))) else none
  | .band, .int i, .int j => some (.val (.int (Builtin.bitAnd i j)))
  | _, _, _ => none
def negD : D → Option R
  | .int i => some (.val (.int (-i)))
  | _ => none
def isNon : D → Bool
  | .non => true
  | _ => false
def hasKey (kvs : List (NestedKey × D)) (k : NestedKey) : Bool := kvs.any fun p => decide (p.1 = k)
def cmpD : COp → D → D → Option Bool
  | .eq, .dic kvs, .dic [] => some kvs.isEmpty
  | .eq, a, b => pyEq a b
  | .ne, a, b => (pyEq a b).map (!·)
  | .lt, .int i, .int j => some (decide (i < j))
  | .le, .int i, .int j => some (decide (i ≤ j))
  | .gt, .int i, .int j => some (decide (j < i))
  | .ge, .int i, .int j => some (decide (j ≤ i))
  | .lt, .tup xs, .tup ys => pyLt (.tup xs) (.tup ys)
  | .ge, .tup xs, .tup ys => (pyLt (.tup xs) (.tup ys)).map (!·)
  | .isin, a, .lst xs => pyIn a xs
  | .isin, a, .tup xs => pyIn a xs
  | .notin, a, .lst xs => (pyIn a xs).map (!·)
  | .notin, a, .tup xs => (pyIn a xs).map (!·)
  | .isin, .tup ks, .dic kvs => (kOf ks).map fun k => hasKey kvs (.tup k)
  | .notin, .tup ks, .dic kvs => (kOf ks).map fun k => !hasKey kvs (.tup k)
  | .is, a, .non => some (isNon a)
  | .isnot, a, .non => some (!isNon a)
  | _, _, _ => none
def intCmp : COp → Int → Int → Option Bool
  | .lt, i, j => some (decide (i < j))
  | .le, i, j => some (decide (i ≤ j))
  | .gt, i, j => some (decide (j < i))
  | .ge, i, j => some (decide (j ≤ i))
  | _, _, _ => none
def maxL : Int → List Int → Int
  | m, [] => m
  | m, x :: r => maxL (if m < x then x else m) r
def minL : Int → List Int → Int
  | m, [] => m
  | m, x :: r => minL (if x < m then x else m) r
def biD : BI → List D → Option R
  | .abs, [.int i] => some (.val (.int (if i < 0 then -i else i)))
  | .int, [.int i] => some (.val (.int i))
  | .int, [.bl b] => some (.val (.int (if b then 1 else 0)))
  | .len, [.lst xs] => some (.val (.int xs.length))
  | .len, [.tup xs] => some (.val (.int xs.length))
  | .len, [.dic kvs] => some (.val (.int kvs.length))
  | .list, [.lst xs] => some (.tmp (.lst xs))
  | .list, [.tup xs] => some (.tmp (.lst xs))
  | .tuple, [.lst xs] => some (.val (.tup xs))
  | .tuple, [.tup xs] => some (.val (.tup xs))
  | .max, [.int i, .int j] => some (.val (.int (if i < j then j else i)))
  | .min, [.int i, .int j] => some (.val (.int (if j < i then j else i)))
  | .max, [.lst xs] => (match asInts xs with
    | some (n :: ns) => some (.val (.int (maxL n ns)))
    | _ => none)
  | .min, [.lst xs] => (match asInts xs with
    | some (n :: ns) => some (.val (.int (minL n ns)))
    | _ => (minLD xs).map .val)
  | .min, [.tup xs, .tup ys] => (minLD [.tup xs, .tup ys]).map .val
  | .sorted, [.lst xs] => (sortD xs).map fun ys => .tmp (.lst ys)
  | .sum, [.lst xs] => (asInts xs).map fun ns => .val (.int ns.sum)
  | .sum, [.tup xs] => (asInts xs).map fun ns => .val (.int ns.sum)
  | .list, [.dic kvs] => some (.tmp (.lst (kvs.map fun p => ofKey p.1)))
  | _, _ => none
/-- isinstance by the name of the class -/
def isiD (c : Str) : D → Bool
  | .non => false
  | .bl _ => c == "bool" || c == "int"
  | .int _ => c == "int"
  | .str _ => c == "str"
  | .tup _ => c == "tuple"
  | .lst _ => c == "list"
  | .dic _ => c == "dict"
  | .ins k _ => c == k
def truD : D → Bool
  | .non => false
  | .bl b => b
  | .int i => i != 0
  | .str x => x.length != 0
  | .tup xs => !xs.isEmpty
  | .lst xs => !xs.isEmpty
  | .dic kvs => !kvs.isEmpty
  | .ins _ _ => false
/-- what may be asked for its truth -/
def truOk : D → Bool
  | .ins _ _ => false
  | .str x => lineOk x.length
  | _ => true
def atD (xs : List D) (i : Int) : Option D := L2.atI xs i
def subD : D → D → Option D
  | .lst xs, .int i => atD xs i
  | .tup xs, .int i => atD xs i
  | .dic kvs, .tup ks => (kOf ks).bind fun k => (kvs.find? fun p => decide (p.1 = .tup k)).map (·.2)
  | _, _ => none
def cutD (xs : List D) (lo hi : Option Int) : List D := (xs.drop (HT.sIx xs.length 0 lo)).take (HT.sIx xs.length xs.length hi - HT.sIx xs.length 0 lo)
def sliD : D → Option Int → Option Int → Option R
  | .lst xs, lo, hi => some (.tmp (.lst (cutD xs lo hi)))
  | .tup xs, lo, hi => some (.val (.tup (cutD xs lo hi)))
  | _, _, _ => none
def itemsD : D → Option (List D)
  | .lst xs => some xs
  | .tup xs => some xs
  | .dic kvs => some (kvs.map fun p => ofKey p.1)
  | _ => none
def rngD (lo hi : Int) : List D := (List.range (hi - lo).toNat).map fun (k : Nat) => D.int (lo + (k : Int))
/-- i, i - 1, .. down to j + 1 -/
def rngDn (i j : Int) : List D := (List.range (i - j).toNat).map fun (k : Nat) => D.int (i - (k : Int))
def enumFrom : Nat → List D → List D
  | _, [] => []
  | n, x :: r => .tup [.int n, x] :: enumFrom (n + 1) r
def zipD : List D → List D → List D
  | x :: r, y :: q => .tup [x, y] :: zipD r q
  | _, _ => []
def bigI (i : Int) : Bool := decide (-(2 ^ 62) ≤ i) && decide (i < 2 ^ 62)

inductive Arg where
  | v (d : D) | r (i : Nat)
def argC (S : Fr) : Arg → Option Cell
  | .v d => some (.val d)
  | .r i => (getO S i).map .par
def argCs (S : Fr) : List Arg → Option (List Cell)
  | [] => some []
  | a :: r => match argC S a, argCs S r with
    | some c, some cs => some (c :: cs)
    | _, _ => none
def refsOf : List Arg → List Nat
  | [] => []
  | .v _ :: r => refsOf r
  | .r i :: r => i :: refsOf r
def back (S : Fr) : List Nat → List Ob → Fr
  | i :: is, c :: cs => back (putO S i c) is cs
  | _, _ => S
def rcR : RC → R
  | .val d => .val d
  | .own o => .tmp o
def callR (cl : Calls) (f : Str) (as : List Arg) (S : Fr) : Out R := match argCs S as with
  | none => .bad
  | some cs => if (refsOf as).Nodup then (match cl f cs with
    | .ok r outs => .ok (rcR r) (back S (refsOf as) outs)
    | .exc c fs outs => .exc c fs (back S (refsOf as) outs)
    | .bad => .bad) else .bad
/-- where nothing may be raised -/
def noExc {α : Type} : Out α → Out α
  | .ok a S => .ok a S
  | _ => .bad
def isDic : D → Bool
  | .dic _ => true
  | _ => false
def newR (cl : Calls) (c : Str) (as : List D) (S : Fr) : Out R := match cl (c ++ ".__init__") (.par (.ins c []) :: as.map .val) with
  | .ok (.val .non) [o] => .ok (.tmp o) S
  | .exc c fs _ => .exc c fs S
  | _ => .bad
def putVs (S : Fr) : List Nat → List D → Option Fr
  | i :: is, d :: ds => (putC S i (.val d)).bind fun S => putVs S is ds
  | _, _ => some S
def bindT (tg : Tg) (d : D) (S : Fr) : Option Fr := match tg with
  | .one i => putC S i (.val d)
  | .many is => (match d with
    | .tup xs => if xs.length = is.length then putVs S is xs else none
    | .lst xs => if xs.length = is.length then putVs S is xs else none
    | _ => none)
def slotsT : Tg → List Nat
  | .one i => [i]
  | .many is => is
/-- the comprehension's own slots as they stood ahead of it -/
def restore (S0 S : Fr) : List Nat → Fr
  | [] => S
  | i :: is => restore S0 (setC S i (getC S0 i)) is
def noOwn (S : Fr) (is : List Nat) : Bool := is.all fun i => match getC S i with
  | none => true
  | some (.val _) => true
  | _ => false
def lcLoop (tg : Tg) (f : Fr → Out (Option D)) : List D → List D → Fr → Out (List D)
  | [], acc, S => .ok acc S
  | d :: r, acc, S => match bindT tg d S with
    | none => .bad
    | some S1 => match f S1 with
      | .ok (some x) S2 => lcLoop tg f r (acc ++ [x]) (killS S2 (slotsT tg))
      | .ok none S2 => lcLoop tg f r acc (killS S2 (slotsT tg))
      | _ => .bad

/-- two for in one comprehension -/
def lc2Loop (tg : Tg) (kl : List Nat) (f : List D → Fr → Out (List D)) : List D → List D → Fr → Out (List D)
  | [], acc, S => .ok acc S
  | d :: r, acc, S => match bindT tg d S with
    | none => .bad
    | some S1 => match f acc S1 with
      | .ok acc' S2 => lc2Loop tg kl f r acc' (killS S2 kl)
      | _ => .bad
def storeK (kvs : List (NestedKey × D)) (k : NestedKey) (d : D) : List (NestedKey × D) :=
  if hasKey kvs k then kvs.map fun p => if decide (p.1 = k) then (p.1, d) else p else kvs ++ [(k, d)]
/-- a dict comprehension -/
def dcLoop (tg : Tg) (f : Fr → Out (NestedKey × D)) : List D → List (NestedKey × D) → Fr → Out (List (NestedKey × D))
  | [], acc, S => .ok acc S
  | d :: r, acc, S => match bindT tg d S with
    | none => .bad
    | some S1 => match f S1 with
      | .ok p S2 => dcLoop tg f r (storeK acc p.1 p.2) (killS S2 (slotsT tg))
      | _ => .bad
def pairR (k d : D) (S : Fr) : Out (NestedKey × D) := match k with
  | .tup ks => (match kOf ks with
    | some k => .ok (.tup k, d) S
    | none => .bad)
  | _ => .bad
def isDicO : Option D → Bool
  | some (.dic _) => true
  | _ => false
/-- a dict of one pair -/
def oneR (k d : D) (S : Fr) : Out R := match k with
  | .tup ks => (match kOf ks with
    | some k => .ok (.tmp (.dic [(.tup k, d)])) S
    | none => .bad)
  | _ => .bad
def valK (kvs : List (NestedKey × D)) (k : NestedKey) : Option D := (kvs.find? fun p => decide (p.1 = k)).map (·.2)
def getR (o : Option D) (k x : D) (S : Fr) : Out R := match o, k with
  | some (.dic kvs), .tup ks => (match kOf ks with
    | some k => .ok (.val ((valK kvs (.tup k)).getD x)) S
    | none => .bad)
  | _, _ => .bad
/-- list(d.items()) -/
def itD (p : NestedKey × D) : D := .tup [ofKey p.1, p.2]
def itlR : Option D → Fr → Out R
  | some (.dic kvs), S => .ok (.tmp (.lst (kvs.map itD))) S
  | _, _ => .bad
/-! data without a dict in it -/
mutual
def noDic : D → Bool
  | .dic _ => false
  | .tup xs => noDics xs
  | .lst xs => noDics xs
  | .ins _ fs => noDicF fs
  | _ => true
def noDics : List D → Bool
  | [] => true
  | x :: r => noDic x && noDics r
def noDicF : List (Str × D) → Bool
  | [] => true
  | x :: r => noDic x.2 && noDicF r
end
def noDicV : List (Str × FV) → Bool
  | [] => true
  | (_, .v d) :: r => noDic d && noDicV r
  | (_, .l xs) :: r => noDics xs && noDicV r
def noDicK : List (NestedKey × D) → Bool
  | [] => true
  | x :: r => noDic (ofKey x.1) && noDic x.2 && noDicK r
def noDicO : Ob → Bool
  | .lst xs => noDics xs
  | .dic kvs => noDicK kvs
  | .ins _ fs => noDicV fs
  | _ => true
def noDicC : Option Cell → Bool
  | some (.val d) => noDic d
  | some (.own o) => noDicO o
  | some (.par o) => noDicO o
  | some (.exc _ _) => false
  | none => true
/-- a slot's dict, held as a value for one expression and the slot's own again behind it -/
def freeS : Fr → Nat → Bool
  | [], _ => true
  | _ :: S, 0 => S.all noDicC
  | c :: S, i + 1 => noDicC c && freeS S i
def freeR : R → Bool
  | .val d => noDic d
  | .tmp o => noDicO o
  | .bor _ => false
def thawR (i : Nat) : Out R → Out R
  | .ok x S => (match getC S i with
    | some (.val (.dic kvs)) => if freeS S i && freeR x && noDicK kvs then .ok x (setC S i (some (.own (.dic kvs)))) else .bad
    | _ => .bad)
  | _ => .bad
/-- dict([(k, v), ..]) -/
def pairD : D → Option (List NestedKey × D)
  | .tup [.tup ks, d] => (kOf ks).map fun k => (k, d)
  | _ => none
def foldP (acc : List (NestedKey × D)) : List D → Option (List (NestedKey × D))
  | [] => some acc
  | x :: r => (match pairD x with
    | some q => foldP (storeK acc (.tup q.1) q.2) r
    | none => none)
def dicLR : Option D → Fr → Out R
  | some (.lst ds), S => (match foldP [] ds with
    | some kvs => if decide (ds.length ≤ sizeLine) then .ok (.tmp (.dic kvs)) S else .bad
    | none => .bad)
  | _, _ => .bad
/-- xs.index(x), texts -/
def asStrs : List D → Option (List Str)
  | [] => some []
  | .str x :: r => (asStrs r).map (x :: ·)
  | _ :: _ => none
def idxD (d e : D) : Option Nat := match d, e with
  | .lst xs, .str k => (asStrs xs).bind fun ys => if k ∈ ys then some (ys.idxOf k) else none
  | _, _ => none
def isLstO : Option D → Bool
  | some (.lst _) => true
  | _ => false
def idxR (d e : Option D) (S : Fr) : Out R := match d, e with
  | some d, some e => (match idxD d e with
    | some j => .ok (.val (.int (j : Int))) S
    | none => .bad)
  | _, _ => .bad
/-- which of the functions told -/
def pickF (fs : List Str) (j : Int) : Option Str := if 0 ≤ j then fs[j.toNat]? else none
/-- a comparison of two results; an instance's own == -/
def cmpR (cl : Calls) (op : COp) (x y : R) (S : Fr) : Out Bool := match op, cont S x with
  | .eq, some (.ins c fs) => (esc y S).bind fun e S => (esc x S).bind fun d S => if isDic e then .bad else (match d with
    | .ins c fs => (noExc (callR cl (c ++ ".__eq__") [.v (.ins c fs), .v e] S)).bind fun r S => (match r with
      | .val (.bl b) => .ok b S
      | _ => .bad)
    | _ => .bad)
  | op, some d => (match cont S y with
    | some e => (match cmpD op d e with
      | some b => .ok b S
      | none => .bad)
    | none => .bad)
  | _, none => .bad

mutual
def evE (cl : Calls) (gl : Str → Option D) : E → Fr → Out R
  | .var i, S => (frz S i).bind fun d S => .ok (.val d) S
  | .ref i, S => (match getC S i with
    | some (.own _) => .ok (.bor i) S
    | some (.par _) => .ok (.bor i) S
    | some (.val d) => .ok (.val d) S
    | _ => .bad)
  | .con d, S => .ok (.val d) S
  | .glo x, S => (match gl x with
    | some d => .ok (.val d) S
    | none => .bad)
  | .tup es, S => (evEs cl gl es S).bind fun ds S => if lineOk ds.length then .ok (.val (.tup ds)) S else .bad
  | .lst es, S => (evEs cl gl es S).bind fun ds S => if lineOk ds.length then .ok (.tmp (.lst ds)) S else .bad
  | .bin op a b, S => (evE cl gl a S).bind fun x S => (evE cl gl b S).bind fun y S => (match cont S x, cont S y with
    | some d, some e => (match binD op d e with
      | some r => .ok r S
      | none => .bad)
    | _, _ => .bad)
  | .neg a, S => (evE cl gl a S).bind fun x S => (match cont S x with
    | some d => (match negD d with
      | some r => .ok r S
      | none => .bad)
    | none => .bad)
  | .not a, S => (evE cl gl a S).bind fun x S => (match cont S x with
    | some (.bl b) => .ok (.val (.bl (!b))) S
    | _ => .bad)
  | .cmp op a b, S => (evE cl gl a S).bind fun x S => (evE cl gl b S).bind fun y S => (cmpR cl op x y S).bind fun b S => .ok (.val (.bl b)) S
  | .chain p q a b c, S => (evE cl gl a S).bind fun x S => (evE cl gl b S).bind fun y S => (match x, y with
    | .val (.int i), .val (.int j) => (match intCmp p i j with
      | some true => (evE cl gl c S).bind fun z S => (match z with
        | .val (.int l) => (match intCmp q j l with
          | some t => .ok (.val (.bl t)) S
          | none => .bad)
        | _ => .bad)
      | some false => .ok (.val (.bl false)) S
      | none => .bad)
    | _, _ => .bad)
  | .and es, S => evAnd cl gl es S
  | .or es, S => evOr cl gl es S
  | .ite c a b, S => (evT cl gl c S).bind fun k S => if k then evE cl gl a S else evE cl gl b S
  | .call f es, S => (evAs cl gl es S).bind fun as S => callR cl f as S
  | .new c es, S => (evEs cl gl es S).bind fun ds S => newR cl c ds S
  | .prop c p a, S => (evE cl gl a S).bind fun x S => (esc x S).bind fun d S => (match d with
    | .ins k fs => if k = c then noExc (callR cl (c ++ "." ++ p) [.v (.ins k fs)] S) else .bad
    | _ => .bad)
  | .fld c a f, S => (evE cl gl a S).bind fun x S => (match cont S x with
    | some (.ins k fs) => if k = c then (match fs.lookup f with
      | some d => .ok (.val d) S
      | none => .bad) else .bad
    | _ => .bad)
  | .bi b es, S => (evRs cl gl es S).bind fun rs S => (match rs.mapM (cont S) with
    | some ds => (match biD b ds with
      | some r => .ok r S
      | none => .bad)
    | none => .bad)
  | .isi a c, S => (evE cl gl a S).bind fun x S => (match cont S x with
    | some d => if isDic d then .bad else .ok (.val (.bl (isiD c d))) S
    | none => .bad)
  | .sub a b, S => (evE cl gl a S).bind fun x S => (evE cl gl b S).bind fun y S => (match cont S x, cont S y with
    | some d, some e => (match subD d e with
      | some r => .ok (.val r) S
      | none => .bad)
    | _, _ => .bad)
  | .sli a lo hi, S => (evE cl gl a S).bind fun x S => (evO cl gl lo S).bind fun l S => (evO cl gl hi S).bind fun h S => (match cont S x with
    | some d => (match sliD d l h with
      | some r => .ok r S
      | none => .bad)
    | none => .bad)
  | .lc elt tg it c, S => (evI cl gl it S).bind fun ds S => if noOwn S (slotsT tg) && lineOk ds.length then
      (lcLoop tg (fun S => (evOt cl gl c S).bind fun k S => if k then (evE cl gl elt S).bind fun x S => (esc x S).bind fun d S => .ok (some d) S else .ok none S) ds [] (killS S (slotsT tg))).bind
        fun xs S1 => .ok (.tmp (.lst xs)) (restore S S1 (slotsT tg)) else .bad
  | .lc2 elt tg it tg1 it1, S => (evI cl gl it S).bind fun ds S => if noOwn S (slotsT tg ++ slotsT tg1) then
      (lc2Loop tg (slotsT tg ++ slotsT tg1) (fun acc S => (evI cl gl it1 S).bind fun ds1 S => if decide (acc.length + ds1.length ≤ sizeLine) then
          lcLoop tg1 (fun S => (evE cl gl elt S).bind fun x S => (esc x S).bind fun d S => .ok (some d) S) ds1 acc (killS S (slotsT tg1)) else .bad) ds [] (killS S (slotsT tg ++ slotsT tg1))).bind
        fun xs S1 => .ok (.tmp (.lst xs)) (restore S S1 (slotsT tg ++ slotsT tg1)) else .bad
  | .minN es, S => (evRs cl gl es S).bind fun rs S => (match rs.mapM (cont S) with
    | some ds => (match minNR ds with
      | some d => .ok (.val d) S
      | none => .bad)
    | none => .bad)
  | .itl o, S => (evE cl gl o S).bind fun z S => itlR (cont S z) S
  | .pick fs i, S => (evE cl gl i S).bind fun z S => (match cont S z with
    | some (.int j) => (match pickF fs j with
      | some f => callR cl f [] S
      | none => .bad)
    | _ => .bad)
  | .tupR a, S => (evE cl gl a S).bind fun z S => (match cont S z with
    | some (.int j) => if decide (0 ≤ j) && decide (j ≤ 1000) then .ok (.val (.tup (rngD 0 j))) S else .bad
    | _ => .bad)
  | .idx o a, S => (evE cl gl o S).bind fun z S => if isLstO (cont S z) then (evE cl gl a S).bind fun y S => idxR (cont S z) (cont S y) S else .bad
  | .hold i a, S => (match getC S i with
    | some (.own (.dic kvs)) => thawR i (evE cl gl a (setC S i (some (.val (.dic kvs)))))
    | _ => .bad)
  | .dicL a, S => (evE cl gl a S).bind fun z S => dicLR (cont S z) S
  | .dic0, S => .ok (.tmp (.dic [])) S
  | .dic1 a b, S => (evE cl gl a S).bind fun x S => (esc x S).bind fun k S => (evE cl gl b S).bind fun y S => (esc y S).bind fun d S => oneR k d S
  | .get o a b, S => (evE cl gl o S).bind fun z S => if isDicO (cont S z) then (evE cl gl a S).bind fun x S => (esc x S).bind fun k S => (evE cl gl b S).bind fun y S => (esc y S).bind fun d S => getR (cont S z) k d S else .bad
  | .dc a b tg it, S => (evI cl gl it S).bind fun ds S => if noOwn S (slotsT tg) && lineOk ds.length then
      (dcLoop tg (fun S => (evE cl gl a S).bind fun x S => (esc x S).bind fun k S => (evE cl gl b S).bind fun y S => (esc y S).bind fun d S => pairR k d S) ds [] (killS S (slotsT tg))).bind
        fun kvs S1 => .ok (.tmp (.dic kvs)) (restore S S1 (slotsT tg)) else .bad
def evT (cl : Calls) (gl : Str → Option D) : T → Fr → Out Bool
  | .e a, S => (evE cl gl a S).bind fun x S => (match cont S x with
    | some d => if truOk d then .ok (truD d) S else .bad
    | none => .bad)
  | .cmp op a b, S => (evE cl gl a S).bind fun x S => (evE cl gl b S).bind fun y S => cmpR cl op x y S
  | .inR neg a b, S => (evE cl gl a S).bind fun x S => (match cont S x with
    | some (.int i) => (evE cl gl b S).bind fun y S => (match cont S y with
      | some (.int n) => .ok (inRg neg i n) S
      | _ => .bad)
    | _ => .bad)
  | .chain p q a b c, S => (evE cl gl a S).bind fun x S => (evE cl gl b S).bind fun y S => (match x, y with
    | .val (.int i), .val (.int j) => (match intCmp p i j with
      | some true => (evE cl gl c S).bind fun z S => (match z with
        | .val (.int l) => (match intCmp q j l with
          | some t => .ok t S
          | none => .bad)
        | _ => .bad)
      | some false => .ok false S
      | none => .bad)
    | _, _ => .bad)
  | .not t, S => (evT cl gl t S).bind fun b S => .ok (!b) S
  | .and ts, S => evAndT cl gl ts S
  | .or ts, S => evOrT cl gl ts S
def evAndT (cl : Calls) (gl : Str → Option D) : Ts → Fr → Out Bool
  | .nil, S => .ok true S
  | .cons t ts, S => (evT cl gl t S).bind fun b S => if b then evAndT cl gl ts S else .ok false S
def evOrT (cl : Calls) (gl : Str → Option D) : Ts → Fr → Out Bool
  | .nil, S => .ok false S
  | .cons t ts, S => (evT cl gl t S).bind fun b S => if b then .ok true S else evOrT cl gl ts S
/-- and, or as values: truth values all -/
def evAnd (cl : Calls) (gl : Str → Option D) : Es → Fr → Out R
  | .nil, _ => .bad
  | .cons e .nil, S => evE cl gl e S
  | .cons e es, S => (evE cl gl e S).bind fun x S => (match cont S x with
    | some (.bl true) => evAnd cl gl es S
    | some (.bl false) => .ok (.val (.bl false)) S
    | _ => .bad)
def evOr (cl : Calls) (gl : Str → Option D) : Es → Fr → Out R
  | .nil, _ => .bad
  | .cons e .nil, S => evE cl gl e S
  | .cons e es, S => (evE cl gl e S).bind fun x S => (match cont S x with
    | some (.bl false) => evOr cl gl es S
    | some (.bl true) => .ok (.val (.bl true)) S
    | _ => .bad)
def evEs (cl : Calls) (gl : Str → Option D) : Es → Fr → Out (List D)
  | .nil, S => .ok [] S
  | .cons e es, S => (evE cl gl e S).bind fun x S => (esc x S).bind fun d S => (evEs cl gl es S).bind fun ds S => .ok (d :: ds) S
def evRs (cl : Calls) (gl : Str → Option D) : Es → Fr → Out (List R)
  | .nil, S => .ok [] S
  | .cons e es, S => (evE cl gl e S).bind fun x S => (evRs cl gl es S).bind fun rs S => .ok (x :: rs) S
def evAs (cl : Calls) (gl : Str → Option D) : Es → Fr → Out (List Arg)
  | .nil, S => .ok [] S
  | .cons e es, S => (evE cl gl e S).bind fun x S => (match x with
    | .bor i => (evAs cl gl es S).bind fun as S => .ok (.r i :: as) S
    | x => (esc x S).bind fun d S => (evAs cl gl es S).bind fun as S => .ok (.v d :: as) S)
def evO (cl : Calls) (gl : Str → Option D) : Oe → Fr → Out (Option Int)
  | .none, S => .ok none S
  | .some e, S => (evE cl gl e S).bind fun x S => (match cont S x with
    | some (.int i) => .ok (some i) S
    | _ => .bad)
def evOt (cl : Calls) (gl : Str → Option D) : Ot → Fr → Out Bool
  | .none, S => .ok true S
  | .some t, S => evT cl gl t S
def evI (cl : Calls) (gl : Str → Option D) : It → Fr → Out (List D)
  | .seq e, S => (evE cl gl e S).bind fun x S => (esc x S).bind fun d S => (match itemsD d with
    | some ds => .ok ds S
    | none => .bad)
  | .rng es, S => (evEs cl gl es S).bind fun ds S => (match ds with
    | [.int j] => if bigI j then .ok (rngD 0 j) S else .bad
    | [.int i, .int j] => if bigI i && bigI j then .ok (rngD i j) S else .bad
    | [.int i, .int j, .int c] => if decide (c = -1) && bigI i && bigI j then .ok (rngDn i j) S else .bad
    | _ => .bad)
  | .enm es, S => (evEs cl gl es S).bind fun ds S => (match ds with
    | [.lst xs] => .ok (enumFrom 0 xs) S
    | [.tup xs] => .ok (enumFrom 0 xs) S
    | _ => .bad)
  | .zip es, S => (evEs cl gl es S).bind fun ds S => (match ds with
    | [.lst xs, .lst ys] => .ok (zipD xs ys) S
    | [.tup xs, .tup ys] => .ok (zipD xs ys) S
    | _ => .bad)
  | .rev e, S => (evE cl gl e S).bind fun x S => (match x with
    | .val (.int j) => if bigI j then .ok (rngD 0 j).reverse S else .bad
    | _ => .bad)
end

/-! ### statements -/
def asgR (fz : Bool) (r : R) (S : Fr) : Out Cell := match fz, r with
  | true, r => (esc r S).bind fun d S => .ok (.val d) S
  | false, .val d => .ok (.val d) S
  | false, .tmp o => .ok (.own o) S
  | false, .bor _ => .bad
def parR (cl : Calls) (gl : Str → Option D) : List Bool → Es → Fr → Out (List Cell)
  | [], .nil, S => .ok [] S
  | z :: zs, .cons e es, S => (evE cl gl e S).bind fun x S => (asgR z x S).bind fun c S => (parR cl gl zs es S).bind fun cs S => .ok (c :: cs) S
  | _, _, _ => .bad
def putCs (S : Fr) : List Nat → List Cell → Option Fr
  | i :: is, c :: cs => (putC S i c).bind fun S => putCs S is cs
  | _, _ => some S
def nodupN (is : List Nat) : Bool := decide is.Nodup
def nxO : Option Fr → Fl
  | some S => .nx S
  | none => .bad
def setIx (o : Ob) (k d : D) : Option Ob := match o, k with
  | .lst xs, .int i => (L2.ixN xs.length i).map fun j => .lst (xs.set j d)
  | .dic kvs, .tup ks => (kOf ks).bind fun k => if kvs.length < sizeLine then some (.dic (storeK kvs (.tup k) d)) else none
  | _, _ => none
def delIx (o : Ob) (k : D) : Option Ob := match o, k with
  | .dic kvs, .tup ks => (kOf ks).bind fun k => if hasKey kvs (.tup k) then some (.dic (kvs.filter fun p => !decide (p.1 = .tup k))) else none
  | _, _ => none
def setFld (fs : List (Str × FV)) (f : Str) (d : D) : List (Str × FV) := match fs with
  | [] => [(f, .v d)]
  | (g, x) :: r => if g = f then (g, .v d) :: r else (g, x) :: setFld r f d
def Fl.bindO {α : Type} (x : Out α) (f : α → Fr → Fl) : Fl := match x with
  | .ok a S => f a S
  | .exc c fs S => .exc c fs S
  | .bad => .bad
def forLoop (tg : Tg) (kl : List Nat) (f : Fr → Fl) : List D → Fr → Fl
  | [], S => .nx (killS S kl)
  | d :: r, S => match bindT tg d S with
    | none => .bad
    | some S1 => match f S1 with
      | .nx S2 => forLoop tg kl f r (killS S2 kl)
      | .cnt S2 => forLoop tg kl f r (killS S2 kl)
      | .brk S2 => .nx (killS S2 kl)
      | x => x
def whlLoop (kl : List Nat) (t : Fr → Out Bool) (f : Fr → Fl) : Nat → Fr → Fl
  | 0, _ => .bad
  | n + 1, S => Fl.bindO (t S) fun b S => if b then (match f S with
      | .nx S2 => whlLoop kl t f n (killS S2 kl)
      | .cnt S2 => whlLoop kl t f n (killS S2 kl)
      | .brk S2 => .nx (killS S2 kl)
      | x => x) else .nx (killS S kl)
/-- an exception without fields -/
def rseR (c : Str) (fs : List Str) (es : Es) (S : Fr) : Fl := match fs, es with
  | [], .nil => .exc c [] S
  | _, _ => .bad
def findH (c : Str) : List (Str × D) → Option D
  | [] => none
  | (k, d) :: r => if c = k then some d else findH c r
/-- the clauses of a try: each returns a constant -/
def catchR (ok : List Str) (hs : List (Str × D)) (x : Fl) : Fl := match x with
  | .exc c fs S => if ok.contains c then (match findH c hs with
    | some d => .ret (.val d) S
    | none => .exc c fs S) else .bad
  | x => x
mutual
def exS (cl : Calls) (gl : Str → Option D) : St → Fr → Fl
  | .asg z i e, S => Fl.bindO (evE cl gl e S) fun x S => Fl.bindO (asgR z x S) fun c S => nxO (putC S i c)
  | .unp is e, S => Fl.bindO (evE cl gl e S) fun x S => Fl.bindO (esc x S) fun d S => (match bindT (.many is) d S with
    | some S => .nx S
    | none => .bad)
  | .par zs is es, S => Fl.bindO (parR cl gl zs es S) fun cs S => if cs.length = is.length ∧ is.Nodup then nxO (putCs S is cs) else .bad
  | .app i e, S => (match getO S i with
    | some (.lst _) => Fl.bindO (evE cl gl e S) fun x S => Fl.bindO (esc x S) fun d S => (match getO S i with
      | some (.lst xs) => if decide (xs.length < sizeLine) then .nx (putO S i (.lst (xs ++ [d]))) else .bad
      | _ => .bad)
    | _ => .bad)
  | .six i k e, S => (match getO S i with
    | some _ => Fl.bindO (evE cl gl e S) fun x S => Fl.bindO (esc x S) fun d S => Fl.bindO (evE cl gl k S) fun y S => Fl.bindO (esc y S) fun k S => (match getO S i with
      | some o => (match setIx o k d with
        | some o => .nx (putO S i o)
        | none => .bad)
      | _ => .bad)
    | none => .bad)
  | .del i k, S => (match getO S i with
    | some _ => Fl.bindO (evE cl gl k S) fun y S => Fl.bindO (esc y S) fun k S => (match getO S i with
      | some o => (match delIx o k with
        | some o => .nx (putO S i o)
        | none => .bad)
      | _ => .bad)
    | none => .bad)
  | .atr c i f e, S => Fl.bindO (evE cl gl e S) fun x S => Fl.bindO (esc x S) fun d S => (match getO S i with
    | some (.ins c' fs) => if c' = c ∧ fs.length < 900 then .nx (putO S i (.ins c' (setFld fs f d))) else .bad
    | _ => .bad)
  | .aug op i e, S => (match getC S i with
    | some (.val (.int _)) => Fl.bindO (evE cl gl e S) fun x S => (match getC S i, cont S x with
      | some (.val (.int a)), some (.int b) => (match op with
        | .add => nxO (putC S i (.val (.int (a + b))))
        | .sub => nxO (putC S i (.val (.int (a - b))))
        | _ => .bad)
      | _, _ => .bad)
    | _ => .bad)
  | .ife c a b, S => Fl.bindO (evT cl gl c S) fun k S => if k then exSs cl gl a S else exSs cl gl b S
  | .whl n c kl b, S => whlLoop kl (fun S => evT cl gl c S) (fun S => exSs cl gl b S) n S
  | .fr tg it kl b, S => Fl.bindO (evI cl gl it S) fun ds S => forLoop tg kl (fun S => exSs cl gl b S) ds S
  | .ret z e, S => Fl.bindO (evE cl gl e S) fun x S => (match z, x with
    | true, x => Fl.bindO (esc x S) fun d S => .ret (.val d) S
    | false, .val d => .ret (.val d) S
    | false, .tmp o => .ret (.own o) S
    | false, .bor i => (match getC S i with
      | some (.own o) => .ret (.own o) (setC S i none)
      | _ => .bad))
  | .retN, S => .ret (.val .non) S
  | .rse c fs es, S => rseR c fs es S
  | .tr ok b hs, S => catchR ok hs (exSs cl gl b S)
  | .exp e, S => Fl.bindO (evE cl gl e S) fun _ S => .nx S
  | .pas, S => .nx S
  | .brk, S => .brk S
  | .kill is, S => .nx (killS S is)
def exSs (cl : Calls) (gl : Str → Option D) : Ss → Fr → Fl
  | .nil, S => .nx S
  | .cons s ss, S => match exS cl gl s S with
    | .nx S => exSs cl gl ss S
    | x => x
end

/-! ### functions -/
structure Fn where
  name : Str
  ps : List Str
  N : List Str
  body : Ss
/-- the objects that came by reference, as they stand at the end -/
def outsOf : List Cell → Fr → Option (List Ob)
  | [], _ => some []
  | .par _ :: as, some (.par o) :: S => (outsOf as S).map (o :: ·)
  | .val _ :: as, _ :: S => outsOf as S
  | _, _ => none
def startF (f : Fn) (as : List Cell) : Fr := as.map some ++ List.replicate (f.N.length - as.length) none
def endF (as : List Cell) (S : Fr) (k : List Ob → FnRes) : FnRes := match outsOf as S with
  | some os => k os
  | none => .bad
def runFn (cl : Calls) (gl : Str → Option D) (f : Fn) (as : List Cell) : FnRes := if as.length = f.ps.length then (match exSs cl gl f.body (startF f as) with
    | .nx S => endF as S (.ok (.val .non))
    | .ret r S => endF as S (.ok r)
    | .exc c fs S => endF as S (.exc c fs)
    | _ => .bad) else .bad
abbrev Prims := Str → Option (List Cell → FnRes)
def findFn (Γ : List Fn) (f : Str) : Option Fn := Γ.find? fun g => g.name == f
def callN (Γ : List Fn) (pr : Prims) (gl : Str → Option D) : Nat → Calls
  | 0, _, _ => .bad
  | n + 1, f, as => match pr f with
    | some g => g as
    | none => match findFn Γ f with
      | some g => runFn (callN Γ pr gl n) gl g as
      | none => .bad
end Ev

/-! EvB: what a deep value is in the heap; tags; what steps keep. -/
namespace Ev
open PySem L2

/-- who holds an address: nobody may change it; it is out of sight and stays as it is; a new object in hand; a slot -/
inductive Tag where
  | fz | fo | tm | pd (n : Nat) | sl (i : Nat)
  deriving DecidableEq
abbrev Ow := Addr → Tag
/-- the program's world: its text, the written part, the classes' addresses -/
structure Wd where
  P : Program
  w : World
  K : PySem.W.Frag
  cad : Str → Addr
  own : List Str

def noH : Hp := fun _ => none
def objAt (a : Addr) (o : Obj) : HO := .ext fun h => h.get? a = some o
def DObj (P : Program) (w : World) (o : Obj) (es : List (NestedKey × Addr × V)) : Prop :=
  es.length ≤ sizeLine ∧ o.ExactDict ∧ ∃ xs : List (NestedKey × Addr × Value), Paired (fun (p : NestedKey × Addr × V) (q : NestedKey × Addr × Value) => p.1 = q.1 ∧ p.2.1 = q.2.1 ∧ RelV p.2.2 q.2.2) es xs ∧
    ∃ ds ep, o.data = .dict ds ep ∧ ds.toList = xs.map (entryOfKey (nestedKind P w)) ∧ (xs.map (·.1)).Nodup
def TupAt (K : PySem.W.Frag) (ow : Ow) (H : Hp) (a : Addr) (vs : List V) : Prop := (Rd H a (.tup vs) ∧ ow a = .fz) ∨ SqT K noH a vs
def LstAt (ow : Ow) (H : Hp) (a : Addr) (vs : List V) : Prop := H a = some (.lst vs) ∧ ow a = .fz

mutual
inductive Rep (W : Wd) (ow : Ow) (H : Hp) : D → V → Prop
  | non : Rep W ow H .non .non
  | bl (b : Bool) : Rep W ow H (.bl b) (.bl b)
  | int (i : Int) : Rep W ow H (.int i) (.int i)
  | str (x : Str) : Rep W ow H (.str x) (.str x)
  | tup {a : Addr} {vs : List V} {xs : List D} : TupAt W.K ow H a vs → RepL W ow H xs vs → Rep W ow H (.tup xs) (.ref a)
  | lst {a : Addr} {vs : List V} {xs : List D} : LstAt ow H a vs → RepL W ow H xs vs → Rep W ow H (.lst xs) (.ref a)
  | dic {a : Addr} {o : Obj} {es : List (NestedKey × Addr × V)} {kvs : List (NestedKey × D)} : H a = some (objAt a o) → (a == sysModules) = false → ow a = .fz → DObj W.P W.w o es → RepK W ow H kvs es → Rep W ow H (.dic kvs) (.ref a)
  | ins {a dx : Addr} {c : Str} {fs : List (Str × D)} {gs : List (Str × V)} : c ∈ W.own → H a = some (.ins (W.cad c) dx gs) → ow a = .fz → H dx = some (.own a) → ow dx = .fz → RepF W ow H fs gs → Rep W ow H (.ins c fs) (.ref a)
inductive RepL (W : Wd) (ow : Ow) (H : Hp) : List D → List V → Prop
  | nil : RepL W ow H [] []
  | cons {d : D} {v : V} {ds : List D} {vs : List V} : Rep W ow H d v → RepL W ow H ds vs → RepL W ow H (d :: ds) (v :: vs)
inductive RepK (W : Wd) (ow : Ow) (H : Hp) : List (NestedKey × D) → List (NestedKey × Addr × V) → Prop
  | nil : RepK W ow H [] []
  | cons {k : NestedKey} {a : Addr} {d : D} {v : V} {ks : List (NestedKey × D)} {es : List (NestedKey × Addr × V)} : Rep W ow H (ofKey k) (.ref a) → k.depth ≤ 8 → Rep W ow H d v → RepK W ow H ks es → RepK W ow H ((k, d) :: ks) ((k, a, v) :: es)
inductive RepF (W : Wd) (ow : Ow) (H : Hp) : List (Str × D) → List (Str × V) → Prop
  | nil : RepF W ow H [] []
  | cons {f : Str} {d : D} {v : V} {ds : List (Str × D)} {vs : List (Str × V)} : Rep W ow H d v → RepF W ow H ds vs → RepF W ow H ((f, d) :: ds) ((f, v) :: vs)
end
/-- the fields of an instance in hand -/
inductive RepV (W : Wd) (ow : Ow) (H : Hp) (t : Addr → Prop) : List (Str × FV) → List (Str × V) → Prop
  | nil : RepV W ow H t [] []
  | val {f : Str} {d : D} {v : V} {ds : List (Str × FV)} {vs : List (Str × V)} : Rep W ow H d v → RepV W ow H t ds vs → RepV W ow H t ((f, .v d) :: ds) ((f, v) :: vs)
  | lst {f : Str} {xs : List D} {a : Addr} {us : List V} {ds : List (Str × FV)} {vs : List (Str × V)} : H a = some (.lst us) → t a → RepL W ow H xs us → RepV W ow H t ds vs → RepV W ow H t ((f, .l xs) :: ds) ((f, .ref a) :: vs)

/-- frozen things are kept -/
def Keep (ow : Ow) (H : Hp) (ow' : Ow) (H' : Hp) : Prop := ∀ p, H p ≠ none → ow p = .fz → H' p = H p ∧ ow' p = .fz
/-- all is kept, new things come -/
def Grow (ow : Ow) (H : Hp) (ow' : Ow) (H' : Hp) : Prop := ∀ p, H p ≠ none → H' p = H p ∧ ow' p = ow p
/-- what an evaluation may do -/
def Step (ow : Ow) (H : Hp) (ow' : Ow) (H' : Hp) : Prop := ∀ p, H p ≠ none → H' p ≠ none ∧ ((∀ i, ow p ≠ .sl i) → H' p = H p ∧ ow' p = ow p) ∧ ∀ i, ow p = .sl i → ow' p = .sl i ∨ ow' p = .fz ∨ ow' p = .tm

section
variable {W : Wd} {ow ow1 ow2 : Ow} {H H1 H2 : Hp}
theorem Grow.refl : Grow ow H ow H := fun _ _ => ⟨rfl, rfl⟩
theorem Grow.trans (a : Grow ow H ow1 H1) (b : Grow ow1 H1 ow2 H2) : Grow ow H ow2 H2 := fun p hp => by
  obtain ⟨h1, t1⟩ := a p hp
  obtain ⟨h2, t2⟩ := b p (by rw [h1]; exact hp)
  exact ⟨h2.trans h1, t2.trans t1⟩
theorem Grow.step (a : Grow ow H ow1 H1) : Step ow H ow1 H1 := fun p hp => by
  obtain ⟨h1, t1⟩ := a p hp
  exact ⟨by rw [h1]; exact hp, fun _ => ⟨h1, t1⟩, fun i e => .inl (t1.trans e)⟩
theorem Step.refl : Step ow H ow H := Grow.refl.step
theorem Step.tag (a : Step ow H ow1 H1) {p : Addr} (hp : H p ≠ none) {t : Tag} (e : ow p = t) (ht : ∀ i, t ≠ .sl i) : H1 p = H p ∧ ow1 p = t := by
  obtain ⟨x, y⟩ := (a p hp).2.1 (by rw [e]; exact ht)
  exact ⟨x, y.trans e⟩
theorem Step.keep (a : Step ow H ow1 H1) : Keep ow H ow1 H1 := fun p hp e => a.tag hp e (by simp)
theorem Grow.keep (a : Grow ow H ow1 H1) : Keep ow H ow1 H1 := a.step.keep
theorem Step.trans (a : Step ow H ow1 H1) (b : Step ow1 H1 ow2 H2) : Step ow H ow2 H2 := fun p hp => by
  obtain ⟨n1, f1, s1⟩ := a p hp
  obtain ⟨n2, f2, s2⟩ := b p n1
  refine ⟨n2, fun e => ?_, fun i e => ?_⟩
  · obtain ⟨x, y⟩ := f1 e
    obtain ⟨z, w⟩ := f2 (by rw [y]; exact e)
    exact ⟨z.trans x, w.trans y⟩
  · rcases s1 i e with q | q | q
    · exact s2 i q
    · exact .inr (.inl ((f2 (by rw [q]; simp)).2.trans q))
    · exact .inr (.inr ((f2 (by rw [q]; simp)).2.trans q))
theorem Step.none (a : Step ow H ow1 H1) {p : Addr} (h : H1 p = none) : H p = none := by
  cases e : H p with
  | none => rfl
  | some o => exact absurd h (a p (by rw [e]; simp)).1
/-- a new object -/
theorem Grow.new {p : Addr} {o : HO} {t : Tag} (h : H p = none) : Grow ow H (fun q => if q = p then t else ow q) (upd H p o) := fun q hq => by
  have ne : q ≠ p := fun e => hq (e ▸ h)
  exact ⟨upd_ne ne, if_neg ne⟩

theorem Rd.keep {a : Addr} {u : HO} (k : Keep ow H ow1 H1) (t : ow a = .fz) (r : Rd H a u) : Rd H1 a u ∧ ow1 a = .fz := by
  rcases r with r | ⟨o, r⟩
  · obtain ⟨h, t'⟩ := k a (by rw [r]; simp) t
    exact ⟨.inl (h.trans r), t'⟩
  · obtain ⟨h, t'⟩ := k a (by rw [r]; simp) t
    exact ⟨.inr ⟨o, h.trans r⟩, t'⟩
theorem TupAt.keep {K : PySem.W.Frag} {a : Addr} {vs : List V} (k : Keep ow H ow1 H1) (h : TupAt K ow H a vs) : TupAt K ow1 H1 a vs := by
  rcases h with ⟨r, t⟩ | h
  · exact .inl (Rd.keep k t r)
  · exact .inr h
theorem LstAt.keep {a : Addr} {vs : List V} (k : Keep ow H ow1 H1) (h : LstAt ow H a vs) : LstAt ow1 H1 a vs := by
  obtain ⟨x, y⟩ := k a (by rw [h.1]; simp) h.2
  exact ⟨x.trans h.1, y⟩
theorem TupAt.sq {K : PySem.W.Frag} {a : Addr} {vs : List V} (h : TupAt K ow H a vs) : SqT K H a vs := by
  rcases h with ⟨r, _⟩ | (r | r)
  · exact .inl r
  · rcases r with r | ⟨_, r⟩ <;> cases r
  · exact .inr r
mutual
theorem Rep.keep (k : Keep ow H ow1 H1) : ∀ {d : D} {v : V}, Rep W ow H d v → Rep W ow1 H1 d v
  | _, _, .non => .non
  | _, _, .bl b => .bl b
  | _, _, .int i => .int i
  | _, _, .str x => .str x
  | _, _, .tup h l => .tup (h.keep k) (RepL.keep k l)
  | _, _, .lst h l => .lst (h.keep k) (RepL.keep k l)
  | _, _, .dic (a := a) h n t o l => .dic ((k a (by rw [h]; simp) t).1.trans h) n (k a (by rw [h]; simp) t).2 o (RepK.keep k l)
  | _, _, .ins (a := a) (dx := dx) m h t h2 t2 l => .ins m ((k a (by rw [h]; simp) t).1.trans h) (k a (by rw [h]; simp) t).2 ((k dx (by rw [h2]; simp) t2).1.trans h2) (k dx (by rw [h2]; simp) t2).2 (RepF.keep k l)
theorem RepL.keep (k : Keep ow H ow1 H1) : ∀ {d : List D} {v : List V}, RepL W ow H d v → RepL W ow1 H1 d v
  | _, _, .nil => .nil
  | _, _, .cons h l => .cons (Rep.keep k h) (RepL.keep k l)
theorem RepK.keep (k : Keep ow H ow1 H1) : ∀ {d : List (NestedKey × D)} {v : List (NestedKey × Addr × V)}, RepK W ow H d v → RepK W ow1 H1 d v
  | _, _, .nil => .nil
  | _, _, .cons h n g l => .cons (Rep.keep k h) n (Rep.keep k g) (RepK.keep k l)
theorem RepF.keep (k : Keep ow H ow1 H1) : ∀ {d : List (Str × D)} {v : List (Str × V)}, RepF W ow H d v → RepF W ow1 H1 d v
  | _, _, .nil => .nil
  | _, _, .cons h l => .cons (Rep.keep k h) (RepF.keep k l)
end
theorem RepL.length {d : List D} {v : List V} (h : RepL W ow H d v) : d.length = v.length := by
  induction d generalizing v with
  | nil => cases h; rfl
  | cons _ _ ih => cases h with | cons _ l => simp [ih l]
theorem RepL.get {d : List D} {v : List V} (h : RepL W ow H d v) : ∀ {i : Nat} {x : D}, d[i]? = some x → ∃ u, v[i]? = some u ∧ Rep W ow H x u := by
  induction d generalizing v with
  | nil => intro i x e; simp at e
  | cons y ds ih =>
    intro i x e
    cases h with
    | cons g l =>
      cases i with
      | zero => simp at e; subst e; exact ⟨_, rfl, g⟩
      | succ i => simpa using ih l (by simpa using e)
theorem RepL.append {d e : List D} {v u : List V} (h : RepL W ow H d v) (g : RepL W ow H e u) : RepL W ow H (d ++ e) (v ++ u) := by
  induction d generalizing v with
  | nil => cases h; exact g
  | cons _ _ ih => cases h with | cons a l => exact .cons a (ih l)
theorem RepL.one {d : D} {v : V} (h : Rep W ow H d v) : RepL W ow H [d] [v] := .cons h .nil
theorem RepL.take {d : List D} {v : List V} (h : RepL W ow H d v) : ∀ n, RepL W ow H (d.take n) (v.take n) := by
  induction d generalizing v with
  | nil => cases h; intro n; simp; exact .nil
  | cons _ _ ih => cases h with | cons a l => intro n; cases n with
    | zero => exact .nil
    | succ n => exact .cons a (ih l n)
theorem RepL.drop {d : List D} {v : List V} (h : RepL W ow H d v) : ∀ n, RepL W ow H (d.drop n) (v.drop n) := by
  induction d generalizing v with
  | nil => cases h; intro n; simp; exact .nil
  | cons _ _ ih => cases h with | cons a l => intro n; cases n with
    | zero => exact .cons a l
    | succ n => exact ih l n
theorem RepL.set {d : List D} {v : List V} (h : RepL W ow H d v) {x : D} {u : V} (g : Rep W ow H x u) : ∀ n, RepL W ow H (d.set n x) (v.set n u) := by
  induction d generalizing v with
  | nil => cases h; intro n; exact .nil
  | cons _ _ ih => cases h with | cons a l => intro n; cases n with
    | zero => exact .cons g l
    | succ n => exact .cons a (ih l n)
theorem RepL.ints {d : List D} {v : List V} (h : RepL W ow H d v) : ∀ {ns : List Int}, asInts d = some ns → v = ns.map V.int := by
  induction d generalizing v with
  | nil => intro ns e; cases h; simp [asInts] at e; subst e; rfl
  | cons y ds ih =>
    intro ns e
    cases h with
    | cons g l =>
      cases y <;> simp [asInts] at e
      obtain ⟨ms, e1, e2⟩ := e
      subst e2
      cases g
      rw [ih l e1]; rfl
theorem RepF.lookup {d : List (Str × D)} {v : List (Str × V)} (h : RepF W ow H d v) {f : Str} {x : D} (e : d.lookup f = some x) : ∃ u, v.lookup f = some u ∧ Rep W ow H x u := by
  induction d generalizing v with
  | nil => simp at e
  | cons y ds ih =>
    cases h with
    | cons g l =>
      rw [List.lookup_cons] at e ⊢
      split at e
      · cases e; exact ⟨_, rfl, g⟩
      · exact ih l e
theorem RepF.lookup_none {d : List (Str × D)} {v : List (Str × V)} (h : RepF W ow H d v) {f : Str} (e : d.lookup f = none) : v.lookup f = none := by
  induction d generalizing v with
  | nil => cases h; rfl
  | cons y ds ih =>
    cases h with
    | cons g l =>
      rw [List.lookup_cons] at e ⊢
      split at e
      · cases e
      · exact ih l e

/-! ### objects in hand -/
/-- an object in hand; t: what is true of the addresses that it holds -/
def ObRep (W : Wd) (ow : Ow) (H : Hp) (t : Addr → Prop) : Ob → V → Prop
  | .lst xs, v => ∃ a vs, v = .ref a ∧ H a = some (.lst vs) ∧ t a ∧ RepL W ow H xs vs
  | .dic kvs, v => ∃ a o es, v = .ref a ∧ H a = some (objAt a o) ∧ (a == sysModules) = false ∧ t a ∧ DObj W.P W.w o es ∧ RepK W ow H kvs es
  | .ins c fs, v => ∃ a dx gs, v = .ref a ∧ c ∈ W.own ∧ H a = some (.ins (W.cad c) dx gs) ∧ t a ∧ H dx = some (.own a) ∧ t dx ∧ RepV W ow H t fs gs
  | .rng s cs k, v => ∃ a b, v = .ref a ∧ a ≠ b ∧ H a = some (.lst [.int s, .ref b, .int k]) ∧ H b = some (.lst (cs.map V.int)) ∧ t a ∧ t b
  | .scr ns, v => ∃ a, v = .ref a ∧ ((Rd H a (.lst (ns.map V.int)) ∧ t a) ∨ SqL W.K noH a (ns.map V.int))
theorem RepV.keep {t t' : Addr → Prop} (k : Keep ow H ow1 H1) (kt : ∀ p, H p ≠ none → t p → H1 p = H p ∧ t' p) : ∀ {d : List (Str × FV)} {v : List (Str × V)}, RepV W ow H t d v → RepV W ow1 H1 t' d v
  | _, _, .nil => .nil
  | _, _, .val h l => .val (h.keep k) (RepV.keep k kt l)
  | _, _, .lst (a := a) h g r l => by
    obtain ⟨x, y⟩ := kt a (by rw [h]; simp) g
    exact .lst (x.trans h) y (r.keep k) (RepV.keep k kt l)
theorem ObRep.keep {t t' : Addr → Prop} {o : Ob} {v : V} (k : Keep ow H ow1 H1) (kt : ∀ p, H p ≠ none → t p → H1 p = H p ∧ t' p) (h : ObRep W ow H t o v) : ObRep W ow1 H1 t' o v := by
  cases o with
  | lst xs =>
    obtain ⟨a, vs, e, h1, h2, h3⟩ := h
    obtain ⟨x, y⟩ := kt a (by rw [h1]; simp) h2
    exact ⟨a, vs, e, x.trans h1, y, h3.keep k⟩
  | dic kvs =>
    obtain ⟨a, o, es, e, h1, hs, h2, h3, h4⟩ := h
    obtain ⟨x, y⟩ := kt a (by rw [h1]; simp) h2
    exact ⟨a, o, es, e, x.trans h1, hs, y, h3, h4.keep k⟩
  | ins c fs =>
    obtain ⟨a, dx, gs, e, hm, h1, h2, h3, h4, h5⟩ := h
    obtain ⟨x, y⟩ := kt a (by rw [h1]; simp) h2
    obtain ⟨x2, y2⟩ := kt dx (by rw [h3]; simp) h4
    exact ⟨a, dx, gs, e, hm, x.trans h1, y, x2.trans h3, y2, h5.keep k kt⟩
  | rng s cs n =>
    obtain ⟨a, b, e, ne, h1, h2, h3, h4⟩ := h
    obtain ⟨x, y⟩ := kt a (by rw [h1]; simp) h3
    obtain ⟨x2, y2⟩ := kt b (by rw [h2]; simp) h4
    exact ⟨a, b, e, ne, x.trans h1, x2.trans h2, y, y2⟩
  | scr ns =>
    obtain ⟨a, e, h⟩ := h
    refine ⟨a, e, ?_⟩
    rcases h with ⟨r, ta⟩ | h
    · left
      rcases r with r | ⟨o, r⟩
      · obtain ⟨x, y⟩ := kt a (by rw [r]; simp) ta
        exact ⟨.inl (x.trans r), y⟩
      · obtain ⟨x, y⟩ := kt a (by rw [r]; simp) ta
        exact ⟨.inr ⟨o, x.trans r⟩, y⟩
    · exact .inr h
/-- the fields of an instance that is a value -/
theorem RepV.fz {t : Addr → Prop} : ∀ {d : List (Str × FV)} {v : List (Str × V)} {fs : List (Str × D)}, RepV W ow H t d v → fvsOf d = some fs → RepF W ow H fs v
  | _, _, _, .nil, e => by simp [fvsOf] at e; subst e; exact .nil
  | _, _, _, .val h l, e => by
    simp [fvsOf] at e
    obtain ⟨gs, e1, e2⟩ := e
    subst e2
    exact .cons h (RepV.fz l e1)
  | _, _, _, .lst _ _ _ _, e => by simp [fvsOf] at e
/-- an object whose addresses are all frozen is a value -/
theorem ObRep.val {o : Ob} {d : D} {v : V} (h : ObRep W ow H (fun p => ow p = .fz) o v) (e : obFz o = some d) : Rep W ow H d v := by
  cases o with
  | lst xs =>
    obtain ⟨a, vs, rfl, h1, h2, h3⟩ := h
    simp [obFz] at e; subst e
    exact .lst ⟨h1, h2⟩ h3
  | dic kvs =>
    obtain ⟨a, o, es, rfl, h1, hs, h2, h3, h4⟩ := h
    simp [obFz] at e; subst e
    exact .dic h1 hs h2 h3 h4
  | ins c fs =>
    obtain ⟨a, dx, gs, rfl, hm, h1, h2, h3, h4, h5⟩ := h
    simp [obFz] at e
    obtain ⟨gs', e1, e2⟩ := e
    subst e2
    exact .ins hm h1 h2 h3 h4 (h5.fz e1)
  | rng s cs n => simp [obFz] at e
  | scr ns => simp [obFz] at e

/-! ### slots -/
def CellRep (W : Wd) (ow : Ow) (H : Hp) (i : Nat) : Cell → V → Prop
  | .val d, v => Rep W ow H d v
  | .own o, v => ObRep W ow H (fun p => ow p = .sl i) o v
  | .par o, v => ObRep W ow H (fun p => ow p = .sl i) o v
  | .exc _ _, _ => False
structure Rel (W : Wd) (pv : Nat → Option V) (ow : Ow) (H : Hp) (S : Fr) (σ : L2.St) : Prop where
  len : S.length = σ.length
  cell : ∀ i c, getC S i = some c → ∃ v, σ[i]? = some (some v) ∧ CellRep W ow H i c v
  par : ∀ i v, pv i = some v → ∃ o, getC S i = some (.par o) ∧ σ[i]? = some (some v)
  unpar : ∀ i o, getC S i = some (.par o) → ∃ v, pv i = some v
/-- a result; H0: the heap ahead of the evaluation -/
def RRep (W : Wd) (H0 : Hp) (ow : Ow) (H : Hp) (σ : L2.St) : R → V → Prop
  | .val d, v => Rep W ow H d v
  | .tmp o, v => ObRep W ow H (fun p => ow p = .tm ∧ H0 p = none) o v
  | .bor i, v => σ[i]? = some (some v)
theorem CellRep.grow {i : Nat} {c : Cell} {v : V} (k : Grow ow H ow1 H1) (h : CellRep W ow H i c v) : CellRep W ow1 H1 i c v := by
  cases c with
  | val d => exact Rep.keep k.keep h
  | own o => exact ObRep.keep k.keep (fun p hp e => ⟨(k p hp).1, (k p hp).2.trans e⟩) h
  | par o => exact ObRep.keep k.keep (fun p hp e => ⟨(k p hp).1, (k p hp).2.trans e⟩) h
  | exc _ _ => exact h
theorem Rel.grow {pv : Nat → Option V} {S : Fr} {σ : L2.St} (r : Rel W pv ow H S σ) (k : Grow ow H ow1 H1) : Rel W pv ow1 H1 S σ :=
  ⟨r.len, fun i c e => let ⟨v, e1, h⟩ := r.cell i c e; ⟨v, e1, h.grow k⟩, r.par, r.unpar⟩
theorem RRep.step {H0 : Hp} {σ : L2.St} {r : R} {v : V} (k : Step ow H ow1 H1) (h : RRep W H0 ow H σ r v) : RRep W H0 ow1 H1 σ r v := by
  cases r with
  | val d => exact Rep.keep k.keep h
  | tmp o => exact ObRep.keep k.keep (fun p hp e => let ⟨a, b⟩ := k.tag hp e.1 (by simp); ⟨a, b, e.2⟩) h
  | bor i => exact h
theorem RRep.back {H0 H0' : Hp} {σ : L2.St} {r : R} {v : V} (k : ∀ p, H0 p = none → H0' p = none) (h : RRep W H0 ow H σ r v) : RRep W H0' ow H σ r v := by
  cases r with
  | val d => exact h
  | tmp o => exact ObRep.keep (fun p hp e => ⟨rfl, e⟩) (fun p hp e => ⟨rfl, e.1, k p e.2⟩) h
  | bor i => exact h
/-- what stands there to be read -/
def Rd1 (W : Wd) (ow : Ow) (H : Hp) : D → V → Prop
  | .lst xs, v => ∃ a vs, v = .ref a ∧ H a = some (.lst vs) ∧ RepL W ow H xs vs
  | .dic kvs, v => ∃ a o es, v = .ref a ∧ H a = some (objAt a o) ∧ (a == sysModules) = false ∧ DObj W.P W.w o es ∧ RepK W ow H kvs es
  | .ins c fs, v => ∃ a dx gs, v = .ref a ∧ c ∈ W.own ∧ H a = some (.ins (W.cad c) dx gs) ∧ H dx = some (.own a) ∧ RepF W ow H fs gs
  | d, v => Rep W ow H d v
theorem Rep.rd {d : D} {v : V} (h : Rep W ow H d v) : Rd1 W ow H d v := by
  cases h with
  | non => exact .non
  | bl b => exact .bl b
  | int i => exact .int i
  | str x => exact .str x
  | tup a b => exact .tup a b
  | lst a b => exact ⟨_, _, rfl, a.1, b⟩
  | dic a n t o l => exact ⟨_, _, _, rfl, a, n, o, l⟩
  | ins m a t b t2 l => exact ⟨_, _, _, rfl, m, a, b, l⟩
theorem ObRep.rd {t : Addr → Prop} {o : Ob} {d : D} {v : V} (h : ObRep W ow H t o v) (e : obFz o = some d) : Rd1 W ow H d v := by
  cases o with
  | lst xs =>
    obtain ⟨a, vs, rfl, h1, h2, h3⟩ := h
    simp [obFz] at e; subst e
    exact ⟨a, vs, rfl, h1, h3⟩
  | dic kvs =>
    obtain ⟨a, o, es, rfl, h1, hs, h2, h3, h4⟩ := h
    simp [obFz] at e; subst e
    exact ⟨a, o, es, rfl, h1, hs, h3, h4⟩
  | ins c fs =>
    obtain ⟨a, dx, gs, rfl, hm, h1, h2, h3, h4, h5⟩ := h
    simp [obFz] at e
    obtain ⟨gs', e1, e2⟩ := e
    subst e2
    exact ⟨a, dx, gs, rfl, hm, h1, h3, h5.fz e1⟩
  | rng s cs n => simp [obFz] at e
  | scr ns => simp [obFz] at e
section
variable {pv : Nat → Option V} {S S' : Fr} {σ : L2.St} {H0 : Hp}
theorem Rel.obj (r : Rel W pv ow H S σ) {i : Nat} {o : Ob} (e : getO S i = some o) : ∃ v, σ[i]? = some (some v) ∧ ObRep W ow H (fun p => ow p = .sl i) o v := by
  unfold getO at e
  split at e
  · next o' h => cases e; exact r.cell i _ h
  · next o' h => cases e; exact r.cell i _ h
  · cases e
theorem reads (r : Rel W pv ow H S σ) {x : R} {v : V} {d : D} (h : RRep W H0 ow H σ x v) (e : cont S x = some d) : Rd1 W ow H d v := by
  cases x with
  | val c => simp [cont] at e; subst e; exact Rep.rd h
  | tmp o => exact ObRep.rd h e
  | bor i =>
    simp only [cont, Option.bind_eq_some_iff] at e
    obtain ⟨o, e1, e2⟩ := e
    obtain ⟨u, hu, ho⟩ := r.obj e1
    have h' : σ[i]? = some (some v) := h
    rw [h'] at hu
    cases hu
    exact ho.rd e2
theorem getC_set_self {S : Fr} {i : Nat} {c : Option Cell} (h : i < S.length) : getC (setC S i c) i = c := by
  unfold getC setC
  rw [List.getElem?_set_self h]
theorem getC_set_ne {S : Fr} {i j : Nat} {c : Option Cell} (h : i ≠ j) : getC (setC S i c) j = getC S j := by
  unfold getC setC
  rw [List.getElem?_set_ne h]
theorem getC_lt {S : Fr} {i : Nat} {c : Cell} (h : getC S i = some c) : i < S.length := by
  unfold getC at h
  split at h
  · next e => exact (List.getElem?_eq_some_iff.mp e).1
  · cases h
open Classical in
/-- the new temporaries become values -/
noncomputable def fzNew (H0 : Hp) (ow : Ow) : Ow := fun p => if ow p = .tm ∧ H0 p = none then .fz else ow p
theorem fzNew_sl {H0 : Hp} {ow : Ow} {p : Addr} {i : Nat} : fzNew H0 ow p = .sl i ↔ ow p = .sl i := by
  unfold fzNew
  split
  · next h => simp [h.1]
  · exact Iff.rfl
theorem fzNew_fz {H0 : Hp} {ow : Ow} {p : Addr} (h : ow p = .fz) : fzNew H0 ow p = .fz := by
  unfold fzNew; split <;> first | rfl | exact h
theorem fzNew_keep {H0 : Hp} : Keep ow H (fzNew H0 ow) H := fun p _ e => ⟨rfl, fzNew_fz e⟩
theorem CellRep.fzNew {i : Nat} {c : Cell} {v : V} (h : CellRep W ow H i c v) : CellRep W (Ev.fzNew H0 ow) H i c v := by
  cases c with
  | val d => exact Rep.keep fzNew_keep h
  | own o => exact ObRep.keep fzNew_keep (fun p hp e => ⟨rfl, fzNew_sl.mpr e⟩) h
  | par o => exact ObRep.keep fzNew_keep (fun p hp e => ⟨rfl, fzNew_sl.mpr e⟩) h
  | exc _ _ => exact h
theorem Step.fzNew {ow0 : Ow} (k : Step ow0 H0 ow H) : Step ow0 H0 (Ev.fzNew H0 ow) H := fun p hp => by
  have e : Ev.fzNew H0 ow p = ow p := by unfold Ev.fzNew; rw [if_neg (fun z => hp z.2)]
  rw [e]
  exact k p hp
open Classical in
/-- a slot's object becomes a value -/
noncomputable def fzSl (i : Nat) (ow : Ow) : Ow := fun p => if ow p = .sl i then .fz else ow p
theorem fzSl_keep {i : Nat} : Keep ow H (fzSl i ow) H := fun p _ e => ⟨rfl, by unfold fzSl; rw [if_neg (by rw [e]; simp)]; exact e⟩
theorem fzSl_step {i : Nat} : Step ow H (fzSl i ow) H := fun p hp => by
  refine ⟨hp, fun e => ⟨rfl, by unfold fzSl; rw [if_neg (e i)]⟩, fun j e => ?_⟩
  unfold fzSl
  split
  · exact .inr (.inl rfl)
  · exact .inl e
theorem CellRep.fzSl {i j : Nat} {c : Cell} {v : V} (ne : j ≠ i) (h : CellRep W ow H j c v) : CellRep W (Ev.fzSl i ow) H j c v := by
  have kt : ∀ p, H p ≠ none → ow p = .sl j → H p = H p ∧ Ev.fzSl i ow p = .sl j := fun p hp e => ⟨rfl, by unfold Ev.fzSl; rw [if_neg (by rw [e]; simp [ne])]; exact e⟩
  cases c with
  | val d => exact Rep.keep fzSl_keep h
  | own o => exact ObRep.keep fzSl_keep kt h
  | par o => exact ObRep.keep fzSl_keep kt h
  | exc _ _ => exact h
/-- a result is made a value -/
theorem esc_ok {ow0 : Ow} (r : Rel W pv ow H S σ) (k : Step ow0 H0 ow H) {x : R} {v : V} {d : D} (h : RRep W H0 ow H σ x v) (e : esc x S = .ok d S') :
    ∃ ow', Step ow0 H0 ow' H ∧ Keep ow H ow' H ∧ Rel W pv ow' H S' σ ∧ Rep W ow' H d v := by
  cases x with
  | val c =>
    simp [esc] at e
    obtain ⟨rfl, rfl⟩ := e
    exact ⟨ow, k, fun _ _ e => ⟨rfl, e⟩, r, h⟩
  | tmp o =>
    simp only [esc] at e
    split at e
    · next c hc =>
      cases e
      refine ⟨fzNew H0 ow, k.fzNew, fzNew_keep, ⟨r.len, fun i c e => let ⟨v, e1, h⟩ := r.cell i c e; ⟨v, e1, h.fzNew⟩, r.par, r.unpar⟩, ?_⟩
      refine ObRep.val (ObRep.keep fzNew_keep (fun p hp z => ⟨rfl, ?_⟩) h) hc
      unfold fzNew; rw [if_pos z]
    · cases e
  | bor i =>
    have hv : σ[i]? = some (some v) := h
    simp only [esc, frz] at e
    split at e
    · next c hc =>
      cases e
      obtain ⟨u, hu, hr⟩ := r.cell i _ hc
      rw [hv] at hu; cases hu
      exact ⟨ow, k, fun _ _ e => ⟨rfl, e⟩, r, hr⟩
    · next o hc =>
      split at e
      · next c hz =>
        cases e
        obtain ⟨u, hu, hr⟩ := r.cell i _ hc
        rw [hv] at hu; cases hu
        have rep : Rep W (fzSl i ow) H d v := ObRep.val (ObRep.keep fzSl_keep (fun p hp z => ⟨rfl, by unfold fzSl; rw [if_pos z]⟩) hr) hz
        refine ⟨fzSl i ow, k.trans fzSl_step, fzSl_keep, ⟨by simp [setC, r.len], fun j c e => ?_, fun j u e => ?_, fun j o e => ?_⟩, rep⟩
        · by_cases hj : i = j
          · subst hj
            rw [getC_set_self (getC_lt hc)] at e
            cases e
            exact ⟨v, hv, rep⟩
          · rw [getC_set_ne hj] at e
            obtain ⟨u, e1, q⟩ := r.cell j c e
            exact ⟨u, e1, q.fzSl (Ne.symm hj)⟩
        · obtain ⟨o', e1, e2⟩ := r.par j u e
          have hj : i ≠ j := fun z => by subst z; rw [hc] at e1; cases e1
          exact ⟨o', by rw [getC_set_ne hj]; exact e1, e2⟩
        · by_cases hj : i = j
          · subst hj
            rw [getC_set_self (getC_lt hc)] at e
            cases e
          · rw [getC_set_ne hj] at e
            exact r.unpar j o e
      · cases e
    · cases e
end
end
end Ev

/-! EvC: the operators. -/
namespace Ev
open PySem PySem.Spec PyProof.Rows L2

section
variable {W : Wd} {ow : Ow} {H : Hp} {X : Cx}
mutual
theorem repDp : ∀ {d : D} {v : V} {p : PyData}, Rep W ow H d v → toPD d = some p → Dp W.K H v p
  | .non, _, _, h, e => by cases h; simp [toPD] at e; subst e; exact .non
  | .bl b, _, _, h, e => by cases h; simp [toPD] at e; subst e; exact .bl b
  | .int b, _, _, h, e => by cases h; simp [toPD] at e; subst e; exact .int b
  | .str b, _, _, h, e => by cases h; simp [toPD] at e; subst e; exact .str b
  | .tup xs, _, _, h, e => by
    cases h with
    | tup a l =>
      simp [toPD] at e
      obtain ⟨ps, e1, e2⟩ := e
      subst e2
      exact .tup a.sq (repDps l e1)
  | .lst xs, _, _, h, e => by
    cases h with
    | lst a l =>
      simp [toPD] at e
      obtain ⟨ps, e1, e2⟩ := e
      subst e2
      exact .lst (SqL.of a.1) (repDps l e1)
  | .dic _, _, _, _, e => by simp [toPD] at e
  | .ins _ _, _, _, _, e => by simp [toPD] at e
theorem repDps : ∀ {d : List D} {v : List V} {p : List PyData}, RepL W ow H d v → toPDs d = some p → DpAll W.K H v p
  | [], _, _, h, e => by cases h; simp [toPDs] at e; subst e; exact .nil
  | x :: xs, _, _, h, e => by
    cases h with
    | cons a l =>
      simp only [toPDs] at e
      split at e
      · next p ps e1 e2 => cases e; exact .cons (repDp a e1) (repDps l e2)
      · cases e
end
theorem rdDp {d : D} {v : V} {p : PyData} (h : Rd1 W ow H d v) (e : toPD d = some p) : Dp W.K H v p := by
  cases d with
  | lst xs =>
    obtain ⟨a, vs, rfl, h1, h2⟩ := h
    simp [toPD] at e
    obtain ⟨ps, e1, e2⟩ := e
    subst e2
    exact .lst (SqL.of h1) (repDps h2 e1)
  | dic _ => simp [toPD] at e
  | ins _ _ => simp [toPD] at e
  | non => exact repDp h e
  | bl _ => exact repDp h e
  | int _ => exact repDp h e
  | str _ => exact repDp h e
  | tup _ => exact repDp h e

def bopO : BOp → Operator
  | .add => .Add | .sub => .Sub | .mul => .Mult | .fdiv => .FloorDiv | .mod => .Mod | .pow => .Pow | .shl => .LShift | .shr => .RShift | .band => .BitAnd
def copO : COp → CmpOp
  | .eq => .Eq | .ne => .NotEq | .lt => .Lt | .le => .LtE | .gt => .Gt | .ge => .GtE | .isin => .In | .notin => .NotIn | .is => .Is | .isnot => .IsNot

/-- t * 1 is t -/
theorem tuple_mul1 (l : Addr) (items : Array Value) (n : Nat) (dd : Option Addr) (sl : Array (Option Value)) (u : Tok) :
    Meets (Builtin.«tuple.__mul__» ⟨[.ref l, .int 1 u], []⟩) (fun _ R s => s.heap.get? l = some { cls := .type "tuple", dict := dd, data := .seq items n, slots := sl } ∧ R (.ok (.ret (Value.ref l))) s) :=
  .of_wp fun prog w A R s h => by
    obtain ⟨hp, g, d, tk, os⟩ := s
    obtain ⟨hl, h⟩ := h
    have f1 := AutoSeq1.idx_int
    wp_walk using wpAny_loadPart' hl
    repeat (first
      | (refine wpAny_ite_false (decide_eq_false (by decide)) ?_; wp_walk using wpAny_loadPart' hl)
      | (refine wpAny_ite_true (decide_eq_true (by simp)) ?_; wp_walk using wpAny_loadPart' hl))
    exact ⟨_, rfl, h⟩
def rRepT1 (K : PySem.W.Frag) : R2 := fun x y H Q => ∃ l xs, x = .ref l ∧ y = .int 1 ∧ SqT K H l xs ∧ Q (.ref l) H
theorem op_repT1 : OpR X (binaryOp .Mult) (rRepT1 X.K) := by
  intro pins s σ H x y v u Q I rx ry h
  obtain ⟨l, xs, rfl, rfl, hT, q⟩ := h
  cases rx
  obtain ⟨t, rfl⟩ := ry
  obtain ⟨its, r, ⟨⟨cls, dd, data, sl⟩, ho, hc, n, hd⟩, hs⟩ := I.tuple hT
  simp only at hc hd
  subst hc hd
  exact wpAny_binaryOp_repeat_ref (T := "tuple") (U := "int") (by decide) ⟨_, ho, rfl⟩ (fun s' => typeIs_int s' 1 t) noFill_tuple_mul F.fills_int_mul F.slot_int_rmul repeat_tuple F.slot_int_index.lookup
    (call_meets F.slot_int_rmul (typeIs_int s 1 t) F.entry_int_rmul (F.args_int_rmul_2 _ _) (int_rmul_tuple 1 t l its.toArray n dd sl)
      ⟨ho, rfl, ⟨_, ho, rfl⟩, call_meets F.slot_tuple_mul ⟨_, ho, rfl⟩ F.entry_tuple_mul (F.args_tuple_mul_2 _ _) (tuple_mul1 l its.toArray n dd sl t) ⟨ho, ⟨.ref l, H, I, rfl, q⟩⟩⟩)

/-- t * 0 is a new () -/
theorem tuple_mul0 (l : Addr) (items : Array Value) (n : Nat) (dd : Option Addr) (sl : Array (Option Value)) (u : Tok) (hi : items.isEmpty = false) :
    Meets (Builtin.«tuple.__mul__» ⟨[.ref l, .int 0 u], []⟩) (fun _ R s => s.heap.get? l = some { cls := .type "tuple", dict := dd, data := .seq items n, slots := sl } ∧
      R (.ok (.ret (Value.ref s.heap.objs.size))) { s with heap := s.heap.push { cls := Value.type "tuple", data := Data.seq #[] }, toks := s.toks }) :=
  .of_wp fun prog w A R s h => by
    obtain ⟨hp, g, d, tk, os⟩ := s
    obtain ⟨hl, h⟩ := h
    have f1 := AutoSeq1.idx_int
    have c0 : (decide ((0 : Int) < -(2 ^ 63)) || decide ((0 : Int) ≥ 2 ^ 63)) = false := by decide
    have c1 : (items.isEmpty || (0 : Int) == 1) = false := by rw [hi]; rfl
    have c2 : (decide ((0 : Int) ≤ 0) || items.isEmpty) = true := by simp
    wp_walk using wpAny_loadPart' hl
    repeat (first
      | (refine wpAny_ite_false (decide_eq_false (by rw [c0]; exact Bool.false_ne_true)) ?_; wp_walk using wpAny_loadPart' hl)
      | (refine wpAny_ite_false (decide_eq_false (by rw [c1]; exact Bool.false_ne_true)) ?_; wp_walk using wpAny_loadPart' hl)
      | (refine wpAny_ite_true (decide_eq_true (by rw [c2])) ?_; wp_walk using wpAny_loadPart' hl))
    exact ⟨_, rfl, h⟩
def rRepT0 (K : PySem.W.Frag) : R2 := fun x y H Q => ∃ l xs, x = .ref l ∧ y = .int 0 ∧ SqT K H l xs ∧ xs ≠ [] ∧ ∀ p, H p = none → Q (.ref p) (upd H p (.tup []))
theorem op_repT0 : OpR X (binaryOp .Mult) (rRepT0 X.K) := by
  intro pins s σ H x y v u Q I rx ry h
  obtain ⟨l, xs, rfl, rfl, hT, hne, q⟩ := h
  cases rx
  obtain ⟨t, rfl⟩ := ry
  obtain ⟨its, r, ⟨⟨cls, dd, data, sl⟩, ho, hc, n, hd⟩, hs⟩ := I.tuple hT
  simp only at hc hd
  subst hc hd
  have hle : its.length = xs.length := r.length.symm
  have hi : its.toArray.isEmpty = false := by
    cases its with
    | nil => exact absurd (List.eq_nil_of_length_eq_zero hle.symm) hne
    | cons a b => rfl
  refine wpAny_binaryOp_repeat_ref (T := "tuple") (U := "int") (by decide) ⟨_, ho, rfl⟩ (fun s' => typeIs_int s' 0 t) noFill_tuple_mul F.fills_int_mul F.slot_int_rmul repeat_tuple F.slot_int_index.lookup
    (call_meets F.slot_int_rmul (typeIs_int s 0 t) F.entry_int_rmul (F.args_int_rmul_2 _ _) (int_rmul_tuple 0 t l its.toArray n dd sl)
      ⟨ho, rfl, ⟨_, ho, rfl⟩, call_meets F.slot_tuple_mul ⟨_, ho, rfl⟩ F.entry_tuple_mul (F.args_tuple_mul_2 _ _) (tuple_mul0 l its.toArray n dd sl t hi) ⟨ho, ?_⟩⟩)
  refine ⟨.ref s.heap.objs.size, _, I.laid (t' := s.toks) (o := .tup []) (fun b ob q => Heap.get?_push_of_some _ q) (Nat.le_refl _) ?_, rfl, q _ (I.hok.fresh (Nat.le_refl _))⟩
  exact ⟨by simp, [], .nil, IsTup.new _ _⟩

/-- the results of an operator -/
def Gives (W : Wd) (ow : Ow) (H : Hp) (r : R) (Q : VK) : Prop := ∀ v ow' H', Grow ow H ow' H' → RRep W H ow' H' [] r v → Q v H'
theorem Gives.same {d : D} {v : V} {Q : VK} (g : Gives W ow H (.val d) Q) (h : Rep W ow H d v) : Q v H := g v ow H Grow.refl h
theorem Gives.tup {xs : List D} {vs : List V} {Q : VK} (g : Gives W ow H (.val (.tup xs)) Q) (h : RepL W ow H xs vs) {p : Addr} (hp : H p = none) : Q (.ref p) (upd H p (.tup vs)) := by
  refine g _ (fun q => if q = p then .fz else ow q) _ (Grow.new hp) ?_
  exact .tup (.inl ⟨.inl upd_same, if_pos rfl⟩) (h.keep (Grow.new hp).keep)
theorem Gives.lst {xs : List D} {vs : List V} {Q : VK} (g : Gives W ow H (.tmp (.lst xs)) Q) (h : RepL W ow H xs vs) {p : Addr} (hp : H p = none) : Q (.ref p) (upd H p (.lst vs)) := by
  refine g _ (fun q => if q = p then .tm else ow q) _ (Grow.new hp) ?_
  exact ⟨p, vs, rfl, upd_same, ⟨if_pos rfl, hp⟩, h.keep (Grow.new hp).keep⟩
theorem RepL.rep {xs : List D} {vs : List V} (h : RepL W ow H xs vs) : ∀ n : Nat, RepL W ow H (List.replicate n xs).flatten (List.replicate n vs).flatten
  | 0 => .nil
  | n + 1 => by rw [List.replicate_succ, List.replicate_succ, List.flatten_cons, List.flatten_cons]; exact h.append (RepL.rep h n)
theorem intRd {i : Int} {v : V} (h : Rd1 W ow H (.int i) v) : v = .int i := by cases (show Rep W ow H (.int i) v from h); rfl
theorem smallI_ok {i : Int} (h : smallI i = true) : -(2 ^ 64) < i ∧ i < 2 ^ 64 := by
  unfold smallI at h
  simpa using h
theorem wideI_ok {i : Int} (h : wideI i = true) : i.natAbs < 2 ^ 128 := by
  unfold wideI at h
  simp only [Bool.and_eq_true, decide_eq_true_eq] at h
  omega
theorem natAbs_small {i : Int} (h : smallI i = true) : i.natAbs < 2 ^ 64 := by
  have := smallI_ok h
  omega
theorem lineOk_ok {n : Nat} (h : lineOk n = true) : n ≤ sizeLine := by unfold lineOk at h; simpa using h

theorem binD_ok (hK : X.K = W.K) {op : BOp} {d e : D} {r : R} {x y : V} {Q : VK} (h : binD op d e = some r) (rx : Rd1 W ow H d x) (ry : Rd1 W ow H e y) (g : Gives W ow H r Q) :
    ∃ rr, OpR X (binaryOp (bopO op)) rr ∧ rr x y H Q := by
  unfold binD at h
  split at h
  · cases h; cases intRd rx; cases intRd ry; exact ⟨_, op_add, _, _, rfl, rfl, g.same (.int _)⟩
  · split at h
    · next hz => cases h; cases (show Rep W ow H _ x from rx); cases (show Rep W ow H _ y from ry); exact ⟨_, op_add_str, _, _, rfl, rfl, lineOk_ok hz, g.same (.str _)⟩
    · cases h
  · next xs ys =>
    split at h
    · next hz =>
      cases h
      cases (show Rep W ow H _ x from rx) with
      | @tup a vs _ ha la =>
      cases (show Rep W ow H _ y from ry) with
      | @tup b us _ hb lb =>
      refine ⟨_, op_catA, a, b, vs, us, rfl, rfl, hK ▸ ha.sq, hK ▸ hb.sq, ?_, fun e => ?_, fun _ e => ?_, fun _ _ p hp => ?_⟩
      · rw [← la.length, ← lb.length]; exact lineOk_ok hz
      · subst e; cases la; exact g.same (.tup hb lb)
      · subst e; cases lb; rw [List.append_nil] at g; exact g.same (.tup ha la)
      · exact g.tup (la.append lb) hp
    · cases h
  · split at h
    · next hz =>
      cases h
      obtain ⟨a, vs, rfl, ha, la⟩ := rx
      obtain ⟨b, us, rfl, hb, lb⟩ := ry
      refine ⟨_, op_cat, a, b, vs, us, rfl, rfl, ha, hb, ?_, fun p hp => g.lst (la.append lb) hp⟩
      rw [← la.length, ← lb.length]; exact lineOk_ok hz
    · cases h
  · cases h; cases intRd rx; cases intRd ry; exact ⟨_, op_sub, _, _, rfl, rfl, g.same (.int _)⟩
  · split at h
    · next hz =>
      cases h; cases intRd rx; cases intRd ry
      rcases Bool.or_eq_true_iff.mp hz with z | z
      · refine ⟨_, op_mul, _, _, rfl, rfl, ?_, g.same (.int _)⟩
        rcases Bool.or_eq_true_iff.mp z with z | z
        · exact .inl (smallI_ok z)
        · exact .inr (smallI_ok z)
      · simp only [Bool.and_eq_true] at z
        exact ⟨_, op_mulW, _, _, rfl, rfl, wide_mul (a := 128) (b := 128) (wideI_ok z.1) (wideI_ok z.2) (by decide) (by decide) (by decide), g.same (.int _)⟩
    · cases h
  · next xs k =>
    split at h
    · next hz =>
      cases h
      simp only [Bool.and_eq_true, decide_eq_true_eq, Bool.not_eq_true'] at hz
      obtain ⟨⟨⟨h1, h2⟩, h3⟩, h4⟩ := hz
      cases intRd ry
      cases (show Rep W ow H _ x from rx) with
      | @tup a vs _ ha la =>
      by_cases hk : k = 1
      · subst hk
        refine ⟨_, op_repT1, a, vs, rfl, rfl, hK ▸ ha.sq, ?_⟩
        have e : (List.replicate (1 : Int).toNat xs).flatten = xs := by simp
        rw [e] at g
        exact g.same (.tup ha la)
      · refine ⟨_, op_repT, a, k, vs, rfl, rfl, hK ▸ ha.sq, ?_, by omega, h2, by rw [← la.length]; exact h3, fun p hp => g.tup (la.rep _) hp⟩
        intro e
        subst e
        cases la
        simp at h4
    · split at h
      · next hz =>
        cases h
        simp only [Bool.and_eq_true, decide_eq_true_eq, Bool.not_eq_true'] at hz
        obtain ⟨rfl, h4⟩ := hz
        cases intRd ry
        cases (show Rep W ow H _ x from rx) with
        | @tup a vs _ ha la =>
        refine ⟨_, op_repT0, a, vs, rfl, rfl, hK ▸ ha.sq, ?_, fun p hp => g.tup .nil hp⟩
        intro e
        subst e
        cases la
        simp at h4
      · cases h
  · next xs k =>
    split at h
    · next hz =>
      cases h
      simp only [Bool.and_eq_true, decide_eq_true_eq] at hz
      obtain ⟨⟨h1, h2⟩, h3⟩ := hz
      cases intRd ry
      obtain ⟨a, vs, rfl, ha, la⟩ := rx
      refine ⟨_, op_rep, a, k, vs, rfl, rfl, ha, by omega, by omega, ?_, fun p hp => g.lst (la.rep _) hp⟩
      rw [← la.length]; exact lineOk_ok h3
    · cases h
  · split at h
    · next hz =>
      cases h; cases intRd rx; cases intRd ry
      simp only [Bool.and_eq_true, decide_eq_true_eq] at hz
      exact ⟨_, op_fdivW, _, _, rfl, rfl, wide_div (b := 128) hz.1 (by omega) (by decide) (by decide), g.same (.int _)⟩
    · cases h
  · split at h
    · next hz =>
      cases h; cases intRd rx; cases intRd ry
      simp only [decide_eq_true_eq] at hz
      exact ⟨_, op_mod, _, _, rfl, rfl, hz, g.same (.int _)⟩
    · cases h
  · split at h
    · next hz =>
      cases h; cases intRd rx; cases intRd ry
      simp only [Bool.and_eq_true, decide_eq_true_eq] at hz
      exact ⟨_, op_pow, _, _, rfl, rfl, ⟨hz.1.1, by omega, natAbs_small hz.2⟩, g.same (.int _)⟩
    · cases h
  · split at h
    · next hz =>
      cases h; cases intRd rx; cases intRd ry
      simp only [Bool.and_eq_true, decide_eq_true_eq] at hz
      exact ⟨_, op_shl, _, _, rfl, rfl, ⟨hz.1.1, by omega, natAbs_small hz.2⟩, g.same (.int _)⟩
    · cases h
  · split at h
    · next hz =>
      cases h; cases intRd rx; cases intRd ry
      simp only [decide_eq_true_eq] at hz
      exact ⟨_, op_shr, _, _, rfl, rfl, hz, g.same (.int _)⟩
    · cases h
  · cases h; cases intRd rx; cases intRd ry; exact ⟨_, op_and, _, _, rfl, rfl, g.same (.int _)⟩
  · cases h
end
end Ev

/-! EvC1: the least of data, data sorted. -/
namespace Ev
open PySem PySem.Spec PyProof.Rows L2
theorem toPDs_enc : ∀ {ds : List D} {ps : List PyData}, toPDs ds = some ps → ps = ds.map encP
  | [], ps, h => by simp only [toPDs, Option.some.injEq] at h; subst h; rfl
  | d :: ds, ps, h => by
    simp only [toPDs] at h
    split at h
    · next p qs h1 h2 => cases h; simp only [List.map_cons, toPDs_enc h2]; simp [encP, h1]
    · cases h
theorem getD_enc {ds : List D} {i : Nat} : (ds.map encP).getD i .none = encP (ds.getD i .non) := by
  simp only [List.getD_eq_getElem?_getD, List.getElem?_map]
  cases ds[i]? <;> rfl
theorem isTup_enc {d : D} {p : PyData} (h : isTup d = true) (e : toPD d = some p) : p ≠ .none := by
  cases d <;> simp only [isTup] at h <;> try (cases h)
  simp only [toPD, Option.map_eq_some_iff] at e
  obtain ⟨_, _, rfl⟩ := e
  simp
theorem tups_enc : ∀ {ds : List D} {ps : List PyData}, ds.all isTup = true → toPDs ds = some ps → ∀ p ∈ ps, p ≠ .none
  | [], ps, _, h => by simp only [toPDs, Option.some.injEq] at h; subst h; simp
  | d :: ds, ps, ha, h => by
    simp only [List.all_cons, Bool.and_eq_true] at ha
    simp only [toPDs] at h
    split at h
    · next p qs h1 h2 =>
      cases h
      intro q hq
      rcases List.mem_cons.mp hq with e | hq
      · subst e; exact isTup_enc ha.1 h1
      · exact tups_enc ha.2 h2 q hq
    · cases h
theorem cmpAll_inv {ds : List D} (h : cmpAll ds = true) : ∃ ps, toPDs ds = some ps ∧ PySem.W.AlikeAll ps ∧ PyData.depthAll ps ≤ 60 := by
  unfold cmpAll at h
  simp only [Bool.and_eq_true] at h
  obtain ⟨h0, h⟩ := h
  split at h
  · next ps e =>
    simp only [Bool.and_eq_true, decide_eq_true_eq, List.all_eq_true] at h
    exact ⟨ps, e, ⟨fun x hx y hy => h.2 x hx y hy, tups_enc h0 e⟩, h.1.2⟩
  · cases h
section
variable {W : Wd} {ow : Ow} {H : Hp} {X : Cx}
/-- which of them is the least -/
abbrev leastAt (ds : List D) (k : Nat) : Nat := argBest (fun i j => ltB (ds.getD i .non) (ds.getD j .non)) k
theorem leastAt_ok {x : D} {xs : List D} : (x :: xs)[leastAt (x :: xs) xs.length]? = some (minF x xs) := by
  obtain ⟨h1, h2⟩ := PySem.W.argBest_fold ltB D.non x xs xs.length (Nat.le_refl _)
  rw [List.take_length] at h2
  have hlt : leastAt (x :: xs) xs.length < (x :: xs).length := by
    have : leastAt (x :: xs) xs.length ≤ xs.length := h1
    simp only [List.length_cons]
    omega
  rw [List.getElem?_eq_getElem hlt]
  congr 1
  have h3 : (x :: xs).getD (leastAt (x :: xs) xs.length) .non = minF x xs := h2
  rw [← h3, List.getD_eq_getElem?_getD, List.getElem?_eq_getElem hlt]
  rfl
def rMinT (K : PySem.W.Frag) : List V → Hp → VK → Prop := fun vs H Q => ∃ (a : Addr) (us : List V) (x : D) (xs : List D) (ps : List PyData), vs = [V.ref a] ∧ SqL K H a us ∧ toPDs (x :: xs) = some ps ∧ DpAll K H us ps ∧ PySem.W.AlikeAll ps ∧ PyData.depthAll ps ≤ 60 ∧ ∀ u, us[leastAt (x :: xs) xs.length]? = some u → Q u H
theorem cr_minT (hc : X.calm = true) (hu : X.A.units + 100 < cLine) : CallR X (.builtin "min") (rMinT X.K) := by
  intro pins s σ H vs us Q I r h
  obtain ⟨a, us', x, xs, ps, rfl, hs, hps, hd, ha, hdp, q⟩ := h
  obtain ⟨its, rv, hl, _⟩ := I.list hs
  rw [Vals.ref1 r]
  obtain ⟨as, hr⟩ := Dp.readsAll I _ _ _ hd rv
  have hr' : ReadsAll s.heap its.toArray.toList ps as := by simpa using hr
  have hps' := toPDs_enc hps
  have hlen : its.toArray.size = xs.length + 1 := by
    rw [PySem.W.readsAll_len hr', hps', List.length_map, List.length_cons]
  refine call_min_walkH (PySem.W.iter_listW (A := X.A.in1) (I.ok.hd hc) hl.isList fun s₂ e W st hfp hw hk => ?_)
  refine ⟨_, _, _, _, _, _, _, s.heap, _, rfl, W, st, hfp, by omega, hw, hk, PySem.W.cmpIn_lt (A := X.A.in1) hr' ha (by show X.A.units + 1 + _ < _; omega), fun v s' hP m => ?_⟩
  obtain ⟨h', tk, rfl, hk'⟩ := PySem.W.moved_old e rfl m
  have hbt : (fun i j => PySem.W.dataLt (ps.getD i PyData.none) (ps.getD j PyData.none)) = fun i j => ltB ((x :: xs).getD i .non) ((x :: xs).getD j .non) := by
    funext i j
    rw [hps', getD_enc, getD_enc]
    rfl
  rw [hbt, hlen, Nat.add_sub_cancel] at hP
  have hP2 : its[leastAt (x :: xs) xs.length]? = some v := by rw [← List.getElem?_toArray]; exact hP
  obtain ⟨u, hu1⟩ : ∃ u, us'[leastAt (x :: xs) xs.length]? = some u := by
    have := (List.getElem?_eq_some_iff.mp hP2).1
    rw [← rv.length] at this
    exact ⟨_, List.getElem?_eq_getElem this⟩
  obtain ⟨w, hw1, rw1⟩ := rv.get hu1
  rw [hP2] at hw1
  cases hw1
  exact ⟨u, H, I.kept hk', rw1, q u hu1⟩
/-- min(xs, default=None) -/
def rMinN (K : PySem.W.Frag) : List V → List V → Hp → VK → Prop := fun vs zs H Q => zs = [.non] ∧ ∃ (a : Addr) (us : List V), vs = [V.ref a] ∧ SqL K H a us ∧ ((us = [] ∧ Q .non H) ∨ ∃ (x : D) (xs : List D) (ps : List PyData), toPDs (x :: xs) = some ps ∧ DpAll K H us ps ∧ PySem.W.AlikeAll ps ∧ PyData.depthAll ps ≤ 60 ∧ ∀ u, us[leastAt (x :: xs) xs.length]? = some u → Q u H)
theorem cr_minN (hc : X.calm = true) (hu : X.A.units + 100 < cLine) : CallRK X (.builtin "min") [Str.ofString "default"] (rMinN X.K) := by
  intro pins s σ H vs zs us ws Q I r rz h
  obtain ⟨rfl, a, us', rfl, hs, h⟩ := h
  obtain ⟨its, rv, hl, _⟩ := I.list hs
  rw [Vals.ref1 r]
  obtain ⟨w1, rfl, e1⟩ : ∃ w, ws = [w] ∧ RelV V.non w := by
    cases rz with
    | cons a l => cases l; exact ⟨_, rfl, a⟩
  obtain rfl : w1 = Value.none := e1
  show wpAny _ _ (call (.builtin "min") [.ref a] [(Str.ofString "default", .none)]) _ _ _
  rcases h with ⟨rfl, q⟩ | ⟨x, xs, ps, hps, hd, ha, hdp, q⟩
  · cases rv
    refine call_min_walkD (PySem.W.iter_listW (A := X.A.in1) (I.ok.hd hc) hl.isList fun s₂ e W st hfp hw hk => ?_)
    refine ⟨_, _, _, _, _, _, _, s.heap, fun _ _ => false, rfl, W, st, hfp, hw, hk, fun _ s' m => ?_, fun hp => absurd hp (by simp)⟩
    obtain ⟨h', tk, rfl, hk'⟩ := PySem.W.moved_old e rfl m
    exact ⟨.non, H, I.kept hk', rfl, q⟩
  · obtain ⟨as, hr⟩ := Dp.readsAll I _ _ _ hd rv
    have hr' : ReadsAll s.heap its.toArray.toList ps as := by simpa using hr
    have hps' := toPDs_enc hps
    have hlen : its.toArray.size = xs.length + 1 := by
      rw [PySem.W.readsAll_len hr', hps', List.length_map, List.length_cons]
    refine call_min_walkD (PySem.W.iter_listW (A := X.A.in1) (I.ok.hd hc) hl.isList fun s₂ e W st hfp hw hk => ?_)
    refine ⟨_, _, _, _, _, _, _, s.heap, (fun i j => ltB ((x :: xs).getD i .non) ((x :: xs).getD j .non)), rfl, W, st, hfp, hw, hk, fun hz => absurd hz (by rw [hlen]; omega), fun _ => ?_⟩
    have hbt : (fun i j => PySem.W.dataLt (ps.getD i PyData.none) (ps.getD j PyData.none)) = fun i j => ltB ((x :: xs).getD i .non) ((x :: xs).getD j .non) := by
      funext i j
      rw [hps', getD_enc, getD_enc]
      rfl
    refine ⟨hbt ▸ PySem.W.cmpIn_lt (A := X.A.in1) hr' ha (by show X.A.units + 1 + _ < _; omega), fun v s' hP m => ?_⟩
    obtain ⟨h', tk, rfl, hk'⟩ := PySem.W.moved_old e rfl m
    rw [hlen, Nat.add_sub_cancel] at hP
    have hP2 : its[leastAt (x :: xs) xs.length]? = some v := by rw [← List.getElem?_toArray]; exact hP
    obtain ⟨u, hu1⟩ : ∃ u, us'[leastAt (x :: xs) xs.length]? = some u := by
      have := (List.getElem?_eq_some_iff.mp hP2).1
      rw [← rv.length] at this
      exact ⟨_, List.getElem?_eq_getElem this⟩
    obtain ⟨w, hw1, rw1⟩ := rv.get hu1
    rw [hP2] at hw1
    cases hw1
    exact ⟨u, H, I.kept hk', rw1, q u hu1⟩
/-- sorted(xs) of data -/
def rSrt (K : PySem.W.Frag) : List V → Hp → VK → Prop := fun vs H Q => ∃ (a : Addr) (bs : List (D × V)) (ps : List PyData), vs = [V.ref a] ∧ SqL K H a (bs.map (·.2)) ∧ toPDs (bs.map (·.1)) = some ps ∧ DpAll K H (bs.map (·.2)) ps ∧ PySem.W.AllAlike ps ∧ PySem.W.Sortable ps ∧ PyData.depthAll ps ≤ 60 ∧ bs.length ≤ sizeLine ∧
  ∀ p, H p = none → Q (.ref p) (upd H p (.lst ((bs.mergeSort (PySem.W.dataLe false fun b => encP b.1)).map (·.2))))
theorem depth_mem : ∀ {ps : List PyData} {p : PyData}, p ∈ ps → p.depth ≤ PyData.depthAll ps
  | q :: ps, p, h => by
    simp only [PyData.depthAll]
    rcases List.mem_cons.mp h with e | e
    · subst e; omega
    · have := depth_mem e; omega
theorem each_rel : ∀ {bs : List (D × V)} {its : List Value}, Vals (bs.map (·.2)) its → PySem.W.EachIs (fun (v : Value) (b : D × V) => RelV b.2 v) its bs
  | [], _, h => by cases h; exact .nil
  | b :: bs, _, h => by
    cases h with
    | cons a l => exact .cons a (each_rel l)
theorem each_vals : ∀ {bs : List (D × V)} {its : List Value}, PySem.W.EachIs (fun (v : Value) (b : D × V) => RelV b.2 v) its bs → Vals (bs.map (·.2)) its
  | _, _, .nil => .nil
  | _, _, .cons a l => .cons a (each_vals l)
theorem each_reads {s : Shared} : ∀ {bs : List (D × V)} {its : List Value} {as : List Addr}, ReadsAll s.heap its (bs.map fun b => encP b.1) as → PySem.W.EachIs (fun (v : Value) (b : D × V) => ∃ as, Reads s.heap v (encP b.1) as) its bs
  | [], _, _, h => by cases h; exact .nil
  | b :: bs, _, _, h => by
    cases h with
    | cons a l => exact .cons ⟨_, a⟩ (each_reads l)
theorem cr_srt (hu : X.A.units + 100 < cLine) : CallR X (.builtin "sorted") (rSrt X.K) := by
  intro pins s σ H vs us Q I r h
  obtain ⟨a, bs, ps, rfl, hs, hps, hd, ha, hk, hdp, hL, q⟩ := h
  obtain ⟨its, rv, hl, _⟩ := I.list hs
  rw [Vals.ref1 r]
  obtain ⟨as, hr⟩ := Dp.readsAll I _ _ _ hd rv
  have hps' : ps = bs.map fun b => encP b.1 := by rw [toPDs_enc hps, List.map_map]; rfl
  subst hps'
  refine PySem.W.sorted_data hl.isList (each_rel rv) (each_reads hr) ha hk hL (fun b hb => ?_) fun out ho eo => ?_
  · have := depth_mem (List.mem_map.mpr ⟨b, hb, rfl⟩ : encP b.1 ∈ bs.map fun b => encP b.1)
    omega
  · obtain ⟨ep, he'⟩ := PyProof.Rows.sortedAll_at s.heap its out.toArray
    have hlen : ((bs.mergeSort (PySem.W.dataLe false fun b => encP b.1)).map (·.2)).length ≤ sizeLine := by
      rw [List.length_map, List.length_mergeSort]; exact hL
    exact ⟨.ref _, upd H (s.heap.objs.size + 1) (.lst _), I.laid (t' := s.toks) (fun _ _ => PyProof.Rows.sortedAll_old) (Nat.le_succ _) ⟨hlen, out, ep, each_vals eo, he'⟩, rfl, q _ (I.hok.fresh (Nat.le_succ _))⟩
end
section
variable {prog : Program} {w : World} {A : Around} {E : Value → Shared → Prop} {s : Shared}
/-- min(a, b), the two compared where they stand -/
theorem min_pair {va vb : Value} {Q : Value → Shared → Prop}
    (h : wpAny (model prog w) A.in1 (pyIter (.ref s.heap.objs.size)) (fun it s1 => ∃ I fp wr G n P St H bt, it = .ref I ∧ WalksS prog w A.in1 I fp wr G n P St ∧ St 0 s1 ∧ (∀ b ∈ fp, b < s1.heap.objs.size) ∧ 0 < n ∧
      (∀ b o, H.get? b = some o → b ∉ wr) ∧ (∀ b o, H.get? b = some o → s1.heap.get? b = some o) ∧ CmpIn prog w A.in1 .Lt H P bt ∧ ∀ v s', P (argBest bt (n - 1)) v → Moved wr G s1 s' → Q v s') E
      { s with heap := s.heap.push { cls := .type "tuple", data := .seq #[va, vb] } }) : wpAny (model prog w) A (call (.builtin "min") [va, vb]) Q E s := by
  have nm : (toString "min" ++ toString ".loop" : String) = "min.loop" := by decide
  refine call_function_tree (F.kind_min) (F.plain_min) (F.entry_min) (F.args_min2 va vb) ?_
  show wpAny _ A.in1 ((Builtin.Builtins.bindParams "min" ["key", "default"] 0 ⟨[], []⟩) >>= _) _ _ s
  refine wpAny_bind (wpAny_of_eq (a := [none, none]) rfl ?_)
  show wpAny _ A.in1 (newTuple [va, vb] >>= _) _ _ s
  refine wpAny_bind (wpAny_newObj_type (wpAny_bind (wpAny_mono h (fun it s1 h1 => ?_) fun _ _ e => e)))
  obtain ⟨I, fp, wr, G, n, P, St, H, bt, rfl, Wk, st, lt, pos, nw, keep, cmp, q⟩ := h1
  refine wpAny_bind (wpAny_newObj_type ?_)
  rw [nm]
  have notin : s1.heap.objs.size ∉ fp := fun hm => absurd (lt _ hm) (Nat.lt_irrefl _)
  refine wpAny_pure ⟨plainId_quiet (F.plain_min_loop) _, codeAny_min_loop_firstH Wk H nw bt cmp (s1.heap.objs.size) notin (fresh_in keep) _ pos (fun b o e => Heap.get?_push_of_some _ (keep b o e)) (Wk.frame 0 s1 _ s1.toks st (Nat.le_refl _) fun b _ o e => Heap.get?_push_of_some _ e) (Heap.get?_push_size _ rfl) fun v s' hP hm => ?_⟩
  exact q v s' hP (Moved.drop_new (tk := s1.toks) hm (Nat.le_refl _))
end
section
variable {W : Wd} {ow : Ow} {H : Hp} {X : Cx}
def rMin2T (K : PySem.W.Frag) : List V → Hp → VK → Prop := fun vs H Q => ∃ (x y : V) (d e : D) (ps : List PyData), vs = [x, y] ∧ toPDs [d, e] = some ps ∧ DpAll K H [x, y] ps ∧ PySem.W.AlikeAll ps ∧ PyData.depthAll ps ≤ 60 ∧ Q (if ltB e d then y else x) H
theorem cr_min2T (hc : X.calm = true) (hu : X.A.units + 100 < cLine) : CallR X (.builtin "min") (rMin2T X.K) := by
  intro pins s σ H vs us Q I r h
  obtain ⟨x, y, d, e, ps, rfl, hps, hd, ha, hdp, q⟩ := h
  obtain ⟨as, hr⟩ := Dp.readsAll I _ _ _ hd r
  cases r with
  | cons ru l => cases l with
    | cons rw l =>
      cases l
      next u w =>
      have hT : (s.heap.push { cls := .type "tuple", data := .seq #[u, w] }).IsTuple s.heap.objs.size #[u, w] := ⟨_, Heap.get?_push_size _ rfl, rfl, 0, rfl⟩
      have hk0 : ∀ b o, s.heap.get? b = some o → (s.heap.push { cls := .type "tuple", data := .seq #[u, w] }).get? b = some o := fun b o e => Heap.get?_push_of_some _ e
      have hr' : ReadsAll (s.heap.push { cls := .type "tuple", data := .seq #[u, w] }) (#[u, w] : Array Value).toList ps as := PyProof.Rows.ReadsAll.keeps hk0 hr
      have hps' := toPDs_enc hps
      refine min_pair (PySem.W.iter_tupleW (A := X.A.in1) (s := { s with heap := s.heap.push { cls := .type "tuple", data := .seq #[u, w] } }) (I.ok.hd hc) hT fun s₂ e2 Wk st hfp hw hk => ?_)
      refine ⟨_, _, _, _, _, _, _, s.heap.push { cls := .type "tuple", data := .seq #[u, w] }, _, rfl, Wk, st, hfp, by simp, hw, hk, PySem.W.cmpIn_lt (s := { s with heap := s.heap.push { cls := .type "tuple", data := .seq #[u, w] } }) (A := X.A.in1) hr' ha (by show X.A.units + 1 + _ < _; omega), fun v s' hP m => ?_⟩
      obtain ⟨h', tk, rfl, hk'⟩ := PySem.W.moved_old e2 rfl m
      have hk2 : ∀ b o, s.heap.get? b = some o → h'.get? b = some o := fun b o e => hk' b o (hk0 b o e)
      have hbt : (fun i j => PySem.W.dataLt (ps.getD i PyData.none) (ps.getD j PyData.none)) = fun i j => ltB ([d, e].getD i .non) ([d, e].getD j .non) := by
        funext i j
        rw [hps', getD_enc, getD_enc]
        rfl
      rw [hbt] at hP
      have hP2 : (#[u, w] : Array Value)[argBest (fun i j => ltB ([d, e].getD i .non) ([d, e].getD j .non)) 1]? = some v := hP
      cases hlt : ltB e d with
      | true =>
        rw [hlt] at q
        have e1 : argBest (fun i j => ltB ([d, e].getD i .non) ([d, e].getD j .non)) 1 = 1 := by simp [argBest, hlt]
        rw [e1] at hP2
        simp at hP2
        subst hP2
        exact ⟨y, H, I.kept hk2, rw, q⟩
      | false =>
        rw [hlt] at q
        have e1 : argBest (fun i j => ltB ([d, e].getD i .non) ([d, e].getD j .non)) 1 = 0 := by simp [argBest, hlt]
        rw [e1] at hP2
        simp at hP2
        subst hP2
        exact ⟨x, H, I.kept hk2, ru, q⟩
end
end Ev

/-! EvC2: comparisons, built-ins, subscripts, truth. -/
namespace Ev
open PySem PySem.Spec PyProof.Rows L2

section
variable {W : Wd} {ow : Ow} {H : Hp} {X : Cx}
def rInT (K : PySem.W.Frag) (neg : Bool) : R2 := fun x y H Q => ∃ d ds, Dp K H x d ∧ Dp K H y (.tuple ds) ∧ SeqAt.shaped d = true ∧ PyData.canLayAll0 ds = true ∧ Q (.bl (if neg then !ds.any fun z => PyData.eqv z d else ds.any fun z => PyData.eqv z d)) H
theorem op_inT (hu : X.A.units + 65 < cLine) : OpR X (compareOp .In) (rInT X.K false) := by
  intro pins s σ H x y v u Q I rx ry h
  obtain ⟨d, ds, hd, he, sd, se, q⟩ := h
  obtain ⟨as, r1⟩ := Dp.reads I d x v hd rx
  obtain ⟨bs, r2⟩ := Dp.reads I (.tuple ds) y u he ry
  exact SeqAt.in_tuple_reads r2 r1 se (SeqAt.canLay_of_shaped sd) (room_in_shaped sd hu) ⟨.bl _, H, I, rfl, q⟩
theorem op_notInT (hu : X.A.units + 65 < cLine) : OpR X (compareOp .NotIn) (rInT X.K true) := by
  intro pins s σ H x y v u Q I rx ry h
  obtain ⟨d, ds, hd, he, sd, se, q⟩ := h
  obtain ⟨as, r1⟩ := Dp.reads I d x v hd rx
  obtain ⟨bs, r2⟩ := Dp.reads I (.tuple ds) y u he ry
  exact SeqAt.notIn_tuple_reads r2 r1 se (SeqAt.canLay_of_shaped sd) (room_in_shaped sd hu) ⟨.bl _, H, I, rfl, q⟩
theorem isNon_ok {d : D} {v : V} (h : Rd1 W ow H d v) : decide (v = .non) = isNon d := by
  cases d with
  | lst xs => obtain ⟨a, vs, rfl, _⟩ := h; simp [isNon]
  | dic kvs => obtain ⟨a, o, es, rfl, _⟩ := h; simp [isNon]
  | ins c fs => obtain ⟨a, o, es, rfl, _⟩ := h; simp [isNon]
  | non => cases (show Rep W ow H _ v from h); simp [isNon]
  | bl _ => cases (show Rep W ow H _ v from h); simp [isNon]
  | int _ => cases (show Rep W ow H _ v from h); simp [isNon]
  | str _ => cases (show Rep W ow H _ v from h); simp [isNon]
  | tup _ => cases (show Rep W ow H _ v from h); simp [isNon]
theorem pyIn_lst {a : D} {xs : List D} {b : Bool} (h : pyIn a xs = some b) : ∃ p qs, toPD a = some p ∧ toPDs xs = some qs ∧ SeqAt.shaped p = true ∧ SeqAt.shaped (.list qs) = true ∧ b = qs.any fun z => PyData.eqv z p := by
  unfold pyIn at h
  split at h
  · next p qs e1 e2 =>
    split at h
    · next hs =>
      cases h
      simp only [Bool.and_eq_true] at hs
      exact ⟨p, qs, e1, e2, hs.1, hs.2, rfl⟩
    · cases h
  · cases h
theorem rd_list {xs : List D} {v : V} {qs : List PyData} (h : Rd1 W ow H (.lst xs) v) (e : toPDs xs = some qs) : Dp W.K H v (.list qs) := rdDp h (by simp [toPD, e])
theorem rd_tuple {xs : List D} {v : V} {qs : List PyData} (h : Rd1 W ow H (.tup xs) v) (e : toPDs xs = some qs) : Dp W.K H v (.tuple qs) := rdDp h (by simp [toPD, e])
theorem canLay_list {qs : List PyData} (h : SeqAt.shaped (.list qs) = true) : PyData.canLayAll0 qs = true := SeqAt.canLay_of_shaped h

def rLtD (K : PySem.W.Frag) (neg : Bool) : R2 := fun x y H Q => ∃ d e, Dp K H x d ∧ Dp K H y e ∧ SeqAt.shaped d = true ∧ SeqAt.shaped e = true ∧ PySem.W.alike d e = true ∧ d ≠ .none ∧ Q (.bl (if neg then !PySem.W.dataLt d e else PySem.W.dataLt d e)) H
theorem shaped_depth {p : PyData} (h : SeqAt.shaped p = true) : p.depth ≤ 64 := by
  unfold SeqAt.shaped at h
  simp only [Bool.and_eq_true, decide_eq_true_eq] at h
  exact h.2
theorem op_ltDt (hu : X.A.units + 65 < cLine) : OpR X (compareOp .Lt) (rLtD X.K false) := by
  intro pins s σ H x y v u Q I rx ry h
  obtain ⟨d, e, hd, he, sd, se, ha, hn, q⟩ := h
  obtain ⟨as, r1⟩ := Dp.reads I d x v hd rx
  obtain ⟨bs, r2⟩ := Dp.reads I e y u he ry
  have := shaped_depth sd
  have := shaped_depth se
  exact PySem.W.lt_data r1 r2 ha hn (by omega) ⟨.bl _, H, I, rfl, q⟩
theorem op_geDt (hu : X.A.units + 65 < cLine) : OpR X (compareOp .GtE) (rLtD X.K true) := by
  intro pins s σ H x y v u Q I rx ry h
  obtain ⟨d, e, hd, he, sd, se, ha, hn, q⟩ := h
  obtain ⟨as, r1⟩ := Dp.reads I d x v hd rx
  obtain ⟨bs, r2⟩ := Dp.reads I e y u he ry
  have := shaped_depth sd
  have := shaped_depth se
  exact PySem.W.ge_data r1 r2 ha hn (by omega) ⟨.bl _, H, I, rfl, q⟩
theorem pyLt_inv {a b : D} {c : Bool} (h : pyLt a b = some c) : ∃ p q, toPD a = some p ∧ toPD b = some q ∧ SeqAt.shaped p = true ∧ SeqAt.shaped q = true ∧ PySem.W.alike p q = true ∧ c = PySem.W.dataLt p q := by
  unfold pyLt at h
  split at h
  · next p q e1 e2 =>
    split at h
    · next hs =>
      cases h
      simp only [Bool.and_eq_true] at hs
      exact ⟨p, q, e1, e2, hs.1.1, hs.1.2, hs.2, rfl⟩
    · cases h
  · cases h
theorem toPD_tup {xs : List D} {p : PyData} (h : toPD (.tup xs) = some p) : p ≠ .none := by
  simp only [toPD, Option.map_eq_some_iff] at h
  obtain ⟨_, _, rfl⟩ := h
  simp

/-- a dict's key: by the dict's rules -/
def DicIn0 (X : Cx) (W : Wd) : Prop := ∀ (ow : Ow) (H : Hp) (ks : List D) (kvs : List (NestedKey × D)) (k : List NestedKey) (x y : V) (Q : VK), kOf ks = some k → Rd1 W ow H (.tup ks) x → Rd1 W ow H (.dic kvs) y →
  (Q (.bl (hasKey kvs (.tup k))) H → ∃ rr, OpR X (compareOp .In) rr ∧ rr x y H Q) ∧ (Q (.bl (!hasKey kvs (.tup k))) H → ∃ rr, OpR X (compareOp .NotIn) rr ∧ rr x y H Q)

/-- d == {} -/
def DicEq0 (X : Cx) (W : Wd) : Prop := ∀ (ow : Ow) (H : Hp) (kvs : List (NestedKey × D)) (x y : V) (Q : VK), Rd1 W ow H (.dic kvs) x → Rd1 W ow H (.dic []) y → Q (.bl kvs.isEmpty) H → ∃ rr, OpR X (compareOp .Eq) rr ∧ rr x y H Q
def DicIn (X : Cx) (W : Wd) : Prop := DicIn0 X W ∧ DicEq0 X W
theorem cmpD_ok (hK : X.K = W.K) (hu : X.A.units + 65 < cLine) (hd : DicIn X W) {op : COp} {d e : D} {b : Bool} {x y : V} {Q : VK} (h : cmpD op d e = some b) (rx : Rd1 W ow H d x) (ry : Rd1 W ow H e y) (q : Q (.bl b) H) :
    ∃ rr, OpR X (compareOp (copO op)) rr ∧ rr x y H Q := by
  have eqs : ∀ {d e : D} {b : Bool}, pyEq d e = some b → Rd1 W ow H d x → Rd1 W ow H e y → ∃ p p', Dp X.K H x p ∧ Dp X.K H y p' ∧ SeqAt.shaped p = true ∧ SeqAt.shaped p' = true ∧ PyData.eqv p p' = b := by
    intro d e b h rx ry
    unfold pyEq at h
    split at h
    · next p p' e1 e2 =>
      split at h
      · next hs =>
        cases h
        simp only [Bool.and_eq_true] at hs
        exact ⟨p, p', hK ▸ rdDp rx e1, hK ▸ rdDp ry e2, hs.1, hs.2, rfl⟩
      · cases h
    · cases h
  unfold cmpD at h
  split at h
  · cases h; exact hd.2 ow H _ x y Q rx ry q
  · obtain ⟨p, p', h1, h2, h3, h4, rfl⟩ := eqs h rx ry
    exact ⟨_, op_eqD (by omega), p, p', h1, h2, h3, h4, q⟩
  · simp only [Option.map_eq_some_iff] at h
    obtain ⟨c, h, rfl⟩ := h
    obtain ⟨p, p', h1, h2, h3, h4, rfl⟩ := eqs h rx ry
    exact ⟨_, op_neD (by omega), p, p', h1, h2, h3, h4, q⟩
  · cases h; cases intRd rx; cases intRd ry; exact ⟨_, op_lt, _, _, rfl, rfl, q⟩
  · cases h; cases intRd rx; cases intRd ry; exact ⟨_, op_le, _, _, rfl, rfl, q⟩
  · cases h; cases intRd rx; cases intRd ry; exact ⟨_, op_gt, _, _, rfl, rfl, q⟩
  · cases h; cases intRd rx; cases intRd ry; exact ⟨_, op_ge, _, _, rfl, rfl, q⟩
  · obtain ⟨p, p', e1, e2, s1, s2, s3, rfl⟩ := pyLt_inv h
    exact ⟨_, op_ltDt hu, p, p', hK ▸ rdDp rx e1, hK ▸ rdDp ry e2, s1, s2, s3, toPD_tup e1, q⟩
  · simp only [Option.map_eq_some_iff] at h
    obtain ⟨c, h, rfl⟩ := h
    obtain ⟨p, p', e1, e2, s1, s2, s3, rfl⟩ := pyLt_inv h
    exact ⟨_, op_geDt hu, p, p', hK ▸ rdDp rx e1, hK ▸ rdDp ry e2, s1, s2, s3, toPD_tup e1, q⟩
  · obtain ⟨p, qs, e1, e2, s1, s2, rfl⟩ := pyIn_lst h
    exact ⟨_, op_inD hu, p, qs, hK ▸ rdDp rx e1, hK ▸ rd_list ry e2, s1, s2, q⟩
  · obtain ⟨p, qs, e1, e2, s1, s2, rfl⟩ := pyIn_lst h
    exact ⟨_, op_inT hu, p, qs, hK ▸ rdDp rx e1, hK ▸ rd_tuple ry e2, s1, canLay_list s2, q⟩
  · simp only [Option.map_eq_some_iff] at h
    obtain ⟨c, h, rfl⟩ := h
    obtain ⟨p, qs, e1, e2, s1, s2, rfl⟩ := pyIn_lst h
    exact ⟨_, op_notInD hu, p, qs, hK ▸ rdDp rx e1, hK ▸ rd_list ry e2, s1, s2, q⟩
  · simp only [Option.map_eq_some_iff] at h
    obtain ⟨c, h, rfl⟩ := h
    obtain ⟨p, qs, e1, e2, s1, s2, rfl⟩ := pyIn_lst h
    exact ⟨_, op_notInT hu, p, qs, hK ▸ rdDp rx e1, hK ▸ rd_tuple ry e2, s1, canLay_list s2, q⟩
  · simp only [Option.map_eq_some_iff] at h
    obtain ⟨k, h, rfl⟩ := h
    exact (hd.1 ow H _ _ k x y Q h rx ry).1 q
  · simp only [Option.map_eq_some_iff] at h
    obtain ⟨k, h, rfl⟩ := h
    exact (hd.1 ow H _ _ k x y Q h rx ry).2 q
  · cases h
    cases (show Rep W ow H _ y from ry)
    exact ⟨_, op_isN, rfl, by rw [isNon_ok rx]; exact q⟩
  · cases h
    cases (show Rep W ow H _ y from ry)
    exact ⟨_, op_notN, rfl, by rw [isNon_ok rx]; exact q⟩
  · cases h

theorem negD_ok {d : D} {r : R} {x : V} {Q : VK} (h : negD d = some r) (rx : Rd1 W ow H d x) (g : Gives W ow H r Q) : ∃ rr, UnR X (unaryOp .USub) rr ∧ rr x H Q := by
  unfold negD at h
  split at h
  · cases h; cases intRd rx; exact ⟨_, un_neg, _, rfl, g.same (.int _)⟩
  · cases h

def biV : BI → Value
  | .abs => .builtin "abs" | .int => .type "int" | .len => .builtin "len" | .list => .type "list" | .tuple => .type "tuple" | .max => .builtin "max" | .min => .builtin "min" | .sum => .builtin "sum" | .sorted => .builtin "sorted" | .str => .type "str"
def biN : BI → Str
  | .abs => "abs" | .int => "int" | .len => "len" | .list => "list" | .tuple => "tuple" | .max => "max" | .min => "min" | .sum => "sum" | .sorted => "sorted" | .str => "str"
inductive RdL (W : Wd) (ow : Ow) (H : Hp) : List D → List V → Prop
  | nil : RdL W ow H [] []
  | cons {d : D} {v : V} {ds : List D} {vs : List V} : Rd1 W ow H d v → RdL W ow H ds vs → RdL W ow H (d :: ds) (v :: vs)
theorem maxL_spec : ∀ (ns : List Int) (m : Int), maxL m ns ∈ m :: ns ∧ ∀ y ∈ m :: ns, y ≤ maxL m ns
  | [], m => by simp [maxL]
  | x :: r, m => by
    obtain ⟨h1, h2⟩ := maxL_spec r (if m < x then x else m)
    unfold maxL
    refine ⟨?_, fun y hy => ?_⟩
    · rcases List.mem_cons.mp h1 with e | e
      · rw [e]; split <;> simp
      · simp [e]
    · have hm := h2 _ List.mem_cons_self
      have k1 : m ≤ (if m < x then x else m) := by split <;> omega
      have k2 : x ≤ (if m < x then x else m) := by split <;> omega
      rcases List.mem_cons.mp hy with e | e
      · subst e; exact Int.le_trans k1 hm
      · rcases List.mem_cons.mp e with e | e
        · subst e; exact Int.le_trans k2 hm
        · exact h2 y (List.mem_cons_of_mem _ e)
theorem minL_spec : ∀ (ns : List Int) (m : Int), minL m ns ∈ m :: ns ∧ ∀ y ∈ m :: ns, minL m ns ≤ y
  | [], m => by simp [minL]
  | x :: r, m => by
    obtain ⟨h1, h2⟩ := minL_spec r (if x < m then x else m)
    unfold minL
    refine ⟨?_, fun y hy => ?_⟩
    · rcases List.mem_cons.mp h1 with e | e
      · rw [e]; split <;> simp
      · simp [e]
    · have hm := h2 _ List.mem_cons_self
      have k1 : (if x < m then x else m) ≤ m := by split <;> omega
      have k2 : (if x < m then x else m) ≤ x := by split <;> omega
      rcases List.mem_cons.mp hy with e | e
      · subst e; exact Int.le_trans hm k1
      · rcases List.mem_cons.mp e with e | e
        · subst e; exact Int.le_trans hm k2
        · exact h2 y (List.mem_cons_of_mem _ e)
theorem RdL.one {d : D} {vs : List V} (h : RdL W ow H [d] vs) : ∃ v, vs = [v] ∧ Rd1 W ow H d v := by
  cases h with
  | cons a l => cases l; exact ⟨_, rfl, a⟩
theorem RdL.two {d e : D} {vs : List V} (h : RdL W ow H [d, e] vs) : ∃ v u, vs = [v, u] ∧ Rd1 W ow H d v ∧ Rd1 W ow H e u := by
  cases h with
  | cons a l => cases l with
    | cons b l => cases l; exact ⟨_, _, rfl, a, b⟩
/-- list(d) -/
def DicLst0 (X : Cx) (W : Wd) : Prop := ∀ (ow : Ow) (H : Hp) (kvs : List (NestedKey × D)) (x : V) (Q : VK), Rd1 W ow H (.dic kvs) x → (∀ p us, H p = none → RepL W ow H (kvs.map fun p => ofKey p.1) us → Q (.ref p) (upd H p (.lst us))) → ∃ rr, CallR X (.type "list") rr ∧ rr [x] H Q
/-- len(d) -/
def DicLen (X : Cx) (W : Wd) : Prop := ∀ (ow : Ow) (H : Hp) (kvs : List (NestedKey × D)) (x : V) (Q : VK), Rd1 W ow H (.dic kvs) x → Q (.int ((kvs.length : Nat) : Int)) H → ∃ rr, CallR X (.builtin "len") rr ∧ rr [x] H Q
def DicLst (X : Cx) (W : Wd) : Prop := DicLst0 X W ∧ DicLen X W
theorem minLD_inv {ds : List D} {d : D} (h : minLD ds = some d) : ∃ x xs, ds = x :: xs ∧ cmpAll (x :: xs) = true ∧ d = minF x xs := by
  cases ds with
  | nil => cases h
  | cons x xs =>
    simp only [minLD] at h
    by_cases hz : cmpAll (x :: xs) = true
    · rw [if_pos hz] at h
      injection h with h
      exact ⟨x, xs, rfl, hz, h.symm⟩
    · rw [if_neg hz] at h
      cases h
theorem repL_pairs : ∀ {ds : List D} {us : List V}, RepL W ow H ds us → ∃ bs : List (D × V), bs.map (·.1) = ds ∧ bs.map (·.2) = us ∧ ∀ b ∈ bs, Rep W ow H b.1 b.2
  | [], [], .nil => ⟨[], rfl, rfl, by simp⟩
  | d :: ds, u :: us, .cons a l => by
    obtain ⟨bs, h1, h2, h3⟩ := repL_pairs l
    refine ⟨(d, u) :: bs, by simp [h1], by simp [h2], fun b hb => ?_⟩
    rcases List.mem_cons.mp hb with e | hb
    · subst e; exact a
    · exact h3 b hb
theorem pairs_repL : ∀ {bs : List (D × V)}, (∀ b ∈ bs, Rep W ow H b.1 b.2) → RepL W ow H (bs.map (·.1)) (bs.map (·.2))
  | [], _ => .nil
  | b :: bs, h => .cons (h b List.mem_cons_self) (pairs_repL fun c hc => h c (List.mem_cons_of_mem _ hc))
theorem neTup_enc : ∀ {ds : List D} {ps : List PyData}, ds.all neTup = true → toPDs ds = some ps → ∀ p ∈ ps, ∃ x r, p = .tuple (x :: r)
  | [], ps, _, h => by simp only [toPDs, Option.some.injEq] at h; subst h; simp
  | d :: ds, ps, ha, h => by
    simp only [List.all_cons, Bool.and_eq_true] at ha
    simp only [toPDs] at h
    split at h
    · next p qs h1 h2 =>
      cases h
      intro q hq
      rcases List.mem_cons.mp hq with e | hq
      · subst e
        have ha1 := ha.1
        unfold neTup at ha1
        split at ha1
        · next y ys =>
          simp only [toPD, toPDs, Option.map_eq_some_iff] at h1
          obtain ⟨zs, h3, rfl⟩ := h1
          split at h3
          · cases h3; exact ⟨_, _, rfl⟩
          · cases h3
        · cases ha1
      · exact neTup_enc ha.2 h2 q hq
    · cases h
theorem ints_enc : ∀ {ds : List D}, ds.all isIntD = true → ∃ ns : List Int, ds = ns.map .int
  | [], _ => ⟨[], rfl⟩
  | d :: ds, h => by
    simp only [List.all_cons, Bool.and_eq_true] at h
    obtain ⟨ns, h1⟩ := ints_enc h.2
    cases d <;> simp only [isIntD] at h <;> try (cases h.1)
    next i => exact ⟨i :: ns, by rw [h1]; rfl⟩
theorem pdInts : ∀ (ns : List Int), toPDs (ns.map .int) = some (ns.map .int)
  | [] => rfl
  | n :: ns => by simp only [List.map_cons, toPDs, toPD, pdInts ns]
theorem depInts : ∀ (ns : List Int), PyData.depthAll (ns.map .int) ≤ 1
  | [] => by simp [PyData.depthAll]
  | n :: ns => by
    have := depInts ns
    simp only [List.map_cons, PyData.depthAll, PyData.depth]
    omega
theorem sortD_inv {ds ys : List D} (h : sortD ds = some ys) : ys = ds.mergeSort leB ∧ ds.length ≤ sizeLine ∧ ∃ ps, toPDs ds = some ps ∧ PySem.W.AllAlike ps ∧ PySem.W.Sortable ps ∧ PyData.depthAll ps ≤ 60 := by
  unfold sortD at h
  split at h
  case isFalse => cases h
  next hz =>
  cases h
  simp only [Bool.and_eq_true, Bool.or_eq_true, decide_eq_true_eq] at hz
  refine ⟨rfl, hz.2, ?_⟩
  rcases hz.1 with hz | hz
  · obtain ⟨ps, h1, h2, h3⟩ := cmpAll_inv hz.1
    exact ⟨ps, h1, fun d hd e he => h2.1 d hd e he, .inl (neTup_enc hz.2 h1), h3⟩
  · obtain ⟨ns, rfl⟩ := ints_enc hz
    refine ⟨_, pdInts ns, fun d hd e he => ?_, .inr fun d hd => ?_, by have := depInts ns; omega⟩
    · obtain ⟨i, _, rfl⟩ := List.mem_map.mp hd
      obtain ⟨j, _, rfl⟩ := List.mem_map.mp he
      rfl
    · obtain ⟨i, _, rfl⟩ := List.mem_map.mp hd
      exact ⟨by simp, by simp⟩
theorem cr_sumT {X : Cx} (hc : X.calm = true) : CallR X (.builtin "sum") (fun vs H Q => ∃ (a : Addr) (ns : List Int), vs = [V.ref a] ∧ SqT X.K H a (ns.map V.int) ∧ Q (.int ns.sum) H) := by
  intro pins s σ H vs us Q I r h
  obtain ⟨a, ns, rfl, hs, q⟩ := h
  obtain ⟨its, rv, hl, _⟩ := I.tuple hs
  rw [Vals.ref1 r]
  have hi := rv.ints
  have ht : s.heap.IsTuple a its.toArray := hl
  obtain ⟨xs, hx⟩ := hi.allInts.items
  have hn : numsOf its.toArray.toList = ns := by rw [show its.toArray.toList = its from rfl, hi.numsOf]
  rw [hx] at ht hn
  rw [nums_intItems] at hn
  refine PySem.W.ktm_sumG (I.ok.hd hc) ht fun h' tk t' hk => ⟨.int _, H, I.kept hk, ⟨_, rfl⟩, ?_⟩
  rw [preSum_eq, List.take_of_length_le (by simp), hn]
  exact q
theorem biD_ok (hK : X.K = W.K) (hc : X.calm = true) (hu : X.A.units + 100 < cLine) (hdl : DicLst X W) {b : BI} {ds : List D} {r : R} {vs : List V} {Q : VK} (h : biD b ds = some r) (rs : RdL W ow H ds vs) (g : Gives W ow H r Q) :
    ∃ rr, CallR X (biV b) rr ∧ rr vs H Q := by
  unfold biD at h
  split at h
  · cases h; obtain ⟨v, rfl, rv⟩ := rs.one; cases intRd rv; exact ⟨_, call_abs, _, rfl, g.same (.int _)⟩
  · cases h; obtain ⟨v, rfl, rv⟩ := rs.one; cases intRd rv; exact ⟨_, call_int1, .inl ⟨_, rfl, g.same (.int _)⟩⟩
  · cases h; obtain ⟨v, rfl, rv⟩ := rs.one; cases (show Rep W ow H _ v from rv); exact ⟨_, call_int1, .inr ⟨_, rfl, g.same (.int _)⟩⟩
  · cases h; obtain ⟨v, rfl, a, us, rfl, ha, la⟩ := rs.one; exact ⟨_, call_len_seq, a, us, rfl, .inl (SqL.of ha), by rw [← la.length]; exact g.same (.int _)⟩
  · cases h
    obtain ⟨v, rfl, rv⟩ := rs.one
    cases (show Rep W ow H _ v from rv) with
    | @tup a us _ ha la => exact ⟨_, call_len_seq, a, us, rfl, .inr (hK ▸ ha.sq), by rw [← la.length]; exact g.same (.int _)⟩
  · cases h; obtain ⟨v, rfl, rv⟩ := rs.one; exact hdl.2 ow H _ v Q rv (g.same (.int _))
  · cases h; obtain ⟨v, rfl, a, us, rfl, ha, la⟩ := rs.one; exact ⟨_, call_list_of, a, us, rfl, .inl (SqL.of ha), fun p hp => g.lst la hp⟩
  · cases h
    obtain ⟨v, rfl, rv⟩ := rs.one
    cases (show Rep W ow H _ v from rv) with
    | @tup a us _ ha la => exact ⟨_, call_list_of, a, us, rfl, .inr (hK ▸ ha.sq), fun p hp => g.lst la hp⟩
  · cases h; obtain ⟨v, rfl, a, us, rfl, ha, la⟩ := rs.one; exact ⟨_, call_tuple_of, a, us, rfl, .inl ⟨SqL.of ha, fun p hp => g.tup la hp⟩⟩
  · cases h
    obtain ⟨v, rfl, rv⟩ := rs.one
    cases (show Rep W ow H _ v from rv) with
    | @tup a us _ ha la => exact ⟨_, call_tuple_of, a, us, rfl, .inr ⟨hK ▸ ha.sq, g.same (.tup ha la)⟩⟩
  · cases h; obtain ⟨v, u, rfl, rv, ru⟩ := rs.two; cases intRd rv; cases intRd ru; exact ⟨_, call_max2 hc, _, _, rfl, g.same (.int _)⟩
  · cases h; obtain ⟨v, u, rfl, rv, ru⟩ := rs.two; cases intRd rv; cases intRd ru; exact ⟨_, call_min2 hc, _, _, rfl, g.same (.int _)⟩
  · split at h
    · next n ns e =>
      cases h
      obtain ⟨v, rfl, a, us, rfl, ha, la⟩ := rs.one
      rw [la.ints e] at ha
      refine ⟨_, cr_max hc, a, n :: ns, rfl, SqL.of ha, by simp, fun m hm hle => ?_⟩
      obtain ⟨s1, s2⟩ := maxL_spec ns n
      have em : m = maxL n ns := Int.le_antisymm (s2 m hm) (hle _ s1)
      rw [em]; exact g.same (.int _)
    · cases h
  · split at h
    · next n ns e =>
      cases h
      obtain ⟨v, rfl, a, us, rfl, ha, la⟩ := rs.one
      rw [la.ints e] at ha
      refine ⟨_, cr_min hc, a, n :: ns, rfl, SqL.of ha, by simp, fun m hm hle => ?_⟩
      obtain ⟨s1, s2⟩ := minL_spec ns n
      have em : m = minL n ns := Int.le_antisymm (hle _ s1) (s2 m hm)
      rw [em]; exact g.same (.int _)
    · simp only [Option.map_eq_some_iff] at h
      obtain ⟨d, h, rfl⟩ := h
      obtain ⟨x, xs, rfl, hz, rfl⟩ := minLD_inv h
      obtain ⟨ps, e1, e2, e3⟩ := cmpAll_inv hz
      obtain ⟨v, rfl, a, us, rfl, ha, la⟩ := rs.one
      refine ⟨_, cr_minT hc hu, a, us, x, xs, ps, rfl, SqL.of ha, e1, hK ▸ repDps la e1, e2, e3, fun u hu1 => ?_⟩
      obtain ⟨u', hu2, ru⟩ := la.get leastAt_ok
      rw [hu1] at hu2
      cases hu2
      exact g.same ru
  · simp only [Option.map_eq_some_iff] at h
    obtain ⟨d, h, rfl⟩ := h
    obtain ⟨x, xs, he, hz, rfl⟩ := minLD_inv h
    obtain ⟨ps, e1, e2, e3⟩ := cmpAll_inv hz
    obtain ⟨v, u, rfl, rv, ru⟩ := rs.two
    rw [← he] at e1
    injection he with he1 he2
    subst he1 he2
    have rv' : Rep W ow H _ v := rv
    have ru' : Rep W ow H _ u := ru
    refine ⟨_, cr_min2T hc hu, v, u, _, _, ps, rfl, e1, hK ▸ repDps (.cons rv' (.cons ru' .nil)) e1, e2, e3, ?_⟩
    refine g.same ?_
    simp only [minF, List.foldl_cons, List.foldl_nil]
    split
    · exact ru'
    · exact rv'
  · simp only [Option.map_eq_some_iff] at h
    obtain ⟨ys, h, rfl⟩ := h
    obtain ⟨rfl, hL, ps, e1, e2, e3, e4⟩ := sortD_inv h
    obtain ⟨v, rfl, a, us, rfl, ha, la⟩ := rs.one
    obtain ⟨bs, rfl, rfl, hb⟩ := repL_pairs la
    refine ⟨_, cr_srt hu, a, bs, ps, rfl, SqL.of ha, e1, hK ▸ repDps la e1, e2, e3, e4, by simpa using hL, fun p hp => ?_⟩
    have hsrt : (bs.map (·.1)).mergeSort leB = (bs.mergeSort (PySem.W.dataLe false fun b => encP b.1)).map (·.1) := by
      rw [List.map_mergeSort (s := leB)]
      intro a _ b _
      rfl
    rw [hsrt] at g
    refine g.lst (pairs_repL fun b hb' => hb b ?_) hp
    exact (List.mergeSort_perm bs _).mem_iff.mp hb'
  · simp only [Option.map_eq_some_iff] at h
    obtain ⟨ns, e, rfl⟩ := h
    obtain ⟨v, rfl, a, us, rfl, ha, la⟩ := rs.one
    rw [la.ints e] at ha
    exact ⟨_, cr_sum hc, a, ns, rfl, SqL.of ha, g.same (.int _)⟩
  · simp only [Option.map_eq_some_iff] at h
    obtain ⟨ns, e, rfl⟩ := h
    obtain ⟨v, rfl, rv⟩ := rs.one
    cases (show Rep W ow H _ v from rv) with
    | @tup a us _ ha la =>
      rw [la.ints e] at ha
      exact ⟨_, cr_sumT hc, a, ns, rfl, hK ▸ ha.sq, g.same (.int _)⟩
  · cases h; obtain ⟨v, rfl, rv⟩ := rs.one; exact hdl.1 ow H _ v Q rv fun p us hp ru => g.lst ru hp
  · cases h

/-! ### isinstance -/
def clsV (W : Wd) (own : Str → Bool) (c : Str) : V := if own c then .ref (W.cad c) else .ty c.toString
def tyV (W : Wd) : D → Value
  | .non => .type "NoneType" | .bl _ => .type "bool" | .int _ => .type "int" | .str _ => .type "str" | .tup _ => .type "tuple" | .lst _ => .type "list" | .dic _ => .type "dict" | .ins c _ => .ref (W.cad c)
theorem tyX_ok (hi : ∀ c ∈ W.own, C8.InsC W.K (W.cad c)) (hn : ∀ kvs, d ≠ .dic kvs) {v : V} (h : Rd1 W ow H d v) : TyX W.K H v (tyV W d) := by
  cases d with
  | lst xs => obtain ⟨a, vs, rfl, h1, _⟩ := h; exact .base (.lst h1)
  | dic kvs => exact absurd rfl (hn kvs)
  | ins c fs =>
    obtain ⟨a, dx, gs, rfl, hm, h1, _⟩ := h
    have I := hi c hm
    exact .base (.ins h1 I.cl I.ha I.hn I.htk I.hm)
  | non => cases (show Rep W ow H _ v from h); exact .base .non
  | bl _ => cases (show Rep W ow H _ v from h); exact .base (.bl _)
  | int _ => cases (show Rep W ow H _ v from h); exact .base (.int _)
  | str _ => cases (show Rep W ow H _ v from h); exact .base (.str _)
  | tup xs =>
    cases (show Rep W ow H _ v from h) with
    | tup ha la =>
      rcases ha with ⟨r | ⟨o, r⟩, _⟩ | (r | ⟨o, its, n, hk, hc, _⟩)
      · exact .base (.tup r)
      · exact .fTuple r
      · rcases r with r | ⟨_, r⟩ <;> cases r
      · exact .kTuple hk hc

/-! ### truth -/
def DicTru (X : Cx) (W : Wd) : Prop := ∀ (ow : Ow) (H : Hp) (kvs : List (NestedKey × D)) (x : V) (Q : Bool → Hp → Prop), Rd1 W ow H (.dic kvs) x → Q (!kvs.isEmpty) H → ∃ rr, TruR X rr ∧ rr x H Q
theorem truD_ok (hK : X.K = W.K) (hd : DicTru X W) {d : D} {x : V} {Q : Bool → Hp → Prop} (h : truOk d = true) (rx : Rd1 W ow H d x) (q : Q (truD d) H) : ∃ rr, TruR X rr ∧ rr x H Q := by
  cases d with
  | lst xs => obtain ⟨a, vs, rfl, h1, la⟩ := rx; exact ⟨_, tru_ok, _, .inl ⟨vs, SqL.of h1, rfl⟩, by cases la <;> exact q⟩
  | dic kvs => exact hd ow H kvs x Q rx q
  | ins c fs => simp [truOk] at h
  | non => cases (show Rep W ow H _ x from rx); exact ⟨_, tru_ok, _, rfl, q⟩
  | bl _ => cases (show Rep W ow H _ x from rx); exact ⟨_, tru_ok, _, rfl, q⟩
  | int _ => cases (show Rep W ow H _ x from rx); exact ⟨_, tru_ok, _, rfl, q⟩
  | str z =>
    cases (show Rep W ow H _ x from rx)
    refine ⟨_, tru_ok, _, ⟨lineOk_ok h, rfl⟩, ?_⟩
    have e : (((z.length : Nat) : Int) != 0) = (z.length != 0) := by
      cases hz : z.length with
      | zero => rfl
      | succ n =>
        have h1 : (((n + 1 : Nat) : Int) != 0) = true := by simp; omega
        rw [h1]; simp
    rw [e]; exact q
  | tup xs =>
    cases (show Rep W ow H _ x from rx) with
    | @tup a vs _ ha la => exact ⟨_, tru_ok, _, .inr (.inl ⟨vs, hK ▸ ha.sq, rfl⟩), by cases la <;> exact q⟩

/-! ### subscripts -/
theorem atD_ok {xs : List D} {vs : List V} {i : Int} {d : D} (l : RepL W ow H xs vs) (h : atD xs i = some d) : ∃ v, atI vs i = some v ∧ Rep W ow H d v := by
  unfold atD atI at h
  simp only [Option.bind_eq_some_iff] at h
  obtain ⟨j, h1, h2⟩ := h
  obtain ⟨v, e, r⟩ := l.get h2
  refine ⟨v, ?_, r⟩
  unfold atI
  rw [← l.length, h1]
  exact e
def DicGet (X : Cx) (W : Wd) : Prop := ∀ (ow : Ow) (H : Hp) (ks : List D) (kvs : List (NestedKey × D)) (k : List NestedKey) (d : D) (x y : V) (Q : VK), kOf ks = some k → (kvs.find? fun p => decide (p.1 = .tup k)).map (·.2) = some d → Rd1 W ow H (.dic kvs) x → Rd1 W ow H (.tup ks) y →
  (∀ v, Rep W ow H d v → Q v H) → ∃ rr, IxR X rr ∧ rr x y H Q
theorem subD_ok (hK : X.K = W.K) (hd : DicGet X W) {d e f : D} {x y : V} {Q : VK} (h : subD d e = some f) (rx : Rd1 W ow H d x) (ry : Rd1 W ow H e y) (q : ∀ v, Rep W ow H f v → Q v H) : ∃ rr, IxR X rr ∧ rr x y H Q := by
  unfold subD at h
  split at h
  · cases intRd ry
    obtain ⟨a, vs, rfl, ha, la⟩ := rx
    obtain ⟨v, e, r⟩ := atD_ok la h
    exact ⟨_, ix_list, a, vs, _, v, rfl, rfl, SqL.of ha, e, q v r⟩
  · cases intRd ry
    cases (show Rep W ow H _ x from rx) with
    | @tup a vs _ ha la =>
    obtain ⟨v, e, r⟩ := atD_ok la h
    exact ⟨_, ix_tup, a, vs, _, v, rfl, rfl, hK ▸ ha.sq, e, q v r⟩
  · simp only [Option.bind_eq_some_iff] at h
    obtain ⟨k, h1, h2⟩ := h
    exact hd ow H _ _ k f x y Q h1 h2 rx ry q
  · cases h
theorem cutD_ok {xs : List D} {vs : List V} {lo hi : Option Int} (l : RepL W ow H xs vs) : RepL W ow H (cutD xs lo hi) (cutV vs lo hi) := by
  unfold cutD cutV
  rw [l.length]
  exact (l.drop _).take _
theorem sliD_ok (hK : X.K = W.K) {d : D} {lo hi : Option Int} {r : R} {x : V} {Q : VK} (h : sliD d lo hi = some r) (rx : Rd1 W ow H d x) (g : Gives W ow H r Q) : ∃ rr, SlR X rr ∧ rr x lo hi H Q := by
  unfold sliD at h
  split at h
  · cases h
    obtain ⟨a, vs, rfl, ha, la⟩ := rx
    exact ⟨_, sl_list, a, vs, rfl, SqL.of ha, fun p hp => g.lst (cutD_ok la) hp⟩
  · cases h
    cases (show Rep W ow H _ x from rx) with
    | @tup a vs _ ha la =>
    refine ⟨_, sl_tupA, a, vs, rfl, hK ▸ ha.sq, fun e => ?_, fun _ p hp => g.tup (cutD_ok la) hp⟩
    have ec : ∀ ys : List D, ys.length = vs.length → cutD ys lo hi = ys := fun ys hl => by
      unfold cutD
      rw [hl, e.1, e.2, List.drop_zero, Nat.sub_zero, ← hl, List.take_length]
    rw [ec _ la.length] at g
    exact g.same (.tup ha la)
  · cases h
end
end Ev

/-! EvD: what an evaluation promises; a def's promise; the call. -/
namespace Ev
open PySem PySem.Spec PyProof.Rows L2

/-! ### the judgements at one state -/
def RE (X : Cx) (e : Expr) (σ : L2.St) (H : Hp) (Q : VK) : Prop := ∀ (pins : List (Addr × Obj)) (s : Shared), Inv X pins σ H s → wpAny (model X.prog X.w) X.A (eval e X.env) (EP X pins σ Q) X.xe s
def RT (X : Cx) (e : Expr) (σ : L2.St) (H : Hp) (Q : Bool → Hp → Prop) : Prop := ∀ (pins : List (Addr × Obj)) (s : Shared), Inv X pins σ H s → wpAny (model X.prog X.w) X.A (isTrue e X.env (eval e X.env)) (TP X pins σ Q) X.xe s
def RA (X : Cx) (es : List Expr) (σ : L2.St) (H : Hp) (Q : List V → Hp → Prop) : Prop := ∀ (pos : Pos) (pins : List (Addr × Obj)) (s : Shared), Inv X pins σ H s → wpAny (model X.prog X.w) X.A (spliced (backTo pos (starEach es X.env))) (AP X pins σ Q) X.xe s
def RS (X : Cx) (st : Stmt) (D : Ends) (σ : L2.St) (H : Hp) : Prop := ∀ (pins : List (Addr × Obj)) (s : Shared), Inv X pins σ H s → wpAny (model X.prog X.w) X.A (exec st X.env) (SP X pins D) X.xe s
def RSs (X : Cx) (st : List Stmt) (D : Ends) (σ : L2.St) (H : Hp) : Prop := ∀ (pins : List (Addr × Obj)) (s : Shared), Inv X pins σ H s → wpAny (model X.prog X.w) X.A (execs st X.env) (SP X pins D) X.xe s
def RI (X : Cx) (tg iter : Expr) (σ : L2.St) (H : Hp) (R : L2.It → Hp → Prop) : Prop := ∀ (pins : List (Addr × Obj)) (s : Shared), Inv X pins σ H s →
  wpAny (model X.prog X.w) X.A (eval iter X.env) (fun v s1 => wpAny (model X.prog X.w) X.A (pyIter v) (PIE X pins σ tg R) X.xe s1) X.xe s
section
variable {X : Cx} {e tg : Expr} {es : List Expr} {st : Stmt} {sts : List Stmt} {σ : L2.St} {H : Hp}
theorem pe_RE : PE X e (RE X e) := ⟨fun pins s σ H Q I h => h pins s I⟩
theorem pt_RT : PT X e (RT X e) := ⟨fun pins s σ H Q I h => h pins s I⟩
theorem pa_RA : PA X es (RA X es) := ⟨fun pos pins s σ H Q I h => h pos pins s I⟩
theorem ps_RS : PS X st (RS X st) := ⟨fun pins s σ H D I h => h pins s I⟩
theorem pss_RS : PSs X sts (RSs X sts) := ⟨fun pins s σ H D I h => h pins s I⟩
theorem pi_RI : PI X tg e (RI X tg e) := ⟨fun pins s σ H R I h => h pins s I⟩
theorem RE.of {t : TE} {Q : VK} (h : PE X e t) (q : t σ H Q) : RE X e σ H Q := fun pins s I => h.run pins s σ H Q I q
theorem RT.of {t : TT} {Q : Bool → Hp → Prop} (h : PT X e t) (q : t σ H Q) : RT X e σ H Q := fun pins s I => h.run pins s σ H Q I q
theorem RA.of {t : TA} {Q : List V → Hp → Prop} (h : PA X es t) (q : t σ H Q) : RA X es σ H Q := fun pos pins s I => h.run pos pins s σ H Q I q
theorem RS.of {t : TS} {D : Ends} (h : PS X st t) (q : t D σ H) : RS X st D σ H := fun pins s I => h.run pins s σ H D I q
theorem RSs.of {t : TS} {D : Ends} (h : PSs X sts t) (q : t D σ H) : RSs X sts D σ H := fun pins s I => h.run pins s σ H D I q
theorem RI.of {t : TI} {R : L2.It → Hp → Prop} (h : PI X tg e t) (q : t σ H R) : RI X tg e σ H R := fun pins s I => h.run pins s σ H R I q
theorem RE.mono {Q Q' : VK} (h : RE X e σ H Q) (k : ∀ v H', Q v H' → Q' v H') : RE X e σ H Q' := fun pins s I => thn (h pins s I) fun _ _ ⟨v, H', I', r, q⟩ => ⟨v, H', I', r, k v H' q⟩
theorem RT.mono {Q Q' : Bool → Hp → Prop} (h : RT X e σ H Q) (k : ∀ v H', Q v H' → Q' v H') : RT X e σ H Q' := fun pins s I => thn (h pins s I) fun _ _ ⟨H', I', q⟩ => ⟨H', I', k _ H' q⟩
theorem RA.mono {Q Q' : List V → Hp → Prop} (h : RA X es σ H Q) (k : ∀ v H', Q v H' → Q' v H') : RA X es σ H Q' := fun pos pins s I => thn (h pos pins s I) fun _ _ ⟨v, H', I', r, q⟩ => ⟨v, H', I', r, k v H' q⟩
end

/-! ### what is promised of an outcome -/
/-- an exception: its class, its own dict -/
def ExRep (W : Wd) (ow : Ow) (H : Hp) (c : Str) (fs : List (Str × D)) (cls : Value) (d : Option Addr) : Prop :=
  cls = .ref (W.cad c) ∧ ((fs = [] ∧ d = none) ∨ (fs ≠ [] ∧ ∃ a gs, d = some a ∧ H a = some (.xd gs) ∧ RepF W ow H fs gs))
def Post {α β : Type} (W : Wd) (pv : Nat → Option V) (ow : Ow) (H : Hp) (σ : L2.St) (Wx : WX) (rep : Ow → Hp → α → β → Prop) (o : Out α) (Q : β → Hp → Prop) : Prop := match o with
  | .ok a S' => ∀ b ow' H', Step ow H ow' H' → Rel W pv ow' H' S' σ → rep ow' H' a b → Q b H'
  | .exc c fs S' => ∀ cls d ow' H', Step ow H ow' H' → Rel W pv ow' H' S' σ → ExRep W ow' H' c fs cls d → Wx cls d σ H'
  | .bad => False
abbrev PostE (W : Wd) (pv : Nat → Option V) (ow : Ow) (H : Hp) (σ : L2.St) (Wx : WX) (o : Out R) (Q : VK) : Prop := Post W pv ow H σ Wx (fun ow' H' r v => RRep W H ow' H' σ r v) o Q
abbrev PostB (W : Wd) (pv : Nat → Option V) (ow : Ow) (H : Hp) (σ : L2.St) (Wx : WX) (o : Out Bool) (Q : Bool → Hp → Prop) : Prop := Post W pv ow H σ Wx (fun _ _ (a b : Bool) => a = b) o Q
abbrev PostD (W : Wd) (pv : Nat → Option V) (ow : Ow) (H : Hp) (σ : L2.St) (Wx : WX) (o : Out D) (Q : VK) : Prop := Post W pv ow H σ Wx (fun ow' H' d v => Rep W ow' H' d v) o Q
section
variable {W : Wd} {pv : Nat → Option V} {ow ow1 : Ow} {H H1 : Hp} {σ : L2.St} {Wx : WX} {α β γ δ : Type}
theorem Post.seq {rep1 : Ow → Hp → α → β → Prop} {rep2 : Ow → Hp → γ → δ → Prop} {x : Out α} {f : α → Fr → Out γ} {Q : δ → Hp → Prop} (h : Post W pv ow H σ Wx rep2 (x.bind f) Q) :
    Post W pv ow H σ Wx rep1 x (fun b H1 => ∃ a S1 ow1, x = .ok a S1 ∧ Step ow H ow1 H1 ∧ Rel W pv ow1 H1 S1 σ ∧ rep1 ow1 H1 a b ∧ Post W pv ow H σ Wx rep2 (f a S1) Q) := by
  cases x with
  | ok a S1 => exact fun b ow' H' k r p => ⟨a, S1, ow', rfl, k, r, p, h⟩
  | exc c fs S1 => exact h
  | bad => exact h
theorem Post.seq2 {rep1 : Ow → Hp → α → β → Prop} {rep2 : Ow → Hp → γ → δ → Prop} {x : Out α} {f : α → Fr → Out γ} {Q : δ → Hp → Prop} (h : Post W pv ow H σ Wx rep2 (x.bind f) Q) (k1 : Step ow H ow1 H1) :
    Post W pv ow1 H1 σ Wx rep1 x (fun b H2 => ∃ a S1 ow2, x = .ok a S1 ∧ Step ow1 H1 ow2 H2 ∧ Rel W pv ow2 H2 S1 σ ∧ rep1 ow2 H2 a b ∧ Post W pv ow H σ Wx rep2 (f a S1) Q) := by
  cases x with
  | ok a S1 => exact fun b ow' H' k r p => ⟨a, S1, ow', rfl, k, r, p, h⟩
  | exc c fs S1 => exact fun cls d ow' H' k' r p => h cls d ow' H' (k1.trans k') r p
  | bad => exact h
theorem Post.rebase {rep rep' : Ow → Hp → α → β → Prop} {o : Out α} {Q : β → Hp → Prop} (h : Post W pv ow H σ Wx rep o Q) (k : Step ow H ow1 H1) (hr : ∀ ow' H' a b, Step ow1 H1 ow' H' → rep' ow' H' a b → rep ow' H' a b) :
    Post W pv ow1 H1 σ Wx rep' o Q := by
  cases o with
  | ok a S1 => exact fun b ow' H' k' r p => h b ow' H' (k.trans k') r (hr _ _ _ _ k' p)
  | exc c fs S1 => exact fun cls d ow' H' k' r p => h cls d ow' H' (k.trans k') r p
  | bad => exact h
theorem Post.reE {o : Out R} {Q : VK} (h : PostE W pv ow H σ Wx o Q) (k : Step ow H ow1 H1) : PostE W pv ow1 H1 σ Wx o Q :=
  Post.rebase h k fun _ _ _ _ _ p => RRep.back (fun _ e => k.none e) p
theorem Post.re {rep : Ow → Hp → α → β → Prop} {o : Out α} {Q : β → Hp → Prop} (h : Post W pv ow H σ Wx rep o Q) (k : Step ow H ow1 H1) : Post W pv ow1 H1 σ Wx rep o Q := Post.rebase h k fun _ _ _ _ _ p => p
theorem Out.bind_assoc (x : Out α) (f : α → Fr → Out β) (g : β → Fr → Out γ) : (x.bind f).bind g = x.bind fun a S => (f a S).bind g := by cases x <;> rfl
theorem esc_noexc {x : R} {S S' : Fr} {c : Str} {fs : List (Str × D)} : esc x S ≠ .exc c fs S' := by
  cases x with
  | val d => simp [esc]
  | tmp o => simp only [esc]; split <;> simp
  | bor i => simp only [esc, frz]; split <;> (try split) <;> simp
/-- .. and made a value -/
theorem Post.esc2 {rep2 : Ow → Hp → γ → δ → Prop} {ow0 owa : Ow} {H0 Ha : Hp} {x : R} {S : Fr} {v : V} {f : D → Fr → Out γ} {Q : δ → Hp → Prop} (r : Rel W pv ow H S σ) (k : Step owa Ha ow H) (p : RRep W Ha ow H σ x v)
    (h : Post W pv ow0 H0 σ Wx rep2 ((esc x S).bind f) Q) : ∃ d S1 ow1, Step owa Ha ow1 H ∧ Keep ow H ow1 H ∧ Rel W pv ow1 H S1 σ ∧ Rep W ow1 H d v ∧ Post W pv ow0 H0 σ Wx rep2 (f d S1) Q := by
  cases e : Ev.esc x S with
  | ok d S1 =>
    obtain ⟨ow1, k1, kp, r1, p1⟩ := esc_ok r k p e
    rw [e] at h
    exact ⟨d, S1, ow1, k1, kp, r1, p1, h⟩
  | exc c fs S1 => exact absurd e esc_noexc
  | bad => rw [e] at h; exact False.elim h
theorem Post.esc {rep2 : Ow → Hp → γ → δ → Prop} {ow0 : Ow} {H0 : Hp} {x : R} {S : Fr} {v : V} {f : D → Fr → Out γ} {Q : δ → Hp → Prop} (r : Rel W pv ow H S σ) (k : Step ow0 H0 ow H) (p : RRep W H0 ow H σ x v)
    (h : Post W pv ow0 H0 σ Wx rep2 ((esc x S).bind f) Q) : ∃ d S1 ow1, Step ow0 H0 ow1 H ∧ Rel W pv ow1 H S1 σ ∧ Rep W ow1 H d v ∧ Post W pv ow0 H0 σ Wx rep2 (f d S1) Q :=
  let ⟨d, S1, ow1, k1, _, r1, p1, h1⟩ := Post.esc2 r k p h
  ⟨d, S1, ow1, k1, r1, p1, h1⟩
end

/-! ### a def's promise -/
def ArgsRep (W : Wd) (ow : Ow) (H : Hp) : Nat → List Cell → List V → Prop
  | _, [], [] => True
  | i, c :: cs, v :: vs => CellRep W ow H i c v ∧ ArgsRep W ow H (i + 1) cs vs
  | _, _, _ => False
def isPar : Option Cell → Bool
  | some (.par _) => true
  | _ => false
def isArg : Cell → Bool
  | .val _ => true
  | .par _ => true
  | _ => false
def EntryOk (ow : Ow) (H : Hp) (cs : List Cell) : Prop := ∀ p, H p ≠ none → ow p = .fz ∨ ow p = .fo ∨ ∃ i, isPar cs[i]? = true ∧ ow p = .sl i
def RCRep (W : Wd) (H0 : Hp) (ow : Ow) (H : Hp) : RC → V → Prop
  | .val d, v => Rep W ow H d v
  | .own o, v => ObRep W ow H (fun p => ow p = .tm ∧ H0 p = none) o v
def OutsRep (W : Wd) (ow : Ow) (H : Hp) : Nat → List Cell → List V → List Ob → Prop
  | i, .par _ :: cs, v :: vs, o :: os => ObRep W ow H (fun p => ow p = .sl i) o v ∧ OutsRep W ow H (i + 1) cs vs os
  | i, .val _ :: cs, _ :: vs, os => OutsRep W ow H (i + 1) cs vs os
  | _, [], [], [] => True
  | _, _, _, _ => False
def PostF (W : Wd) (ow : Ow) (H : Hp) (cs : List Cell) (vs : List V) (r : FnRes) (Q : VK) (E : XK) : Prop := match r with
  | .ok r os => ∀ v ow' H', Step ow H ow' H' → RCRep W H ow' H' r v → OutsRep W ow' H' 0 cs vs os → Q v H'
  | .exc c fs os => ∀ cls d ow' H', Step ow H ow' H' → ExRep W ow' H' c fs cls d → OutsRep W ow' H' 0 cs vs os → E cls d H'
  | .bad => False
def spOf (W : Wd) (cl : Calls) (f : Str) : Sp := fun vs H Q E => ∃ ow cs, ArgsRep W ow H 0 cs vs ∧ (cs.all isArg = true) ∧ EntryOk ow H cs ∧ PostF W ow H cs vs (cl f cs) Q E

/-! ### the arguments of a call -/
def ArgV (W : Wd) (ow : Ow) (H : Hp) (σ : L2.St) : Arg → V → Prop
  | .v d, v => Rep W ow H d v
  | .r i, v => σ[i]? = some (some v)
inductive ArgVs (W : Wd) (ow : Ow) (H : Hp) (σ : L2.St) : List Arg → List V → Prop
  | nil : ArgVs W ow H σ [] []
  | cons {a : Arg} {v : V} {as : List Arg} {vs : List V} : ArgV W ow H σ a v → ArgVs W ow H σ as vs → ArgVs W ow H σ (a :: as) (v :: vs)
/-- the place of a slot among the arguments by reference -/
def posOf : List Arg → Nat → Nat → Option Nat
  | [], _, _ => none
  | .v _ :: r, n, j => posOf r (n + 1) j
  | .r i :: r, n, j => if i = j then some n else posOf r (n + 1) j
theorem posOf_none : ∀ {as : List Arg} {n j : Nat}, j ∉ refsOf as → posOf as n j = none
  | [], _, _, _ => rfl
  | .v _ :: r, n, j, h => posOf_none (as := r) h
  | .r i :: r, n, j, h => by
    simp only [refsOf, List.mem_cons, not_or] at h
    unfold posOf
    rw [if_neg (fun e => h.1 e.symm)]
    exact posOf_none h.2
theorem posOf_ge : ∀ {as : List Arg} {n j m : Nat}, posOf as n j = some m → n ≤ m
  | .v _ :: r, n, j, m, h => Nat.le_of_succ_le (posOf_ge (as := r) h)
  | .r i :: r, n, j, m, h => by
    unfold posOf at h
    split at h
    · cases h; exact Nat.le_refl _
    · exact Nat.le_of_succ_le (posOf_ge (as := r) h)
theorem posOf_inj : ∀ {as : List Arg} {n i j m : Nat}, posOf as n i = some m → posOf as n j = some m → i = j
  | .v _ :: r, n, i, j, m, h, g => posOf_inj (as := r) h g
  | .r k :: r, n, i, j, m, h, g => by
    unfold posOf at h g
    split at h
    · next e1 =>
      cases h
      split at g
      · next e2 => exact e1.symm.trans e2
      · exact absurd (posOf_ge g) (Nat.not_succ_le_self _)
    · split at g
      · cases g
        exact absurd (posOf_ge h) (Nat.not_succ_le_self _)
      · exact posOf_inj (as := r) h g

section
variable {W : Wd} {pv : Nat → Option V} {ow : Ow} {H : Hp} {S : Fr} {σ : L2.St}
/-- the callee's tags -/
def owIn (as : List Arg) (ow : Ow) : Ow := fun p => match ow p with
  | .fz => .fz
  | .sl j => (match posOf as 0 j with
    | some n => .sl n
    | none => .fo)
  | _ => .fo
open Classical in
/-- the caller's tags behind the call -/
noncomputable def owOut (as : List Arg) (H : Hp) (ow owc : Ow) : Ow := fun p => if H p = none then (match owc p with
    | .tm => .tm
    | .sl n => if h : ∃ j, posOf as 0 j = some n then .sl (Classical.choose h) else .fz
    | _ => .fz)
  else (match ow p with
    | .sl j => (match posOf as 0 j with
      | some n => if owc p = .sl n then .sl j else .fz
      | none => .sl j)
    | t => t)
theorem owIn_fz {as : List Arg} {p : Addr} (h : ow p = .fz) : owIn as ow p = .fz := by unfold owIn; rw [h]
theorem owIn_fz_iff {as : List Arg} {p : Addr} (h : owIn as ow p = .fz) : ow p = .fz := by
  unfold owIn at h
  split at h
  · assumption
  · split at h <;> cases h
  · cases h
theorem owIn_tm {as : List Arg} {p : Addr} : owIn as ow p ≠ .tm := by
  unfold owIn
  split
  · simp
  · split <;> simp
  · simp
theorem owIn_sl {as : List Arg} {p : Addr} {n : Nat} (h : owIn as ow p = .sl n) : ∃ j, ow p = .sl j ∧ posOf as 0 j = some n := by
  unfold owIn at h
  split at h
  · cases h
  · next j e =>
    split at h
    · next m e2 => cases h; exact ⟨j, e, e2⟩
    · cases h
  · cases h
theorem owIn_pos {as : List Arg} {p : Addr} {j n : Nat} (h : ow p = .sl j) (e : posOf as 0 j = some n) : owIn as ow p = .sl n := by
  unfold owIn; rw [h]; simp only [e]
theorem owIn_keep {as : List Arg} : Keep ow H (owIn as ow) H := fun p _ e => ⟨rfl, owIn_fz e⟩
theorem owOut_new {as : List Arg} {owc : Ow} {p : Addr} {j n : Nat} (h : H p = none) (e : owc p = .sl n) (hj : posOf as 0 j = some n) : owOut as H ow owc p = .sl j := by
  unfold owOut
  rw [if_pos h, e]
  have ex : ∃ j, posOf as 0 j = some n := ⟨j, hj⟩
  simp only [dif_pos ex]
  rw [posOf_inj (Classical.choose_spec ex) hj]

/-- the callee's arguments -/
theorem args_in (r : Rel W pv ow H S σ) : ∀ {as all : List Arg} {vs : List V} {cs : List Cell} {n : Nat}, ArgVs W ow H σ as vs → argCs S as = some cs → (∀ j m, posOf as n j = some m → posOf all 0 j = some m) → (refsOf as).Nodup →
    ArgsRep W (owIn all ow) H n cs vs ∧ cs.all isArg = true ∧ cs.length = vs.length
  | [], _, _, _, _, h, e, _, _ => by cases h; simp [argCs] at e; subst e; exact ⟨trivial, rfl, rfl⟩
  | a :: as, all, _, cs, n, h, e, hp, nd => by
    cases h with
    | @cons _ v _ vs h1 h2 =>
      simp only [argCs] at e
      split at e
      · next c cs' e1 e2 =>
        cases e
        cases a with
        | v d =>
          simp only [argC, Option.some.injEq] at e1
          subst e1
          obtain ⟨k1, k2, k3⟩ := args_in r (n := n + 1) h2 e2 (fun j m q => hp j m q) nd
          exact ⟨⟨Rep.keep owIn_keep h1, k1⟩, by simp [isArg, k2], by simp [k3]⟩
        | r i =>
          simp only [argC, Option.map_eq_some_iff] at e1
          obtain ⟨o, e1, rfl⟩ := e1
          simp only [refsOf, List.nodup_cons] at nd
          obtain ⟨u, hu, ho⟩ := r.obj e1
          have h1' : σ[i]? = some (some v) := h1
          rw [h1'] at hu
          cases hu
          have hpi : posOf all 0 i = some n := hp i n (by unfold posOf; rw [if_pos rfl])
          obtain ⟨k1, k2, k3⟩ := args_in r (n := n + 1) h2 e2 (fun j m q => hp j m (by
            unfold posOf
            rw [if_neg ?_]
            · exact q
            · intro z
              subst z
              rw [posOf_none nd.1] at q
              cases q)) nd.2
          exact ⟨⟨ObRep.keep owIn_keep (fun p _ z => ⟨rfl, owIn_pos z hpi⟩) ho, k1⟩, by simp [isArg, k2], by simp [k3]⟩
      · cases e
theorem argCs_get : ∀ {as : List Arg} {cs : List Cell} {n j m : Nat}, argCs S as = some cs → posOf as n j = some m → n ≤ m ∧ isPar cs[m - n]? = true
  | [], _, _, _, _, _, q => by simp [posOf] at q
  | a :: as, cs, n, j, m, e, q => by
    simp only [argCs] at e
    split at e
    · next c cs' e1 e2 =>
      cases e
      cases a with
      | v d =>
        obtain ⟨h1, h2⟩ := argCs_get (n := n + 1) e2 q
        refine ⟨by omega, ?_⟩
        have : m - n = (m - (n + 1)) + 1 := by omega
        rw [this]
        simpa using h2
      | r i =>
        unfold posOf at q
        split at q
        · cases q
          simp only [argC, Option.map_eq_some_iff] at e1
          obtain ⟨o, _, rfl⟩ := e1
          exact ⟨Nat.le_refl _, by simp [isPar]⟩
        · obtain ⟨h1, h2⟩ := argCs_get (n := n + 1) e2 q
          refine ⟨by omega, ?_⟩
          have : m - n = (m - (n + 1)) + 1 := by omega
          rw [this]
          simpa using h2
    · cases e
theorem entry_in {as : List Arg} {cs : List Cell} (e : argCs S as = some cs) : EntryOk (owIn as ow) H cs := fun p hp => by
  unfold owIn
  split
  · exact .inl rfl
  · split
    · next j _ n q => exact .inr (.inr ⟨n, (argCs_get e q).2, rfl⟩)
    · exact .inr (.inl rfl)
  · exact .inr (.inl rfl)
/-- the step of a call, seen by the caller -/
theorem step_out {as : List Arg} {owc : Ow} {H' : Hp} (k : Step (owIn as ow) H owc H') : Step ow H (owOut as H ow owc) H' := fun p hp => by
  obtain ⟨n, f, s⟩ := k p hp
  refine ⟨n, fun e => ?_, fun i e => ?_⟩
  · have e2 : ∀ i, owIn as ow p ≠ .sl i := fun i z => by
      obtain ⟨j, z1, _⟩ := owIn_sl z
      exact e j z1
    refine ⟨(f e2).1, ?_⟩
    unfold owOut
    rw [if_neg hp]
    split
    · next j z => exact absurd z (e j)
    · rfl
  · unfold owOut
    rw [if_neg hp, e]
    simp only
    split
    · split
      · exact .inl rfl
      · exact .inr (.inl rfl)
    · exact .inl rfl
theorem keep_out {as : List Arg} {owc : Ow} {H' : Hp} (k : Step (owIn as ow) H owc H') : Keep owc H' (owOut as H ow owc) H' := fun p hp e => by
  refine ⟨rfl, ?_⟩
  unfold owOut
  split
  · rw [e]
  · next hn =>
    obtain ⟨_, f, s⟩ := k p hn
    split
    · next j z =>
      split
      · next n q =>
        rw [if_neg (by rw [e]; simp)]
      · next q =>
        have e1 : owIn as ow p = .fo := by unfold owIn; rw [z]; simp only [q]
        have := (f (by rw [e1]; simp)).2
        rw [e, e1] at this
        cases this
    · next t z =>
      by_cases ht : ow p = .fz
      · exact ht
      · have e1 : owIn as ow p = .fo := by
          unfold owIn
          split
          · next q => exact absurd q ht
          · next j q => exact absurd q (z j)
          · rfl
        have := (f (by rw [e1]; simp)).2
        rw [e, e1] at this
        cases this
theorem sl_out {as : List Arg} {owc : Ow} {H' : Hp} (k : Step (owIn as ow) H owc H') {p : Addr} {n j : Nat} (e : owc p = .sl n) (hj : posOf as 0 j = some n) : owOut as H ow owc p = .sl j := by
  by_cases hp : H p = none
  · exact owOut_new hp e hj
  · obtain ⟨_, f, s⟩ := k p hp
    by_cases hs : ∃ m, owIn as ow p = .sl m
    · obtain ⟨m, hm⟩ := hs
      obtain ⟨j', e1, e2⟩ := owIn_sl hm
      rcases s m hm with q | q | q
      · rw [q] at e
        cases e
        have := posOf_inj e2 hj
        subst this
        unfold owOut
        rw [if_neg hp, e1]
        simp only [e2]
        rw [if_pos q]
      · rw [q] at e; cases e
      · rw [q] at e; cases e
    · have := (f (fun i z => hs ⟨i, z⟩)).2
      rw [e] at this
      exact absurd ⟨n, this.symm⟩ hs
theorem tm_out {as : List Arg} {owc : Ow} {p : Addr} (e : owc p = .tm) (hp : H p = none) : owOut as H ow owc p = .tm := by unfold owOut; rw [if_pos hp, e]

theorem getC_putO_ne {S : Fr} {i j : Nat} {o : Ob} (h : i ≠ j) : getC (putO S i o) j = getC S j := by
  unfold putO
  split <;> exact getC_set_ne h
theorem back_ne : ∀ {S : Fr} {is : List Nat} {os : List Ob} {j : Nat}, j ∉ is → getC (back S is os) j = getC S j
  | _, [], _, _, _ => by unfold back; rfl
  | _, _ :: _, [], _, _ => by unfold back; rfl
  | S, i :: is, o :: os, j, h => by
    simp only [List.mem_cons, not_or] at h
    unfold back
    rw [back_ne h.2, getC_putO_ne (Ne.symm h.1)]
theorem back_len : ∀ {S : Fr} {is : List Nat} {os : List Ob}, (back S is os).length = S.length
  | _, [], _ => by unfold back; rfl
  | _, _ :: _, [] => by unfold back; rfl
  | S, i :: is, o :: os => by
    unfold back
    rw [back_len]
    unfold putO setC
    split <;> simp
/-- the slots that were handed over, behind the call -/
theorem outs_in (r : Rel W pv ow H S σ) {owc : Ow} {H' : Hp} {all : List Arg} (k : Step (owIn all ow) H owc H') :
    ∀ {as : List Arg} {vs : List V} {cs : List Cell} {os : List Ob} {n : Nat} {S0 : Fr}, ArgVs W ow H σ as vs → argCs S as = some cs → OutsRep W owc H' n cs vs os → (∀ j m, posOf as n j = some m → posOf all 0 j = some m) → (refsOf as).Nodup →
      (∀ j ∈ refsOf as, getC S0 j = getC S j) →
      ∀ j ∈ refsOf as, ∃ c, getC (back S0 (refsOf as) os) j = some c ∧ (∀ v, σ[j]? = some (some v) → CellRep W (owOut all H ow owc) H' j c v) ∧ ((∃ o, c = .par o) ↔ ∃ o, getC S j = some (.par o)) ∧ ∃ v, σ[j]? = some (some v)
  | [], _, _, _, _, _, _, _, _, _, _, _, j, hj => by simp [refsOf] at hj
  | a :: as, _, cs, os, n, S0, h, e, ho, hp, nd, hs, j, hj => by
    cases h with
    | @cons _ v _ vs h1 h2 =>
      simp only [argCs] at e
      split at e
      · next c cs' e1 e2 =>
        cases e
        cases a with
        | v d =>
          simp only [argC, Option.some.injEq] at e1
          subst e1
          exact outs_in r k (n := n + 1) h2 e2 ho (fun j m q => hp j m q) nd hs j hj
        | r i =>
          simp only [argC, Option.map_eq_some_iff] at e1
          obtain ⟨o0, e1, rfl⟩ := e1
          simp only [refsOf, List.nodup_cons] at nd
          cases os with
          | nil => exact False.elim ho
          | cons o os =>
            obtain ⟨ho1, ho2⟩ := ho
            have hpi : posOf all 0 i = some n := hp i n (by unfold posOf; rw [if_pos rfl])
            have hcell : getC S0 i = getC S i := hs i (by simp [refsOf])
            have hset : ∃ c0, getC S i = some c0 ∧ (c0 = .own o0 ∨ c0 = .par o0) := by
              unfold getO at e1
              split at e1
              · next o' z => cases e1; exact ⟨_, z, .inl rfl⟩
              · next o' z => cases e1; exact ⟨_, z, .inr rfl⟩
              · cases e1
            obtain ⟨c0, z0, z1⟩ := hset
            have hlt : i < S0.length := getC_lt (hcell.trans z0)
            simp only [refsOf, List.mem_cons] at hj
            by_cases hji : j = i
            · subst hji
              have hv : σ[j]? = some (some v) := h1
              have rep : ObRep W (owOut all H ow owc) H' (fun p => owOut all H ow owc p = .sl j) o v := ObRep.keep (keep_out k) (fun p _ z => ⟨rfl, sl_out k z hpi⟩) ho1
              have hb : getC (back S0 (refsOf (Arg.r j :: as)) (o :: os)) j = getC (putO S0 j o) j := by
                show getC (back (putO S0 j o) (refsOf as) os) j = _
                exact back_ne nd.1
              rw [hb]
              unfold putO
              rw [hcell, z0]
              rcases z1 with rfl | rfl
              · refine ⟨.own o, getC_set_self hlt, fun u hu => ?_, by simp, v, hv⟩
                rw [hv] at hu; cases hu; exact rep
              · refine ⟨.par o, getC_set_self hlt, fun u hu => ?_, by simp, v, hv⟩
                rw [hv] at hu; cases hu; exact rep
            · have hj' : j ∈ refsOf as := by
                rcases hj with z | z
                · exact absurd z hji
                · exact z
              show ∃ c, getC (back (putO S0 i o) (refsOf as) os) j = some c ∧ _
              exact outs_in r k (n := n + 1) h2 e2 ho2 (fun j m q => hp j m (by
                unfold posOf
                rw [if_neg ?_]
                · exact q
                · intro z
                  subst z
                  rw [posOf_none nd.1] at q
                  cases q)) nd.2 (fun j' hj'' => by
                    have hne : i ≠ j' := fun z => nd.1 (by rw [z]; exact hj'')
                    rw [getC_putO_ne hne]
                    exact hs j' (by simp [refsOf, hj''])) j hj'
      · cases e
/-- the caller's slots behind the call -/
theorem rel_out (r : Rel W pv ow H S σ) {as : List Arg} {vs : List V} {cs : List Cell} {os : List Ob} {owc : Ow} {H' : Hp} (k : Step (owIn as ow) H owc H') (ha : ArgVs W ow H σ as vs) (e : argCs S as = some cs) (nd : (refsOf as).Nodup) (ho : OutsRep W owc H' 0 cs vs os) :
    Rel W pv (owOut as H ow owc) H' (back S (refsOf as) os) σ := by
  have st := step_out k
  have outs := outs_in r k (S0 := S) ha e ho (fun _ _ q => q) nd (fun _ _ => rfl)
  refine ⟨back_len.trans r.len, fun j c hc => ?_, fun j v hv => ?_, fun j o hc => ?_⟩
  · by_cases hj : j ∈ refsOf as
    · obtain ⟨c', h1, h2, _, v, hv⟩ := outs j hj
      rw [h1] at hc
      cases hc
      exact ⟨v, hv, h2 v hv⟩
    · rw [back_ne hj] at hc
      obtain ⟨v, hv, h⟩ := r.cell j c hc
      refine ⟨v, hv, ?_⟩
      have kt : ∀ p, H p ≠ none → ow p = .sl j → H' p = H p ∧ owOut as H ow owc p = .sl j := fun p hp z => by
        have q : posOf as 0 j = none := posOf_none hj
        have e1 : owIn as ow p = .fo := by unfold owIn; rw [z]; simp only [q]
        refine ⟨((k p hp).2.1 (by rw [e1]; simp)).1, ?_⟩
        unfold owOut
        rw [if_neg hp, z]
        simp only [q]
      cases c with
      | val d => exact Rep.keep st.keep h
      | own o => exact ObRep.keep st.keep kt h
      | par o => exact ObRep.keep st.keep kt h
      | exc _ _ => exact h
  · obtain ⟨o, h1, h2⟩ := r.par j v hv
    by_cases hj : j ∈ refsOf as
    · obtain ⟨c', g1, _, g3, _⟩ := outs j hj
      obtain ⟨o', rfl⟩ := g3.mpr ⟨o, h1⟩
      exact ⟨o', g1, h2⟩
    · exact ⟨o, by rw [back_ne hj]; exact h1, h2⟩
  · by_cases hj : j ∈ refsOf as
    · obtain ⟨c', g1, _, g3, _⟩ := outs j hj
      rw [g1] at hc
      cases hc
      obtain ⟨o', h⟩ := g3.mp ⟨o, rfl⟩
      exact r.unpar j o' h
    · rw [back_ne hj] at hc
      exact r.unpar j o hc
/-- from the caller's promise to the callee's -/
theorem call_sp {cl : Calls} {f : Str} {as : List Arg} {vs : List V} {Wx : WX} {Q : VK} (r : Rel W pv ow H S σ) (ha : ArgVs W ow H σ as vs) (h : PostE W pv ow H σ Wx (callR cl f as S) Q) :
    spOf W cl f vs H Q (fun cls d H' => Wx cls d σ H') := by
  unfold callR at h
  split at h
  · exact False.elim h
  · next cs e =>
    split at h
    · next nd =>
      obtain ⟨k1, k2, k3⟩ := args_in r (n := 0) (all := as) ha e (fun _ _ q => q) nd
      refine ⟨owIn as ow, cs, k1, k2, entry_in e, ?_⟩
      split at h
      · next rc os ec =>
        rw [ec]
        intro v owc H' k hr ho
        refine h v (owOut as H ow owc) H' (step_out k) (rel_out r k ha e nd ho) ?_
        cases rc with
        | val d => exact Rep.keep (keep_out k) hr
        | own o => exact ObRep.keep (keep_out k) (fun p _ z => ⟨rfl, tm_out z.1 z.2, z.2⟩) hr
      · next c fs os ec =>
        rw [ec]
        intro cls d owc H' k hr ho
        refine h cls d (owOut as H ow owc) H' (step_out k) (rel_out r k ha e nd ho) ?_
        obtain ⟨h1, h2⟩ := hr
        refine ⟨h1, ?_⟩
        rcases h2 with h2 | ⟨h2, a, gs, h3, h4, h5⟩
        · exact .inl h2
        · exact .inr ⟨h2, a, gs, h3, h4, h5.keep (keep_out k)⟩
      · exact False.elim h
    · exact False.elim h
end
end Ev

/-! EvE: each expression, by its parts. -/
namespace Ev
open PySem PySem.Spec PyProof.Rows L2

/-- what the text has: slots, defs, own classes, constants, fields, properties -/
structure MC where
  N : List Str
  fns : List Str
  cons : List Str
  flds : List (Str × Str)
  props : List (Str × Str)
  made : List Str
  excs : List Str := []
def freeNames : List Str := ["abs", "int", "len", "list", "tuple", "max", "min", "sum", "sorted", "str", "isinstance", "range", "enumerate", "zip", "reversed", "bool", "dict", "ValueError"]
def biCls : List (Str × String) := [("int", "int"), ("bool", "bool"), ("str", "str"), ("tuple", "tuple"), ("list", "list")]
/-- a def of the text: where it stands and that it keeps its promise -/
def FnAt (W : Wd) (cl : Calls) (k : Nat) (X : Cx) (fa : Addr) (f : Str) : Prop := ∃ fd ps, PySem.W.keepIn X.K (.ref fa) = true ∧ Binds X.K fd ps [] ∧ FnOk X.prog X.w X.K X.mg X.base (L2.CX X.prog X.w) k fa fd ps (spOf W cl f)
/-- J walks ds as long as frozen things stand -/
def Walk (W : Wd) (ow : Ow) (H : Hp) (J : L2.It) (ds : List D) : Prop := ∀ ow' H', Keep ow H ow' H' → ∀ i,
  (∀ d, ds[i]? = some d → J.go i H' ∧ ∀ x H'', J.yld i H' x H'' → ∃ ow'', Grow ow' H' ow'' H'' ∧ Rep W ow'' H'' d x) ∧ (i = ds.length → J.stop i H')
def DicWalk (X : Cx) (W : Wd) : Prop := ∀ (tg e : Expr) (σ : L2.St) (H : Hp) (R : L2.It → Hp → Prop), RE X e σ H (fun x H1 => ∃ ow kvs, Rep W ow H1 (.dic kvs) x ∧ ∀ J, Walk W ow H1 J (kvs.map fun p => ofKey p.1) → R J H1) → RI X tg e σ H R
/-- {} -/
def dict0 : Obj := { cls := .type "dict", data := .dict #[] }
def DicNew (X : Cx) (W : Wd) : Prop := ∀ (pos : Pos) (σ : L2.St) (H : Hp) (Q : VK), (∀ p, H p = none → (p == sysModules) = false → DObj W.P W.w dict0 [] → Q (.ref p) (upd H p (objAt p dict0))) → RE X (.Dict [] [] pos) σ H Q
/-- {k: v} -/
def DicOne (X : Cx) (W : Wd) : Prop := ∀ (ke ve : Expr) (pos : Pos) (σ : L2.St) (H : Hp) (Q : VK), (∀ p, H p = none → (p == sysModules) = false → RE X ke σ (upd H p (objAt p dict0)) fun x H1 => RE X ve σ H1 fun y H2 => H2 p = some (objAt p dict0) ∧
    ∃ ow ks k d b, x = .ref b ∧ kOf ks = some k ∧ Rep W ow H2 (.tup ks) x ∧ Rep W ow H2 d y ∧ ow p ≠ .fz ∧ ∀ o es, DObj W.P W.w o es → RepK W ow H2 [(.tup k, d)] es → Q (.ref p) (upd H2 p (objAt p o))) → RE X (.Dict [some ke] [ve] pos) σ H Q
/-- d[k] = v -/
def DicSet (X : Cx) (W : Wd) : Prop := ∀ (ow : Ow) (H : Hp) (ks : List D) (kvs : List (NestedKey × D)) (k : List NestedKey) (d : D) (a b : Addr) (v : V) (Q : Hp → Prop), kOf ks = some k → Rd1 W ow H (.dic kvs) (.ref a) → Rep W ow H (.tup ks) (.ref b) → Rep W ow H d v → kvs.length < sizeLine →
  (∀ o es, (a == sysModules) = false → DObj W.P W.w o es → RepK W ow H (storeK kvs (.tup k) d) es → Q (upd H a (objAt a o))) →
  ∀ (pins : List (Addr × Obj)) (s : Shared) (σ : L2.St) (u : Value), Inv X pins σ H s → RelV v u → wpAny (model X.prog X.w) X.A (setItem (.ref a) (.ref b) u) (fun _ s' => ∃ H', Inv X pins σ H' s' ∧ Q H') X.xe s
/-- d.get(k, x) -/
def DicGo (X : Cx) (W : Wd) : Prop := (∀ (pins : List (Addr × Obj)) (s : Shared) (σ : L2.St) (H : Hp) (ow : Ow) (kvs : List (NestedKey × D)) (x : V), Inv X pins σ H s → Rd1 W ow H (.dic kvs) x → ∃ a, x = .ref a ∧ s.TypeIs (.ref a) "dict" ∧ ∀ b, Value.ref a = .ref b → ∃ ob, s.heap.get? b = some ob ∧ ob.dict = none) ∧
  ∀ (ow : Ow) (H : Hp) (ks : List D) (kvs : List (NestedKey × D)) (k : List NestedKey) (a b : Addr) (x : D) (z : V) (Q : VK), kOf ks = some k → Rd1 W ow H (.dic kvs) (.ref a) → Rep W ow H (.tup ks) (.ref b) → Rep W ow H x z → (∀ r, Rep W ow H ((valK kvs (.tup k)).getD x) r → Q r H) →
  ∀ (pins : List (Addr × Obj)) (s : Shared) (σ : L2.St) (u : Value), Inv X pins σ H s → RelV z u → wpAny (model X.prog X.w) X.A (call (.builtin "dict.get") [.ref a, .ref b, u]) (EP X pins σ Q) X.xe s
/-- the rules of dicts -/
def DicAll (W : Wd) : Prop := ∀ X : Cx, X.prog = W.P → X.w = W.w → X.K = W.K → X.calm = true → X.A.units + 100 < cLine → DicIn X W ∧ DicTru X W ∧ DicGet X W ∧ DicWalk X W ∧ DicLst X W ∧ DicNew X W ∧ DicOne X W ∧ DicSet X W ∧ DicGo X W
/-- an exception class of the text, without an __init__ -/
def ExcOk (K : PySem.W.Frag) (C : Addr) : Prop := PySem.W.excIn K C [.type "ValueError", .type "Exception", .type "BaseException", .type "object"] "ValueError.__new__" = true ∧ PySem.W.keepIn K (.ref C) = true ∧ PySem.W.subIn K (.ref C) (.type "BaseException") = some true ∧ PySem.W.typeIn K (.ref C) = some (.type "type")
structure CxG (W : Wd) (M : MC) (cl : Calls) (gl : Str → Option D) (k : Nat) (X : Cx) (sc : Scope) (Wx : WX) : Prop where
  prog : X.prog = W.P
  w : X.w = W.w
  K : X.K = W.K
  N : X.N = M.N
  nd : M.N.Nodup
  sc : X.env.scope = sc
  calm : X.calm = true
  room : Room (k + 2) X.A
  tk : Takes X Wx
  pw : PassesOwn (model X.prog X.w) X.A X.env X.xe
  free : ∀ x ∈ freeNames, X.mg x = none
  fn : ∀ f ∈ M.fns, ∃ fa, X.mg f = some (.ref fa) ∧ FnAt W cl k X fa f
  con : ∀ x ∈ M.cons, ∃ d v u, gl x = some d ∧ X.mg x = some u ∧ RelV v u ∧ ∀ ow H, Rep W ow H d v
  cls : ∀ c ∈ W.own, X.mg c = some (.ref (W.cad c)) ∧ C8.InsC W.K (W.cad c)
  kit : ∀ c ∈ biCls, ∀ d, isDic d = false → (∀ k fs, d = .ins k fs → k ∈ W.own) → PySem.W.kitOne W.K (tyV W d) (.type c.2) = some (isiD c.1 d)
  kitO : ∀ c ∈ W.own, ∀ d, isDic d = false → (∀ k fs, d = .ins k fs → k ∈ W.own) → PySem.W.kitOne W.K (tyV W d) (.ref (W.cad c)) = some (isiD c d)
  fld : ∀ q ∈ M.flds, q.1 ∈ W.own ∧ NoAttr W.K (W.cad q.1) q.2
  prop : ∀ q ∈ M.props, q.1 ∈ W.own ∧ ∃ p g, PropOf W.K (W.cad q.1) q.2 p g ∧ FnAt W cl k X g (q.1 ++ "." ++ q.2)
  made : ∀ c ∈ M.made, c ∈ W.own ∧ ∃ g, Mk W.K (W.cad c) g ∧ FnAt W cl k X g (c ++ ".__init__")
  eq : ∀ c ∈ W.own, (∀ as, cl (c ++ ".__eq__") as = .bad) ∨ ∃ g, PySem.W.findIn W.K (.ref (W.cad c)) "__eq__" = some (some (.ref g)) ∧ PySem.W.isFn W.K (.ref g) = true ∧ FnAt W cl k X g (c ++ ".__eq__") ∧
    ∀ d, isDic d = false → (∀ k fs, d = .ins k fs → k ∈ W.own) → PySem.W.notFirst W.K (W.cad c) (tyV W d) = true
  dic : DicAll W
  exc : ∀ c ∈ M.excs, X.mg c = some (.ref (W.cad c)) ∧ ExcOk W.K (W.cad c) ∧ ∀ c' ∈ M.excs, PySem.W.exmOne W.K (.ref (W.cad c)) (.ref (W.cad c')) = some (decide (c = c'))

def SndE (W : Wd) (cl : Calls) (gl : Str → Option D) (X : Cx) (Wx : WX) (e : Expr) (ie : E) : Prop := ∀ (pv : Nat → Option V) (ow : Ow) (H : Hp) (S : Fr) (σ : L2.St) (Q : VK), Rel W pv ow H S σ → PostE W pv ow H σ Wx (evE cl gl ie S) Q → RE X e σ H Q
def SndT (W : Wd) (cl : Calls) (gl : Str → Option D) (X : Cx) (Wx : WX) (e : Expr) (it : T) : Prop := ∀ (pv : Nat → Option V) (ow : Ow) (H : Hp) (S : Fr) (σ : L2.St) (Q : Bool → Hp → Prop), Rel W pv ow H S σ → PostB W pv ow H σ Wx (evT cl gl it S) Q → RT X e σ H Q
def SndEs (W : Wd) (cl : Calls) (gl : Str → Option D) (X : Cx) (Wx : WX) (es : List Expr) (ies : Es) : Prop := ∀ (pv : Nat → Option V) (ow : Ow) (H : Hp) (S : Fr) (σ : L2.St) (Q : List V → Hp → Prop), Rel W pv ow H S σ → Post W pv ow H σ Wx (fun ow' H' ds vs => RepL W ow' H' ds vs) (evEs cl gl ies S) Q → RA X es σ H Q
inductive RRepL (W : Wd) (H0 : Hp) (ow : Ow) (H : Hp) (σ : L2.St) : List R → List V → Prop
  | nil : RRepL W H0 ow H σ [] []
  | cons {r : R} {v : V} {rs : List R} {vs : List V} : RRep W H0 ow H σ r v → RRepL W H0 ow H σ rs vs → RRepL W H0 ow H σ (r :: rs) (v :: vs)
def SndRs (W : Wd) (cl : Calls) (gl : Str → Option D) (X : Cx) (Wx : WX) (es : List Expr) (ies : Es) : Prop := ∀ (pv : Nat → Option V) (ow : Ow) (H : Hp) (S : Fr) (σ : L2.St) (Q : List V → Hp → Prop), Rel W pv ow H S σ → Post W pv ow H σ Wx (fun ow' H' rs vs => RRepL W H ow' H' σ rs vs) (evRs cl gl ies S) Q → RA X es σ H Q
def SndAs (W : Wd) (cl : Calls) (gl : Str → Option D) (X : Cx) (Wx : WX) (es : List Expr) (ies : Es) : Prop := ∀ (pv : Nat → Option V) (ow : Ow) (H : Hp) (S : Fr) (σ : L2.St) (Q : List V → Hp → Prop), Rel W pv ow H S σ → Post W pv ow H σ Wx (fun ow' H' as vs => ArgVs W ow' H' σ as vs) (evAs cl gl ies S) Q → RA X es σ H Q

/-! ### shapes of the text -/
def noStar : Expr → Bool
  | .Starred _ _ => false
  | _ => true
theorem star_cons {e : Expr} {es : List Expr} {env : Env} (h : noStar e = true) : starEach (e :: es) env = (false, eval e env) :: starEach es env := by
  cases e <;> first | rfl | (simp [noStar] at h)
theorem star_any {pos : Pos} {env : Env} : ∀ {es : List Expr}, es.all noStar = true → (backTo pos (starEach es env)).any (·.1) = false
  | [], _ => rfl
  | e :: es, h => by
    simp only [List.all_cons, Bool.and_eq_true] at h
    rw [star_cons h.1]
    show (false || (backTo pos (starEach es env)).any (·.1)) = false
    rw [star_any h.2]; rfl
def attrB : Expr → Bool
  | .Call (.Name _ _) [] [] _ => false
  | _ => true
theorem attr_base {e : Expr} {f : Str} {env : Env} {x : Sem Value} (h : attrB e = true) : attributeBase e f env x = x := by
  unfold attributeBase
  split
  · simp [attrB] at h
  · rfl
def plainT : Expr → Bool
  | .UnaryOp .Not _ _ => false
  | .BoolOp _ _ _ => false
  | .IfExp _ _ _ _ => false
  | .Compare _ _ _ _ => false
  | _ => true
theorem isTrue_of {e : Expr} {env : Env} (h : plainT e = true) (whole : Sem Value) : isTrue e env whole = (do let v ← whole; standAt e.pos; holding [v] (truthy v)) := by
  cases e <;> first | rfl | (simp [plainT] at h) | skip
  next op x p => cases op <;> first | rfl | (simp [plainT] at h)
def plainS : Expr → Bool
  | .Slice _ _ _ _ => false
  | _ => true
theorem plain_ix {b : Expr} (h : plainS b = true) : PlainIx b := by
  intro o i
  cases b <;> first | rfl | (simp [plainS] at h)

section
variable {W : Wd} {M : MC} {cl : Calls} {gl : Str → Option D} {k : Nat} {X : Cx} {sc : Scope} {Wx : WX} {e a b c : Expr} {ia ib ic : E} {pos p1 p2 : Pos}
theorem CxG.dicX (G : CxG W M cl gl k X sc Wx) : DicIn X W ∧ DicTru X W ∧ DicGet X W ∧ DicWalk X W ∧ DicLst X W ∧ DicNew X W ∧ DicOne X W ∧ DicSet X W ∧ DicGo X W := G.dic X G.prog G.w G.K G.calm (by have := G.room.un; omega)
theorem CxG.di (G : CxG W M cl gl k X sc Wx) : DicIn X W := G.dicX.1
theorem CxG.dt (G : CxG W M cl gl k X sc Wx) : DicTru X W := G.dicX.2.1
theorem CxG.dg (G : CxG W M cl gl k X sc Wx) : DicGet X W := G.dicX.2.2.1
theorem CxG.dw (G : CxG W M cl gl k X sc Wx) : DicWalk X W := G.dicX.2.2.2.1
theorem CxG.dl (G : CxG W M cl gl k X sc Wx) : DicLst X W := G.dicX.2.2.2.2.1
theorem CxG.dn (G : CxG W M cl gl k X sc Wx) : DicNew X W := G.dicX.2.2.2.2.2.1
theorem CxG.d1 (G : CxG W M cl gl k X sc Wx) : DicOne X W := G.dicX.2.2.2.2.2.2.1
theorem CxG.ds (G : CxG W M cl gl k X sc Wx) : DicSet X W := G.dicX.2.2.2.2.2.2.2.1
theorem CxG.dgo (G : CxG W M cl gl k X sc Wx) : DicGo X W := G.dicX.2.2.2.2.2.2.2.2
theorem CxG.units (G : CxG W M cl gl k X sc Wx) : X.A.units + 65 < cLine := by have := G.room.un; omega

theorem snd_ref {i : Nat} {x : Str} (hN : X.N[i]? = some x) (hv : Vis X.env.scope x) (hd : (x == ("__debug__" : Str)) = false) (hcd : (x == ("__classdict__" : Str)) = false) : SndE W cl gl X Wx (.Name x pos) (.ref i) := by
  intro pv ow H S σ Q r h
  refine RE.of (pe_var hN hv hd hcd) ?_
  simp only [evE] at h
  split at h
  · next o hc =>
    obtain ⟨v, hv, _⟩ := r.cell i _ hc
    exact ⟨v, hv, h v ow H Step.refl r hv⟩
  · next o hc =>
    obtain ⟨v, hv, _⟩ := r.cell i _ hc
    exact ⟨v, hv, h v ow H Step.refl r hv⟩
  · next d hc =>
    obtain ⟨v, hv, hr⟩ := r.cell i _ hc
    exact ⟨v, hv, h v ow H Step.refl r hr⟩
  · exact False.elim h
theorem snd_var {i : Nat} {x : Str} (hN : X.N[i]? = some x) (hv : Vis X.env.scope x) (hd : (x == ("__debug__" : Str)) = false) (hcd : (x == ("__classdict__" : Str)) = false) : SndE W cl gl X Wx (.Name x pos) (.var i) := by
  intro pv ow H S σ Q r h
  refine RE.of (pe_var hN hv hd hcd) ?_
  simp only [evE] at h
  have hs : ∃ c v, getC S i = some c ∧ σ[i]? = some (some v) := by
    unfold frz at h
    split at h
    · next d hc => obtain ⟨v, hv, _⟩ := r.cell i _ hc; exact ⟨_, v, hc, hv⟩
    · next d hc => obtain ⟨v, hv, _⟩ := r.cell i _ hc; exact ⟨_, v, hc, hv⟩
    · exact False.elim h
  obtain ⟨c, v, _, hv⟩ := hs
  refine ⟨v, hv, ?_⟩
  obtain ⟨d, S1, ow1, k1, r1, p1, h1⟩ := Post.esc (x := .bor i) (v := v) r Step.refl hv h
  exact h1 v ow1 H k1 r1 p1
def conOk : D → Const → Bool
  | .non, .none => true
  | .bl b, .bool c => b == c
  | .int i, .int j => decide (i = j)
  | .str x, .str y => decide (x = y)
  | _, _ => false
theorem snd_con {d : D} {cn : Const} {j : Nat} (hc : conOk d cn = true) : SndE W cl gl X Wx (.Constant cn j pos) (.con d) := by
  intro pv ow H S σ Q r h
  simp only [evE] at h
  cases d with
  | non => cases cn <;> simp [conOk] at hc; exact RE.of pe_non (h .non ow H Step.refl r .non)
  | bl b => cases cn <;> simp [conOk] at hc; subst hc; exact RE.of pe_bl (h (.bl b) ow H Step.refl r (.bl b))
  | int b => cases cn <;> simp [conOk] at hc; subst hc; exact RE.of pe_int (h (.int b) ow H Step.refl r (.int b))
  | str b => cases cn <;> simp [conOk] at hc; subst hc; exact RE.of pe_str (h (.str b) ow H Step.refl r (.str b))
  | _ => simp [conOk] at hc
theorem snd_glo (G : CxG W M cl gl k X sc Wx) {x : Str} (hx : x ∈ M.cons) (hg : Gl X x) (hd : (x == ("__debug__" : Str)) = false) : SndE W cl gl X Wx (.Name x pos) (.glo x) := by
  intro pv ow H S σ Q r h
  obtain ⟨d, v, u, e1, e2, rv, rep⟩ := G.con x hx
  simp only [evE, e1] at h
  exact RE.of (pe_glob hg e2 rv hd) (h v ow H Step.refl r (rep ow H))

/-! ### argument lists -/
theorem snd_nil : SndEs W cl gl X Wx [] .nil := by
  intro pv ow H S σ Q r h
  exact RA.of pa_nil (h [] ow H Step.refl r .nil)
theorem snd_cons {es : List Expr} {ies : Es} (hs : noStar e = true) (ha : SndE W cl gl X Wx e ia) (hes : SndEs W cl gl X Wx es ies) : SndEs W cl gl X Wx (e :: es) (.cons ia ies) := by
  intro pv ow H S σ Q r h
  refine RA.of (pa_cons pe_RE pa_RA (star_cons hs)) ?_
  simp only [evEs] at h
  refine RE.mono (ha pv ow H S σ _ r (Post.seq h)) ?_
  rintro v H1 ⟨x, S1, ow1, _, k1, r1, p1, h1⟩
  obtain ⟨d, S2, ow2, k2, r2, p2, h2⟩ := Post.esc r1 k1 p1 h1
  refine RA.mono (hes pv ow2 H1 S2 σ _ r2 (Post.seq (h2.re k2))) ?_
  rintro vs H2 ⟨ds, S3, ow3, _, k3, r3, p3, h3⟩
  exact h3 (v :: vs) ow3 H2 k3 r3 (.cons (Rep.keep k3.keep p2) p3)
theorem snd_nilR : SndRs W cl gl X Wx [] .nil := by
  intro pv ow H S σ Q r h
  exact RA.of pa_nil (h [] ow H Step.refl r .nil)
theorem RRepL.back {H0 H0' H : Hp} {ow : Ow} {σ : L2.St} {rs : List R} {vs : List V} (k : ∀ p, H0 p = none → H0' p = none) (h : RRepL W H0 ow H σ rs vs) : RRepL W H0' ow H σ rs vs := by
  induction h with
  | nil => exact .nil
  | cons a l ih => exact .cons (RRep.back k a) ih
theorem snd_consR {es : List Expr} {ies : Es} (hs : noStar e = true) (ha : SndE W cl gl X Wx e ia) (hes : SndRs W cl gl X Wx es ies) : SndRs W cl gl X Wx (e :: es) (.cons ia ies) := by
  intro pv ow H S σ Q r h
  refine RA.of (pa_cons pe_RE pa_RA (star_cons hs)) ?_
  simp only [evRs] at h
  refine RE.mono (ha pv ow H S σ _ r (Post.seq h)) ?_
  rintro v H1 ⟨x, S1, ow1, _, k1, r1, p1, h1⟩
  refine RA.mono (hes pv ow1 H1 S1 σ _ r1 (Post.seq (rep1 := fun ow' H' rs vs => RRepL W H1 ow' H' σ rs vs) (Post.rebase (rep' := fun ow' H' (rs : List R) vs => RRepL W H ow' H' σ rs vs) h1 k1 fun _ _ _ _ _ q => q))) ?_
  rintro vs H2 ⟨ds, S3, ow3, _, k3, r3, p3, h3⟩
  exact h3 (v :: vs) ow3 H2 k3 r3 (.cons (RRep.step k3 p1) (p3.back fun _ z => k1.none z))
theorem snd_nilA : SndAs W cl gl X Wx [] .nil := by
  intro pv ow H S σ Q r h
  exact RA.of pa_nil (h [] ow H Step.refl r .nil)
theorem snd_consA {es : List Expr} {ies : Es} (hs : noStar e = true) (ha : SndE W cl gl X Wx e ia) (hes : SndAs W cl gl X Wx es ies) : SndAs W cl gl X Wx (e :: es) (.cons ia ies) := by
  intro pv ow H S σ Q r h
  refine RA.of (pa_cons pe_RE pa_RA (star_cons hs)) ?_
  simp only [evAs] at h
  refine RE.mono (ha pv ow H S σ _ r (Post.seq h)) ?_
  rintro v H1 ⟨x, S1, ow1, _, k1, r1, p1, h1⟩
  have main : ∀ {x : R} (p1 : RRep W H ow1 H1 σ x v), Post W pv ow H σ Wx (fun ow' H' as vs => ArgVs W ow' H' σ as vs) ((esc x S1).bind fun d S => (evAs cl gl ies S).bind fun as S => .ok (.v d :: as) S) Q → RA X es σ H1 fun xs H2 => Q (v :: xs) H2 := by
    intro x p1 h1
    obtain ⟨d, S2, ow2, k2, r2, p2, h2⟩ := Post.esc r1 k1 p1 h1
    refine RA.mono (hes pv ow2 H1 S2 σ _ r2 (Post.seq (h2.re k2))) ?_
    rintro vs H2 ⟨ds, S3, ow3, _, k3, r3, p3, h3⟩
    exact h3 (v :: vs) ow3 H2 k3 r3 (.cons (Rep.keep k3.keep p2) p3)
  cases x with
  | val d => exact main p1 h1
  | tmp o => exact main p1 h1
  | bor i =>
    simp only at h1
    refine RA.mono (hes pv ow1 H1 S1 σ _ r1 (Post.seq (h1.re k1))) ?_
    rintro vs H2 ⟨ds, S3, ow3, _, k3, r3, p3, h3⟩
    exact h3 (v :: vs) ow3 H2 k3 r3 (.cons p1 p3)

/-! ### displays -/
theorem snd_tup {es : List Expr} {ies : Es} {n : Nat} (h : SndEs W cl gl X Wx es ies) : SndE W cl gl X Wx (.Tuple es n pos) (.tup ies) := by
  intro pv ow H S σ Q r hp
  refine RE.of (pe_tup pa_RA) ?_
  simp only [evE] at hp
  refine RA.mono (h pv ow H S σ _ r (Post.seq hp)) ?_
  rintro vs H1 ⟨ds, S1, ow1, _, k1, r1, p1, h1⟩
  split at h1
  · next hz =>
    refine ⟨by rw [← p1.length]; exact lineOk_ok hz, fun p hn => ?_⟩
    have g := Grow.new (ow := ow1) (o := .tup vs) (t := .fz) hn
    exact h1 (.ref p) _ _ (k1.trans g.step) (r1.grow g) (.tup (.inl ⟨.inl upd_same, if_pos rfl⟩) (p1.keep g.keep))
  · exact False.elim h1
theorem snd_lst {es : List Expr} {ies : Es} (h : SndEs W cl gl X Wx es ies) : SndE W cl gl X Wx (.List es pos) (.lst ies) := by
  intro pv ow H S σ Q r hp
  refine RE.of (pe_lst pa_RA) ?_
  simp only [evE] at hp
  refine RA.mono (h pv ow H S σ _ r (Post.seq hp)) ?_
  rintro vs H1 ⟨ds, S1, ow1, _, k1, r1, p1, h1⟩
  split at h1
  · next hz =>
    refine ⟨by rw [← p1.length]; exact lineOk_ok hz, fun p hn => ?_⟩
    have g := Grow.new (ow := ow1) (o := .lst vs) (t := .tm) hn
    exact h1 (.ref p) _ _ (k1.trans g.step) (r1.grow g) ⟨p, vs, rfl, upd_same, ⟨if_pos rfl, k1.none hn⟩, p1.keep g.keep⟩
  · exact False.elim h1

/-! ### operators -/
theorem gives_of {pv : Nat → Option V} {ow ow1 : Ow} {H H1 : Hp} {S1 : Fr} {σ : L2.St} {r : R} {Q : VK} (k : Step ow H ow1 H1) (rl : Rel W pv ow1 H1 S1 σ) (hb : ∀ i, r ≠ .bor i) (h : PostE W pv ow H σ Wx (.ok r S1) Q) : Gives W ow1 H1 r Q := by
  intro v ow' H' g p
  refine h v ow' H' (k.trans g.step) (rl.grow g) ?_
  have p' : RRep W H1 ow' H' σ r v := by
    cases r with
    | val d => exact p
    | tmp o => exact p
    | bor i => exact absurd rfl (hb i)
  exact RRep.back (fun _ z => k.none z) p'
theorem binD_nobor {op : BOp} {d e : D} {r : R} (h : binD op d e = some r) : ∀ i, r ≠ .bor i := by
  intro i hr
  subst hr
  unfold binD at h
  split at h <;> (try split at h) <;> (try split at h) <;> cases h
theorem snd_bin (G : CxG W M cl gl k X sc Wx) {op : BOp} (ha : SndE W cl gl X Wx a ia) (hb : SndE W cl gl X Wx b ib) : SndE W cl gl X Wx (.BinOp a (bopO op) b pos) (.bin op ia ib) := by
  intro pv ow H S σ Q r h
  simp only [evE] at h
  refine RE.of (pe_op (r := fun x y H Q => ∃ rr, OpR X (binaryOp (bopO op)) rr ∧ rr x y H Q) (fun pins s σ H x y v u Q I rx ry q => let ⟨rr, ho, q⟩ := q; ho pins s σ H x y v u Q I rx ry q) pe_RE pe_RE) ?_
  refine RE.mono (ha pv ow H S σ _ r (Post.seq h)) ?_
  rintro x H1 ⟨rx, S1, ow1, _, k1, r1, p1, h1⟩
  refine RE.mono (hb pv ow1 H1 S1 σ _ r1 (Post.seq (h1.reE k1))) ?_
  rintro y H2 ⟨ry, S2, ow2, _, k2, r2, p2, h2⟩
  split at h2
  · next d e e1 e2 =>
    split at h2
    · next rr e3 =>
      have q1 := reads r2 (RRep.step k2 p1) e1
      have q2 := reads r2 p2 e2
      exact binD_ok G.K e3 q1 q2 (gives_of k2 r2 (binD_nobor e3) h2)
    · exact False.elim h2
  · exact False.elim h2
theorem snd_neg (ha : SndE W cl gl X Wx a ia) : SndE W cl gl X Wx (.UnaryOp .USub a pos) (.neg ia) := by
  intro pv ow H S σ Q r h
  simp only [evE] at h
  refine RE.of (pe_un (r := fun x H Q => ∃ rr, UnR X (unaryOp .USub) rr ∧ rr x H Q) (fun pins s σ H x v Q I rx q => let ⟨rr, ho, q⟩ := q; ho pins s σ H x v Q I rx q) pe_RE) ?_
  refine RE.mono (ha pv ow H S σ _ r (Post.seq h)) ?_
  rintro x H1 ⟨rx, S1, ow1, _, k1, r1, p1, h1⟩
  split at h1
  · next d e1 =>
    split at h1
    · next rr e3 =>
      refine negD_ok e3 (reads r1 p1 e1) (gives_of k1 r1 ?_ h1)
      intro i z
      subst z
      unfold negD at e3
      split at e3 <;> cases e3
    · exact False.elim h1
  · exact False.elim h1
theorem snd_not (ha : SndE W cl gl X Wx a ia) : SndE W cl gl X Wx (.UnaryOp .Not a pos) (.not ia) := by
  intro pv ow H S σ Q r h
  simp only [evE] at h
  refine RE.of (pe_not pe_RE) ?_
  refine RE.mono (ha pv ow H S σ _ r (Post.seq h)) ?_
  rintro x H1 ⟨rx, S1, ow1, _, k1, r1, p1, h1⟩
  split at h1
  · next b e1 =>
    cases (show Rep W ow1 H1 (.bl b) x from reads r1 p1 e1)
    exact ⟨b, rfl, h1 _ ow1 H1 k1 r1 (.bl _)⟩
  · exact False.elim h1

/-! ### comparisons -/
theorem noExc_post {pv : Nat → Option V} {ow : Ow} {H : Hp} {σ : L2.St} {Wx' : WX} {α β : Type} {rep : Ow → Hp → α → β → Prop} {o : Out α} {Q : β → Hp → Prop} (h : Post W pv ow H σ Wx rep (noExc o) Q) : Post W pv ow H σ Wx' rep o Q := by
  cases o with
  | ok a S => exact h
  | exc _ _ _ => exact False.elim h
  | bad => exact False.elim h
theorem looks_of {pins : List (Addr × Obj)} {σ : L2.St} {H : Hp} {s : Shared} {ow : Ow} {d : D} {v : V} {u : Value} (G : CxG W M cl gl k X sc Wx) (I : Inv X pins σ H s) (hd : isDic d = false) (h : Rd1 W ow H d v) (r : RelV v u) : PySem.W.Looks (model X.prog X.w) s.heap (typeOf u) (tyV W d) := by
  have ty := tyX_ok (fun c hc => (G.cls c hc).2) (fun kvs z => by subst z; simp [isDic] at hd) h
  rw [← G.K] at ty
  obtain ⟨P, Z, p, _⟩ := kit_of I r ty
  exact Z.ty _ _ I.kIn p
end
end Ev

/-! EvF: comparisons, truth, calls, fields, built-ins, subscripts. -/
namespace Ev
open PySem PySem.Spec PyProof.Rows L2

section
variable {W : Wd} {M : MC} {cl : Calls} {gl : Str → Option D} {k : Nat} {X : Cx} {sc : Scope} {Wx : WX} {e a b c : Expr} {ia ib ic : E} {pos p1 p2 : Pos}
theorem passF : Passes (L2.CX X.prog X.w) X (fun _ _ _ => False) := fun _ _ _ _ _ _ _ z => by
  obtain ⟨_, _, _, _, _, _, _, _, _, _, _, _, h⟩ := z
  exact h.elim
theorem passF' : Passes (L2.CX X.prog X.w) X.nox (fun _ _ _ => False) := fun _ _ _ _ _ _ _ z => by
  obtain ⟨_, _, _, _, _, _, _, _, _, _, _, _, h⟩ := z
  exact h.elim
theorem insOk_of {ow : Ow} {H : Hp} {d : D} {v : V} (h : Rd1 W ow H d v) : ∀ j fs, d = .ins j fs → j ∈ W.own := by
  rintro j fs rfl
  obtain ⟨_, _, _, _, hm, _⟩ := h
  exact hm
/-- an own == -/
def rOwn (W : Wd) (cl : Calls) (X : Cx) (k : Nat) : R2 := fun x y H Q => ∃ (c : Str) (fs : List (Str × D)) (d : D) (ow : Ow) (g : Addr), Rd1 W ow H (.ins c fs) x ∧ Rd1 W ow H d y ∧ isDic d = false ∧
  PySem.W.findIn W.K (.ref (W.cad c)) "__eq__" = some (some (.ref g)) ∧ PySem.W.isFn W.K (.ref g) = true ∧ PySem.W.notFirst W.K (W.cad c) (tyV W d) = true ∧
  ∃ fd ps, Binds X.K fd ps [] ∧ FnOk X.prog X.w X.K X.mg X.base (L2.CX X.prog X.w) k g fd ps (spOf W cl (c ++ ".__eq__")) ∧
    spOf W cl (c ++ ".__eq__") [x, y] H (fun v H' => ∃ b, v = .bl b ∧ Q v H') (fun _ _ _ => False)
theorem op_own (G : CxG W M cl gl k X sc Wx) : OpR X (compareOp .Eq) (rOwn W cl X k) := by
  intro pins s σ H x y v u Q I rx ry h
  obtain ⟨c, fs, d, ow, g, hx, hy, nd, hs, hf, hn, fd, ps, hb, hF, hsp⟩ := h
  have ly := looks_of G I nd hy ry
  obtain ⟨a, dx, gs, rfl, hm, ha, hdx, _⟩ := hx
  obtain rfl : v = Value.ref a := rx
  obtain ⟨mA, J, _⟩ := ins_get I.hok ha
  obtain ⟨od, J, _⟩ := J.look
  obtain ⟨m, hFr⟩ := I.fr
  show wpAny (model X.prog X.w) X.A (richCompare .Eq (.ref a) u) (EP X pins σ Q) X.xe s
  refine PySem.W.cmp_K (op := .Eq) (K := X.K) (tb := tyV W d) (by have := G.room.un; omega) hFr I.ok.mod.kin J ly (by rw [G.K]; exact hn) (by rw [G.K]; exact hs) (by rw [G.K]; exact hf) ?_
  refine thn (run_fn (dvs := []) (ds := []) (vs := [.ref a, y]) hF (G.room.mono (by omega)) hb .nil passF I (.cons rfl (.cons ry .nil)) hsp) ?_
  rintro r s' ⟨z, H', I', rz, b, rfl, q⟩
  cases rz
  exact ⟨.bl b, H', I', rfl, q⟩
/-- a comparison of two results -/
theorem cmpR_ok (G : CxG W M cl gl k X sc Wx) {op : COp} {pv : Nat → Option V} {ow0 ow1 ow : Ow} {H0 H1 H : Hp} {S : Fr} {σ : L2.St} {x y : R} {vx vy : V} {Q : Bool → Hp → Prop} (k01 : Step ow0 H0 ow1 H1) (k12 : Step ow1 H1 ow H)
    (r : Rel W pv ow H S σ) (px : RRep W H0 ow1 H1 σ x vx) (py : RRep W H1 ow H σ y vy) {Q' : VK} (hQ : ∀ b H', Q b H' → Q' (.bl b) H') (h : PostB W pv ow0 H0 σ Wx (cmpR cl op x y S) Q) :
    ∃ rr, OpR X (compareOp (copO op)) rr ∧ rr vx vy H Q' := by
  unfold cmpR at h
  split at h
  · next e1 =>
    obtain ⟨e, S2, ow2, k2, kp2, r2, q2, h2⟩ := Post.esc2 r k12 py h
    have px2 := RRep.step k2 px
    obtain ⟨d, S3, ow3, k3, kp3, r3, q3, h3⟩ := Post.esc2 r2 (k01.trans k2) px2 h2
    split at h3
    · exact False.elim h3
    · next hd =>
      have hd : isDic e = false := by simpa using hd
      have he := Rep.keep kp3 q2
      split at h3
      · next c fs =>
        have h4 := Post.reE (noExc_post (Wx' := fun _ _ _ _ => False) (Post.seq (rep1 := fun ow' H' r v => RRep W H0 ow' H' σ r v) h3)) k3
        have sp := call_sp r3 (.cons (a := .v (.ins c fs)) q3 (.cons (a := .v e) he .nil)) h4
        rcases G.eq c (insOk_of q3.rd _ _ rfl) with hb | ⟨g, hg, hf, ⟨fd, ps, kp, hb, hF⟩, hn⟩
        · obtain ⟨_, cs, _, _, _, z⟩ := sp
          rw [hb cs] at z
          exact False.elim z
        · refine ⟨_, op_own G, c, fs, e, ow3, g, q3.rd, he.rd, hd, hg, hf, hn e hd (insOk_of he.rd), fd, ps, hb, hF, ?_⟩
          obtain ⟨owc, cs, z1, z2, z3, z4⟩ := sp
          refine ⟨owc, cs, z1, z2, z3, ?_⟩
          revert z4
          unfold PostF
          split
          · intro z4 v ow' H' a1 a2 a3
            obtain ⟨rr, S5, ow5, e5, k5, r5, p5, h5⟩ := z4 v ow' H' a1 a2 a3
            clear e5
            split at h5
            · next b => cases (show Rep W ow5 H' (.bl b) v from p5); exact ⟨b, rfl, hQ _ _ (h5 b ow5 H' k5 r5 rfl)⟩
            · exact False.elim h5
          · exact fun z4 => z4
          · exact fun z4 => z4
      · exact False.elim h3
  · next op' d _ e1 =>
    split at h
    · next e2 hy =>
      split at h
      · next b hb => exact cmpD_ok G.K G.units G.di hb (reads r (RRep.step k12 px) e1) (reads r py hy) (hQ _ _ (h b ow H (k01.trans k12) r rfl))
      · exact False.elim h
    · exact False.elim h
  · exact False.elim h

theorem op_best {f : Value → Value → Sem Value} : OpR X f (fun x y H Q => ∃ rr, OpR X f rr ∧ rr x y H Q) := fun pins s σ H x y v u Q I rx ry q => let ⟨_, ho, q⟩ := q; ho pins s σ H x y v u Q I rx ry q
theorem un_best {f : Value → Sem Value} : UnR X f (fun x H Q => ∃ rr, UnR X f rr ∧ rr x H Q) := fun pins s σ H x v Q I rx q => let ⟨_, ho, q⟩ := q; ho pins s σ H x v Q I rx q
theorem call_best {f : Value} : CallR X f (fun x H Q => ∃ rr, CallR X f rr ∧ rr x H Q) := fun pins s σ H x v Q I rx q => let ⟨_, ho, q⟩ := q; ho pins s σ H x v Q I rx q
theorem ix_best : IxR X (fun x y H Q => ∃ rr, IxR X rr ∧ rr x y H Q) := fun va sl pins s σ H x y v u Q I rx ry q hs => let ⟨_, ho, q⟩ := q; ho va sl pins s σ H x y v u Q I rx ry q hs
theorem sl_best : SlR X (fun x lo hi H Q => ∃ rr, SlR X rr ∧ rr x lo hi H Q) := fun pins s σ H x v vl vu lo hi sl Q I rx hs pl pu q => let ⟨_, ho, q⟩ := q; ho pins s σ H x v vl vu lo hi sl Q I rx hs pl pu q
theorem tru_best : TruR X (fun x H Q => ∃ rr, TruR X rr ∧ rr x H Q) := fun pins s σ H x v Q I rx q => let ⟨_, ho, q⟩ := q; ho pins s σ H x v Q I rx q
theorem boolV {pv : Nat → Option V} {ow : Ow} {H : Hp} {σ : L2.St} {o : Out Bool} {Q : VK} (h : PostE W pv ow H σ Wx (o.bind fun b S => .ok (.val (.bl b)) S) Q) : PostB W pv ow H σ Wx o (fun b H' => Q (.bl b) H') := by
  cases o with
  | ok b S => exact fun b' ow' H' k r e => h (.bl b') ow' H' k r (by subst e; exact .bl _)
  | exc c fs S => exact h
  | bad => exact h
theorem snd_cmp (G : CxG W M cl gl k X sc Wx) {op : COp} (hm : behindInMarks (copO op) b = false) (ha : SndE W cl gl X Wx a ia) (hb : SndE W cl gl X Wx b ib) : SndE W cl gl X Wx (.Compare a [copO op] [b] pos) (.cmp op ia ib) := by
  intro pv ow H S σ Q r h
  simp only [evE] at h
  refine RE.of (pe_cmpR op_best pe_RE pe_RE hm) ?_
  refine RE.mono (ha pv ow H S σ _ r (Post.seq h)) ?_
  rintro x H1 ⟨rx, S1, ow1, -, k1, r1, p1, h1⟩
  refine RE.mono (hb pv ow1 H1 S1 σ _ r1 (Post.seq2 h1 k1)) ?_
  rintro y H2 ⟨ry, S2, ow2, -, k2, r2, p2, h2⟩
  exact cmpR_ok G k1 k2 r2 p1 p2 (fun _ _ z => z) (boolV h2)
theorem snd_cmpT (G : CxG W M cl gl k X sc Wx) {op : COp} (hm : behindInMarks (copO op) b = false) (ha : SndE W cl gl X Wx a ia) (hb : SndE W cl gl X Wx b ib) : SndT W cl gl X Wx (.Compare a [copO op] [b] pos) (.cmp op ia ib) := by
  intro pv ow H S σ Q r h
  simp only [evT] at h
  refine RT.of (pt_cmpR op_best pe_RE pe_RE hm) ?_
  refine RE.mono (ha pv ow H S σ _ r (Post.seq h)) ?_
  rintro x H1 ⟨rx, S1, ow1, -, k1, r1, p1, h1⟩
  refine RE.mono (hb pv ow1 H1 S1 σ _ r1 (Post.seq2 h1 k1)) ?_
  rintro y H2 ⟨ry, S2, ow2, -, k2, r2, p2, h2⟩
  exact cmpR_ok G k1 k2 r2 p1 p2 (fun b _ z => ⟨b, rfl, z⟩) h2
theorem intCmp_ok {op : COp} {i j : Int} {b : Bool} {H : Hp} {Q : VK} (h : intCmp op i j = some b) (q : Q (.bl b) H) : ∃ rr, OpR X (compareOp (copO op)) rr ∧ rr (.int i) (.int j) H Q := by
  cases op <;> simp [intCmp] at h <;> subst h
  · exact ⟨_, op_lt, _, _, rfl, rfl, q⟩
  · exact ⟨_, op_le, _, _, rfl, rfl, q⟩
  · exact ⟨_, op_gt, _, _, rfl, rfl, q⟩
  · exact ⟨_, op_ge, _, _, rfl, rfl, q⟩
theorem snd_chain {p q : COp} (hm : lastMarks [copO p, copO q] [b, c] = false) (ha : SndE W cl gl X Wx a ia) (hb : SndE W cl gl X Wx b ib) (hc : SndE W cl gl X Wx c ic) : SndE W cl gl X Wx (.Compare a [copO p, copO q] [b, c] pos) (.chain p q ia ib ic) := by
  intro pv ow H S σ Q r h
  simp only [evE] at h
  refine RE.of (pe_chain op_best op_best pe_RE pe_RE pe_RE hm) ?_
  refine RE.mono (ha pv ow H S σ _ r (Post.seq h)) ?_
  rintro x H1 ⟨rx, S1, ow1, -, k1, r1, p1, h1⟩
  refine RE.mono (hb pv ow1 H1 S1 σ _ r1 (Post.seq2 h1 k1)) ?_
  rintro y H2 ⟨ry, S2, ow2, -, k2, r2, p2, h2⟩
  split at h2
  · next i j =>
    cases (show Rep W ow1 H1 (.int i) x from p1)
    cases (show Rep W ow2 H2 (.int j) y from p2)
    split at h2
    · next e =>
      refine intCmp_ok e ⟨true, rfl, ?_⟩
      rw [if_pos rfl]
      refine RE.mono (hc pv ow2 H2 S2 σ _ r2 (Post.seq2 h2 (k1.trans k2))) ?_
      rintro z H3 ⟨rz, S3, ow3, -, k3, r3, p3, h3⟩
      split at h3
      · next l =>
        cases (show Rep W ow3 H3 (.int l) z from p3)
        split at h3
        · next t e2 => exact intCmp_ok e2 (h3 (.bl t) ow3 H3 ((k1.trans k2).trans k3) r3 (.bl t))
        · exact False.elim h3
      · exact False.elim h3
    · next e =>
      refine intCmp_ok e ⟨false, rfl, ?_⟩
      rw [if_neg (by simp)]
      exact h2 (.bl false) ow2 H2 (k1.trans k2) r2 (.bl false)
    · exact False.elim h2
  · exact False.elim h2
theorem snd_chainT {p q : COp} (hm : lastMarks [copO p, copO q] [b, c] = false) (ha : SndE W cl gl X Wx a ia) (hb : SndE W cl gl X Wx b ib) (hc : SndE W cl gl X Wx c ic) : SndT W cl gl X Wx (.Compare a [copO p, copO q] [b, c] pos) (.chain p q ia ib ic) := by
  intro pv ow H S σ Q r h
  simp only [evT] at h
  refine RT.of (pt_chain op_best op_best pe_RE pe_RE pe_RE hm) ?_
  refine RE.mono (ha pv ow H S σ _ r (Post.seq h)) ?_
  rintro x H1 ⟨rx, S1, ow1, -, k1, r1, p1, h1⟩
  refine RE.mono (hb pv ow1 H1 S1 σ _ r1 (Post.seq2 h1 k1)) ?_
  rintro y H2 ⟨ry, S2, ow2, -, k2, r2, p2, h2⟩
  split at h2
  · next i j =>
    cases (show Rep W ow1 H1 (.int i) x from p1)
    cases (show Rep W ow2 H2 (.int j) y from p2)
    split at h2
    · next e =>
      refine intCmp_ok e ⟨true, rfl, ?_⟩
      rw [if_pos rfl]
      refine RE.mono (hc pv ow2 H2 S2 σ _ r2 (Post.seq2 h2 (k1.trans k2))) ?_
      rintro z H3 ⟨rz, S3, ow3, -, k3, r3, p3, h3⟩
      split at h3
      · next l =>
        cases (show Rep W ow3 H3 (.int l) z from p3)
        split at h3
        · next t e2 => exact intCmp_ok e2 ⟨t, rfl, h3 t ow3 H3 ((k1.trans k2).trans k3) r3 rfl⟩
        · exact False.elim h3
      · exact False.elim h3
    · next e =>
      refine intCmp_ok e ⟨false, rfl, ?_⟩
      rw [if_neg (by simp)]
      exact ⟨false, rfl, h2 false ow2 H2 (k1.trans k2) r2 rfl⟩
    · exact False.elim h2
  · exact False.elim h2

/-! ### tests -/
theorem snd_tru (G : CxG W M cl gl k X sc Wx) (hp : plainT a = true) (ha : SndE W cl gl X Wx a ia) : SndT W cl gl X Wx a (.e ia) := by
  intro pv ow H S σ Q r h pins s I
  simp only [evT] at h
  refine isTrue_plain (thn (ha pv ow H S σ _ r (Post.seq h) pins s I) ?_) (isTrue_of hp _)
  rintro v s1 ⟨x, H1, I1, rx, rr, S1, ow1, _, k1, r1, p1, h1⟩
  split at h1
  · next d e1 =>
    split at h1
    · next ht => exact tru_best pins s1 σ H1 x v Q I1 rx (truD_ok G.K G.dt ht (reads r1 p1 e1) (h1 _ ow1 H1 k1 r1 rfl))
    · exact False.elim h1
  · exact False.elim h1
theorem snd_notT {it : T} (ha : SndT W cl gl X Wx a it) : SndT W cl gl X Wx (.UnaryOp .Not a pos) (.not it) := by
  intro pv ow H S σ Q r h
  simp only [evT] at h
  refine RT.of (pt_not pt_RT) ?_
  refine RT.mono (ha pv ow H S σ _ r (Post.seq h)) ?_
  rintro b H1 ⟨x, S1, ow1, _, k1, r1, p1, h1⟩
  subst p1
  exact h1 _ ow1 H1 k1 r1 rfl
/-- and, or as tests -/
def SndW (W : Wd) (cl : Calls) (gl : Str → Option D) (X : Cx) (Wx : WX) (e : Expr) (ev : Fr → Out Bool) : Prop := ∀ (pv : Nat → Option V) (ow : Ow) (H : Hp) (S : Fr) (σ : L2.St) (Q : Bool → Hp → Prop), Rel W pv ow H S σ → PostB W pv ow H σ Wx (ev S) Q →
  ∀ (whole : Sem Value) (pins : List (Addr × Obj)) (s : Shared), Inv X pins σ H s → wpAny (model X.prog X.w) X.A (isTrue e X.env whole) (TP X pins σ Q) X.xe s
theorem pw_RW : PW X e (fun σ H Q => ∀ (whole : Sem Value) (pins : List (Addr × Obj)) (s : Shared), Inv X pins σ H s → wpAny (model X.prog X.w) X.A (isTrue e X.env whole) (TP X pins σ Q) X.xe s) := ⟨fun whole pins s σ H Q I h => h whole pins s I⟩
theorem snd_and1 {it : T} (ha : SndT W cl gl X Wx a it) : SndW W cl gl X Wx (.BoolOp .And [a] pos) (evAndT cl gl (.cons it .nil)) := by
  intro pv ow H S σ Q r h whole pins s I
  refine (pw_and1 pt_RT).run whole pins s σ H Q I (RT.mono (ha pv ow H S σ _ r (Post.seq (by simpa only [evAndT] using h))) ?_)
  rintro b H1 ⟨x, S1, ow1, _, k1, r1, p1, h1⟩
  subst p1
  cases x with
  | false => exact h1 false ow1 H1 k1 r1 rfl
  | true => exact h1 true ow1 H1 k1 r1 rfl
theorem snd_or1 {it : T} (ha : SndT W cl gl X Wx a it) : SndW W cl gl X Wx (.BoolOp .Or [a] pos) (evOrT cl gl (.cons it .nil)) := by
  intro pv ow H S σ Q r h whole pins s I
  refine (pw_or1 pt_RT).run whole pins s σ H Q I (RT.mono (ha pv ow H S σ _ r (Post.seq (by simpa only [evOrT] using h))) ?_)
  rintro b H1 ⟨x, S1, ow1, _, k1, r1, p1, h1⟩
  subst p1
  cases x with
  | false => exact h1 false ow1 H1 k1 r1 rfl
  | true => exact h1 true ow1 H1 k1 r1 rfl
theorem snd_andT {it : T} {ts : Ts} {rest : List Expr} (ha : SndT W cl gl X Wx a it) (hb : SndW W cl gl X Wx (.BoolOp .And (b :: rest) pos) (evAndT cl gl ts)) : SndW W cl gl X Wx (.BoolOp .And (a :: b :: rest) pos) (evAndT cl gl (.cons it ts)) := by
  intro pv ow H S σ Q r h whole pins s I
  simp only [evAndT] at h
  refine (pw_and pt_RT pw_RW).run whole pins s σ H Q I (RT.mono (ha pv ow H S σ _ r (Post.seq h)) ?_)
  rintro c H1 ⟨x, S1, ow1, _, k1, r1, p1, h1⟩
  subst p1
  cases x with
  | false => exact h1 false ow1 H1 k1 r1 rfl
  | true => exact hb pv ow1 H1 S1 σ Q r1 (h1.re k1)
theorem snd_orT {it : T} {ts : Ts} {rest : List Expr} (ha : SndT W cl gl X Wx a it) (hb : SndW W cl gl X Wx (.BoolOp .Or (b :: rest) pos) (evOrT cl gl ts)) : SndW W cl gl X Wx (.BoolOp .Or (a :: b :: rest) pos) (evOrT cl gl (.cons it ts)) := by
  intro pv ow H S σ Q r h whole pins s I
  simp only [evOrT] at h
  refine (pw_or pt_RT pw_RW).run whole pins s σ H Q I (RT.mono (ha pv ow H S σ _ r (Post.seq h)) ?_)
  rintro c H1 ⟨x, S1, ow1, _, k1, r1, p1, h1⟩
  subst p1
  cases x with
  | true => exact h1 true ow1 H1 k1 r1 rfl
  | false => exact hb pv ow1 H1 S1 σ Q r1 (h1.re k1)
theorem SndW.t {ev : Fr → Out Bool} (h : SndW W cl gl X Wx e ev) {it : T} (hi : ∀ S, evT cl gl it S = ev S) : SndT W cl gl X Wx e it := fun pv ow H S σ Q r hp pins s I => h pv ow H S σ Q r (by rw [← hi]; exact hp) _ pins s I

/-! ### and, or, if .. else as values -/
def SndV (W : Wd) (X : Cx) (Wx : WX) (e : Expr) (ev : Fr → Out R) : Prop := ∀ (pv : Nat → Option V) (ow : Ow) (H : Hp) (S : Fr) (σ : L2.St) (Q : VK), Rel W pv ow H S σ → PostE W pv ow H σ Wx (ev S) Q → RE X e σ H Q
theorem snd_one {op : BoolOp} (ha : SndE W cl gl X Wx a ia) : SndV W X Wx (.BoolOp op [a] pos) (evE cl gl ia) := fun pv ow H S σ Q r h => RE.of (pe_one pe_RE) (ha pv ow H S σ Q r h)
theorem snd_and {i2 : E} {es : Es} {rest : List Expr} (ha : SndE W cl gl X Wx a ia) (hb : SndV W X Wx (.BoolOp .And (b :: rest) pos) (evAnd cl gl (.cons i2 es))) : SndV W X Wx (.BoolOp .And (a :: b :: rest) pos) (evAnd cl gl (.cons ia (.cons i2 es))) := by
  intro pv ow H S σ Q r h
  simp only [evAnd] at h
  refine RE.of (pe_and pe_RE pe_RE) (RE.mono (ha pv ow H S σ _ r (Post.seq h)) ?_)
  rintro x H1 ⟨rx, S1, ow1, -, k1, r1, p1, h1⟩
  split at h1
  · next e1 =>
    cases (show Rep W ow1 H1 (.bl true) x from reads r1 p1 e1)
    refine ⟨true, rfl, ?_⟩
    rw [if_pos rfl]
    exact hb pv ow1 H1 S1 σ Q r1 (by simpa only [evAnd] using h1.reE k1)
  · next e1 =>
    cases (show Rep W ow1 H1 (.bl false) x from reads r1 p1 e1)
    refine ⟨false, rfl, ?_⟩
    rw [if_neg (by simp)]
    exact h1 _ ow1 H1 k1 r1 (.bl false)
  · exact False.elim h1
theorem snd_or {i2 : E} {es : Es} {rest : List Expr} (ha : SndE W cl gl X Wx a ia) (hb : SndV W X Wx (.BoolOp .Or (b :: rest) pos) (evOr cl gl (.cons i2 es))) : SndV W X Wx (.BoolOp .Or (a :: b :: rest) pos) (evOr cl gl (.cons ia (.cons i2 es))) := by
  intro pv ow H S σ Q r h
  simp only [evOr] at h
  refine RE.of (pe_or pe_RE pe_RE) (RE.mono (ha pv ow H S σ _ r (Post.seq h)) ?_)
  rintro x H1 ⟨rx, S1, ow1, -, k1, r1, p1, h1⟩
  split at h1
  · next e1 =>
    cases (show Rep W ow1 H1 (.bl false) x from reads r1 p1 e1)
    refine ⟨false, rfl, ?_⟩
    rw [if_neg (by simp)]
    exact hb pv ow1 H1 S1 σ Q r1 (by simpa only [evOr] using h1.reE k1)
  · next e1 =>
    cases (show Rep W ow1 H1 (.bl true) x from reads r1 p1 e1)
    refine ⟨true, rfl, ?_⟩
    rw [if_pos rfl]
    exact h1 _ ow1 H1 k1 r1 (.bl true)
  · exact False.elim h1
theorem snd_ite {it : T} (hc : SndT W cl gl X Wx c it) (ha : SndE W cl gl X Wx a ia) (hb : SndE W cl gl X Wx b ib) : SndE W cl gl X Wx (.IfExp c a b pos) (.ite it ia ib) := by
  intro pv ow H S σ Q r h
  simp only [evE] at h
  refine RE.of (pe_ifExp pt_RT pe_RE pe_RE) (RT.mono (hc pv ow H S σ _ r (Post.seq h)) ?_)
  rintro x H1 ⟨rx, S1, ow1, -, k1, r1, p1, h1⟩
  subst p1
  cases rx with
  | true => rw [if_pos rfl] at h1 ⊢; exact ha pv ow1 H1 S1 σ Q r1 (h1.reE k1)
  | false => rw [if_neg (by simp)] at h1 ⊢; exact hb pv ow1 H1 S1 σ Q r1 (h1.reE k1)

/-! ### built-ins, isinstance, subscripts, fields -/
theorem rdL_of {pv : Nat → Option V} {H0 : Hp} {ow : Ow} {H : Hp} {S : Fr} {σ : L2.St} (r : Rel W pv ow H S σ) : ∀ {rs : List R} {vs : List V} {ds : List D}, RRepL W H0 ow H σ rs vs → rs.mapM (cont S) = some ds → RdL W ow H ds vs
  | [], _, _, h, e => by cases h; simp at e; subst e; exact .nil
  | x :: rs, _, _, h, e => by
    cases h with
    | cons a l =>
      simp only [List.mapM_cons, bind, Option.bind_eq_some_iff, pure, Option.some.injEq] at e
      obtain ⟨d, e1, ds, e2, rfl⟩ := e
      exact .cons (reads r a e1) (rdL_of r l e2)
theorem biD_nobor {bi : BI} {ds : List D} {r : R} (h : biD bi ds = some r) : ∀ i, r ≠ .bor i := by
  intro i hr
  subst hr
  unfold biD at h
  split at h <;> (try split at h) <;> simp at h <;> (try (obtain ⟨_, _, h⟩ := h; cases h))
theorem snd_bi (G : CxG W M cl gl k X sc Wx) {bi : BI} {e0 : Expr} {es : List Expr} {ies : Es} (hg : Gl X (biN bi)) (hs : (e0 :: es).all noStar = true) (ha : SndRs W cl gl X Wx (e0 :: es) ies) : SndE W cl gl X Wx (.Call (.Name (biN bi) p1) (e0 :: es) [] pos) (.bi bi ies) := by
  intro pv ow H S σ Q r h
  simp only [evE] at h
  simp only [List.all_cons, Bool.and_eq_true] at hs
  have hm : X.mg (biN bi) = none := G.free _ (by cases bi <;> decide)
  have key : ∀ (σ : L2.St) (H : Hp) (Q : VK), RA X (e0 :: es) σ H (fun vs H1 => ∃ rr, CallR X (biV bi) rr ∧ rr vs H1 Q) → RE X (.Call (.Name (biN bi) p1) (e0 :: es) [] pos) σ H Q := by
    intro σ H Q q
    cases bi with
    | abs => exact RE.of (pe_callB (x := "abs") call_best hg hm (by decide +kernel) pa_RA (he := star_cons hs.1) (hpl := star_any hs.2)) q
    | len => exact RE.of (pe_callB (x := "len") call_best hg hm (by decide +kernel) pa_RA (he := star_cons hs.1) (hpl := star_any hs.2)) q
    | max => exact RE.of (pe_callB (x := "max") call_best hg hm (by decide +kernel) pa_RA (he := star_cons hs.1) (hpl := star_any hs.2)) q
    | min => exact RE.of (pe_callB (x := "min") call_best hg hm (by decide +kernel) pa_RA (he := star_cons hs.1) (hpl := star_any hs.2)) q
    | sum => exact RE.of (pe_callB (x := "sum") call_best hg hm (by decide +kernel) pa_RA (he := star_cons hs.1) (hpl := star_any hs.2)) q
    | sorted => exact RE.of (pe_callB (x := "sorted") call_best hg hm (by decide +kernel) pa_RA (he := star_cons hs.1) (hpl := star_any hs.2)) q
    | int => exact RE.of (pe_callTy (x := "int") call_best hg hm (by decide +kernel) pa_RA (he := star_cons hs.1) (hpl := star_any hs.2)) q
    | list => exact RE.of (pe_callTy (x := "list") call_best hg hm (by decide +kernel) pa_RA (he := star_cons hs.1) (hpl := star_any hs.2)) q
    | tuple => exact RE.of (pe_callTy (x := "tuple") call_best hg hm (by decide +kernel) pa_RA (he := star_cons hs.1) (hpl := star_any hs.2)) q
    | str => exact RE.of (pe_callTy (x := "str") call_best hg hm (by decide +kernel) pa_RA (he := star_cons hs.1) (hpl := star_any hs.2)) q
  refine key σ H Q (RA.mono (ha pv ow H S σ _ r (Post.seq h)) ?_)
  rintro vs H1 ⟨rs, S1, ow1, _, k1, r1, p1, h1⟩
  split at h1
  · next ds e1 =>
    split at h1
    · next rr e3 => exact biD_ok G.K G.calm (by have := G.room.un; omega) G.dl e3 (rdL_of r1 p1 e1) (gives_of k1 r1 (biD_nobor e3) h1)
    · exact False.elim h1
  · exact False.elim h1
theorem minNR_inv {ds : List D} {d : D} (h : minNR ds = some d) : (ds = [.lst []] ∧ d = .non) ∨ ∃ y ys, ds = [.lst (y :: ys)] ∧ minLD (y :: ys) = some d := by
  unfold minNR at h
  split at h
  · cases h; exact .inl ⟨rfl, rfl⟩
  · exact .inr ⟨_, _, rfl, h⟩
  · cases h
theorem snd_minN (G : CxG W M cl gl k X sc Wx) {e0 : Expr} {ies : Es} {jj : Nat} {cp kp : Pos} (hg : Gl X "min") (hs : noStar e0 = true) (ha : SndRs W cl gl X Wx [e0] ies) : SndE W cl gl X Wx (.Call (.Name "min" p1) [e0] [⟨some (Str.ofString "default"), .Constant .none jj cp, kp⟩] pos) (.minN ies) := by
  intro pv ow H S σ Q r h
  simp only [evE] at h
  refine RE.of (pe_callBK (x := "min") (ks := [Str.ofString "default"]) (cr_minN G.calm (by have := G.room.un; omega)) hg (G.free _ (by decide)) (by decide +kernel) pa_RA (pk_cons pe_RE pk_nil) (he := by rw [star_cons hs]; rfl) (hpl := by rw [star_cons hs]; rfl)) ?_
  refine RA.mono (ha pv ow H S σ _ r (Post.seq h)) ?_
  rintro vs H1 ⟨rs, S1, ow1, _, k1, r1, p1, h1⟩
  refine RE.of pe_non ?_
  show rMinN X.K vs [.non] H1 Q
  refine ⟨rfl, ?_⟩
  split at h1
  · next ds e1 =>
    split at h1
    · next d e3 =>
      have rd := rdL_of r1 p1 e1
      have g := gives_of (r := .val d) k1 r1 (by intro i z; cases z) h1
      rcases minNR_inv e3 with ⟨rfl, rfl⟩ | ⟨y, ys, rfl, e4⟩
      · obtain ⟨v, rfl, a, us, rfl, ha', la⟩ := rd.one
        cases la
        exact ⟨a, [], rfl, SqL.of ha', .inl ⟨rfl, g.same .non⟩⟩
      · obtain ⟨x, xs, e5, hz, rfl⟩ := minLD_inv e4
        injection e5 with e6 e7
        subst e6 e7
        obtain ⟨ps, f1, f2, f3⟩ := cmpAll_inv hz
        obtain ⟨v, rfl, a, us, rfl, ha', la⟩ := rd.one
        refine ⟨a, us, rfl, SqL.of ha', .inr ⟨y, ys, ps, f1, G.K ▸ repDps la f1, f2, f3, fun u hu1 => ?_⟩⟩
        obtain ⟨u', hu2, ru⟩ := la.get leastAt_ok
        rw [hu1] at hu2
        cases hu2
        exact g.same ru
    · exact False.elim h1
  · exact False.elim h1
theorem snd_sub (G : CxG W M cl gl k X sc Wx) (hb' : plainS b = true) (ha : SndE W cl gl X Wx a ia) (hb : SndE W cl gl X Wx b ib) : SndE W cl gl X Wx (.Subscript a b pos) (.sub ia ib) := by
  intro pv ow H S σ Q r h
  simp only [evE] at h
  refine RE.of (pe_ix ix_best pe_RE pe_RE (plain_ix hb')) ?_
  refine RE.mono (ha pv ow H S σ _ r (Post.seq h)) ?_
  rintro x H1 ⟨rx, S1, ow1, -, k1, r1, p1, h1⟩
  refine RE.mono (hb pv ow1 H1 S1 σ _ r1 (Post.seq2 h1 k1)) ?_
  rintro y H2 ⟨ry, S2, ow2, -, k2, r2, p2, h2⟩
  split at h2
  · next d e e1 e2 =>
    split at h2
    · next rr e3 => exact subD_ok G.K G.dg e3 (reads r2 (RRep.step k2 p1) e1) (reads r2 p2 e2) fun v rep => h2 v ow2 H2 (k1.trans k2) r2 rep
    · exact False.elim h2
  · exact False.elim h2
theorem snd_fld (G : CxG W M cl gl k X sc Wx) {c f : Str} (hq : (c, f) ∈ M.flds) (hb : attrB a = true) (ha : SndE W cl gl X Wx a ia) : SndE W cl gl X Wx (.Attribute a f pos) (.fld c ia f) := by
  intro pv ow H S σ Q r h
  simp only [evE] at h
  obtain ⟨hm, hn⟩ := G.fld _ hq
  refine RE.of (pe_fld pe_RE (attr_base hb)) ?_
  refine RE.mono (ha pv ow H S σ _ r (Post.seq h)) ?_
  rintro x H1 ⟨rx, S1, ow1, -, k1, r1, p1, h1⟩
  split at h1
  · next c' fs e1 =>
    split at h1
    · next ec =>
      subst ec
      split at h1
      · next d e2 =>
        obtain ⟨ad, dx, gs, rfl, _, g1, _, g2⟩ := reads r1 p1 e1
        obtain ⟨u, e3, rep⟩ := g2.lookup e2
        exact ⟨ad, _, dx, gs, u, rfl, g1, by rw [G.K]; exact (G.cls _ hm).2.cl, by rw [G.K]; exact hn, e3, h1 u ow1 H1 k1 r1 rep⟩
      · exact False.elim h1
    · exact False.elim h1
  · exact False.elim h1
theorem snd_prop (G : CxG W M cl gl k X sc Wx) {c f : Str} (hq : (c, f) ∈ M.props) (hb : attrB a = true) (ha : SndE W cl gl X Wx a ia) : SndE W cl gl X Wx (.Attribute a f pos) (.prop c f ia) := by
  intro pv ow H S σ Q r h
  simp only [evE] at h
  obtain ⟨hm, p, g, hp, fd, ps, kp, hbd, hF⟩ := G.prop _ hq
  refine RE.of (pe_prop (X := X) (C := W.cad c) pe_RE (by rw [G.K]; exact (G.cls _ hm).2.cl) (by rw [G.K]; exact hp) hF (G.room.mono (by omega)) hbd .nil passF' (attr_base hb)) ?_
  refine RE.mono (ha pv ow H S σ _ r (Post.seq h)) ?_
  rintro x H1 ⟨rx, S1, ow1, -, k1, r1, p1, h1⟩
  obtain ⟨d, S2, ow2, k2, r2, q2, h2⟩ := Post.esc r1 k1 p1 h1
  split at h2
  · next c' fs =>
    split at h2
    · next ec =>
      subst ec
      have h3 := Post.reE (noExc_post (Wx' := fun _ _ _ _ => False) h2) k2
      have sp := call_sp r2 (.cons (a := .v (.ins c' fs)) q2 .nil) h3
      obtain ⟨ad, dx, gs, rfl, _, g1, _, g2⟩ := q2.rd
      exact ⟨ad, dx, gs, rfl, g1, sp⟩
    · exact False.elim h2
  · exact False.elim h2
end
end Ev

/-! EvG: what loops walk. -/
namespace Ev
open PySem PySem.Spec PyProof.Rows L2

theorem enum_new1 {v : Value} {o : Obj} {H : Heap → Prop} (B : Begins v o H) :
    Meets (Builtin.«enumerate.__new__» ⟨[.type "enumerate", v], []⟩) (fun _ R s => H s.heap ∧ R (.ok (.ret (.ref (s.heap.push o).objs.size))) { s with heap := (s.heap.push o).push { cls := .type "enumerate", data := .fields #[.none, .bool false, .ref s.heap.objs.size, rawInt 0, .none, .none] } }) :=
  .of_wp fun prog w A R s h => by
    obtain ⟨hp, g, d, tk, os⟩ := s
    obtain ⟨h1, h⟩ := h
    have hsub := sub_enumerate
    have begin_ : ∀ {A' : Around} {E : Value → Shared → Prop} {Q : Value → Shared → Prop}, Q (.ref hp.objs.size) ⟨hp.push o, g, d, tk, os⟩ → wpAny (model prog w) A' (pyIter v) Q E ⟨hp, g, d, tk, os⟩ := fun q => B.iter prog w _ _ _ _ h1 q
    wp_walk using begin_
    refine wpAny_stack_any fun _ => (wpAny_pure ?_)
    split
    · rename_i c _ _ _ _ _
      cases (c == Value.type "enumerate") <;> (wp_walk using begin_; exact ⟨_, rfl, h⟩)
    · (wp_walk using begin_; exact ⟨_, rfl, h⟩)
theorem enum_call1 {prog : Program} {w : World} {A : Around} {E : Value → Shared → Prop} {s : Shared} {v : Value} {o : Obj} {H : Heap → Prop} {Q : Value → Shared → Prop} (B : Begins v o H) (h1 : H s.heap)
    (h : ∀ h', IsEnum h' (s.heap.objs.size + 1) s.heap.objs.size 0 .none → h'.get? s.heap.objs.size = some o → h'.objs.size = s.heap.objs.size + 2 → (∀ b o, s.heap.get? b = some o → h'.get? b = some o) → Q (.ref (s.heap.objs.size + 1)) { s with heap := h' }) :
    wpAny (model prog w) A (call (.type "enumerate") [v]) Q E s := by
  refine callType_new F.called_enumerate (by decide) (F.typeCall_enumerate_1 _) (F.newCall_enumerate_1 _) (fun ob => F.args_object_init_2 ob _) F.entry_enumerate_new (enum_new1 B) ⟨h1, ?_⟩
  have hz : (s.heap.push o).objs.size = s.heap.objs.size + 1 := Heap.size_push ..
  show _ ∧ _
  rw [hz]
  have he := Heap.get?_push_size (s.heap.push o) (o := { cls := .type "enumerate", data := .fields #[.none, .bool false, .ref s.heap.objs.size, rawInt 0, .none, .none] }) rfl
  rw [hz] at he
  exact ⟨⟨_, he, rfl⟩, h _ he (Heap.get?_push_of_some _ (Heap.get?_push_size _ B.free)) (by rw [Heap.size_push, hz]) fun b o x => Heap.get?_push_of_some _ (Heap.get?_push_of_some _ x)⟩

/-- the tuple at a, each item in a new pair with its place -/
def IteT (K : PySem.W.Frag) (a : Addr) : L2.It :=
  ⟨fun i H => ∃ (xs : List V) (x : V), SqT K H a xs ∧ xs[i]? = some x, fun i H v H' => ∃ T x, v = .ref T ∧ H T = none ∧ H' = upd H T (.tup [.int (i : Nat), x]) ∧ ∀ xs, SqT K H a xs → xs[i]? = some x, fun i H => ∃ xs : List V, SqT K H a xs ∧ xs.length = i⟩
theorem turn_enumT {P : Program} {w : World} {K : PySem.W.Frag} {elts : List Expr} {kk : Nat} {tpos : Pos} (a e it : Addr) :
    Turn P w K (.Tuple elts kk tpos) (IteT K a) [e, it] e (fun i h => (∃ old, IsEnum h e it ((i : Nat) : Int) old) ∧ h.IsTupleIter it a i ∧ e ≠ it) where
  mem := by simp
  obj := fun i h st b hb => by
    obtain ⟨⟨old, he⟩, ⟨o, ho, hc, hd⟩, _⟩ := st
    rcases (by simpa using hb : b = e ∨ b = it) with rfl | rfl
    · exact ⟨_, he, fun v q => nomatch q⟩
    · exact ⟨o, ho, fun v q => by rw [hd] at q; cases q⟩
  keep := fun i h h' ⟨⟨old, he⟩, hi, hne⟩ k => ⟨⟨old, k e (by simp) _ he⟩, hi.at fun o q => k it (by simp) o q, hne⟩
  item := by
    intro X hP hw hK hc i pins s σ H E I hf st hg
    subst hP hw hK
    obtain ⟨⟨old, he⟩, hit, hne⟩ := st
    obtain ⟨xs, x, hq, hx⟩ := hg
    obtain ⟨its, rv, p, hz⟩ := I.tuple hq
    obtain ⟨u, hu, ru⟩ := rv.get hx
    have hilt : i < its.length := (List.getElem?_eq_some_iff.mp hu).1
    have hel : e < s.heap.objs.size := Heap.lt_size he
    have hil : it < s.heap.objs.size := let ⟨_, q, _⟩ := hit; Heap.lt_size q
    have hai : a ≠ it := fun z => by
      obtain ⟨o1, q1, _, q2⟩ := hit
      obtain ⟨o2, q3, _, n, q4⟩ := p
      rw [z, q1] at q3
      cases q3
      rw [q2] at q4
      cases q4
    have hae : e ≠ a := fun z => by
      obtain ⟨o2, q3, _, n, q4⟩ := p
      rw [← z, show s.heap.get? e = _ from he] at q3
      cases q3
      cases q4
    refine wpAny_pyNext_enum_itemD (Draws.tuple (prog := X.prog) (w := X.w) (A := X.A.in1) (I.ok.hd hc) it a hai its.toArray) he ⟨hit, p⟩ (by simpa using hilt) hne (by simp [hne, hae]) fun y h' tk hy ho hit' hT hsz hk => ?_
    have ey : y = u := by
      have := hy.symm.trans (show its.toArray[i]? = some u by simpa using hu)
      exact Option.some.inj this
    subst ey
    refine ⟨_, rfl, wpAny_letOwnedTupleGo_enum (s := { s with heap := h', toks := tk + 1 }) ho fun h'' he' sb => ?_⟩
    have hT2 : h''.get? s.heap.objs.size = some { cls := .type "tuple", data := .seq #[.int i tk, y] } := (sb.2 _ (Nat.ne_of_gt hel)).trans hT
    have new : ObjOk X.prog X.w (upd H s.heap.objs.size (.tup [.int (i : Nat), x])) h'' s.heap.objs.size (.tup [.int (i : Nat), x]) := ⟨by show 2 ≤ sizeLine; decide, [.int i tk, y], .cons ⟨_, rfl⟩ (.cons ru .nil), ⟨_, hT2, rfl, _, rfl⟩⟩
    have I1 : Inv X pins σ (upd H s.heap.objs.size (.tup [.int (i : Nat), x])) { s with heap := h'', toks := tk + 1 } :=
      I.turnedNew (ch := [e, it]) (fun b ob hb q => (sb.2 b (fun z => hb (by simp [z]))).trans (hk b ob (fun z => hb (by simp [z])) (fun z => hb (by simp [z])) q)) hf (Nat.le_refl _) new
    refine ⟨.ref s.heap.objs.size, _, I1, rfl, ⟨_, x, rfl, I.hok.fresh (Nat.le_refl _), rfl, fun ys hy => by rw [I.tuple_inj hy hq]; exact hx⟩, ⟨⟨y, ?_⟩, hit'.1.at fun o q => (sb.2 it (Ne.symm hne)).trans q, hne⟩, fun b hb => ?_⟩
    · rw [show ((i + 1 : Nat) : Int) = (i : Int) + 1 by omega]; exact he'
    · have hb' : b < s.heap.objs.size := by
        rcases (by simpa using hb : b = e ∨ b = it) with rfl | rfl
        · exact hel
        · exact hil
      rw [upd_ne (Nat.ne_of_lt hb')]; exact (hf b hb).1
  done := by
    intro X hP hw hK hc i pins s σ H E I hf st hg
    subst hP hw hK
    obtain ⟨⟨old, he⟩, hit, hne⟩ := st
    obtain ⟨xs, hq, hx⟩ := hg
    obtain ⟨its, rv, p, hz⟩ := I.tuple hq
    obtain ⟨f0, f1, f2, f3, f4, f5⟩ := hf it (by simp)
    have hl := rv.length
    have hai : a ≠ it := fun z => by
      obtain ⟨o1, q1, _, q2⟩ := hit
      obtain ⟨o2, q3, _, n, q4⟩ := p
      rw [z, q1] at q3
      cases q3
      rw [q2] at q4
      cases q4
    have hn : i = its.toArray.size := by simp; omega
    rw [hn] at hit
    exact wpAny_pyNext_enum_endD (Draws.tuple (prog := X.prog) (w := X.w) (A := X.A.in1) (I.ok.hd hc) it a hai its.toArray) he ⟨hit, p⟩ fun h' eb => ⟨rfl, I.turned (t' := s.toks) (fun b o hb q => eb b o hb q) f0 f1 f3 f4 f5⟩
  self := fun A i s Q E ⟨⟨_, he⟩, _⟩ h => wpAny_pyIter_enum he h
def iEnumT (K : PySem.W.Frag) (ta : TA) : TI := fun σ H R => ta σ H fun vs H1 => ∃ a xs, vs = [.ref a] ∧ SqT K H1 a xs ∧ R (IteT K a) H1
theorem pi_enumT {X : Cx} {e : Expr} {ta : TA} {p pos tpos : Pos} {elts : List Expr} {kk : Nat} (hg : Gl X "enumerate") (hm : X.mg "enumerate" = none) (ha : PA X [e] ta) (hs : starEach [e] X.env = [(false, eval e X.env)]) :
    PI X (.Tuple elts kk tpos) (.Call (.Name "enumerate" p) [e] [] pos) (iEnumT X.K ta) := by
  refine ⟨fun pins s σ H R I h => ?_⟩
  refine Call_ (ld_blt I hg hm boot_enumerate (PyProof.Rows.callWith_type1 (thn (ha.run pos pins s σ H _ I h) fun us s1 ⟨vs, H1, I1, r1, q1⟩ => ?_) hs rfl))
  obtain ⟨a, xs, rfl, hq, q⟩ := q1
  cases r1 with
  | cons r rr =>
    cases rr
    cases r
    obtain ⟨its, rv, p', hz⟩ := I1.tuple hq
    refine enum_call1 (begins_tuple a its.toArray) p' fun h' he hit hsz hk => wpAny_pyIter_enum he ?_
    have I2 : Inv X pins σ H1 { s1 with heap := h' } := I1.kept (t' := s1.toks) hk
    refine ⟨s1.heap.objs.size + 1, [s1.heap.objs.size + 1, s1.heap.objs.size], _, _, H1, rfl, I2, turn_enumT a (s1.heap.objs.size + 1) s1.heap.objs.size, ⟨⟨.none, he⟩, ⟨_, hit, rfl, rfl⟩, Nat.succ_ne_self _⟩, fun b hb => ?_, q⟩
    have hle : s1.heap.objs.size ≤ b := by
      rcases (by simpa using hb : b = s1.heap.objs.size + 1 ∨ b = s1.heap.objs.size) with rfl | rfl
      · exact Nat.le_add_right _ _
      · exact Nat.le_refl _
    exact I1.fpOk hle (I1.hok.fresh hle)
end Ev

/-! EvH: iterables, targets, slices, isinstance, calls, new instances. -/
namespace Ev
open PySem PySem.Spec PyProof.Rows L2

def SndI (W : Wd) (cl : Calls) (gl : Str → Option D) (X : Cx) (Wx : WX) (tg e : Expr) (it : It) : Prop := ∀ (pv : Nat → Option V) (ow : Ow) (H : Hp) (S : Fr) (σ : L2.St) (R : L2.It → Hp → Prop), Rel W pv ow H S σ →
  Post W pv ow H σ Wx (fun ow' H' ds J => Walk W ow' H' J ds) (evI cl gl it S) R → RI X tg e σ H R
section
variable {W : Wd} {M : MC} {cl : Calls} {gl : Str → Option D} {k : Nat} {X : Cx} {sc : Scope} {Wx : WX} {e a b c tg : Expr} {ia ib ic : E} {pos p1 p2 : Pos} {ow : Ow} {H : Hp}
theorem walk_lst {a : Addr} {vs : List V} {xs : List D} (h : LstAt ow H a vs) (l : RepL W ow H xs vs) : Walk W ow H (Itl W.K a) xs := by
  intro ow' H' kp i
  have h' := h.keep kp
  have l' := l.keep kp
  refine ⟨fun d hd => ?_, fun hi => ⟨vs, SqL.of h'.1, by rw [← l.length]; omega⟩⟩
  obtain ⟨u, hu, ru⟩ := l'.get hd
  refine ⟨⟨vs, u, SqL.of h'.1, hu⟩, ?_⟩
  rintro x H'' ⟨rfl, hx⟩
  have := hx vs (SqL.of h'.1)
  rw [hu] at this
  cases this
  exact ⟨ow', Grow.refl, ru⟩
theorem walk_tup {a : Addr} {vs : List V} {xs : List D} (h : TupAt W.K ow H a vs) (l : RepL W ow H xs vs) : Walk W ow H (Itt W.K a) xs := by
  intro ow' H' kp i
  have h' := h.keep kp
  have l' := l.keep kp
  refine ⟨fun d hd => ?_, fun hi => ⟨vs, h'.sq, by rw [← l.length]; omega⟩⟩
  obtain ⟨u, hu, ru⟩ := l'.get hd
  refine ⟨⟨vs, u, h'.sq, hu⟩, ?_⟩
  rintro x H'' ⟨rfl, hx⟩
  have := hx vs h'.sq
  rw [hu] at this
  cases this
  exact ⟨ow', Grow.refl, ru⟩
theorem rngD_len {lo hi : Int} : (rngD lo hi).length = (hi - lo).toNat := by simp [rngD]
theorem rngD_get {lo hi : Int} {i : Nat} {d : D} (h : (rngD lo hi)[i]? = some d) : i < (hi - lo).toNat ∧ d = .int (lo + (i : Int)) := by
  unfold rngD at h
  rw [List.getElem?_map] at h
  cases e : (List.range (hi - lo).toNat)[i]? with
  | none => rw [e] at h; cases h
  | some j =>
    rw [e] at h
    obtain ⟨h1, h2⟩ := List.getElem?_eq_some_iff.mp e
    simp only [List.getElem_range] at h2
    subst h2
    cases h
    exact ⟨by simpa using h1, rfl⟩
theorem walk_rng {lo hi : Int} : Walk W ow H (Itr lo (hi - lo).toNat) (rngD lo hi) := by
  intro ow' H' kp i
  refine ⟨fun d hd => ?_, fun he => by rw [rngD_len] at he; exact Nat.le_of_eq he.symm⟩
  obtain ⟨h1, rfl⟩ := rngD_get hd
  refine ⟨h1, ?_⟩
  rintro x H'' ⟨rfl, rfl⟩
  exact ⟨ow', Grow.refl, .int _⟩
theorem rngDn_len {i j : Int} : (rngDn i j).length = (i - j).toNat := by simp [rngDn]
theorem walk_dn {i j : Int} : Walk W ow H (Itc i (-1) (i - j).toNat) (rngDn i j) := by
  intro ow' H' kp n
  refine ⟨fun d hd => ?_, fun he => by rw [rngDn_len] at he; exact Nat.le_of_eq he.symm⟩
  have hlt : n < (rngDn i j).length := (List.getElem?_eq_some_iff.mp hd).1
  rw [rngDn_len] at hlt
  have hd' : d = .int (i - (n : Int)) := by
    unfold rngDn at hd
    rw [List.getElem?_map, List.getElem?_eq_getElem (by simpa using hlt)] at hd
    simp at hd
    exact hd.symm
  subst hd'
  refine ⟨hlt, ?_⟩
  rintro x H'' ⟨rfl, rfl⟩
  refine ⟨ow', Grow.refl, ?_⟩
  have e : i - (n : Int) = i + (n : Nat) * (-1) := by omega
  rw [e]
  exact .int _
theorem walk_rev {j : Int} : Walk W ow H (Itc (0 + (((j - 0).toNat : Nat) : Int) - 1) (-1) (j - 0).toNat) (rngD 0 j).reverse := by
  intro ow' H' kp i
  refine ⟨fun d hd => ?_, fun he => by rw [List.length_reverse, rngD_len] at he; exact Nat.le_of_eq he.symm⟩
  have hlt : i < (rngD 0 j).reverse.length := (List.getElem?_eq_some_iff.mp hd).1
  rw [List.length_reverse, rngD_len] at hlt
  rw [List.getElem?_reverse (by rw [rngD_len]; exact hlt), rngD_len] at hd
  obtain ⟨h1, rfl⟩ := rngD_get hd
  refine ⟨hlt, ?_⟩
  rintro x H'' ⟨rfl, rfl⟩
  refine ⟨ow', Grow.refl, ?_⟩
  have e : (0 : Int) + (((j - 0).toNat - 1 - i : Nat) : Int) = 0 + (((j - 0).toNat : Nat) : Int) - 1 + (i : Nat) * (-1) := by omega
  rw [e]
  exact .int _
theorem enum_get {xs : List D} : ∀ {n i : Nat} {d : D}, (enumFrom n xs)[i]? = some d → ∃ x, xs[i]? = some x ∧ d = .tup [.int ((n + i : Nat) : Int), x] := by
  induction xs with
  | nil => intro n i d h; simp [enumFrom] at h
  | cons y r ih =>
    intro n i d h
    cases i with
    | zero => simp [enumFrom] at h; exact ⟨y, rfl, h.symm⟩
    | succ i =>
      simp only [enumFrom, List.getElem?_cons_succ] at h
      obtain ⟨x, h1, h2⟩ := ih h
      exact ⟨x, by simpa using h1, by rw [h2]; congr 3; omega⟩
theorem enum_len {xs : List D} : ∀ {n : Nat}, (enumFrom n xs).length = xs.length := by
  induction xs with
  | nil => intro n; rfl
  | cons y r ih => intro n; simp [enumFrom, ih]
theorem zip_get : ∀ {xs ys : List D} {i : Nat} {d : D}, (zipD xs ys)[i]? = some d → ∃ x y, xs[i]? = some x ∧ ys[i]? = some y ∧ d = .tup [x, y]
  | [], _, _, _, h => by simp [zipD] at h
  | _ :: _, [], _, _, h => by simp [zipD] at h
  | x :: xs, y :: ys, i, d, h => by
    cases i with
    | zero => simp [zipD] at h; exact ⟨x, y, rfl, rfl, h.symm⟩
    | succ i => simp only [zipD, List.getElem?_cons_succ] at h ⊢; exact zip_get h
theorem zip_len : ∀ {xs ys : List D}, (zipD xs ys).length = min xs.length ys.length
  | [], _ => by simp [zipD]
  | _ :: _, [] => by simp [zipD]
  | x :: xs, y :: ys => by simp [zipD, zip_len]
/-- a new pair -/
theorem pair_new {x y : V} {dx dy : D} {T : Addr} (hT : H T = none) (hx : Rep W ow H dx x) (hy : Rep W ow H dy y) : ∃ ow', Grow ow H ow' (upd H T (.tup [x, y])) ∧ Rep W ow' (upd H T (.tup [x, y])) (.tup [dx, dy]) (.ref T) := by
  have g := Grow.new (ow := ow) (o := .tup [x, y]) (t := .fz) hT
  exact ⟨_, g, .tup (.inl ⟨.inl upd_same, if_pos rfl⟩) (.cons (hx.keep g.keep) (.cons (hy.keep g.keep) .nil))⟩
theorem walk_enumL {a : Addr} {vs : List V} {xs : List D} (h : LstAt ow H a vs) (l : RepL W ow H xs vs) : Walk W ow H (Ite W.K a) (enumFrom 0 xs) := by
  intro ow' H' kp i
  have h' := h.keep kp
  have l' := l.keep kp
  refine ⟨fun d hd => ?_, fun hi => ⟨vs, SqL.of h'.1, by rw [enum_len, l.length] at hi; omega⟩⟩
  obtain ⟨y, hy, rfl⟩ := enum_get hd
  obtain ⟨u, hu, ru⟩ := l'.get hy
  refine ⟨⟨vs, u, SqL.of h'.1, hu⟩, ?_⟩
  rintro x H'' ⟨T, z, rfl, hT, rfl, hx⟩
  have := hx vs (SqL.of h'.1)
  rw [hu] at this
  cases this
  rw [Nat.zero_add]
  exact pair_new hT (.int _) ru
theorem walk_enumT {a : Addr} {vs : List V} {xs : List D} (h : TupAt W.K ow H a vs) (l : RepL W ow H xs vs) : Walk W ow H (IteT W.K a) (enumFrom 0 xs) := by
  intro ow' H' kp i
  have h' := h.keep kp
  have l' := l.keep kp
  refine ⟨fun d hd => ?_, fun hi => ⟨vs, h'.sq, by rw [enum_len, l.length] at hi; omega⟩⟩
  obtain ⟨y, hy, rfl⟩ := enum_get hd
  obtain ⟨u, hu, ru⟩ := l'.get hy
  refine ⟨⟨vs, u, h'.sq, hu⟩, ?_⟩
  rintro x H'' ⟨T, z, rfl, hT, rfl, hx⟩
  have := hx vs h'.sq
  rw [hu] at this
  cases this
  rw [Nat.zero_add]
  exact pair_new hT (.int _) ru
theorem walk_zipL {a b : Addr} {vs us : List V} {xs ys : List D} (h : LstAt ow H a vs) (l : RepL W ow H xs vs) (g : LstAt ow H b us) (m : RepL W ow H ys us) : Walk W ow H (Itz W.K a b) (zipD xs ys) := by
  intro ow' H' kp i
  have h' := h.keep kp
  have g' := g.keep kp
  refine ⟨fun d hd => ?_, fun hi => ⟨vs, us, SqL.of h'.1, SqL.of g'.1, by rw [zip_len, l.length, m.length] at hi; omega⟩⟩
  obtain ⟨x, y, hx, hy, rfl⟩ := zip_get hd
  obtain ⟨u, hu, ru⟩ := (l.keep kp).get hx
  obtain ⟨w, hw, rw_⟩ := (m.keep kp).get hy
  refine ⟨⟨vs, us, u, w, SqL.of h'.1, SqL.of g'.1, hu, hw⟩, ?_⟩
  rintro z H'' ⟨T, z1, z2, rfl, hT, rfl, q1, q2⟩
  have e1 := q1 vs (SqL.of h'.1)
  have e2 := q2 us (SqL.of g'.1)
  rw [hu] at e1
  rw [hw] at e2
  cases e1
  cases e2
  exact pair_new hT ru rw_
theorem walk_zipT {a b : Addr} {vs us : List V} {xs ys : List D} (h : TupAt W.K ow H a vs) (l : RepL W ow H xs vs) (g : TupAt W.K ow H b us) (m : RepL W ow H ys us) : Walk W ow H (RZ.ItzT W.K a b) (zipD xs ys) := by
  intro ow' H' kp i
  have h' := (h.keep kp).sq
  have g' := (g.keep kp).sq
  refine ⟨fun d hd => ?_, fun hi => ⟨vs, us, h', g', by rw [zip_len, l.length, m.length] at hi; omega⟩⟩
  obtain ⟨x, y, hx, hy, rfl⟩ := zip_get hd
  obtain ⟨u, hu, ru⟩ := (l.keep kp).get hx
  obtain ⟨w, hw, rw_⟩ := (m.keep kp).get hy
  refine ⟨⟨vs, us, u, w, h', g', hu, hw⟩, ?_⟩
  rintro z H'' ⟨T, z1, z2, rfl, hT, rfl, q1, q2⟩
  have e1 := q1 vs h'
  have e2 := q2 us g'
  rw [hu] at e1
  rw [hw] at e2
  cases e1
  cases e2
  exact pair_new hT ru rw_

theorem snd_seq (G : CxG W M cl gl k X sc Wx) (ha : SndE W cl gl X Wx a ia) : SndI W cl gl X Wx tg a (.seq ia) := by
  intro pv ow H S σ R r h
  simp only [evI] at h
  cases hx : evE cl gl ia S with
  | bad => rw [hx] at h; exact False.elim h
  | exc c fs S1 =>
    refine RI.of (pi_list pe_RE) (RE.mono (ha pv ow H S σ (fun _ _ => False) r ?_) fun _ _ z => z.elim)
    rw [hx] at h ⊢
    exact h
  | ok x S1 =>
    have key : RE X a σ H (fun v H1 => ∃ d ow1 S2, esc x S1 = .ok d S2 ∧ Step ow H ow1 H1 ∧ Rel W pv ow1 H1 S2 σ ∧ Rep W ow1 H1 d v ∧ Post W pv ow H σ Wx (fun ow' H' ds J => Walk W ow' H' J ds) (match itemsD d with | some ds => .ok ds S2 | none => .bad) R) := by
      refine RE.mono (ha pv ow H S σ _ r (Post.seq h)) ?_
      rintro v H1 ⟨x', S1', ow1, e1, k1, r1, p1, h1⟩
      rw [hx] at e1
      cases e1
      cases he : esc x S1 with
      | ok d S2 =>
        obtain ⟨ow2, k2, _, r2, p2⟩ := esc_ok r1 k1 p1 he
        rw [he] at h1
        exact ⟨d, ow2, S2, rfl, k2, r2, p2, h1⟩
      | exc c fs S2 => exact absurd he esc_noexc
      | bad => rw [he] at h1; exact False.elim h1
    cases he : esc x S1 with
    | bad => rw [hx] at h; simp only [Out.bind, he] at h; exact False.elim h
    | exc c fs S2 => exact absurd he esc_noexc
    | ok d S2 =>
      cases d with
      | lst xs =>
        refine RI.of (pi_list pe_RE) (RE.mono key ?_)
        rintro v H1 ⟨d, ow1, S3, e1, k1, r1, p1, h1⟩
        rw [he] at e1
        cases e1
        cases p1 with
        | lst q l => exact ⟨_, rfl, ⟨_, SqL.of q.1⟩, by rw [G.K]; exact h1 _ ow1 H1 k1 r1 (walk_lst q l)⟩
      | tup xs =>
        refine RI.of (pi_tup pe_RE) (RE.mono key ?_)
        rintro v H1 ⟨d, ow1, S3, e1, k1, r1, p1, h1⟩
        rw [he] at e1
        cases e1
        cases p1 with
        | tup q l => exact ⟨_, rfl, ⟨_, by rw [G.K]; exact q.sq⟩, by rw [G.K]; exact h1 _ ow1 H1 k1 r1 (walk_tup q l)⟩
      | dic kvs =>
        refine G.dw tg a σ H R (RE.mono key ?_)
        rintro v H1 ⟨d, ow1, S3, e1, k1, r1, p1, h1⟩
        rw [he] at e1
        cases e1
        exact ⟨ow1, kvs, p1, fun J w => h1 J ow1 H1 k1 r1 w⟩
      | _ => rw [hx] at h; simp only [Out.bind, he, itemsD] at h; exact False.elim h
theorem bigI_ok {i : Int} (h : bigI i = true) : -(2 ^ 62) ≤ i ∧ i < 2 ^ 62 := by unfold bigI at h; simpa using h
def esLen : Es → Nat
  | .nil => 0
  | .cons _ es => esLen es + 1
theorem evEs_len : ∀ {ies : Es} {S S' : Fr} {ds : List D}, evEs cl gl ies S = .ok ds S' → ds.length = esLen ies
  | .nil, S, S', ds, h => by simp [evEs] at h; rw [h.1]; rfl
  | .cons e es, S, S', ds, h => by
    simp only [evEs] at h
    cases h1 : evE cl gl e S with
    | ok x S1 =>
      rw [h1] at h
      simp only [Out.bind] at h
      cases h2 : esc x S1 with
      | ok d S2 =>
        rw [h2] at h
        simp only at h
        cases h3 : evEs cl gl es S2 with
        | ok es' S3 =>
          rw [h3] at h
          cases h
          simp [esLen, evEs_len h3]
        | exc c fs S3 => rw [h3] at h; cases h
        | bad => rw [h3] at h; cases h
      | exc c fs S2 => rw [h2] at h; cases h
      | bad => rw [h2] at h; cases h
    | exc c fs S1 => rw [h1] at h; cases h
    | bad => rw [h1] at h; cases h
theorem snd_rng1 (G : CxG W M cl gl k X sc Wx) {ies : Es} (hl : esLen ies = 1) (hg : Gl X "range") (hs : noStar a = true) (ha : SndEs W cl gl X Wx [a] ies) : SndI W cl gl X Wx tg (.Call (.Name "range" p1) [a] [] pos) (.rng ies) := by
  intro pv ow H S σ R r h
  simp only [evI] at h
  refine RI.of (pi_range1 hg (G.free _ (by decide)) pa_RA (star_cons hs)) (RA.mono (ha pv ow H S σ _ r (Post.seq h)) ?_)
  rintro vs H1 ⟨ds, S1, ow1, e1, k1, r1, p1, h1⟩
  have hn := (evEs_len e1).trans hl
  clear e1
  split at h1
  · next j =>
    split at h1
    · next hb =>
      cases p1 with
      | cons q l =>
        cases l
        cases q
        exact ⟨j, rfl, (bigI_ok hb).1, (bigI_ok hb).2, h1 _ ow1 H1 k1 r1 (by simpa using walk_rng (lo := 0) (hi := j))⟩
    · exact False.elim h1
  · simp at hn
  · simp at hn
  · exact False.elim h1
theorem snd_rng2 (G : CxG W M cl gl k X sc Wx) {ies : Es} (hl : esLen ies = 2) (hg : Gl X "range") (hs : noStar a = true) (hs2 : noStar b = true) (ha : SndEs W cl gl X Wx [a, b] ies) : SndI W cl gl X Wx tg (.Call (.Name "range" p1) [a, b] [] pos) (.rng ies) := by
  intro pv ow H S σ R r h
  simp only [evI] at h
  refine RI.of (pi_range2 hg (G.free _ (by decide)) pa_RA (by rw [star_cons hs, star_cons hs2]; rfl) (star_cons hs2)) (RA.mono (ha pv ow H S σ _ r (Post.seq h)) ?_)
  rintro vs H1 ⟨ds, S1, ow1, e1, k1, r1, p1, h1⟩
  have hn := (evEs_len e1).trans hl
  clear e1
  split at h1
  · simp at hn
  · next i j =>
    split at h1
    · next hb =>
      simp only [Bool.and_eq_true] at hb
      cases p1 with
      | cons q l =>
        cases l with
        | cons q2 l =>
          cases l
          cases q
          cases q2
          exact ⟨i, j, rfl, ⟨(bigI_ok hb.1).1, (bigI_ok hb.1).2, (bigI_ok hb.2).1, (bigI_ok hb.2).2⟩, h1 _ ow1 H1 k1 r1 walk_rng⟩
    · exact False.elim h1
  · simp at hn
  · exact False.elim h1
theorem snd_rng3 (G : CxG W M cl gl k X sc Wx) {ies : Es} {c : Expr} (hl : esLen ies = 3) (hg : Gl X "range") (hs : noStar a = true) (hs2 : noStar b = true) (hs3 : noStar c = true) (ha : SndEs W cl gl X Wx [a, b, c] ies) : SndI W cl gl X Wx tg (.Call (.Name "range" p1) [a, b, c] [] pos) (.rng ies) := by
  intro pv ow H S σ R r h
  simp only [evI] at h
  refine RI.of (pi_range3 hg (G.free _ (by decide)) pa_RA (star_cons hs) (by rw [star_cons hs2, star_cons hs3]; rfl)) (RA.mono (ha pv ow H S σ _ r (Post.seq h)) ?_)
  rintro vs H1 ⟨ds, S1, ow1, e1, k1, r1, p1, h1⟩
  have hn := (evEs_len e1).trans hl
  clear e1
  split at h1
  · simp at hn
  · simp at hn
  · next i j c =>
    split at h1
    · next hb =>
      simp only [Bool.and_eq_true, decide_eq_true_eq] at hb
      obtain ⟨⟨rfl, hb1⟩, hb2⟩ := hb
      cases p1 with
      | cons q l =>
        cases l with
        | cons q2 l =>
          cases l with
          | cons q3 l =>
            cases l
            cases q
            cases q2
            cases q3
            exact ⟨i, j, -1, (i - j).toNat, rfl, RgC.neg (bigI_ok hb1).1 (bigI_ok hb1).2 (bigI_ok hb2).1 (bigI_ok hb2).2, h1 _ ow1 H1 k1 r1 walk_dn⟩
    · exact False.elim h1
  · exact False.elim h1
theorem snd_enm (G : CxG W M cl gl k X sc Wx) {ies : Es} {elts : List Expr} {kk : Nat} (hg : Gl X "enumerate") (hs : noStar a = true) (ha : SndEs W cl gl X Wx [a] ies) : SndI W cl gl X Wx (.Tuple elts kk p2) (.Call (.Name "enumerate" p1) [a] [] pos) (.enm ies) := by
  intro pv ow H S σ R r h
  simp only [evI] at h
  cases hx : evEs cl gl ies S with
  | bad => rw [hx] at h; exact False.elim h
  | exc c fs S1 =>
    refine RI.of (pi_enum hg (G.free _ (by decide)) pa_RA (star_cons hs)) (RA.mono (ha pv ow H S σ (fun _ _ => False) r ?_) fun _ _ z => z.elim)
    rw [hx] at h ⊢
    exact h
  | ok ds S1 =>
    have key := ha pv ow H S σ _ r (Post.seq h)
    have h' := h
    rw [hx] at h'
    simp only [Out.bind] at h'
    split at h'
    · next xs =>
      refine RI.of (pi_enum hg (G.free _ (by decide)) pa_RA (star_cons hs)) (RA.mono key ?_)
      rintro vs H1 ⟨ds', S1', ow1, e1, k1, r1, p1, h1⟩
      rw [hx] at e1
      cases e1
      cases p1 with
      | cons q l =>
        cases l
        cases q with
        | lst q l => exact ⟨_, _, rfl, SqL.of q.1, by rw [G.K]; exact h1 _ ow1 H1 k1 r1 (walk_enumL q l)⟩
    · next xs =>
      refine RI.of (pi_enumT hg (G.free _ (by decide)) pa_RA (star_cons hs)) (RA.mono key ?_)
      rintro vs H1 ⟨ds', S1', ow1, e1, k1, r1, p1, h1⟩
      rw [hx] at e1
      cases e1
      cases p1 with
      | cons q l =>
        cases l
        cases q with
        | tup q l => exact ⟨_, _, rfl, by rw [G.K]; exact q.sq, by rw [G.K]; exact h1 _ ow1 H1 k1 r1 (walk_enumT q l)⟩
    · exact False.elim h'
theorem snd_zip (G : CxG W M cl gl k X sc Wx) {ies : Es} {elts : List Expr} {kk : Nat} (hg : Gl X "zip") (hs : noStar a = true) (hs2 : noStar b = true) (ha : SndEs W cl gl X Wx [a, b] ies) : SndI W cl gl X Wx (.Tuple elts kk p2) (.Call (.Name "zip" p1) [a, b] [] pos) (.zip ies) := by
  intro pv ow H S σ R r h
  simp only [evI] at h
  refine RI.of (RZ.pi_zipA hg (G.free _ (by decide)) pa_RA (star_cons hs) (star_any (by simp [hs2]))) (RA.mono (ha pv ow H S σ _ r (Post.seq h)) ?_)
  rintro vs H1 ⟨ds, S1, ow1, -, k1, r1, p1, h1⟩
  split at h1
  · next xs ys =>
    cases p1 with
    | cons q l =>
      cases l with
      | cons q2 l =>
        cases l
        cases q with
        | lst qa la =>
          cases q2 with
          | lst qb lb => exact ⟨_, _, _, _, rfl, .inl ⟨SqL.of qa.1, SqL.of qb.1, by rw [G.K]; exact h1 _ ow1 H1 k1 r1 (walk_zipL qa la qb lb)⟩⟩
  · next xs ys =>
    cases p1 with
    | cons q l =>
      cases l with
      | cons q2 l =>
        cases l
        cases q with
        | tup qa la =>
          cases q2 with
          | tup qb lb => exact ⟨_, _, _, _, rfl, .inr ⟨by rw [G.K]; exact qa.sq, by rw [G.K]; exact qb.sq, by rw [G.K]; exact h1 _ ow1 H1 k1 r1 (walk_zipT qa la qb lb)⟩⟩
  · exact False.elim h1
theorem snd_rev (G : CxG W M cl gl k X sc Wx) (hg : Gl X "reversed") (hg2 : Gl X "range") (hs : noStar a = true) (ha : SndE W cl gl X Wx a ia) : SndI W cl gl X Wx tg (.Call (.Name "reversed" p1) [.Call (.Name "range" p2) [a] [] pos] [] pos') (.rev ia) := by
  intro pv ow H S σ R r h
  simp only [evI] at h
  refine RI.of (pi_revR hg (G.free _ (by decide)) (prg_1 hg2 (G.free _ (by decide)) pe_RE (star_cons hs)) rfl) (RE.mono (ha pv ow H S σ _ r (Post.seq h)) ?_)
  rintro v H1 ⟨x, S1, ow1, -, k1, r1, p1, h1⟩
  split at h1
  · next j =>
    split at h1
    · next hb =>
      cases (show Rep W ow1 H1 (.int j) v from p1)
      exact ⟨j, rfl, by decide, by decide, (bigI_ok hb).1, (bigI_ok hb).2, h1 _ ow1 H1 k1 r1 walk_rev⟩
    · exact False.elim h1
  · exact False.elim h1
end
end Ev

/-! EvI: targets, comprehensions, slices, isinstance, calls, new instances. -/
namespace Ev
open PySem PySem.Spec PyProof.Rows L2

def gNames : List Nat → TGs
  | [] => gNil
  | i :: is => gCons (gName i) (gNames is)
def gSeq (K : PySem.W.Frag) (n : Nat) (t : TGs) : TG := fun v σ H Q => gTup K n t v σ H Q ∨ gUnl K n t v σ H Q
theorem pg_seq {X : Cx} {pos : Pos} {es : List Expr} {k : Nat} {t : TGs} {n : Nat} (hc : X.calm = true) (h : PGs X es t)
    (hn : (assignEach es X.env).length = n) (hst : (assignEach es X.env).findIdx? (·.1) = none) : PG X (.Tuple es k pos) (gSeq X.K n t) := by
  refine ⟨fun pins s σ H v u Q I r hw => ?_⟩
  rcases hw with hw | hw
  · exact (pg_tup (k := k) (pos := pos) hc h hn hst).run pins s σ H v u Q I r hw
  · exact (pg_unl (k := k) (pos := pos) hc h hn hst).run pins s σ H v u Q I r hw
def gOf (K : PySem.W.Frag) : Tg → TG
  | .one i => gName i
  | .many is => gSeq K is.length (gNames is)
theorem RI.mono {X : Cx} {tg e : Expr} {σ : L2.St} {H : Hp} {R R' : L2.It → Hp → Prop} (h : RI X tg e σ H R) (k : ∀ J H', R J H' → R' J H') : RI X tg e σ H R' := fun pins s I =>
  thn (h pins s I) fun _ _ q => thn q fun _ _ ⟨it, fp, tn, J, H', e1, I1, T, t0, f, r⟩ => ⟨it, fp, tn, J, H', e1, I1, T, t0, f, k J H' r⟩

section
variable {W : Wd} {pv : Nat → Option V} {ow : Ow} {H : Hp} {S S1 : Fr} {σ : L2.St}
theorem put_rel (r : Rel W pv ow H S σ) {i : Nat} {d : D} {v : V} (h : Rep W ow H d v) (e : putC S i (.val d) = some S1) : Rel W pv ow H S1 (σ.set i (some v)) := by
  unfold putC at e
  split at e
  · cases e
  · next hn =>
    cases e
    refine ⟨by simp [setC, r.len], fun j c hc => ?_, fun j u hu => ?_, fun j o hc => ?_⟩
    · by_cases hj : i = j
      · subst hj
        have hlt : i < S.length := by
          have := getC_lt hc
          simpa [setC] using this
        rw [getC_set_self hlt] at hc
        cases hc
        exact ⟨v, List.getElem?_set_self (by rw [← r.len]; exact hlt), h⟩
      · rw [getC_set_ne hj] at hc
        obtain ⟨u, hu, q⟩ := r.cell j c hc
        exact ⟨u, by rw [List.getElem?_set_ne hj]; exact hu, q⟩
    · obtain ⟨o, h1, h2⟩ := r.par j u hu
      have hj : i ≠ j := fun z => hn o (z ▸ h1)
      exact ⟨o, by rw [getC_set_ne hj]; exact h1, by rw [List.getElem?_set_ne hj]; exact h2⟩
    · by_cases hj : i = j
      · subst hj
        have hlt : i < S.length := by
          have := getC_lt hc
          simpa [setC] using this
        rw [getC_set_self hlt] at hc
        cases hc
      · rw [getC_set_ne hj] at hc
        exact r.unpar j o hc
theorem names_ok {K : PySem.W.Frag} : ∀ {is : List Nat} {xs : List D} {vs : List V} {S S1 : Fr} {σ : L2.St} {Q : L2.St → Hp → Prop}, Rel W pv ow H S σ → RepL W ow H xs vs → xs.length = is.length → putVs S is xs = some S1 →
    (∀ σ1, Rel W pv ow H S1 σ1 → σ1.length = σ.length → (∀ j, j ∉ is → σ1[j]? = σ[j]?) → Q σ1 H) → gNames is vs σ H Q
  | [], _, _, _, _, _, _, r, l, hl, e, q => by
    cases l with
    | nil => simp [putVs] at e; subst e; exact ⟨rfl, q _ r rfl fun _ _ => rfl⟩
    | cons _ _ => simp at hl
  | i :: is, _, _, S, S1, σ, Q, r, l, hl, e, q => by
    cases l with
    | nil => simp at hl
    | @cons d v ds vs h l =>
      simp only [putVs, Option.bind_eq_some_iff] at e
      obtain ⟨S2, e1, e2⟩ := e
      refine ⟨v, vs, rfl, names_ok (K := K) (put_rel r h e1) l (by simpa using hl) e2 fun σ1 r1 l1 h1 => q σ1 r1 (by simpa using l1) fun j hj => ?_⟩
      simp only [List.mem_cons, not_or] at hj
      rw [h1 j hj.2, List.getElem?_set_ne (Ne.symm hj.1)]
theorem g_ok {tg : Tg} {d : D} {x : V} {Q : L2.St → Hp → Prop} (r : Rel W pv ow H S σ) (h : Rep W ow H d x) (e : bindT tg d S = some S1)
    (q : ∀ σ1, Rel W pv ow H S1 σ1 → σ1.length = σ.length → (∀ j, j ∉ slotsT tg → σ1[j]? = σ[j]?) → Q σ1 H) : gOf W.K tg x σ H Q := by
  cases tg with
  | one i =>
    refine q _ (put_rel r h e) (by simp) fun j hj => ?_
    simp only [slotsT, List.mem_singleton] at hj
    exact List.getElem?_set_ne (Ne.symm hj)
  | many is =>
    simp only [bindT] at e
    split at e
    · next xs =>
      split at e
      · next hl =>
        cases h with
        | @tup a vs _ ha la => exact .inl ⟨a, vs, rfl, ha.sq, by rw [← la.length]; exact hl, names_ok (K := W.K) r la hl e q⟩
      · cases e
    · next xs =>
      split at e
      · next hl =>
        cases h with
        | @lst a vs _ ha la => exact .inr ⟨a, vs, rfl, SqL.of ha.1, by rw [← la.length]; exact hl, names_ok (K := W.K) r la hl e q⟩
      · cases e
    · cases e

/-! ### slots wiped -/
theorem wipe_get : ∀ {is : List Nat} {σ : L2.St} {j : Nat}, (wipe σ is)[j]? = if j ∈ is ∧ j < σ.length then some none else σ[j]?
  | [], σ, j => by simp [wipe]
  | i :: is, σ, j => by
    unfold wipe
    by_cases hij : i = j
    · subst hij
      by_cases hlt : i < σ.length
      · rw [List.getElem?_set_self (by rw [wipe_length]; exact hlt), if_pos ⟨by simp, hlt⟩]
      · rw [List.getElem?_eq_none (by rw [List.length_set, wipe_length]; omega), if_neg (fun z => hlt z.2), List.getElem?_eq_none (by omega)]
    · rw [List.getElem?_set_ne hij, wipe_get]
      simp only [List.mem_cons]
      by_cases h : j ∈ is ∧ j < σ.length
      · rw [if_pos h, if_pos ⟨.inr h.1, h.2⟩]
      · rw [if_neg h, if_neg]
        rintro ⟨z | z, w⟩
        · exact hij z.symm
        · exact h ⟨z, w⟩
theorem wipe_ext {σ τ : L2.St} {is : List Nat} (hl : σ.length = τ.length) (h : ∀ j, j ∉ is → σ[j]? = τ[j]?) : wipe σ is = wipe τ is := by
  refine List.ext_getElem? fun j => ?_
  rw [wipe_get, wipe_get]
  by_cases hj : j ∈ is
  · by_cases hlt : j < σ.length
    · rw [if_pos ⟨hj, hlt⟩, if_pos ⟨hj, by omega⟩]
    · rw [if_neg (fun z => hlt z.2), if_neg (fun z => hlt (by omega)), List.getElem?_eq_none (by omega), List.getElem?_eq_none (by omega)]
  · rw [if_neg (fun z => hj z.1), if_neg (fun z => hj z.1), h j hj]
theorem kill_get : ∀ {is : List Nat} {S : Fr} {j : Nat} {c : Cell}, getC (killS S is) j = some c → getC S j = some c ∧ (j ∈ is → ∃ o, c = .par o)
  | [], _, _, _, h => ⟨h, fun z => by simp at z⟩
  | i :: is, S, j, c, h => by
    unfold killS at h
    obtain ⟨h1, h2⟩ := kill_get h
    have key : getC S j = some c ∧ (i = j → ∃ o, c = .par o) := by
      unfold kill1 at h1
      split at h1
      · next o hp => exact ⟨h1, fun z => by subst z; rw [hp] at h1; cases h1; exact ⟨o, rfl⟩⟩
      · by_cases hij : i = j
        · subst hij
          have hlt : i < S.length := by
            have := getC_lt h1
            simpa [setC] using this
          rw [getC_set_self hlt] at h1
          cases h1
        · rw [getC_set_ne hij] at h1
          exact ⟨h1, fun z => absurd z hij⟩
    refine ⟨key.1, fun hj => ?_⟩
    rcases List.mem_cons.mp hj with z | z
    · exact key.2 z.symm
    · exact h2 z
theorem kill_par : ∀ {is : List Nat} {S : Fr} {j : Nat} {o : Ob}, getC S j = some (.par o) → getC (killS S is) j = some (.par o)
  | [], _, _, _, h => h
  | i :: is, S, j, o, h => by
    unfold killS
    refine kill_par ?_
    unfold kill1
    split
    · exact h
    · next hn =>
      have hij : i ≠ j := fun z => hn o (z ▸ h)
      rw [getC_set_ne hij]; exact h
theorem kill_len : ∀ {is : List Nat} {S : Fr}, (killS S is).length = S.length
  | [], _ => rfl
  | i :: is, S => by
    unfold killS
    rw [kill_len]
    unfold kill1
    split <;> simp [setC]
theorem Rel.kill (r : Rel W pv ow H S σ) (is : List Nat) : Rel W pv ow H (killS S is) σ :=
  ⟨kill_len.trans r.len, fun j c hc => r.cell j c (kill_get hc).1, fun j v hv => let ⟨o, h1, h2⟩ := r.par j v hv; ⟨o, kill_par h1, h2⟩, fun j o hc => r.unpar j o (kill_get hc).1⟩
theorem Rel.wipe (r : Rel W pv ow H S σ) {is : List Nat} (hp : ∀ i ∈ is, pv i = none) : Rel W pv ow H (killS S is) (L2.wipe σ is) := by
  have r' := r.kill is
  have keep : ∀ j v, j ∉ is → σ[j]? = some (some v) → (L2.wipe σ is)[j]? = some (some v) := fun j v hj h => by rw [wipe_get, if_neg (fun z => hj z.1)]; exact h
  refine ⟨by rw [wipe_length]; exact r'.len, fun j c hc => ?_, fun j v hv => ?_, r'.unpar⟩
  · have hj : j ∉ is := fun z => by
      obtain ⟨o, rfl⟩ := (kill_get hc).2 z
      obtain ⟨v, hv⟩ := r'.unpar j o hc
      rw [hp j z] at hv
      cases hv
    obtain ⟨v, hv, q⟩ := r'.cell j c hc
    exact ⟨v, keep j v hj hv, q⟩
  · have hj : j ∉ is := fun z => by rw [hp j z] at hv; cases hv
    obtain ⟨o, h1, h2⟩ := r'.par j v hv
    exact ⟨o, h1, keep j v hj h2⟩
theorem noOwn_par (r : Rel W pv ow H S σ) {is : List Nat} (h : noOwn S is = true) : ∀ i ∈ is, pv i = none := fun i hi => by
  cases e : pv i with
  | none => rfl
  | some v =>
    obtain ⟨o, h1, _⟩ := r.par i v e
    unfold noOwn at h
    rw [List.all_eq_true] at h
    have := h i hi
    rw [h1] at this
    cases this
theorem restore_get : ∀ {is : List Nat} {S0 S : Fr} {j : Nat}, S0.length = S.length → getC (restore S0 S is) j = if j ∈ is then getC S0 j else getC S j
  | [], _, _, _, _ => by simp [restore]
  | i :: is, S0, S, j, hl => by
    unfold restore
    rw [restore_get (by simp [setC, hl])]
    simp only [List.mem_cons]
    by_cases hj : j ∈ is
    · rw [if_pos hj, if_pos (.inr hj)]
    · rw [if_neg hj]
      by_cases hij : i = j
      · subst hij
        rw [if_pos (.inl rfl)]
        by_cases hlt : i < S.length
        · rw [getC_set_self hlt]
        · have e1 : setC S i (getC S0 i) = S := by unfold setC; exact List.set_eq_of_length_le (by omega)
          rw [e1]
          unfold getC
          rw [List.getElem?_eq_none (by omega), List.getElem?_eq_none (by omega)]
      · rw [if_neg (fun z => z.elim (fun z => hij z.symm) hj), getC_set_ne hij]
theorem restore_len : ∀ {is : List Nat} {S0 S : Fr}, (restore S0 S is).length = S.length
  | [], _, _ => rfl
  | i :: is, S0, S => by unfold restore; rw [restore_len]; simp [setC]
/-- behind a comprehension -/
theorem Rel.unwipe {ow1 : Ow} {H1 : Hp} {S2 : Fr} (r0 : Rel W pv ow H S σ) (k : Step ow H ow1 H1) {is : List Nat} (hn : noOwn S is = true) (r : Rel W pv ow1 H1 S2 (L2.wipe σ is)) : Rel W pv ow1 H1 (restore S S2 is) σ := by
  have hl : S.length = S2.length := by rw [r0.len, r.len, wipe_length]
  have back : ∀ j v, j ∉ is → (L2.wipe σ is)[j]? = some (some v) → σ[j]? = some (some v) := fun j v hj h => by rw [wipe_get, if_neg (fun z => hj z.1)] at h; exact h
  refine ⟨by rw [restore_len, ← hl]; exact r0.len, fun j c hc => ?_, fun j v hv => ?_, fun j o hc => ?_⟩
  · rw [restore_get hl] at hc
    split at hc
    · next hj =>
      obtain ⟨v, hv, q⟩ := r0.cell j c hc
      unfold noOwn at hn
      rw [List.all_eq_true] at hn
      have := hn j hj
      rw [hc] at this
      cases c with
      | val d => exact ⟨v, hv, Rep.keep k.keep q⟩
      | own o => cases this
      | par o => cases this
      | exc _ _ => cases this
    · next hj =>
      obtain ⟨v, hv, q⟩ := r.cell j c hc
      exact ⟨v, back j v hj hv, q⟩
  · have hj : j ∉ is := fun z => by rw [noOwn_par r0 hn j z] at hv; cases hv
    obtain ⟨o, h1, h2⟩ := r.par j v hv
    exact ⟨o, by rw [restore_get hl, if_neg hj]; exact h1, back j v hj h2⟩
  · rw [restore_get hl] at hc
    split at hc
    · exact r0.unpar j o hc
    · exact r.unpar j o hc
/-- an object in hand that is no slot's is changed -/
theorem Rel.upd (r : Rel W pv ow H S σ) {p : Addr} {o : HO} (ht : ow p = .tm) : Rel W pv ow (L2.upd H p o) S σ := by
  have kp : Keep ow H ow (L2.upd H p o) := fun q hq e => ⟨upd_ne (fun z => by rw [z, ht] at e; cases e), e⟩
  have kt : ∀ i q, H q ≠ none → ow q = .sl i → L2.upd H p o q = H q ∧ ow q = .sl i := fun i q _ e => ⟨upd_ne (fun z => by rw [z, ht] at e; cases e), e⟩
  refine ⟨r.len, fun j c hc => ?_, r.par, r.unpar⟩
  obtain ⟨v, hv, q⟩ := r.cell j c hc
  refine ⟨v, hv, ?_⟩
  cases c with
  | val d => exact Rep.keep kp q
  | own o => exact ObRep.keep kp (kt j) q
  | par o => exact ObRep.keep kp (kt j) q
  | exc _ _ => exact q
theorem lc_noexc {tg : Tg} {f : Fr → Out (Option D)} {c : Str} {fs : List (Str × D)} {S' : Fr} : ∀ {ds acc : List D} {S : Fr}, lcLoop tg f ds acc S ≠ .exc c fs S'
  | [], acc, S => by simp [lcLoop]
  | d :: r, acc, S => by
    unfold lcLoop
    split
    · simp
    · split
      · exact lc_noexc
      · exact lc_noexc
      · simp
end

/-- the tests of a comprehension -/
def RTs (X : Cx) (ifs : List Expr) (σ : L2.St) (H : Hp) (Q : Bool → Hp → Prop) : Prop := ∀ (pins : List (Addr × Obj)) (s : Shared), Inv X pins σ H s →
  wpAny (model X.prog X.w) X.A (forIn ifs true fun c r => if r = true then do let ok ← isTrue c X.env (eval c X.env); pure (ForInStep.yield ok) else pure (ForInStep.yield r)) (TP X pins σ Q) X.xe s
theorem pts_RTs {X : Cx} {ifs : List Expr} : PTs X ifs (RTs X ifs) := ⟨fun pins s σ H Q I h => h pins s I⟩
theorem RTs.of {X : Cx} {ifs : List Expr} {t : TT} {σ : L2.St} {H : Hp} {Q : Bool → Hp → Prop} (h : PTs X ifs t) (q : t σ H Q) : RTs X ifs σ H Q := fun pins s I => h.run pins s σ H Q I q
def noWx : WX := fun _ _ _ _ => False
abbrev blkOf (X : Cx) (scope : Scope) (s : Shared) (H : Hp) (C : Addr) (cl : List (Str × Addr)) (fp : List Addr) : Cx := X.blk s H scope (compEnvC scope cl C X.env) fp
def SndOt (W : Wd) (cl : Calls) (gl : Str → Option D) (X : Cx) (Wx : WX) (ifs : List Expr) (c : Ot) : Prop := ∀ (pv : Nat → Option V) (ow : Ow) (H : Hp) (S : Fr) (σ : L2.St) (Q : Bool → Hp → Prop), Rel W pv ow H S σ → PostB W pv ow H σ Wx (evOt cl gl c S) Q → RTs X ifs σ H Q
section
variable {W : Wd} {M : MC} {cl : Calls} {gl : Str → Option D} {k : Nat} {X : Cx} {sc : Scope} {Wx : WX} {e a b c tgE iter elt : Expr} {ia ib ic : E} {pos p1 p2 : Pos}
theorem snd_ot0 : SndOt W cl gl X Wx [] .none := fun pv ow H S σ Q r h => RTs.of pts_nil (h true ow H Step.refl r rfl)
theorem snd_ot1 {it : T} (h : SndT W cl gl X Wx a it) : SndOt W cl gl X Wx [a] (.some it) := fun pv ow H S σ Q r hp => RTs.of (pts_one pt_RT) (h pv ow H S σ Q r hp)
def ttLc (X : Cx) (scope : Scope) (ifs : List Expr) : TT := fun σ H Q => ∀ s0 H0 C cc fp, RTs (blkOf X scope s0 H0 C cc fp) ifs σ H Q
def teLc (X : Cx) (scope : Scope) (elt : Expr) : TE := fun σ H Q => ∀ s0 H0 C cc fp, RE (blkOf X scope s0 H0 C cc fp) elt σ H Q
theorem lc_read (G : CxG W M cl gl k X sc Wx) {scope : Scope} {tg : Tg} {it : It} {ot : Ot} {ifs : List Expr} (hi : SndI W cl gl X Wx tgE iter it) (ht : ∀ s H C cc fp, SndOt W cl gl (blkOf X scope s H C cc fp) noWx ifs ot) (he : ∀ s H C cc fp, SndE W cl gl (blkOf X scope s H C cc fp) noWx elt ia)
    {pv : Nat → Option V} {ow : Ow} {H : Hp} {S : Fr} {σ : L2.St} {Q : VK} (r : Rel W pv ow H S σ) (h : PostE W pv ow H σ Wx (evE cl gl (.lc ia tg it ot) S) Q) : tLc (RI X tgE iter) (gOf X.K tg) (ttLc X scope ifs) (teLc X scope elt) (slotsT tg) σ H Q := by
  simp only [evE] at h
  refine RI.mono (hi pv ow H S σ _ r (Post.seq h)) ?_
  rintro J H1 ⟨ds, S1, ow1, -, k1, r1, wk, h1⟩ D hD
  split at h1
  · next hc =>
    simp only [Bool.and_eq_true] at hc
    obtain ⟨hn, hz⟩ := hc
    have hpv := noOwn_par r1 hn
    revert h1
    generalize hfd : (fun S => (evOt cl gl ot S).bind fun k S => if k = true then (evE cl gl ia S).bind fun x S => (esc x S).bind fun d S => Out.ok (some d) S else Out.ok none S) = f
    intro h1
    cases hl : lcLoop tg f ds [] (killS S1 (slotsT tg)) with
    | bad => rw [hl] at h1; exact False.elim h1
    | exc c fs S2 => exact absurd hl lc_noexc
    | ok xs Sx =>
      rw [hl] at h1
      simp only [Out.bind] at h1
      refine ⟨fun i m H' => m = ds.length - i ∧ i ≤ ds.length ∧ ∃ ow' S' acc vs, Step ow1 H1 ow' H' ∧ ow' D = .tm ∧ H' D = some (.lst vs) ∧ RepL W ow' H' acc vs ∧ acc.length ≤ i ∧ Rel W pv ow' H' S' (wipe σ (slotsT tg)) ∧ lcLoop tg f (ds.drop i) acc S' = .ok xs Sx, ?_, ?_⟩
      · have g := Grow.new (ow := ow1) (o := .lst []) (t := .tm) hD
        exact ⟨ds.length, by simp, Nat.zero_le _, _, killS S1 (slotsT tg), [], [], g.step, if_pos rfl, upd_same, .nil, Nat.le_refl _, Rel.wipe (r1.grow g) hpv, by simpa using hl⟩
      · rintro i m H' ⟨rfl, hi', ow', S', acc, vs, st, tD, eD, ra, la, r', hl'⟩
        by_cases hlt : i < ds.length
        · right
          have hd : ds[i]? = some ds[i] := List.getElem?_eq_getElem hlt
          obtain ⟨go, yl⟩ := (wk ow' H' st.keep i).1 _ hd
          refine ⟨go, fun H2 => (ds.length - (i + 1) = ds.length - (i + 1) ∧ i + 1 ≤ ds.length ∧ ∃ ow' S' acc vs, Step ow1 H1 ow' H2 ∧ ow' D = .tm ∧ H2 D = some (.lst vs) ∧ RepL W ow' H2 acc vs ∧ acc.length ≤ i + 1 ∧ Rel W pv ow' H2 S' (wipe σ (slotsT tg)) ∧ lcLoop tg f (ds.drop (i + 1)) acc S' = .ok xs Sx), fun H2 q => ⟨_, by omega, q⟩, fun x H2 hy => ?_⟩
          obtain ⟨ow2, g2, rx⟩ := yl x H2 hy
          rw [List.drop_eq_getElem_cons hlt] at hl'
          unfold lcLoop at hl'
          split at hl'
          · cases hl'
          · next S3 hb =>
            have hnD : H' D ≠ none := by rw [eD]; simp
            rw [G.K]
            refine g_ok (r'.grow g2) rx hb fun σ1 r3 l3 e3 => ⟨?_, fun s0 H0 C cc fp => ?_⟩
            · have e4 : wipe (wipe σ (slotsT tg)) (slotsT tg) = wipe σ (slotsT tg) := wipe_ext (wipe_length _ _) fun j hj => by rw [wipe_get, if_neg (fun z => hj z.1)]
              rw [← e4]
              exact wipe_ext l3 e3
            · have ew : wipe σ1 (slotsT tg) = wipe σ (slotsT tg) := by
                have e4 : wipe (wipe σ (slotsT tg)) (slotsT tg) = wipe σ (slotsT tg) := wipe_ext (wipe_length _ _) fun j hj => by rw [wipe_get, if_neg (fun z => hj z.1)]
                rw [← e4]
                exact wipe_ext l3 e3
              have st2 : Step ow1 H1 ow2 H2 := st.trans g2.step
              have tD2 : ow2 D = .tm := (g2 D hnD).2.trans tD
              have eD2 : H2 D = some (.lst vs) := (g2 D hnD).1.trans eD
              have ra2 := ra.keep g2.keep
              rw [← hfd] at hl'
              refine ht s0 H0 C cc fp pv ow2 H2 S3 σ1 _ r3 ?_
              simp only at hl'
              cases ho : evOt cl gl ot S3 with
              | bad => rw [ho] at hl'; simp only [Out.bind] at hl'; cases hl'
              | exc c fs S4 => rw [ho] at hl'; simp only [Out.bind] at hl'; cases hl'
              | ok kb S4 =>
                rw [ho] at hl'
                simp only [Out.bind] at hl'
                intro b ow3 H3 st3 r4 eb
                subst eb
                have hnD2 : H2 D ≠ none := by rw [eD2]; simp
                obtain ⟨eD3, tD3⟩ := st3.tag hnD2 tD2 (by simp)
                have ra3 := ra2.keep st3.keep
                cases kb with
                | false =>
                  rw [if_neg (by simp)]
                  simp only [Bool.false_eq_true, if_false] at hl'
                  refine ⟨rfl, hlt, ow3, killS S4 (slotsT tg), acc, vs, st2.trans st3, tD3, eD3.trans eD2, ra3, by omega, ?_, by rw [hfd] at hl'; exact hl'⟩
                  have := Rel.wipe r4 hpv
                  rw [ew] at this
                  exact this
                | true =>
                  rw [if_pos rfl]
                  intro s0 H0 C cc fp
                  simp only [if_true] at hl'
                  refine he s0 H0 C cc fp pv ow3 H3 S4 σ1 _ r4 ?_
                  cases hv : evE cl gl ia S4 with
                  | bad => rw [hv] at hl'; simp only at hl'; cases hl'
                  | exc c fs S5 => rw [hv] at hl'; simp only at hl'; cases hl'
                  | ok y S5 =>
                    rw [hv] at hl'
                    simp only at hl'
                    intro v ow4 H4 st4 r5 rv
                    cases hes : esc y S5 with
                    | bad => rw [hes] at hl'; simp only at hl'; cases hl'
                    | exc c fs S6 => exact absurd hes esc_noexc
                    | ok d S6 =>
                      rw [hes] at hl'
                      simp only at hl'
                      obtain ⟨ow5, st5, kp5, r6, rd⟩ := esc_ok r5 st4 rv hes
                      have hnD3 : H3 D ≠ none := by rw [eD3]; exact hnD2
                      obtain ⟨eD5, tD5⟩ := st5.tag hnD3 tD3 (by simp)
                      have eD5' : H4 D = some (.lst vs) := eD5.trans (eD3.trans eD2)
                      have ra5 := ra3.keep st5.keep
                      have kpD : Keep ow5 H4 ow5 (upd H4 D (.lst (vs ++ [v]))) := fun q hq e => ⟨upd_ne (fun z => by rw [z, tD5] at e; cases e), e⟩
                      refine ⟨vs, eD5', by rw [← ra5.length]; have := lineOk_ok hz; omega, rfl, hlt, ow5, killS S6 (slotsT tg), acc ++ [d], vs ++ [v], ?_, tD5, upd_same, (ra5.append (.one rd)).keep kpD, by simp; omega, ?_, by rw [hfd] at hl'; exact hl'⟩
                      · intro q hq
                        have ne : q ≠ D := fun z => hq (z ▸ hD)
                        rw [upd_ne ne]
                        exact ((st2.trans st3).trans st5) q hq
                      · have := Rel.wipe (r6.upd (p := D) (o := .lst (vs ++ [v])) tD5) hpv
                        rw [ew] at this
                        exact this
        · left
          have e : i = ds.length := by omega
          subst e
          refine ⟨(wk ow' H' st.keep ds.length).2 rfl, ?_⟩
          rw [List.drop_length] at hl'
          simp only [lcLoop, Out.ok.injEq] at hl'
          obtain ⟨rfl, rfl⟩ := hl'
          exact h1 (.ref D) ow' H' (k1.trans st) (Rel.unwipe r1 st hn r') ⟨D, vs, rfl, eD, ⟨tD, k1.none hD⟩, ra⟩
  · exact False.elim h1
theorem snd_lc (G : CxG W M cl gl k X sc Wx) {scope : Scope} {own : List (Str × Nat)} {tg : Tg} {it : It} {ot : Ot} {ifs : List Expr} (ok : BlkOk X.N X.env.scope scope own) (hown : own.map (·.2) = slotsT tg) (hi : SndI W cl gl X Wx tgE iter it)
    (hg : ∀ s H C cc fp, PG (blkOf X scope s H C cc fp) tgE (gOf X.K tg)) (ht : ∀ s H C cc fp, SndOt W cl gl (blkOf X scope s H C cc fp) noWx ifs ot) (he : ∀ s H C cc fp, SndE W cl gl (blkOf X scope s H C cc fp) noWx elt ia)
    (hf : ∀ x, foldedSetIterable iter X.env x = pure x) : SndE W cl gl X Wx (.ListComp elt [⟨tgE, iter, ifs, 0⟩] scope pos) (.lc ia tg it ot) := by
  intro pv ow H S σ Q r h
  refine RE.of (pe_lc (tt := ttLc X scope ifs) (te := teLc X scope elt) G.calm (by rw [G.N]; exact G.nd) pi_RI ok hg (fun s H C cc fp => ⟨fun pins s1 σ H1 Q I q => q s H C cc fp pins s1 I⟩) (fun s H C cc fp => ⟨fun pins s1 σ H1 Q I q => q s H C cc fp pins s1 I⟩) hf) ?_
  rw [hown]
  exact lc_read G hi ht he r h

/-! ### two for -/
theorem Keep.trans {ow ow1 ow2 : Ow} {H H1 H2 : Hp} (a : Keep ow H ow1 H1) (b : Keep ow1 H1 ow2 H2) : Keep ow H ow2 H2 := fun p hp e => by
  obtain ⟨h1, t1⟩ := a p hp e
  obtain ⟨h2, t2⟩ := b p (by rw [h1]; exact hp) t1
  exact ⟨h2.trans h1, t2⟩
theorem lc2_noexc {tg : Tg} {kl : List Nat} {f : List D → Fr → Out (List D)} {c : Str} {fs : List (Str × D)} {S' : Fr} : ∀ {ds acc : List D} {S : Fr}, lc2Loop tg kl f ds acc S ≠ .exc c fs S'
  | [], acc, S => by simp [lc2Loop]
  | d :: r, acc, S => by
    unfold lc2Loop
    split
    · simp
    · split
      · exact lc2_noexc
      · simp
def riLc (X : Cx) (scope : Scope) (tg iter : Expr) : TI := fun σ H R => ∀ s0 H0 C cc fp, RI (blkOf X scope s0 H0 C cc fp) tg iter σ H R
theorem wipe_again {σ σ1 : L2.St} {vs vs1 : List Nat} (h : L2.wipe σ1 vs = L2.wipe σ vs) (hv : ∀ i ∈ vs1, i ∈ vs) : L2.wipe (L2.wipe σ1 vs1) vs = L2.wipe σ vs := by
  rw [← h]
  exact wipe_ext (wipe_length _ _) fun j hj => by rw [wipe_get, if_neg (fun z => hj (hv j z.1))]
theorem lc2_read (G : CxG W M cl gl k X sc Wx) {scope : Scope} {tg tg1 : Tg} {it it1 : It} {tgE1 iter1 : Expr} (hi : SndI W cl gl X Wx tgE iter it) (hi1 : ∀ s H C cc fp, SndI W cl gl (blkOf X scope s H C cc fp) noWx tgE1 iter1 it1) (he : ∀ s H C cc fp, SndE W cl gl (blkOf X scope s H C cc fp) noWx elt ia)
    {pv : Nat → Option V} {ow : Ow} {H : Hp} {S : Fr} {σ : L2.St} {Q : VK} (r : Rel W pv ow H S σ) (h : PostE W pv ow H σ Wx (evE cl gl (.lc2 ia tg it tg1 it1) S) Q) : tLc2 (RI X tgE iter) (gOf X.K tg) (ttLc X scope []) (riLc X scope tgE1 iter1) (gOf X.K tg1) (ttLc X scope []) (teLc X scope elt) (slotsT tg ++ slotsT tg1) (slotsT tg1) σ H Q := by
  simp only [evE] at h
  refine RI.mono (hi pv ow H S σ _ r (Post.seq h)) ?_
  rintro J H1 ⟨ds, S1, ow1, -, k1, r1, wk, h1⟩ D hD
  split at h1
  · next hn =>
    have hpv := noOwn_par r1 hn
    have hpv1 : ∀ i ∈ slotsT tg1, pv i = none := fun i hi => hpv i (List.mem_append_right _ hi)
    revert h1
    generalize hgd : (fun S => (evE cl gl ia S).bind fun x S => (esc x S).bind fun d S => Out.ok (some d) S) = g1
    generalize hfd : (fun (acc : List Ev.D) S => (evI cl gl it1 S).bind fun ds1 S => if decide (acc.length + ds1.length ≤ sizeLine) = true then lcLoop tg1 g1 ds1 acc (killS S (slotsT tg1)) else Out.bad) = f
    intro h1
    cases hl : lc2Loop tg (slotsT tg ++ slotsT tg1) f ds [] (killS S1 (slotsT tg ++ slotsT tg1)) with
    | bad => rw [hl] at h1; exact False.elim h1
    | exc c fs S2 => exact absurd hl lc2_noexc
    | ok xs Sx =>
      rw [hl] at h1
      simp only [Out.bind] at h1
      refine ⟨fun i m H' => m = ds.length - i ∧ i ≤ ds.length ∧ ∃ ow' S' acc vs, Step ow1 H1 ow' H' ∧ ow' D = .tm ∧ H' D = some (.lst vs) ∧ RepL W ow' H' acc vs ∧ Rel W pv ow' H' S' (wipe σ (slotsT tg ++ slotsT tg1)) ∧ lc2Loop tg (slotsT tg ++ slotsT tg1) f (ds.drop i) acc S' = .ok xs Sx, ?_, ?_⟩
      · have g := Grow.new (ow := ow1) (o := .lst []) (t := .tm) hD
        exact ⟨ds.length, by simp, Nat.zero_le _, _, killS S1 (slotsT tg ++ slotsT tg1), [], [], g.step, if_pos rfl, upd_same, .nil, Rel.wipe (r1.grow g) hpv, by simpa using hl⟩
      · rintro i m H' ⟨rfl, hi', ow', S', acc, vs, st, tD, eD, ra, r', hl'⟩
        by_cases hlt : i < ds.length
        · right
          have hd : ds[i]? = some ds[i] := List.getElem?_eq_getElem hlt
          obtain ⟨go, yl⟩ := (wk ow' H' st.keep i).1 _ hd
          refine ⟨go, fun H2 => (ds.length - (i + 1) = ds.length - (i + 1) ∧ i + 1 ≤ ds.length ∧ ∃ ow' S' acc vs, Step ow1 H1 ow' H2 ∧ ow' D = .tm ∧ H2 D = some (.lst vs) ∧ RepL W ow' H2 acc vs ∧ Rel W pv ow' H2 S' (wipe σ (slotsT tg ++ slotsT tg1)) ∧ lc2Loop tg (slotsT tg ++ slotsT tg1) f (ds.drop (i + 1)) acc S' = .ok xs Sx), fun H2 q => ⟨_, by omega, q⟩, fun x H2 hy => ?_⟩
          obtain ⟨ow2, g2, rx⟩ := yl x H2 hy
          rw [List.drop_eq_getElem_cons hlt] at hl'
          unfold lc2Loop at hl'
          split at hl'
          · cases hl'
          · next S3 hb =>
            have hnD : H' D ≠ none := by rw [eD]; simp
            rw [G.K]
            refine g_ok (r'.grow g2) rx hb fun σ1 r3 l3 e3 => ?_
            have ew : wipe σ1 (slotsT tg ++ slotsT tg1) = wipe σ (slotsT tg ++ slotsT tg1) := by
              have e4 : wipe (wipe σ (slotsT tg ++ slotsT tg1)) (slotsT tg ++ slotsT tg1) = wipe σ (slotsT tg ++ slotsT tg1) := wipe_ext (wipe_length _ _) fun j hj => by rw [wipe_get, if_neg (fun z => hj z.1)]
              rw [← e4]
              exact wipe_ext l3 fun j hj => e3 j fun z => hj (List.mem_append_left _ z)
            refine ⟨ew, fun s0 H0 C cc fp => RTs.of pts_nil ?_⟩
            simp only [tYes, if_true]
            intro s0 H0 C cc fp
            have st2 : Step ow1 H1 ow2 H2 := st.trans g2.step
            have tD2 : ow2 D = .tm := (g2 D hnD).2.trans tD
            have eD2 : H2 D = some (.lst vs) := (g2 D hnD).1.trans eD
            have ra2 := ra.keep g2.keep
            split at hl'
            case h_2 => cases hl'
            next acc' S6 hf =>
            rw [← hfd] at hf
            simp only at hf
            cases ho : evI cl gl it1 S3 with
            | bad => rw [ho] at hf; simp only [Out.bind] at hf; cases hf
            | exc c fs S4 => rw [ho] at hf; simp only [Out.bind] at hf; cases hf
            | ok ds1 S4 =>
              rw [ho] at hf
              simp only [Out.bind] at hf
              split at hf
              case isFalse => cases hf
              next hsz =>
              have hsz := of_decide_eq_true hsz
              refine RI.mono (hi1 s0 H0 C cc fp pv ow2 H2 S3 σ1 (fun J1 H4 => ∃ ow3, Step ow2 H2 ow3 H4 ∧ Rel W pv ow3 H4 S4 σ1 ∧ Walk W ow3 H4 J1 ds1) r3 ?_) ?_
              · rw [ho]
                exact fun J1 ow3 H4 st3 r4 w1 => ⟨ow3, st3, r4, w1⟩
              rintro J1 H4 ⟨ow3, st3, r4, w1⟩
              have hnD2 : H2 D ≠ none := by rw [eD2]; simp
              obtain ⟨eD3, tD3⟩ := st3.tag hnD2 tD2 (by simp)
              have ra3 := ra2.keep st3.keep
              refine ⟨fun j kk Hj => kk = ds1.length - j ∧ j ≤ ds1.length ∧ ∃ ow' S' ac us, Step ow1 H1 ow' Hj ∧ Keep ow3 H4 ow' Hj ∧ ow' D = .tm ∧ Hj D = some (.lst us) ∧ RepL W ow' Hj ac us ∧ ac.length ≤ acc.length + j ∧ Rel W pv ow' Hj S' (wipe σ1 (slotsT tg1)) ∧ lcLoop tg1 g1 (ds1.drop j) ac S' = .ok acc' S6, ?_, ?_⟩
              · exact ⟨ds1.length, by simp, Nat.zero_le _, ow3, killS S4 (slotsT tg1), acc, vs, st2.trans st3, fun _ _ z => ⟨rfl, z⟩, tD3, eD3.trans eD2, ra3, Nat.le_refl _, Rel.wipe r4 hpv1, by simpa using hf⟩
              · rintro j kk Hj ⟨rfl, hj', owj, Sj, ac, us, stj, kpj, tDj, eDj, raj, laj, rj, hlj⟩
                by_cases hjl : j < ds1.length
                · right
                  have hd1 : ds1[j]? = some ds1[j] := List.getElem?_eq_getElem hjl
                  obtain ⟨go1, yl1⟩ := (w1 owj Hj kpj j).1 _ hd1
                  refine ⟨go1, fun H5 => (ds1.length - (j + 1) = ds1.length - (j + 1) ∧ j + 1 ≤ ds1.length ∧ ∃ ow' S' ac us, Step ow1 H1 ow' H5 ∧ Keep ow3 H4 ow' H5 ∧ ow' D = .tm ∧ H5 D = some (.lst us) ∧ RepL W ow' H5 ac us ∧ ac.length ≤ acc.length + (j + 1) ∧ Rel W pv ow' H5 S' (wipe σ1 (slotsT tg1)) ∧ lcLoop tg1 g1 (ds1.drop (j + 1)) ac S' = .ok acc' S6), fun H5 q => ⟨_, by omega, q⟩, fun y H5 hy1 => ?_⟩
                  obtain ⟨ow5, g5, ry⟩ := yl1 y H5 hy1
                  rw [List.drop_eq_getElem_cons hjl] at hlj
                  unfold lcLoop at hlj
                  split at hlj
                  · cases hlj
                  · next S7 hb1 =>
                    have hnDj : Hj D ≠ none := by rw [eDj]; simp
                    refine g_ok (rj.grow g5) ry hb1 fun σ3 r7 l7 e7 => ?_
                    have ew3 : wipe σ3 (slotsT tg1) = wipe σ1 (slotsT tg1) := by
                      have e4 : wipe (wipe σ1 (slotsT tg1)) (slotsT tg1) = wipe σ1 (slotsT tg1) := wipe_ext (wipe_length _ _) fun j hj => by rw [wipe_get, if_neg (fun z => hj z.1)]
                      rw [← e4]
                      exact wipe_ext l7 e7
                    refine ⟨ew3, fun s0 H0 C cc fp => RTs.of pts_nil ?_⟩
                    simp only [tYes, if_true]
                    intro s0 H0 C cc fp
                    have st5 : Step ow1 H1 ow5 H5 := stj.trans g5.step
                    have tD5 : ow5 D = .tm := (g5 D hnDj).2.trans tDj
                    have eD5 : H5 D = some (.lst us) := (g5 D hnDj).1.trans eDj
                    have ra5 := raj.keep g5.keep
                    have kp5 := kpj.trans g5.keep
                    rw [← hgd] at hlj
                    simp only at hlj
                    refine he s0 H0 C cc fp pv ow5 H5 S7 σ3 _ r7 ?_
                    cases hv : evE cl gl ia S7 with
                    | bad => rw [hv] at hlj; simp only [Out.bind] at hlj; cases hlj
                    | exc c fs S5 => rw [hv] at hlj; simp only [Out.bind] at hlj; cases hlj
                    | ok yy S8 =>
                      rw [hv] at hlj
                      simp only [Out.bind] at hlj
                      intro v ow8 H8 st8 r8 rv
                      cases hes : esc yy S8 with
                      | bad => rw [hes] at hlj; simp only at hlj; cases hlj
                      | exc c fs S6 => exact absurd hes esc_noexc
                      | ok d S9 =>
                        rw [hes] at hlj
                        simp only at hlj
                        obtain ⟨ow9, st9, kp9, r9, rd⟩ := esc_ok r8 st8 rv hes
                        have hnD5 : H5 D ≠ none := by rw [eD5]; simp
                        obtain ⟨eD9, tD9⟩ := st9.tag hnD5 tD5 (by simp)
                        have eD9' : H8 D = some (.lst us) := eD9.trans eD5
                        have ra9 := ra5.keep st9.keep
                        have kpD : Keep ow9 H8 ow9 (upd H8 D (.lst (us ++ [v]))) := fun q hq e => ⟨upd_ne (fun z => by rw [z, tD9] at e; cases e), e⟩
                        refine ⟨us, eD9', by rw [← ra9.length]; omega, trivial, hjl, ow9, killS S9 (slotsT tg1), ac ++ [d], us ++ [v], ?_, (kp5.trans st9.keep).trans kpD, tD9, upd_same, (ra9.append (.one rd)).keep kpD, by simp; omega, ?_, by rw [hgd] at hlj; exact hlj⟩
                        · intro q hq
                          have ne : q ≠ D := fun z => hq (z ▸ hD)
                          rw [upd_ne ne]
                          exact (st5.trans st9) q hq
                        · have := Rel.wipe (r9.upd (p := D) (o := .lst (us ++ [v])) tD9) hpv1
                          rw [ew3] at this
                          exact this
                · left
                  have e : j = ds1.length := by omega
                  subst e
                  refine ⟨(w1 owj Hj kpj ds1.length).2 rfl, ?_⟩
                  rw [List.drop_length] at hlj
                  simp only [lcLoop, Out.ok.injEq] at hlj
                  obtain ⟨rfl, rfl⟩ := hlj
                  refine ⟨trivial, hlt, owj, killS Sj (slotsT tg ++ slotsT tg1), ac, us, stj, tDj, eDj, raj, ?_, hl'⟩
                  have := Rel.wipe rj hpv
                  rw [wipe_again ew fun i hi => List.mem_append_right _ hi] at this
                  exact this
        · left
          have e : i = ds.length := by omega
          subst e
          refine ⟨(wk ow' H' st.keep ds.length).2 rfl, ?_⟩
          rw [List.drop_length] at hl'
          simp only [lc2Loop, Out.ok.injEq] at hl'
          obtain ⟨rfl, rfl⟩ := hl'
          exact h1 (.ref D) ow' H' (k1.trans st) (Rel.unwipe r1 st hn r') ⟨D, vs, rfl, eD, ⟨tD, k1.none hD⟩, ra⟩
  · exact False.elim h1
theorem snd_lc2 (G : CxG W M cl gl k X sc Wx) {scope : Scope} {own : List (Str × Nat)} {tg tg1 : Tg} {it it1 : It} {tgE1 iter1 : Expr} (ok : BlkOk X.N X.env.scope scope own) (hown : own.map (·.2) = slotsT tg ++ slotsT tg1) (hi : SndI W cl gl X Wx tgE iter it)
    (hg : ∀ s H C cc fp, PG (blkOf X scope s H C cc fp) tgE (gOf X.K tg)) (hi1 : ∀ s H C cc fp, SndI W cl gl (blkOf X scope s H C cc fp) noWx tgE1 iter1 it1) (hg1 : ∀ s H C cc fp, PG (blkOf X scope s H C cc fp) tgE1 (gOf X.K tg1)) (he : ∀ s H C cc fp, SndE W cl gl (blkOf X scope s H C cc fp) noWx elt ia)
    (hf : ∀ x, foldedSetIterable iter X.env x = pure x) (hf1 : ∀ env x, foldedSetIterable iter1 env x = pure x) : SndE W cl gl X Wx (.ListComp elt [⟨tgE, iter, [], 0⟩, ⟨tgE1, iter1, [], 0⟩] scope pos) (.lc2 ia tg it tg1 it1) := by
  intro pv ow H S σ Q r h
  refine RE.of (pe_lc2 (vs1 := slotsT tg1) (wi1 := riLc X scope tgE1 iter1) (tt := ttLc X scope []) (tt1 := ttLc X scope []) (te := teLc X scope elt) G.calm (by rw [G.N]; exact G.nd) pi_RI ok (by rw [hown]; exact fun i hi => List.mem_append_right _ hi) hg (fun s H C cc fp => ⟨fun pins s1 σ H1 Q I q => q s H C cc fp pins s1 I⟩) (fun s H C cc fp => ⟨fun pins s1 σ H1 Q I q => q s H C cc fp pins s1 I⟩) hg1 (fun s H C cc fp => ⟨fun pins s1 σ H1 Q I q => q s H C cc fp pins s1 I⟩) (fun s H C cc fp => ⟨fun pins s1 σ H1 Q I q => q s H C cc fp pins s1 I⟩) hf hf1) ?_
  rw [hown]
  exact lc2_read G hi hi1 he r h
end
end Ev

/-! EvI2: a dict in the heap; dict comprehensions. -/
namespace Ev
open PySem PySem.Spec PyProof.Rows L2

mutual
theorem toKey_ofKey : ∀ k : NestedKey, toKey (ofKey k) = some k
  | .none => rfl
  | .num i => rfl
  | .text x => rfl
  | .tup ks => by simp only [ofKey, toKey, toKeys_ofKeys ks]; rfl
theorem toKeys_ofKeys : ∀ ks : List NestedKey, toKeys (ofKeys ks) = some ks
  | [] => rfl
  | k :: ks => by simp only [ofKeys, toKeys, toKey_ofKey k, toKeys_ofKeys ks]
end
section
variable {W : Wd} {X : Cx} {pins : List (Addr × Obj)} {σ : L2.St} {H : Hp} {s : Shared} {ow : Ow}
mutual
theorem nestIs (hK : X.K = W.K) (I : Inv X pins σ H s) : ∀ {d : D} {v : V} {k : NestedKey} {u : Value}, Rep W ow H d v → toKey d = some k → RelV v u → NestedIs s.heap k u
  | .non, _, k, u, h, e, r => by
    cases h
    simp [toKey] at e
    subst e
    cases r
    exact .none
  | .int i, _, k, u, h, e, r => by
    cases h
    simp [toKey] at e
    subst e
    obtain ⟨t, rfl⟩ := r
    exact .int i t
  | .str x, _, k, u, h, e, r => by
    cases h
    simp [toKey] at e
    subst e
    obtain ⟨t, rfl⟩ := r
    exact .text x t
  | .tup xs, _, k, u, h, e, r => by
    simp only [toKey, Option.map_eq_some_iff] at e
    obtain ⟨ks, e, rfl⟩ := e
    cases h with
    | tup ht hl =>
      cases r
      obtain ⟨its, rv, ⟨o, e1, e2, n, e3⟩, _⟩ := I.tuple (hK ▸ ht.sq)
      exact .tup e1 e2 e3 (by simpa using nestAll hK I hl e rv)
  | .bl _, _, _, _, _, e, _ => by simp [toKey] at e
  | .lst _, _, _, _, _, e, _ => by simp [toKey] at e
  | .dic _, _, _, _, _, e, _ => by simp [toKey] at e
  | .ins _ _, _, _, _, _, e, _ => by simp [toKey] at e
theorem nestAll (hK : X.K = W.K) (I : Inv X pins σ H s) : ∀ {ds : List D} {vs : List V} {ks : List NestedKey} {us : List Value}, RepL W ow H ds vs → toKeys ds = some ks → Vals vs us → NestedAll s.heap ks us
  | [], _, ks, us, h, e, r => by
    cases h
    simp [toKeys] at e
    subst e
    cases r
    exact .nil
  | d :: ds, _, ks, us, h, e, r => by
    cases h with
    | cons h l =>
      simp only [toKeys] at e
      split at e
      · next p ps e1 e2 =>
        cases e
        cases r with
        | cons r rr => exact .cons (nestIs hK I h e1 r) (nestAll hK I l e2 rr)
      · cases e
end
/-- a dict that stands in hand, in the heap -/
theorem dictOf (hP : X.prog = W.P) (hw : X.w = W.w) (hK : X.K = W.K) (I : Inv X pins σ H s) {a : Addr} {o : Obj} {es : List (NestedKey × Addr × V)} {kvs : List (NestedKey × D)} (ha : H a = some (objAt a o)) (hd : DObj W.P W.w o es) (hr : RepK W ow H kvs es) :
    s.heap.get? a = some o ∧ ∃ xs : List (NestedKey × Addr × Value), Paired (fun (p : NestedKey × Addr × V) (q : NestedKey × Addr × Value) => p.1 = q.1 ∧ p.2.1 = q.2.1 ∧ RelV p.2.2 q.2.2) es xs ∧ s.heap.DictOfH (nestedKind X.prog X.w) a xs := by
  have hg : s.heap.get? a = some o := (I.hok a _ ha).1
  refine ⟨hg, ?_⟩
  obtain ⟨hz, hx, xs, hp, ds, ep, e1, e2, e3⟩ := hd
  refine ⟨xs, hp, o, ds, ep, hg, hx, e1, by rw [e2, hP, hw], ?_, e3⟩
  clear e2 e3 hz hx ha hg
  intro x hx
  induction hp generalizing kvs with
  | nil => cases hx
  | cons h l ih =>
    cases hr with
    | cons r1 r2 r3 r4 =>
      rcases List.mem_cons.mp hx with rfl | hx
      · obtain ⟨h1, h2, _⟩ := h
        simp only at h1 h2
        refine ⟨?_, by rw [← h1]; exact r2⟩
        rw [← h1, ← h2]
        exact nestIs hK I r1 (toKey_ofKey _) rfl
      · exact ih r4 hx
theorem kOf_ok {ks : List D} {k : List NestedKey} (h : kOf ks = some k) : toKeys ks = some k ∧ (NestedKey.tup k).depth ≤ 8 := by
  unfold kOf at h
  simp only [Option.bind_eq_some_iff] at h
  obtain ⟨k', h1, h2⟩ := h
  split at h2
  · next hd => cases h2; exact ⟨h1, hd⟩
  · cases h2
/-- the key in the heap -/
theorem keyIs (hK : X.K = W.K) (I : Inv X pins σ H s) {ks : List D} {k : List NestedKey} {a : Addr} (h : Rd1 W ow H (.tup ks) (.ref a)) (e : kOf ks = some k) : (nestedKind X.prog X.w).is s.heap (.tup k) a := by
  obtain ⟨e1, e2⟩ := kOf_ok e
  exact ⟨nestIs hK I (show Rep W ow H (.tup ks) (.ref a) from h) (by simp [toKey, e1]) rfl, e2⟩
theorem at_some : ∀ {kvs : List (NestedKey × D)} {es : List (NestedKey × Addr × V)} {xs : List (NestedKey × Addr × Value)} {k : NestedKey}, RepK W ow H kvs es → Paired (fun (p : NestedKey × Addr × V) (q : NestedKey × Addr × Value) => p.1 = q.1 ∧ p.2.1 = q.2.1 ∧ RelV p.2.2 q.2.2) es xs →
    (valueAt (pairsH xs) k).isSome = hasKey kvs k ∧ ∀ d, (kvs.find? fun p => decide (p.1 = k)).map (·.2) = some d → ∃ v u, Rep W ow H d v ∧ RelV v u ∧ valueAt (pairsH xs) k = some u
  | _, _, _, k, .nil, .nil => ⟨rfl, fun d h => by simp at h⟩
  | _, _, _, k, .cons (k := k0) r1 r2 r3 r4, .cons h l => by
    obtain ⟨h1, h2, h3⟩ := h
    simp only at h1 h2 h3
    obtain ⟨ih1, ih2⟩ := at_some (k := k) r4 l
    by_cases hk : k0 = k
    · refine ⟨?_, fun d hd => ?_⟩
      · simp [pairsH, valueAt, hasKey, ← h1, hk]
      · simp [hk] at hd
        subst hd
        exact ⟨_, _, r3, h3, by simp [pairsH, valueAt, ← h1, hk]⟩
    · refine ⟨?_, fun d hd => ?_⟩
      · simpa [pairsH, valueAt, hasKey, ← h1, hk] using ih1
      · simp only [List.find?_cons, hk, decide_false] at hd
        obtain ⟨v, u, q1, q2, q3⟩ := ih2 d hd
        refine ⟨v, u, q1, q2, ?_⟩
        simpa [pairsH, valueAt, ← h1, hk] using q3
theorem room_in1 {A : Around} (hu : A.units + 100 < cLine) : (nestedKind X.prog X.w).room A.in1 := by
  show A.units + 1 + 8 < cLine
  omega
theorem repK_len : ∀ {kvs : List (NestedKey × D)} {es : List (NestedKey × Addr × V)}, RepK W ow H kvs es → kvs.length = es.length
  | _, _, .nil => rfl
  | _, _, .cons _ _ _ l => by simp [repK_len l]
mutual
theorem ofKey_toKey : ∀ {d : D} {k : NestedKey}, toKey d = some k → ofKey k = d
  | .non, k, h => by simp [toKey] at h; subst h; rfl
  | .int i, k, h => by simp [toKey] at h; subst h; rfl
  | .str x, k, h => by simp [toKey] at h; subst h; rfl
  | .tup xs, k, h => by
    simp only [toKey, Option.map_eq_some_iff] at h
    obtain ⟨ks, h, rfl⟩ := h
    simp only [ofKey, ofKeys_toKeys h]
  | .bl _, k, h => by simp [toKey] at h
  | .lst _, k, h => by simp [toKey] at h
  | .dic _, k, h => by simp [toKey] at h
  | .ins _ _, k, h => by simp [toKey] at h
theorem ofKeys_toKeys : ∀ {ds : List D} {ks : List NestedKey}, toKeys ds = some ks → ofKeys ks = ds
  | [], ks, h => by simp [toKeys] at h; subst h; rfl
  | d :: ds, ks, h => by
    simp only [toKeys] at h
    split at h
    · next p ps e1 e2 => cases h; simp only [ofKeys, ofKey_toKey e1, ofKeys_toKeys e2]
    · cases h
end
theorem obj0 (P : Program) (w : World) : DObj P w dict0 [] := ⟨Nat.zero_le _, ⟨rfl, rfl, rfl⟩, [], .nil, #[], 0, rfl, rfl, List.nodup_nil⟩
theorem ext_ok {P : Program} {w : World} {H : Hp} {h : Heap} {a : Addr} {o : Obj} (e : h.get? a = some o) : ObjOk P w H h a (objAt a o) := ⟨e, ⟨o, e⟩, fun h1 h2 e k => k _ e⟩
theorem key_repK {ks : List D} {k : List NestedKey} {b : Addr} (hk : kOf ks = some k) (hx : Rep W ow H (.tup ks) (.ref b)) : Rep W ow H (ofKey (.tup k)) (.ref b) := by
  obtain ⟨e1, _⟩ := kOf_ok hk
  simp only [ofKey, ofKeys_toKeys e1]
  exact hx
def storeE (c : Bool) (es : List (NestedKey × Addr × V)) (k : NestedKey) (b : Addr) (v : V) : List (NestedKey × Addr × V) := if c then es.map fun x => if x.1 = k then (x.1, x.2.1, v) else x else es ++ [(k, b, v)]
abbrev PR : NestedKey × Addr × V → NestedKey × Addr × Value → Prop := fun p q => p.1 = q.1 ∧ p.2.1 = q.2.1 ∧ RelV p.2.2 q.2.2
theorem pr_map {k : NestedKey} {v : V} {u : Value} (r : RelV v u) : ∀ {es : List (NestedKey × Addr × V)} {xs : List (NestedKey × Addr × Value)}, Paired PR es xs → Paired PR (es.map fun x => if x.1 = k then (x.1, x.2.1, v) else x) (xs.map (putAt k u))
  | _, _, .nil => .nil
  | _, _, .cons (a := p) (b := q) h l => by
    refine .cons ?_ (pr_map r l)
    obtain ⟨h1, h2, h3⟩ := h
    unfold putAt
    dsimp only
    by_cases hk : p.1 = k
    · rw [if_pos hk, if_pos (h1 ▸ hk)]
      exact ⟨h1, h2, r⟩
    · rw [if_neg hk, if_neg (h1 ▸ hk)]
      exact ⟨h1, h2, h3⟩
theorem pr_app {p : NestedKey × Addr × V} {q : NestedKey × Addr × Value} (r : PR p q) : ∀ {es : List (NestedKey × Addr × V)} {xs : List (NestedKey × Addr × Value)}, Paired PR es xs → Paired PR (es ++ [p]) (xs ++ [q])
  | _, _, .nil => .cons r .nil
  | _, _, .cons h l => .cons h (pr_app r l)
theorem repK_map {k : NestedKey} {d : D} {v : V} (hv : Rep W ow H d v) : ∀ {kvs : List (NestedKey × D)} {es : List (NestedKey × Addr × V)}, RepK W ow H kvs es → RepK W ow H (kvs.map fun p => if decide (p.1 = k) then (p.1, d) else p) (es.map fun x => if x.1 = k then (x.1, x.2.1, v) else x)
  | _, _, .nil => .nil
  | _, _, .cons (k := k0) r1 r2 r3 r4 => by
    have ih := repK_map (k := k) hv r4
    by_cases hk : k0 = k
    · simp only [List.map_cons, hk, decide_true, if_true]
      subst hk
      exact .cons r1 r2 hv ih
    · simp only [List.map_cons, hk, decide_false, if_false, Bool.false_eq_true]
      exact .cons r1 r2 r3 ih
theorem repK_app {k : NestedKey} {b : Addr} {d : D} {v : V} (hb : Rep W ow H (ofKey k) (.ref b)) (hd : k.depth ≤ 8) (hv : Rep W ow H d v) : ∀ {kvs : List (NestedKey × D)} {es : List (NestedKey × Addr × V)}, RepK W ow H kvs es → RepK W ow H (kvs ++ [(k, d)]) (es ++ [(k, b, v)])
  | _, _, .nil => .cons hb hd hv .nil
  | _, _, .cons r1 r2 r3 r4 => .cons r1 r2 r3 (repK_app hb hd hv r4)

/-- a store by a comprehension -/
def DPutW (W : Wd) (Dd : Addr) (y z : V) (H : Hp) (Nx : Hp → Prop) : Prop := ∃ ow ks kvs k d b, y = .ref b ∧ kOf ks = some k ∧ Rd1 W ow H (.dic kvs) (.ref Dd) ∧ Rep W ow H (.tup ks) y ∧ Rep W ow H d z ∧ kvs.length < sizeLine ∧
  ∀ o es, DObj W.P W.w o es → RepK W ow H (storeK kvs (.tup k) d) es → Nx (upd H Dd (objAt Dd o))
theorem put_any (hP : X.prog = W.P) (hw : X.w = W.w) (hK : X.K = W.K) (hu : X.A.units + 100 < cLine) {Dd : Addr} {y z : V} {u r : Value} {Nx : Hp → Prop} {E : Value → Shared → Prop} {Q : Unit → Shared → Prop} (I : Inv X pins σ H s) (h : DPutW W Dd y z H Nx) (ry : RelV y u) (rz : RelV z r) (fin : ∀ s' H', Inv X pins σ H' s' → Nx H' → Q () s') :
    wpAny (model X.prog X.w) X.A (dictSet Dd u r) Q E s := by
  obtain ⟨ow, ks, kvs, k, d, b, rfl, hk, hy, hx, hv, hz, nx⟩ := h
  obtain rfl : u = Value.ref b := ry
  obtain ⟨a', o, es, e0, ha, hsm, hd, hr⟩ := hy
  cases e0
  obtain ⟨hg, xs, hp, hm⟩ := dictOf hP hw hK I ha hd hr
  have hl1 := Paired.length hp
  have hl2 := repK_len hr
  refine wpAny_dictSet_heap (hsz := by omega) (show X.A.units + 8 < cLine by omega) (keyIs hK I hx.rd hk) hm fun h' hm' hs => ?_
  obtain ⟨o', ds, ep, g1, g2, g3, g4, g5, g6⟩ := hm'
  have hc : (atKey xs (.tup k)).isSome = hasKey kvs (.tup k) := by
    rw [← (at_some hr hp (k := .tup k)).1, valueAt_pairsH, Option.isSome_map]
  have hst : storedH xs (.tup k) b r = if hasKey kvs (.tup k) then xs.map (putAt (.tup k) r) else xs ++ [(.tup k, b, r)] := by
    unfold storedH
    rw [hc]
  have RK : RepK W ow H (storeK kvs (.tup k) d) (storeE (hasKey kvs (.tup k)) es (.tup k) b z) := by
    unfold storeK storeE
    cases hasKey kvs (.tup k) with
    | true => exact repK_map hv hr
    | false => exact repK_app (key_repK hk hx) (kOf_ok hk).2 hv hr
  have PRs : Paired PR (storeE (hasKey kvs (.tup k)) es (.tup k) b z) (storedH xs (.tup k) b r) := by
    rw [hst]
    unfold storeE
    cases hasKey kvs (.tup k) with
    | true => exact pr_map rz hp
    | false => exact pr_app ⟨rfl, rfl, rz⟩ hp
  have hlen : (storeE (hasKey kvs (.tup k)) es (.tup k) b z).length ≤ sizeLine := by
    unfold storeE
    cases hasKey kvs (.tup k) with
    | true => simp; omega
    | false => simp; omega
  exact fin _ _ (d_write I (by rw [ha]; exact True.intro) hs ⟨o', g1⟩ (ext_ok g1)) (nx o' _ ⟨hlen, g2, _, PRs, ds, ep, g3, by rw [← hP, ← hw]; exact g4, g6⟩ RK)
end
/-- the reading of {k: v for target in iter} -/
def tDx (W : Wd) (wi : TI) (g : TG) (tk tv : TE) (vs : List Nat) : TE := fun σ H Q => wi σ H fun J H1 => ∀ Dd, H1 Dd = none → (Dd == sysModules) = false → ∃ V : Nat → Nat → Hp → Prop, (∃ m, V 0 m (upd H1 Dd (objAt Dd dict0))) ∧ ∀ i m H, V i m H →
  (J.stop i H ∧ Q (.ref Dd) H) ∨ (J.go i H ∧ ∃ Nx : Hp → Prop, (∀ H', Nx H' → ∃ m', m' < m ∧ V (i + 1) m' H') ∧ ∀ x H', J.yld i H x H' → g x (wipe σ vs) H' fun σ2 H2 => wipe σ2 vs = wipe σ vs ∧ tk σ2 H2 fun y H4 => tv σ2 H4 fun z H5 => DPutW W Dd y z H5 Nx)
section
variable {W : Wd} {X : Cx}
/-- the block's loop -/
theorem dx_block {pins : List (Addr × Obj)} {s : Shared} {σ : L2.St} {H : Hp} {Q : VK} {kx vx tg iter : Expr} {scope : Scope} {own : List (Str × Nat)} {pos pos' : Pos} {wi : TI} {g : TG} {tk tv : TE} {use : Option (Value → Sem Unit)} {Qf : Value → Shared → Prop} (hP : X.prog = W.P) (hw : X.w = W.w) (hK : X.K = W.K) (hu : X.A.units + 100 < cLine)
    (hc : X.calm = true) (nd : X.N.Nodup) (I : Inv X pins σ H s) (hi : PI X tg iter wi) (bo : BlkOk X.N X.env.scope scope own) (hg : ∀ s H C cc fp, PG (blkOf X scope s H C cc fp) tg g) (hk : ∀ s H C cc fp, PE (blkOf X scope s H C cc fp) kx tk) (hv : ∀ s H C cc fp, PE (blkOf X scope s H C cc fp) vx tv)
    (hf : ∀ x, foldedSetIterable iter X.env x = pure x) (h : tDx W wi g tk tv (own.map (·.2)) σ H Q)
    (out : ∀ Dd C s' m H', Inv X pins σ H' s' → Q (.ref Dd) H' → s'.heap.Ns C m → FpOk X pins H' C → compPost (model X.prog X.w) X.A X.xe use Qf (.ref Dd) C (.ok .next) s') :
    wpAny (model X.prog X.w) X.A (comprehension (.DictComp kx vx [⟨tg, iter, [], 0⟩] scope pos) scope X.env pos' newDict false (eval iter X.env) use) Qf X.xe s := by
  have clo : ∀ y ∈ scope.names, y.2 = .free → ∃ c, X.env.cells.lookup y.1 = some c := fun y hy e => (bo.free y hy e).elim (fun z => I.ok.has _ (.inl z)) fun z => I.ok.has _ (.inr z)
  refine wpAny_comprehension_free (use := use) rfl hf (closure_ok clo) bo.kind (fun y hy e => by rw [bo.uniq y hy, e]) (thn (hi.run pins s σ H _ I h) fun xv sa hx => thn hx fun itv sb hb => ?_)
  obtain ⟨it, fp, tn, J, Hb, rfl, Ib, T, stb, fb, q⟩ := hb
  refine wpAny_newObj_type (newEnv_comp ?_)
  obtain ⟨Dd, hDd⟩ : ∃ n, sb.heap.objs.size = n := ⟨_, rfl⟩
  rw [hDd]
  have fresh : Hb Dd = none := Ib.hok.fresh (Nat.le_of_eq hDd)
  have nsys : (Dd == sysModules) = false := beq_eq_false_iff_ne.mpr (by rw [← hDd]; exact Ne.symm (Nat.ne_of_lt Ib.big))
  obtain ⟨V, ⟨m0, v0⟩, turn⟩ := q Dd fresh nsys
  obtain ⟨sc3, hsc⟩ : ∃ z : Shared, z = { sb with heap := sb.heap.push { cls := .type "dict", data := .dict #[] } } := ⟨_, rfl⟩
  obtain ⟨Hc, hHc⟩ : ∃ z : Hp, z = upd Hb Dd (objAt Dd dict0) := ⟨_, rfl⟩
  have hph : sc3.heap = sb.heap.push { cls := .type "dict", data := .dict #[] } := by rw [hsc]
  have Ic : Inv X pins σ Hc sc3 := by
    rw [hsc, hHc]
    refine Ib.laid (t' := sb.toks) (fun b o e => Heap.get?_push_of_some _ e) (Nat.le_of_eq hDd) (ext_ok ?_)
    rw [← hDd]
    exact Heap.get?_push_size _ rfl
  have low : ∀ b ∈ fp, b < sb.heap.objs.size := fun b hb => let ⟨o, e, _⟩ := T.obj _ _ stb b hb; Heap.lt_size e
  have fc : ∀ b ∈ fp, FpOk X pins Hc b ∧ b < sc3.heap.objs.size := fun b hb => by
    refine ⟨⟨?_, (fb b hb).2⟩, by rw [hph, Heap.size_push]; exact Nat.lt_succ_of_lt (low b hb)⟩
    rw [hHc, upd_ne (by rw [← hDd]; exact Nat.ne_of_lt (low b hb))]
    exact (fb b hb).1
  have stc : tn 0 sc3.heap := T.keep _ _ _ stb fun b _ o e => by rw [hph]; exact Heap.get?_push_of_some _ e
  have Id := block_start Ic bo nd fc
  rw [← hHc] at v0
  obtain ⟨C, hC⟩ : ∃ n, sc3.heap.objs.size = n := ⟨_, rfl⟩
  obtain ⟨cc, hcc⟩ : ∃ z, cellsFrom (sc3.heap.objs.size + 1) scope.names (cloFrom X.env.cells scope.names []) = z := ⟨_, rfl⟩
  rw [hcc, hC] at Id
  have pg := hg sc3 Hc C cc fp
  have pk := hk sc3 Hc C cc fp
  have pv := hv sc3 Hc C cc fp
  obtain ⟨sd, hsd⟩ : ∃ z : Shared, z = { sc3 with heap := pushCells (sc3.heap.push { cls := .type "dict", data := .dict #[] }) scope.names } := ⟨_, rfl⟩
  rw [← hsd] at Id
  have std : tn 0 sd.heap := T.keep _ _ _ stc fun b _ o e => by rw [hsd]; exact pushCells_keeps _ _ _ _ (Heap.get?_push_of_some _ e)
  have seen : ∀ {σ' : L2.St} {H' : Hp} {s' : Shared}, Inv (blkOf X scope sc3 Hc C cc fp) [] σ' H' s' → (∀ b ∈ fp, H' b = none) → ∀ b ∈ fp, FpOk (blkOf X scope sc3 Hc C cc fp) [] H' b := fun {σ' H' s'} J' hn b hb =>
    ⟨hn b hb, (J'.ok.exf b hb).1, J'.ok.exfs b hb, .inl hb, fun x c e => (J'.ok.exf b hb).2 x c e, fun p hp => absurd (show p ∈ ([] : List (Addr × Obj)) ++ [] from hp) (by simp)⟩
  have loop : codeAny (model X.prog X.w) X.A (.compLoop (.DictComp kx vx [⟨tg, iter, [], 0⟩] scope pos) 0 (.ref it) (.ref Dd) (compEnvC scope cc C X.env)) (compPost (model X.prog X.w) X.A X.xe use Qf (.ref Dd) C) sd := by
    refine compLoop_anyD (fun n s' => ∃ i H', Inv (blkOf X scope sc3 Hc C cc fp) [] (wipe σ (own.map (·.2))) H' s' ∧ tn i s'.heap ∧ (∀ b ∈ fp, H' b = none) ∧ V i n H') ?_ m0 ⟨0, Hc, Id, std, fun b hb => (fc b hb).1.1, v0⟩
    rintro n s5 ⟨i, H5, I5, st5, n5, v5⟩
    rcases turn i n H5 v5 with ⟨stop, qq⟩ | ⟨go, Nx, hNx, step⟩
    · refine thnF (T.done (blkOf X scope sc3 Hc C cc fp) rfl rfl rfl hc i [] s5 _ H5 (fun _ _ => False) I5 (seen I5 n5) st5 stop) fun r s6 hh => ?_
      obtain ⟨rfl, I6⟩ := hh
      have I7 : Inv X pins σ H5 s6 := Ic.call' (ch := fp) I6.os I6.base I6.hok I6.bare fun b hb => ⟨(fc b hb).1.2.2.2.1, (fc b hb).1.2.1, (fc b hb).1.2.2.2.2.1, (fc b hb).1.2.2.2.2.2⟩
      have nC : H5 C = none := I6.free
      obtain ⟨m, hn, _⟩ := I6.loc
      exact out Dd C s6 m H5 I7 qq hn (Ic.fpOk (Nat.le_of_eq hC) nC)
    · refine thnF (T.item (blkOf X scope sc3 Hc C cc fp) rfl rfl rfl hc i [] s5 _ H5 (fun _ _ => False) I5 (seen I5 n5) st5 go) fun r s6 hh => ?_
      obtain ⟨u, rfl, h6⟩ := hh
      refine thnF h6 fun _ s7 hh => ?_
      obtain ⟨x, H7, I7, r7, y7, st7, n7⟩ := hh
      refine thnF (pg.run _ s7 _ H7 x u _ (I7.pinned (seen I7 n7) (T.obj _ _ st7)) r7 (step x H7 y7)) fun _ s8 hh => ?_
      obtain ⟨σ8, H8, I8, w8, q8⟩ := hh
      refine thnF ((pts_nil (X := blkOf X scope sc3 Hc C cc fp)).run _ s8 σ8 H8 (fun b H9 => b = true ∧ H9 = H8) I8 ⟨rfl, rfl⟩) fun b s9 hh => ?_
      obtain ⟨H9, I9, rfl, rfl⟩ := hh
      simp only [if_true]
      refine thnF (pk.run _ s9 σ8 H9 _ I9 q8) fun z s10 hh => ?_
      obtain ⟨yk, H10, I10, r10, q10⟩ := hh
      refine thnF (pv.run _ s10 σ8 H10 _ I10 q10) fun z2 s11 hh => ?_
      obtain ⟨yv, H11, I11, r11, dp⟩ := hh
      refine put_any (X := blkOf X scope sc3 Hc C cc fp) hP hw hK hu I11 dp r10 r11 fun s' H' I' nx => ?_
      obtain ⟨m', hm, v'⟩ := hNx H' nx
      have stay : ∀ b ∈ fp, ∀ o, s7.heap.get? b = some o → s'.heap.get? b = some o ∧ H' b = none := fun b hb o e => let z := I'.pin (b, o) (List.mem_append_right _ (List.mem_append_right _ (mem_pinsAt hb e))); ⟨z.1, z.2.1⟩
      refine ⟨m', hm, i + 1, H', (I'.unpinned (pins := [])).weak (by rw [← w8, wipe_length]) (fun j v e => by rw [← w8] at e; exact (wipe_some e).1), T.keep _ _ _ st7 fun b hb o e => (stay b hb o e).1, fun b hb => ?_, v'⟩
      obtain ⟨o, e, _⟩ := T.obj _ _ st7 b hb
      exact (stay b hb o e).2
  have all := codeAny_compStart_dict loop (T.self X.A 0 _ _ _ std loop)
  subst hcc hC hsd hsc
  exact all
end

/-! ### soundness -/
section
variable {W : Wd} {M : MC} {cl : Calls} {gl : Str → Option D} {k : Nat} {X : Cx} {sc : Scope} {Wx : WX} {a b tgE iter : Expr} {ia ib : E} {pos : Pos}
theorem dc_noexc {tg : Tg} {f : Fr → Out (NestedKey × D)} {c : Str} {fs : List (Str × D)} {S' : Fr} : ∀ {ds : List D} {acc : List (NestedKey × D)} {S : Fr}, dcLoop tg f ds acc S ≠ .exc c fs S'
  | [], acc, S => by simp [dcLoop]
  | d :: r, acc, S => by
    unfold dcLoop
    split
    · simp
    · split
      · exact dc_noexc
      · simp
theorem storeK_len {kvs : List (NestedKey × D)} {k : NestedKey} {d : D} : (storeK kvs k d).length ≤ kvs.length + 1 := by
  unfold storeK
  split <;> simp
theorem dc_read (G : CxG W M cl gl k X sc Wx) {scope : Scope} {tg : Tg} {it : It} (hi : SndI W cl gl X Wx tgE iter it) (ha : ∀ s H C cc fp, SndE W cl gl (blkOf X scope s H C cc fp) noWx a ia) (hb : ∀ s H C cc fp, SndE W cl gl (blkOf X scope s H C cc fp) noWx b ib)
    {pv : Nat → Option V} {ow : Ow} {H : Hp} {S : Fr} {σ : L2.St} {Q : VK} (r : Rel W pv ow H S σ) (h : PostE W pv ow H σ Wx (evE cl gl (.dc ia ib tg it) S) Q) : tDx W (RI X tgE iter) (gOf X.K tg) (teLc X scope a) (teLc X scope b) (slotsT tg) σ H Q := by
  simp only [evE] at h
  refine RI.mono (hi pv ow H S σ _ r (Post.seq h)) ?_
  rintro J H1 ⟨ds, S1, ow1, -, k1, r1, wk, h1⟩ Dd hD hsys
  split at h1
  · next hc =>
    simp only [Bool.and_eq_true] at hc
    obtain ⟨hn, hz⟩ := hc
    have hz := lineOk_ok hz
    have hpv := noOwn_par r1 hn
    revert h1
    generalize hfd : (fun S => (evE cl gl ia S).bind fun x S => (esc x S).bind fun k S => (evE cl gl ib S).bind fun y S => (esc y S).bind fun d S => pairR k d S) = f
    intro h1
    cases hl : dcLoop tg f ds [] (killS S1 (slotsT tg)) with
    | bad => rw [hl] at h1; exact False.elim h1
    | exc c fs S2 => exact absurd hl dc_noexc
    | ok xs Sx =>
      rw [hl] at h1
      simp only [Out.bind] at h1
      refine ⟨fun i m H' => m = ds.length - i ∧ i ≤ ds.length ∧ ∃ ow' S' acc o es, Step ow1 H1 ow' H' ∧ ow' Dd = .tm ∧ H' Dd = some (objAt Dd o) ∧ DObj W.P W.w o es ∧ RepK W ow' H' acc es ∧ acc.length ≤ i ∧ Rel W pv ow' H' S' (wipe σ (slotsT tg)) ∧ dcLoop tg f (ds.drop i) acc S' = .ok xs Sx, ?_, ?_⟩
      · have g := Grow.new (ow := ow1) (o := objAt Dd dict0) (t := .tm) hD
        exact ⟨ds.length, by simp, Nat.zero_le _, _, killS S1 (slotsT tg), [], dict0, [], g.step, if_pos rfl, upd_same, obj0 _ _, .nil, Nat.le_refl _, Rel.wipe (r1.grow g) hpv, by simpa using hl⟩
      · rintro i m H' ⟨rfl, hi', ow', S', acc, o, es, st, tD, eD, od, ra, la, r', hl'⟩
        by_cases hlt : i < ds.length
        · right
          have hd : ds[i]? = some ds[i] := List.getElem?_eq_getElem hlt
          obtain ⟨go, yl⟩ := (wk ow' H' st.keep i).1 _ hd
          refine ⟨go, fun H2 => (i + 1 ≤ ds.length ∧ ∃ ow' S' acc o es, Step ow1 H1 ow' H2 ∧ ow' Dd = .tm ∧ H2 Dd = some (objAt Dd o) ∧ DObj W.P W.w o es ∧ RepK W ow' H2 acc es ∧ acc.length ≤ i + 1 ∧ Rel W pv ow' H2 S' (wipe σ (slotsT tg)) ∧ dcLoop tg f (ds.drop (i + 1)) acc S' = .ok xs Sx), fun H2 q => ⟨ds.length - (i + 1), by omega, rfl, q⟩, fun x H2 hy => ?_⟩
          obtain ⟨ow2, g2, rx⟩ := yl x H2 hy
          rw [List.drop_eq_getElem_cons hlt] at hl'
          unfold dcLoop at hl'
          split at hl'
          · cases hl'
          · next S3 hbd =>
            have hnD : H' Dd ≠ none := by rw [eD]; simp
            rw [G.K]
            refine g_ok (r'.grow g2) rx hbd fun σ1 r3 l3 e3 => ?_
            have ew : wipe σ1 (slotsT tg) = wipe σ (slotsT tg) := by
              have e4 : wipe (wipe σ (slotsT tg)) (slotsT tg) = wipe σ (slotsT tg) := wipe_ext (wipe_length _ _) fun j hj => by rw [wipe_get, if_neg (fun z => hj z.1)]
              rw [← e4]
              exact wipe_ext l3 e3
            refine ⟨ew, fun s0 H0 C cc fp => ?_⟩
            have st2 : Step ow1 H1 ow2 H2 := st.trans g2.step
            have tD2 : ow2 Dd = .tm := (g2 Dd hnD).2.trans tD
            have eD2 : H2 Dd = some (objAt Dd o) := (g2 Dd hnD).1.trans eD
            have ra2 := ra.keep g2.keep
            rw [← hfd] at hl'
            simp only at hl'
            refine ha s0 H0 C cc fp pv ow2 H2 S3 σ1 _ r3 ?_
            cases hv : evE cl gl ia S3 with
            | bad => rw [hv] at hl'; simp only [Out.bind] at hl'; cases hl'
            | exc c fs S5 => rw [hv] at hl'; simp only [Out.bind] at hl'; cases hl'
            | ok y S5 =>
              rw [hv] at hl'
              simp only [Out.bind] at hl'
              intro v ow4 H4 st4 r5 rv s0 H0 C cc fp
              cases hes : esc y S5 with
              | bad => rw [hes] at hl'; simp only at hl'; cases hl'
              | exc c fs S6 => exact absurd hes esc_noexc
              | ok kd S6 =>
                rw [hes] at hl'
                simp only at hl'
                obtain ⟨ow5, st5, kp5, r6, rk⟩ := esc_ok r5 st4 rv hes
                refine hb s0 H0 C cc fp pv ow5 H4 S6 σ1 _ r6 ?_
                cases hv2 : evE cl gl ib S6 with
                | bad => rw [hv2] at hl'; simp only at hl'; cases hl'
                | exc c fs S5 => rw [hv2] at hl'; simp only at hl'; cases hl'
                | ok y2 S7 =>
                  rw [hv2] at hl'
                  simp only at hl'
                  intro v2 ow7 H7 st7 r7 rv2
                  cases hes2 : esc y2 S7 with
                  | bad => rw [hes2] at hl'; simp only at hl'; cases hl'
                  | exc c fs S6 => exact absurd hes2 esc_noexc
                  | ok d S8 =>
                    rw [hes2] at hl'
                    simp only at hl'
                    obtain ⟨ow8, st8, kp8, r8, rd⟩ := esc_ok r7 st7 rv2 hes2
                    have stA : Step ow2 H2 ow8 H7 := st5.trans st8
                    have hnD2 : H2 Dd ≠ none := by rw [eD2]; simp
                    obtain ⟨eD8, tD8⟩ := stA.tag hnD2 tD2 (by simp)
                    have eD8' : H7 Dd = some (objAt Dd o) := eD8.trans eD2
                    have ra8 := ra2.keep stA.keep
                    have rk8 := Rep.keep st8.keep rk
                    unfold pairR at hl'
                    cases kd with
                    | tup ks =>
                      simp only at hl'
                      cases hk : kOf ks with
                      | none => rw [hk] at hl'; simp only at hl'; cases hl'
                      | some kk =>
                        rw [hk] at hl'
                        simp only at hl'
                        have hvb : ∃ b, v = .ref b := by
                          cases rk8
                          exact ⟨_, rfl⟩
                        obtain ⟨b0, rfl⟩ := hvb
                        refine ⟨ow8, ks, acc, kk, d, b0, rfl, hk, ⟨Dd, o, es, rfl, eD8', hsys, od, ra8⟩, rk8, rd, by omega, fun o' es' od' rk' => ?_⟩
                        have kpD : Keep ow8 H7 ow8 (upd H7 Dd (objAt Dd o')) := fun q hq e => ⟨upd_ne (fun z => by rw [z, tD8] at e; cases e), e⟩
                        refine ⟨hlt, ow8, killS S8 (slotsT tg), storeK acc (.tup kk) d, o', es', ?_, tD8, upd_same, od', rk'.keep kpD, by have := storeK_len (kvs := acc) (k := .tup kk) (d := d); omega, ?_, by rw [← hfd]; exact hl'⟩
                        · intro q hq
                          have ne : q ≠ Dd := fun z => hq (z ▸ hD)
                          rw [upd_ne ne]
                          exact (st2.trans stA) q hq
                        · have := Rel.wipe (r8.upd (p := Dd) (o := objAt Dd o') tD8) hpv
                          rw [ew] at this
                          exact this
                    | _ => simp only at hl'; cases hl'
        · left
          have e : i = ds.length := by omega
          subst e
          refine ⟨(wk ow' H' st.keep ds.length).2 rfl, ?_⟩
          rw [List.drop_length] at hl'
          simp only [dcLoop, Out.ok.injEq] at hl'
          obtain ⟨rfl, rfl⟩ := hl'
          exact h1 (.ref Dd) ow' H' (k1.trans st) (Rel.unwipe r1 st hn r') ⟨Dd, o, es, rfl, eD, hsys, ⟨tD, k1.none hD⟩, od, ra⟩
  · exact False.elim h1
theorem snd_dc (G : CxG W M cl gl k X sc Wx) {scope : Scope} {own : List (Str × Nat)} {tg : Tg} {it : It} (ok : BlkOk X.N X.env.scope scope own) (hown : own.map (·.2) = slotsT tg) (hi : SndI W cl gl X Wx tgE iter it)
    (hg : ∀ s H C cc fp, PG (blkOf X scope s H C cc fp) tgE (gOf X.K tg)) (ha : ∀ s H C cc fp, SndE W cl gl (blkOf X scope s H C cc fp) noWx a ia) (hb : ∀ s H C cc fp, SndE W cl gl (blkOf X scope s H C cc fp) noWx b ib)
    (hf : ∀ x, foldedSetIterable iter X.env x = pure x) : SndE W cl gl X Wx (.DictComp a b [⟨tgE, iter, [], 0⟩] scope pos) (.dc ia ib tg it) := by
  intro pv ow H S σ Q r h pins s I
  rw [arm_eval_DictComp]
  refine dx_block (W := W) (tk := teLc X scope a) (tv := teLc X scope b) (own := own) G.prog G.w G.K (by have := G.room.un; omega) G.calm (by rw [G.N]; exact G.nd) I pi_RI ok hg (fun s H C cc fp => ⟨fun pins s1 σ H1 Q I q => q s H C cc fp pins s1 I⟩) (fun s H C cc fp => ⟨fun pins s1 σ H1 Q I q => q s H C cc fp pins s1 I⟩) hf (by rw [hown]; exact dc_read G hi ha hb r h) fun Dd C s' m H' I' q hn f => ⟨m, hn, fun h'' sb => ?_⟩
  obtain ⟨f0, f1, f2, f3, f4, f5⟩ := f
  exact ⟨.ref Dd, H', I'.turned (t' := s'.toks) (fun b o hb e => (sb.2 b hb).trans e) f0 f1 f3 f4 f5, rfl, q⟩
end
end Ev

/-! EvI3: list(d.items()), tuple(range(n)), one function of a list. -/
namespace Ev
open PySem PySem.Spec PyProof.Rows L2

/-- the pairs' tuples at their addresses -/
def pq (q : NestedKey × Addr × V) : HO := .tup [.ref q.2.1, q.2.2]
def putQ : Hp → List Addr → List (NestedKey × Addr × V) → Hp
  | H, a :: as, p :: es => putQ (upd H a (pq p)) as es
  | H, _, _ => H
theorem putQ_off {b : Addr} : ∀ (as : List Addr) (es : List (NestedKey × Addr × V)) (H : Hp), b ∉ as → putQ H as es b = H b
  | [], _, _, _ => rfl
  | _ :: _, [], _, _ => rfl
  | a :: as, p :: es, H, h => by
    show putQ (upd H a (pq p)) as es b = H b
    rw [putQ_off as es _ (fun z => h (List.mem_cons_of_mem _ z)), upd_ne (fun z => h (by rw [z]; exact List.mem_cons_self))]
theorem putQ_at : ∀ (as : List Addr) (es : List (NestedKey × Addr × V)) (H : Hp), as.length = es.length → as.Nodup → Paired (fun (t : Addr) (p : NestedKey × Addr × V) => putQ H as es t = some (pq p)) as es
  | [], [], _, _, _ => .nil
  | [], _ :: _, _, h, _ => by cases h
  | _ :: _, [], _, h, _ => by cases h
  | a :: as, p :: es, H, h, hn => by
    have hn' := List.nodup_cons.mp hn
    have ih := putQ_at as es (upd H a (pq p)) (Nat.succ.inj h) hn'.2
    refine .cons ?_ ih
    show putQ (upd H a (pq p)) as es a = some (pq p)
    rw [putQ_off as es _ hn'.1, upd_same]
section
variable {X : Cx}
theorem its_laid {P : Program} {w : World} {pins : List (Addr × Obj)} {σ : L2.St} {H : Hp} {s : Shared} {h' : Heap} {tk : Nat} {es : List (NestedKey × Addr × V)} {xs : List (NestedKey × Addr × Value)} {ds : Array DictEntry} {acc : Array Value} {c : Nat} {as : List Addr} (I : Inv X pins σ H s) (hz : es.length ≤ sizeLine)
    (hp : Paired (fun (p : NestedKey × Addr × V) (q : NestedKey × Addr × Value) => p.1 = q.1 ∧ p.2.1 = q.2.1 ∧ RelV p.2.2 q.2.2) es xs) (e2 : ds.toList = xs.map (entryOfKey (nestedKind P w)))
    (hk : ∀ b o, s.heap.get? b = some o → h'.get? b = some o) (hS : h'.get? s.heap.objs.size = some { cls := .type "list", dict := none, data := .seq acc c, slots := #[] }) (hl : as.length = ds.size) (hG : PySem.W.DilG ds s.heap.objs.size h' as) (hacc : acc.toList = as.map Value.ref) :
    ∃ H' : Hp, (∀ b o, H b = some o → H' b = some o) ∧ H s.heap.objs.size = none ∧ (∀ t ∈ as, H t = none) ∧ s.heap.objs.size ∉ as ∧ H' s.heap.objs.size = some (.lst (as.map V.ref)) ∧ Paired (fun (t : Addr) (q : NestedKey × Addr × V) => H' t = some (pq q)) as es ∧ Inv X pins σ H' { s with heap := h', toks := tk } := by
  have lk : es.length = xs.length := Paired.length hp
  have ld : ds.size = xs.length := by have := congrArg List.length e2; simpa using this
  have hSn : s.heap.objs.size ∉ as := fun z => Nat.lt_irrefl _ (hG.above _ z)
  have nd : as.Nodup := List.Pairwise.imp (fun {a b} (h : a < b) => Nat.ne_of_lt h) hG.rise
  have new : ∀ t ∈ as, H t = none := fun t ht => I.hok.fresh (Nat.le_of_lt (hG.above t ht))
  have newS : H s.heap.objs.size = none := I.hok.fresh (Nat.le_refl _)
  have atP := putQ_at as es (upd H s.heap.objs.size (.lst (as.map V.ref))) (by omega) nd
  have off : ∀ b, b ∉ as → b ≠ s.heap.objs.size → putQ (upd H s.heap.objs.size (.lst (as.map V.ref))) as es b = H b := fun b h1 h2 => by rw [putQ_off as es _ h1, upd_ne h2]
  have low : ∀ b o, s.heap.get? b = some o → b ∉ as ∧ b ≠ s.heap.objs.size := fun b o e => ⟨fun z => absurd (Heap.lt_size e) (Nat.not_lt.mpr (Nat.le_of_lt (hG.above b z))), Nat.ne_of_lt (Heap.lt_size e)⟩
  have kp : ∀ b u, H b = some u → (putQ (upd H s.heap.objs.size (.lst (as.map V.ref))) as es) b = some u := fun b u e => by
    rw [off b (fun z => by rw [new b z] at e; cases e) (fun z => by rw [z, newS] at e; cases e)]
    exact e
  have eS : putQ (upd H s.heap.objs.size (.lst (as.map V.ref))) as es s.heap.objs.size = some (.lst (as.map V.ref)) := by rw [putQ_off as es _ hSn, upd_same]
  refine ⟨putQ (upd H s.heap.objs.size (.lst (as.map V.ref))) as es, kp, newS, new, hSn, eS, atP, ?_⟩
  refine I.call' (ch := []) rfl ⟨fun b o q _ _ _ => hk b o q, fun b o q _ _ _ => ⟨o.slots, hk b o q⟩, fun b o q n _ => ?_, fun b o q _ => ⟨o, hk b o q⟩, fun b xs q => kp b _ q, fun b o u q => kp b _ q, fun b ps q => ⟨#[], by rw [kp b _ q]; simp⟩⟩ (fun b u q => ?_) I.bare fun b z => by simp at z
  · obtain ⟨z1, z2⟩ := low b o q
    rw [off b z1 z2]
    exact n
  · by_cases hb : b ∈ as
    · obtain ⟨j, pk, e1, e2', e3⟩ := LiI.paired_ix atP hb
      rw [e3] at q
      cases q
      obtain ⟨hj, f3⟩ := hG.pairs j b e1
      obtain ⟨qv, g1, g2, g3, g4⟩ := LiI.paired_get hp e2'
      have hen : ds[j] = entryOfKey (nestedKind P w) qv := by
        have h1 : ds.toList[j]? = some ds[j] := by rw [Array.getElem?_toList]; exact Array.getElem?_eq_getElem hj
        rw [e2, List.getElem?_map, g1] at h1
        exact (Option.some.inj h1).symm
      rw [hen] at f3
      exact ⟨by show 2 ≤ sizeLine; decide, [.ref qv.2.1, qv.2.2], .cons (by rw [g3]; rfl) (.cons g4 .nil), ⟨_, f3, rfl, _, rfl⟩⟩
    · by_cases hb2 : b = s.heap.objs.size
      · rw [hb2] at q ⊢
        rw [eS] at q
        cases q
        refine ⟨by rw [List.length_map]; omega, acc.toList, c, by rw [hacc]; exact LiI.vals_refs as, ?_⟩
        rw [Array.toArray_toList]
        exact hS
      · rw [off b hb hb2] at q
        exact (I.hok b u q).stay (fun d v _ y => hk d v y) (fun d y => kp d _ y) fun d xs y => kp d _ y
end
theorem its_rep {W : Wd} {ow ow1 : Ow} {H H1 : Hp} (k : Keep ow H ow1 H1) : ∀ {kvs : List (NestedKey × D)} {es : List (NestedKey × Addr × V)} {as : List Addr}, RepK W ow H kvs es → Paired (fun (t : Addr) (q : NestedKey × Addr × V) => H1 t = some (pq q)) as es → (∀ t ∈ as, ow1 t = .fz) → RepL W ow1 H1 (kvs.map itD) (as.map V.ref)
  | _, _, _, .nil, .nil, _ => .nil
  | _, _, _, .cons r1 r2 r3 r4, .cons h l, hf => .cons (.tup (.inl ⟨.inl h, hf _ List.mem_cons_self⟩) (.cons (r1.keep k) (.cons (r3.keep k) .nil))) (its_rep k r4 l fun t ht => hf t (List.mem_cons_of_mem _ ht))
section
variable {W : Wd} {M : MC} {cl : Calls} {gl : Str → Option D} {k : Nat} {X : Cx} {sc : Scope} {Wx : WX} {a : Expr} {ia : E} {pos p1 p2 p3 : Pos}
open Classical in
theorem snd_itl (G : CxG W M cl gl k X sc Wx) {o : Expr} {io : E} {apos cpos : Pos} (hg : Gl X "list") (hat : attrB o = true) (hl : (apos.endLine == cpos.line) = true) (ho : SndE W cl gl X Wx o io) : SndE W cl gl X Wx (.Call (.Name "list" p1) [.Call (.Attribute o "items" apos) [] [] cpos] [] pos) (.itl io) := by
  intro pv ow H S σ Q r h pins s I
  simp only [evE] at h
  have hs : starEach [.Call (.Attribute o "items" apos) [] [] cpos] X.env = (false, eval (.Call (.Attribute o "items" apos) [] [] cpos) X.env) :: starEach [] X.env := rfl
  refine wpAny_Call_Name_kw (ld_blt I hg (G.free "list" (by decide)) (by decide +kernel : bootBuiltins "list" = some (.type "list")) ?_)
  refine PyProof.Rows.callWith_type1 ?_ hs rfl
  rw [hs]
  show wpAny _ _ (spliced ((false, eval (.Call (.Attribute o "items" apos) [] [] cpos) X.env) :: backTo pos (starEach [] X.env))) _ _ s
  refine Calls.spliced_cons ?_
  refine wpAny_Call_method (T := "dict") (id := "dict.items") (attr_base hat) rfl hl F.plainAttrs_dict F.slot_dict_items F.type_dict_items (thn (ho pv ow H S σ _ r (Post.seq h) pins s I) fun u s1 hh => ?_)
  obtain ⟨x, H1, I1, rx, z, S1, ow1, -, k1, r1, p1, h1⟩ := hh
  unfold itlR at h1
  split at h1
  · next kvs ec =>
    obtain ⟨ad, ob, es, rfl, ha, hsm, hd, hr⟩ := reads r1 p1 ec
    obtain rfl : u = Value.ref ad := rx
    obtain ⟨hz, hx, xs, hp, ds, ep, e1, e2, e3⟩ := hd
    have hgd : s1.heap.get? ad = some ob := (I1.hok ad _ ha).1
    have hraw : s1.heap.DictRaw ad ds ep := ⟨ob, hgd, hx, e1⟩
    have lk := Paired.length hp
    have ld : ds.size = xs.length := by have := congrArg List.length e2; simpa using this
    have I2 : Inv X pins σ H1 { s1 with heap := s1.heap.push { cls := .type "dict_items", data := .fields #[.ref ad] } } := I1.kept (t' := s1.toks) fun b ob q => Heap.get?_push_of_some _ q
    refine ⟨hraw.typeIs, fun b e => by cases e; exact ⟨ob, hgd, hx.2.1⟩, ?_⟩
    show wpAny _ _ (callWith cpos (.builtin "dict.items") [.ref ad] [] []) _ X.xe s1
    refine method_meetsIn F.slot_dict_items F.entry_dict_items rfl (PySem.evalArgs_none ⟨rfl, hraw.typeIs, F.args_dict_items_1 _, _, meets_dict_items_raw ad hsm, ⟨ds, ep, hraw⟩, ?_⟩)
    refine Calls.spliced_nil ?_
    refine PySem.W.dil_call (es := ds) (ep := ep) (I1.ok.hd G.calm) ⟨_, Heap.get?_push_size _ rfl, rfl, rfl⟩ (hraw.push _) (by omega) fun h' tk acc c as hk hS hl' hG hacc => ?_
    obtain ⟨H', q1, q2, q3, q4, q5, q6, J⟩ := its_laid (tk := tk) I2 hz hp e2 hk hS hl' hG hacc
    have g : Grow ow1 H1 (fun q => if q = (s1.heap.push { cls := .type "dict_items", data := .fields #[.ref ad] }).objs.size then .tm else if q ∈ as then .fz else ow1 q) H' := fun q hq => by
      cases e : H1 q with
      | none => exact absurd e hq
      | some u =>
        refine ⟨q1 q u e, ?_⟩
        have n1 : q ≠ (s1.heap.push { cls := .type "dict_items", data := .fields #[.ref ad] }).objs.size := fun z => by rw [z] at e; rw [show H1 _ = none from q2] at e; cases e
        have n2 : q ∉ as := fun z => by rw [q3 q z] at e; cases e
        simp only [if_neg n1, if_neg n2]
    refine ⟨.ref _, H', J, rfl, ?_⟩
    refine h1 (.ref _) _ H' (k1.trans g.step) (r1.grow g) ⟨_, _, rfl, q5, ⟨if_pos rfl, ?_⟩, ?_⟩
    · exact k1.none q2
    · refine its_rep g.keep hr q6 fun t ht => ?_
      have n1 : t ≠ (s1.heap.push { cls := .type "dict_items", data := .fields #[.ref ad] }).objs.size := fun z => q4 (by show (s1.heap.push _).objs.size ∈ as; rw [← z]; exact ht)
      simp only [if_neg n1, if_pos ht]
  · exact False.elim h1
/-- what is known of a pair of the list -/
structure Pr1 (W : Wd) (X : Cx) (ow : Ow) (H : Hp) (h : Heap) (d : D) (u : Value) (t : Addr) (e : NestedKey × Addr × V) (x : NestedKey × Addr × Value) : Prop where
  ref : u = .ref t
  pr : PR e x
  at' : PairAt h t (.ref x.2.1) x.2.2
  is : (nestedKind X.prog X.w).is h x.1 x.2.1
  pd : ∃ ks k d', pairD d = some (k, d') ∧ e.1 = .tup k ∧ kOf ks = some k ∧ Rep W ow H (.tup ks) (.ref e.2.1) ∧ Rep W ow H d' e.2.2
inductive Prs (W : Wd) (X : Cx) (ow : Ow) (H : Hp) (h : Heap) : List D → List Value → List Addr → List (NestedKey × Addr × V) → List (NestedKey × Addr × Value) → Prop
  | nil : Prs W X ow H h [] [] [] [] []
  | cons {d : D} {u : Value} {t : Addr} {e : NestedKey × Addr × V} {x : NestedKey × Addr × Value} {ds : List D} {us : List Value} {ts : List Addr} {es : List (NestedKey × Addr × V)} {xs : List (NestedKey × Addr × Value)} : Pr1 W X ow H h d u t e x → Prs W X ow H h ds us ts es xs → Prs W X ow H h (d :: ds) (u :: us) (t :: ts) (e :: es) (x :: xs)
theorem prs_of {ow : Ow} {H : Hp} {pins : List (Addr × Obj)} {s : Shared} {σ : L2.St} (hK : X.K = W.K) (I : Inv X pins σ H s) : ∀ {ds : List D} {vs : List V} {us : List Value} {acc kvs : List (NestedKey × D)}, RepL W ow H ds vs → Vals vs us → foldP acc ds = some kvs → ∃ ts es xs, Prs W X ow H s.heap ds us ts es xs
  | _, _, _, _, _, .nil, .nil, _ => ⟨[], [], [], .nil⟩
  | _, _, _, acc, kvs, .cons (d := d) (v := v) r l, .cons rv rl, h => by
    simp only [foldP] at h
    split at h
    · next q hq =>
      obtain ⟨ts, es, xs, ih⟩ := prs_of hK I l rl h
      unfold pairD at hq
      split at hq
      · next ks d' =>
        simp only [Option.map_eq_some_iff] at hq
        obtain ⟨k, hk, rfl⟩ := hq
        cases r with
        | @tup t vs' _ ht lt =>
          cases lt with
          | @cons _ x _ _ rx lt2 =>
            cases lt2 with
            | @cons _ y _ _ ry lt3 =>
              cases lt3
              obtain ⟨its, rits, hit, _⟩ := I.tuple (hK ▸ ht.sq)
              cases rits with
              | cons ra rits =>
                cases rits with
                | cons rb rits =>
                  cases rits
                  have hx : ∃ b, x = .ref b := by cases rx; exact ⟨_, rfl⟩
                  obtain ⟨b, rfl⟩ := hx
                  cases ra
                  cases rv
                  exact ⟨t :: ts, (.tup k, b, y) :: es, (.tup k, b, _) :: xs, .cons ⟨rfl, ⟨rfl, rfl, rb⟩, .inl hit, keyIs hK I rx.rd hk, ks, k, d', by unfold pairD; simp [hk], rfl, hk, rx, ry⟩ ih⟩
      · cases hq
    · cases h
theorem prs_fold {ow : Ow} {H : Hp} {h : Heap} : ∀ {ds : List D} {us : List Value} {ts : List Addr} {es0 : List (NestedKey × Addr × V)} {ps : List (NestedKey × Addr × Value)} {acc kvs : List (NestedKey × D)} {es : List (NestedKey × Addr × V)} {xs : List (NestedKey × Addr × Value)}, Prs W X ow H h ds us ts es0 ps → foldP acc ds = some kvs → RepK W ow H acc es → Paired PR es xs → es.length + ds.length ≤ sizeLine →
    ∃ es', RepK W ow H kvs es' ∧ Paired PR es' (storedAllH xs ps) ∧ es'.length ≤ sizeLine
  | _, _, _, _, _, _, _, es, _, .nil, hf, hr, hp, hz => by
    cases hf
    exact ⟨es, hr, hp, by simpa using hz⟩
  | _, _, _, _, _, acc, kvs, es, xs, .cons (d := d) (e := e) (x := x) (ds := ds) p1 pr, hf, hr, hp, hz => by
    obtain ⟨ks, k, d', e1, e2, hk, hx, hv⟩ := p1.pd
    simp only [foldP, e1] at hf
    obtain ⟨f1, f2, f3⟩ := p1.pr
    have hc : (atKey xs (.tup k)).isSome = hasKey acc (.tup k) := by
      rw [← (at_some hr hp (k := .tup k)).1, valueAt_pairsH, Option.isSome_map]
    have hst : storedH xs (.tup k) x.2.1 x.2.2 = if hasKey acc (.tup k) then xs.map (putAt (.tup k) x.2.2) else xs ++ [(.tup k, x.2.1, x.2.2)] := by
      unfold storedH
      rw [hc]
    have RK : RepK W ow H (storeK acc (.tup k) d') (storeE (hasKey acc (.tup k)) es (.tup k) e.2.1 e.2.2) := by
      unfold storeK storeE
      cases hasKey acc (.tup k) with
      | true => exact repK_map hv hr
      | false => exact repK_app (key_repK hk hx) (kOf_ok hk).2 hv hr
    have PRs : Paired PR (storeE (hasKey acc (.tup k)) es (.tup k) e.2.1 e.2.2) (storedH xs (.tup k) x.2.1 x.2.2) := by
      rw [hst]
      unfold storeE
      cases hasKey acc (.tup k) with
      | true => exact pr_map f3 hp
      | false => exact pr_app (p := (.tup k, e.2.1, e.2.2)) (q := (.tup k, x.2.1, x.2.2)) ⟨rfl, f2, f3⟩ hp
    have hlen : (storeE (hasKey acc (.tup k)) es (.tup k) e.2.1 e.2.2).length ≤ es.length + 1 := by
      unfold storeE
      cases hasKey acc (.tup k) with
      | true => simp
      | false => simp
    obtain ⟨es', q1, q2, q3⟩ := prs_fold pr hf RK PRs (by simp only [List.length_cons] at hz; omega)
    refine ⟨es', q1, ?_, q3⟩
    have hx1 : x.1 = .tup k := by rw [← f1, e2]
    show Paired PR es' (storedAllH (storedH xs x.1 x.2.1 x.2.2) _)
    rw [hx1]
    exact q2
theorem prs_len {ow : Ow} {H : Hp} {h : Heap} : ∀ {ds : List D} {us : List Value} {ts : List Addr} {es0 : List (NestedKey × Addr × V)} {ps : List (NestedKey × Addr × Value)}, Prs W X ow H h ds us ts es0 ps → us.length = ps.length ∧ ts.length = ps.length ∧ ds.length = ps.length
  | _, _, _, _, _, .nil => ⟨rfl, rfl, rfl⟩
  | _, _, _, _, _, .cons _ l => by
    obtain ⟨h1, h2, h3⟩ := prs_len l
    exact ⟨by simp [h1], by simp [h2], by simp [h3]⟩
theorem prs_at {ow : Ow} {H : Hp} {h : Heap} : ∀ {ds : List D} {us : List Value} {ts : List Addr} {es0 : List (NestedKey × Addr × V)} {ps : List (NestedKey × Addr × Value)}, Prs W X ow H h ds us ts es0 ps → ∀ (j : Nat) (x : NestedKey × Addr × Value), ps[j]? = some x → us[j]? = some (.ref (ts.getD j 0)) ∧ PairAt h (ts.getD j 0) (.ref x.2.1) x.2.2 ∧ (nestedKind X.prog X.w).is h x.1 x.2.1
  | _, _, _, _, _, .nil, j, x, hx => by simp at hx
  | _, _, _, _, _, .cons p l, 0, x, hx => by
    simp only [List.getElem?_cons_zero, Option.some.injEq] at hx
    subst hx
    exact ⟨by simp [p.ref], by simpa using p.at', p.is⟩
  | _, _, _, _, _, .cons p l, j + 1, x, hx => by
    have := prs_at l j x (by simpa using hx)
    simpa using this
theorem dic_mk (hP : X.prog = W.P) (hw : X.w = W.w) (hK : X.K = W.K) (hc : X.calm = true) (hu : X.A.units + 100 < cLine) {ow : Ow} {H : Hp} {ds : List D} {kvs : List (NestedKey × D)} {x : V} {Q : VK} (hy : Rd1 W ow H (.lst ds) x) (hf : foldP [] ds = some kvs) (hz : ds.length ≤ sizeLine)
    (q : ∀ p o es, H p = none → (p == sysModules) = false → DObj W.P W.w o es → RepK W ow H kvs es → Q (.ref p) (upd H p (objAt p o))) : ∃ rr, CallR X (.type "dict") rr ∧ rr [x] H Q := by
  obtain ⟨a, vs, rfl, ha, la⟩ := hy
  refine ⟨fun xs H' Q' => xs = [.ref a] ∧ H' = H ∧ ∀ p o es, H p = none → (p == sysModules) = false → DObj W.P W.w o es → RepK W ow H kvs es → Q' (.ref p) (upd H p (objAt p o)), ?_, rfl, rfl, q⟩
  rintro pins s σ H' xs us Q' I rs ⟨rfl, rfl, q⟩
  obtain ⟨u, rfl, rx⟩ := vals1 rs
  cases rx
  obtain ⟨hzl, its, n, rv, hln, hg⟩ := I.lstM ha
  obtain ⟨ts, es0, ps, hprs⟩ := prs_of hK I la rv hf
  obtain ⟨l1, l2, l3⟩ := prs_len hprs
  obtain ⟨es', q1, q2, q3⟩ := prs_fold hprs hf .nil .nil (by simpa using hz)
  have P := PairArg.list (prog := X.prog) (w := X.w) a its.toArray (fun j => ts.getD j 0) (ps.map fun x => (Value.ref x.2.1, x.2.2))
  have ok : PlainSeq "list" s.heap a its.toArray ∧ PairItems s.heap its.toArray (fun j => ts.getD j 0) (ps.map fun x => (Value.ref x.2.1, x.2.2)) := by
    refine ⟨⟨_, n, hg, rfl, rfl, rfl⟩, by simp [l1], fun j k v hj => ?_⟩
    rw [List.getElem?_map, Option.map_eq_some_iff] at hj
    obtain ⟨x, hx, e⟩ := hj
    obtain ⟨h1, h2, _⟩ := prs_at hprs j x hx
    simp only [Prod.mk.injEq] at e
    obtain ⟨rfl, rfl⟩ := e
    exact ⟨by simpa using h1, h2⟩
  have hpl : (ps.map fun x => (Value.ref x.2.1, x.2.2)).length = ps.length := by simp
  refine call_dict_pairsH (knd := nestedKind X.prog X.w) (ps := ps) P (I.ok.hd hc) ?_ ok ⟨by rw [hpl], fun i key v hr => ?_⟩ (fun h' hk x hx => ?_) (by rw [hpl]; omega) fun h' tk hd hk => ?_
  · show X.A.units + 1 + 1 + 8 < cLine
    omega
  · have hr' : (ps.map fun x => (Value.ref x.2.1, x.2.2))[i]? = some (key, v) := hr
    rw [List.getElem?_map, Option.map_eq_some_iff] at hr'
    obtain ⟨x, hx, e⟩ := hr'
    simp only [Prod.mk.injEq] at e
    obtain ⟨rfl, rfl⟩ := e
    exact ⟨x.1, x.2.1, hx, rfl⟩
  · obtain ⟨j, hj⟩ := List.mem_iff_getElem?.mp hx
    have h3 := (prs_at hprs j x hj).2.2
    exact nestedKind_stays.all h' (fun b o _ e => hk b o (Nat.ne_of_lt (Heap.lt_size e)) (by simp) e) _ _ h3
  · obtain ⟨o', dd, ep, g1, g2, g3, g4, g5, g6⟩ := hd
    have hkp : ∀ b o, s.heap.get? b = some o → h'.get? b = some o := fun b o e => hk b o (by simp) e
    refine ⟨.ref s.heap.objs.size, _, I.laid (t' := tk) (a := s.heap.objs.size) (o := objAt s.heap.objs.size o') hkp (Nat.le_refl _) (ext_ok g1), rfl, q _ o' es' (I.hok.fresh (Nat.le_refl _)) (beq_eq_false_iff_ne.mpr (Ne.symm (Nat.ne_of_lt I.big))) ?_ q1⟩
    exact ⟨q3, g2, _, q2, dd, ep, g3, by rw [← hP, ← hw]; exact g4, g6⟩
theorem snd_dicL (G : CxG W M cl gl k X sc Wx) (hg : Gl X "dict") (hs : noStar a = true) (ha : SndE W cl gl X Wx a ia) : SndE W cl gl X Wx (.Call (.Name "dict" p1) [a] [] pos) (.dicL ia) := by
  intro pv ow H S σ Q r h
  simp only [evE] at h
  refine RE.of (pe_callTy (x := "dict") (T := "dict") call_best hg (G.free _ (by decide)) (by decide +kernel) (pa_cons pe_RE pa_nil (star_cons hs)) (he := star_cons hs) (hpl := rfl)) ?_
  refine RE.mono (ha pv ow H S σ _ r (Post.seq h)) ?_
  rintro x H1 ⟨rx, S1, ow1, -, k1, r1, p1, h1⟩
  unfold dicLR at h1
  split at h1
  · next ds ec =>
    split at h1
    · next kvs hf =>
      split at h1
      · next hz =>
        refine dic_mk G.prog G.w G.K G.calm (by have := G.room.un; omega) (reads r1 p1 ec) hf (by simpa using hz) fun p o es hp hsm hd hr => ?_
        have g := Grow.new (ow := ow1) (o := objAt p o) (t := .tm) hp
        exact h1 (.ref p) _ _ (k1.trans g.step) (r1.grow g) ⟨p, o, es, rfl, upd_same, hsm, ⟨if_pos rfl, k1.none hp⟩, hd, hr.keep g.keep⟩
      · exact False.elim h1
    · exact False.elim h1
  · exact False.elim h1
/-! ### a dict held as a value -/
def retag (a : Addr) (i : Nat) (ow : Ow) : Ow := fun p => if p = a then .sl i else ow p
theorem retag_ne {a p : Addr} {i : Nat} {ow : Ow} (h : p ≠ a) : retag a i ow p = ow p := if_neg h
section
variable {a' : Addr} {o' : Obj} {i : Nat} {ow : Ow} {H : Hp}
theorem at_ne {b : Addr} {u : HO} (ha : H a' = some (objAt a' o')) (hb : H b = some u) (hu : ∀ φ, u ≠ .ext φ) : b ≠ a' := fun z => by
  rw [z, ha] at hb
  cases hb
  exact hu _ rfl
theorem TupAt.retag {K : PySem.W.Frag} {b : Addr} {vs : List V} (ha : H a' = some (objAt a' o')) (h : TupAt K ow H b vs) : TupAt K (retag a' i ow) H b vs := by
  rcases h with ⟨r, t⟩ | h
  · refine .inl ⟨r, ?_⟩
    have ne : b ≠ a' := by
      rcases r with r | ⟨o, r⟩
      · exact at_ne ha r (by simp)
      · exact at_ne ha r (by simp)
    rw [retag_ne ne]
    exact t
  · exact .inr h
mutual
theorem Rep.retag (ha : H a' = some (objAt a' o')) : ∀ {d : D} {v : V}, Rep W ow H d v → noDic d = true → Rep W (retag a' i ow) H d v
  | _, _, .non, _ => .non
  | _, _, .bl b, _ => .bl b
  | _, _, .int n, _ => .int n
  | _, _, .str x, _ => .str x
  | _, _, .tup h l, hn => .tup (h.retag ha) (RepL.retag ha l (by simpa [noDic] using hn))
  | _, _, .lst h l, hn => .lst ⟨h.1, by rw [retag_ne (at_ne ha h.1 (by simp))]; exact h.2⟩ (RepL.retag ha l (by simpa [noDic] using hn))
  | _, _, .dic _ _ _ _ _, hn => by simp [noDic] at hn
  | _, _, .ins m h1 h2 h3 h4 l, hn => .ins m h1 (by rw [retag_ne (at_ne ha h1 (by simp))]; exact h2) h3 (by rw [retag_ne (at_ne ha h3 (by simp))]; exact h4) (RepF.retag ha l (by simpa [noDic] using hn))
theorem RepL.retag (ha : H a' = some (objAt a' o')) : ∀ {d : List D} {v : List V}, RepL W ow H d v → noDics d = true → RepL W (retag a' i ow) H d v
  | _, _, .nil, _ => .nil
  | _, _, .cons h l, hn => by
    simp only [noDics, Bool.and_eq_true] at hn
    exact .cons (Rep.retag ha h hn.1) (RepL.retag ha l hn.2)
theorem RepF.retag (ha : H a' = some (objAt a' o')) : ∀ {d : List (Str × D)} {v : List (Str × V)}, RepF W ow H d v → noDicF d = true → RepF W (retag a' i ow) H d v
  | _, _, .nil, _ => .nil
  | _, _, .cons h l, hn => by
    simp only [noDicF, Bool.and_eq_true] at hn
    exact .cons (Rep.retag ha h hn.1) (RepF.retag ha l hn.2)
end
theorem RepK.retag (ha : H a' = some (objAt a' o')) : ∀ {d : List (NestedKey × D)} {v : List (NestedKey × Addr × V)}, RepK W ow H d v → noDicK d = true → RepK W (retag a' i ow) H d v
  | _, _, .nil, _ => .nil
  | _, _, .cons h1 h2 h3 l, hn => by
    simp only [noDicK, Bool.and_eq_true] at hn
    exact .cons (h1.retag ha hn.1.1) h2 (h3.retag ha hn.1.2) (RepK.retag ha l hn.2)
theorem RepV.retag {t t' : Addr → Prop} (ha : H a' = some (objAt a' o')) (ht : ∀ p, t p → t' p) : ∀ {d : List (Str × FV)} {v : List (Str × V)}, RepV W ow H t d v → noDicV d = true → RepV W (retag a' i ow) H t' d v
  | _, _, .nil, _ => .nil
  | _, _, .val h l, hn => by
    simp only [noDicV, Bool.and_eq_true] at hn
    exact .val (h.retag ha hn.1) (RepV.retag ha ht l hn.2)
  | _, _, .lst h1 h2 h3 l, hn => by
    simp only [noDicV, Bool.and_eq_true] at hn
    exact .lst h1 (ht _ h2) (h3.retag ha hn.1) (RepV.retag ha ht l hn.2)
theorem ObRep.retag {t t' : Addr → Prop} (ha : H a' = some (objAt a' o')) (ht : ∀ p, t p → t' p) {ob : Ob} {v : V} (h : ObRep W ow H t ob v) (hn : noDicO ob = true) : ObRep W (Ev.retag a' i ow) H t' ob v := by
  cases ob with
  | lst xs =>
    obtain ⟨b, vs, e, h1, h2, h3⟩ := h
    exact ⟨b, vs, e, h1, ht _ h2, h3.retag ha hn⟩
  | dic kvs =>
    obtain ⟨b, o, es, e, h1, hs, h2, h3, h4⟩ := h
    exact ⟨b, o, es, e, h1, hs, ht _ h2, h3, h4.retag ha hn⟩
  | ins c fs =>
    obtain ⟨b, dx, gs, e, hm, h1, h2, h3, h4, h5⟩ := h
    exact ⟨b, dx, gs, e, hm, h1, ht _ h2, h3, ht _ h4, h5.retag ha ht hn⟩
  | rng s cs n =>
    obtain ⟨b, c, e, ne, h1, h2, h3, h4⟩ := h
    exact ⟨b, c, e, ne, h1, h2, ht _ h3, ht _ h4⟩
  | scr ns =>
    obtain ⟨b, e, h⟩ := h
    exact ⟨b, e, h.elim (fun ⟨r, z⟩ => .inl ⟨r, ht _ z⟩) .inr⟩
end
theorem freeS_at : ∀ {S : Fr} {i j : Nat} {c : Cell}, freeS S i = true → j ≠ i → getC S j = some c → noDicC (some c) = true
  | [], _, _, _, _, _, h => by simp [getC] at h
  | x :: S, 0, 0, c, _, hj, _ => absurd rfl hj
  | x :: S, 0, j + 1, c, hf, _, h => by
    unfold getC at h
    simp only [List.getElem?_cons_succ] at h
    simp only [freeS, List.all_eq_true] at hf
    split at h
    · next c' hc' => subst h; exact hf _ (List.mem_of_getElem? hc')
    · cases h
  | x :: S, i + 1, 0, c, hf, _, h => by
    simp only [freeS, Bool.and_eq_true] at hf
    unfold getC at h
    simp only [List.getElem?_cons_zero] at h
    subst h
    exact hf.1
  | x :: S, i + 1, j + 1, c, hf, hj, h => by
    simp only [freeS, Bool.and_eq_true] at hf
    refine freeS_at (S := S) (i := i) (j := j) hf.2 (fun z => hj (by rw [z])) ?_
    unfold getC at h ⊢
    simpa using h
theorem hold_post {pv : Nat → Option V} {ow : Ow} {H : Hp} {S : Fr} {σ : L2.St} {Q : VK} {i : Nat} (r : Rel W pv ow H S σ) (h : PostE W pv ow H σ Wx (evE cl gl (.hold i ia) S) Q) : ∃ ow1 S1, Rel W pv ow1 H S1 σ ∧ PostE W pv ow1 H σ Wx (evE cl gl ia S1) Q := by
  simp only [evE] at h
  split at h
  · next kvs0 hc =>
    obtain ⟨v, hv, hcell⟩ := r.cell i _ hc
    have efrz : esc (.bor i) S = .ok (.dic kvs0) (setC S i (some (.val (.dic kvs0)))) := by simp [esc, frz, hc, obFz]
    obtain ⟨ow1, st1, kp1, r1, rep1⟩ := esc_ok r Step.refl (x := .bor i) (v := v) hv efrz
    obtain ⟨a0, o0, es0, rfl, g1, g2, g3, g4, g5⟩ := hcell
    have t1 : ow1 a0 = .fz := by
      cases rep1 with
      | dic q1 q2 q3 q4 q5 => exact q3
    refine ⟨ow1, _, r1, ?_⟩
    cases eo : evE cl gl ia (setC S i (some (.val (.dic kvs0)))) with
    | bad => rw [eo] at h; exact h
    | exc c fs S2 => rw [eo] at h; exact False.elim h
    | ok x S2 =>
      rw [eo] at h
      simp only [thawR] at h
      split at h
      · next kvs hc2 =>
        split at h
        · next hfree =>
          simp only [Bool.and_eq_true] at hfree
          obtain ⟨⟨f1, f2⟩, f3⟩ := hfree
          intro b ow' H' st r2 rx
          obtain ⟨k1, k2⟩ := st.tag (p := a0) (by rw [g1]; simp) t1 (by simp)
          have ha : H' a0 = some (objAt a0 o0) := k1.trans g1
          refine h b (retag a0 i ow') H' ?_ ⟨by simp [setC, r2.len], fun j c ec => ?_, fun j u eu => ?_, fun j ob eo' => ?_⟩ ?_
          · intro p hp
            by_cases hpa : p = a0
            · subst hpa
              refine ⟨by rw [ha]; simp, fun z => absurd g3 (z i), fun j ej => ?_⟩
              rw [g3] at ej
              cases ej
              exact .inl (if_pos rfl)
            · have := (st1.trans st) p hp
              rw [retag_ne hpa]
              exact this
          · by_cases hj : i = j
            · subst hj
              rw [getC_set_self (getC_lt hc2)] at ec
              cases ec
              obtain ⟨v2, e2, q⟩ := r2.cell i _ hc2
              rw [hv] at e2
              cases e2
              cases (show Rep W ow' H' (.dic kvs) (.ref a0) from q) with
              | @dic _ o2 es2 _ q1 q2 q3 q4 q5 => exact ⟨_, hv, a0, o2, es2, rfl, q1, q2, if_pos rfl, q4, q5.retag ha f3⟩
            · rw [getC_set_ne hj] at ec
              obtain ⟨u, e1, q⟩ := r2.cell j c ec
              have hn := freeS_at f1 (Ne.symm hj) ec
              refine ⟨u, e1, ?_⟩
              have ht : ∀ p, ow' p = .sl j → retag a0 i ow' p = .sl j := fun p z => by
                have ne : p ≠ a0 := fun y => by rw [y, k2] at z; cases z
                rw [retag_ne ne]
                exact z
              cases c with
              | val d => exact Rep.retag ha q hn
              | own ob => exact ObRep.retag ha ht q hn
              | par ob => exact ObRep.retag ha ht q hn
              | exc _ _ => exact q
          · obtain ⟨ob, e1, e2⟩ := r2.par j u eu
            have hj : i ≠ j := fun z => by subst z; rw [hc2] at e1; cases e1
            exact ⟨ob, by rw [getC_set_ne hj]; exact e1, e2⟩
          · by_cases hj : i = j
            · subst hj
              rw [getC_set_self (getC_lt hc2)] at eo'
              cases eo'
            · rw [getC_set_ne hj] at eo'
              exact r2.unpar j ob eo'
          · cases x with
            | val d => exact Rep.retag ha rx f2
            | tmp ob =>
              refine ObRep.retag ha (fun p z => ⟨?_, z.2⟩) rx f2
              have ne : p ≠ a0 := fun y => by rw [y, k2] at z; cases z.1
              rw [retag_ne ne]
              exact z.1
            | bor _ => cases f2
        · exact False.elim h
      · exact False.elim h
  · exact False.elim h
theorem snd_hold {e : Expr} {i : Nat} (he : SndE W cl gl X Wx e ia) : SndE W cl gl X Wx e (.hold i ia) := by
  intro pv ow H S σ Q r h
  obtain ⟨ow1, S1, r1, h1⟩ := hold_post r h
  exact he pv ow1 H S1 σ Q r1 h1
/-! ### i in range(n) -/
theorem place_one {n i : Int} : (Builtin.Range.rangePlace? 0 n 1 i).isSome = (decide (0 ≤ i) && decide (i < n)) := by
  unfold Builtin.Range.rangePlace?
  simp only [show ((1 : Int) > 0) = True by simp, if_true, Int.emod_one, beq_self_eq_true, Bool.and_true]
  split
  · next h => simp only [Bool.and_eq_true, decide_eq_true_eq] at h; simp [h.1, h.2]
  · next h => simp only [Bool.not_eq_true] at h; simp [h]
theorem in_range {prog : Program} {w : World} {A : Around} {E : Value → Shared → Prop} {s : Shared} {r : Addr} {n i : Int} {t u v ti : Tok} {Q : Bool → Shared → Prop} (hr : IsRange s.heap r 0 n 1 t u v) (h : Q (decide (0 ≤ i) && decide (i < n)) s) :
    wpAny (model prog w) A (contains (.ref r) (.int i ti)) Q E s := by
  have hT : s.TypeIs (.ref r) "range" := ⟨_, hr, rfl⟩
  refine wpAny_contains_slot hT F.slot_range_contains ?_
  refine wpAny_call_entry F.slot_range_contains hT F.entry_range_contains ?_ (F.args_range_contains_2 _ _)
  unfold Builtin.«range.__contains__»
  refine wpAny_bind (wpAny_of_eq (a := (Value.ref r, [Value.int i ti])) rfl ?_)
  dsimp only
  refine wpAny_bind (wpAny_rule ?_)
  refine wpAny_bind (wpAny_rangeFields hr ?_)
  refine wpAny_pure ⟨_, rfl, ?_⟩
  rw [place_one]
  exact wpAny_truthy_bool h
theorem cmp_in_range {prog : Program} {w : World} {A : Around} {E : Value → Shared → Prop} {s : Shared} {r : Addr} {n i : Int} {t u v ti : Tok} {Q : Value → Shared → Prop} (hr : IsRange s.heap r 0 n 1 t u v) (h : Q (.bool (decide (0 ≤ i) && decide (i < n))) s) :
    wpAny (model prog w) A (compareOp .In (.int i ti) (.ref r)) Q E s := by
  show wpAny _ _ (do return Value.bool (← contains (.ref r) (.int i ti))) Q E s
  exact wpAny_bind (in_range hr (wpAny_pure h))
theorem cmp_nin_range {prog : Program} {w : World} {A : Around} {E : Value → Shared → Prop} {s : Shared} {r : Addr} {n i : Int} {t u v ti : Tok} {Q : Value → Shared → Prop} (hr : IsRange s.heap r 0 n 1 t u v) (h : Q (.bool !(decide (0 ≤ i) && decide (i < n))) s) :
    wpAny (model prog w) A (compareOp .NotIn (.int i ti) (.ref r)) Q E s := by
  show wpAny _ _ (do return Value.bool (!(← contains (.ref r) (.int i ti)))) Q E s
  exact wpAny_bind (in_range hr (wpAny_pure h))
def tInR (neg : Bool) (ta : TE) (te : L2.St → Hp → (Int → Int → Hp → Prop) → Prop) : TT := fun σ H Q => ta σ H fun x H1 => te σ H1 fun lo n H2 => ∃ i, x = .int i ∧ lo = 0 ∧ Q (inRg neg i n) H2
theorem pt_inR {X : Cx} {a e : Expr} {pos : Pos} {ta : TE} {te : L2.St → Hp → (Int → Int → Hp → Prop) → Prop} (ha : PE X a ta) (he : PRg X e te) (hm : behindInMarks .In e = false) : PT X (.Compare a [.In] [e] pos) (tInR false ta te) := by
  refine ⟨fun pins s σ H Q I h => ?_⟩
  refine wpAny_isTrue_Compare1 (thn (ha.run pins s σ H _ I h) fun v s1 ⟨x, H1, I1, r1, q1⟩ => thn (he pins s1 σ H1 _ I1 q1) fun u s2 ⟨r, lo, n, t1, t2, t3, H2, ex, hr, I2, i, e1, e2, q2⟩ => ?_) hm
  subst ex e1 e2
  obtain ⟨ti, rfl⟩ := r1
  exact cmp_in_range hr (wpAny_truthy_bool ⟨H2, I2, q2⟩)
theorem pt_ninR {X : Cx} {a e : Expr} {pos : Pos} {ta : TE} {te : L2.St → Hp → (Int → Int → Hp → Prop) → Prop} (ha : PE X a ta) (he : PRg X e te) (hm : behindInMarks .NotIn e = false) : PT X (.Compare a [.NotIn] [e] pos) (tInR true ta te) := by
  refine ⟨fun pins s σ H Q I h => ?_⟩
  refine wpAny_isTrue_Compare1 (thn (ha.run pins s σ H _ I h) fun v s1 ⟨x, H1, I1, r1, q1⟩ => thn (he pins s1 σ H1 _ I1 q1) fun u s2 ⟨r, lo, n, t1, t2, t3, H2, ex, hr, I2, i, e1, e2, q2⟩ => ?_) hm
  subst ex e1 e2
  obtain ⟨ti, rfl⟩ := r1
  exact cmp_nin_range hr (wpAny_truthy_bool ⟨H2, I2, q2⟩)
theorem snd_inR (G : CxG W M cl gl k X sc Wx) {neg : Bool} {op : CmpOp} (ho : (neg = false ∧ op = .In) ∨ (neg = true ∧ op = .NotIn)) (hg2 : Gl X "range") (hs : noStar b = true) (ha : SndE W cl gl X Wx a ia) (hb : SndE W cl gl X Wx b ib) : SndT W cl gl X Wx (.Compare a [op] [.Call (.Name "range" p2) [b] [] p3] pos) (.inR neg ia ib) := by
  intro pv ow H S σ Q r h
  simp only [evT] at h
  have key : tInR neg (fun σ H Q => RE X a σ H Q) (tRg1 (fun σ H Q => RE X b σ H Q)) σ H Q := by
    refine RE.mono (ha pv ow H S σ _ r (Post.seq h)) ?_
    rintro x H1 ⟨rx, S1, ow1, -, k1, r1, p1, h1⟩
    split at h1
    · next i e1 =>
      cases intRd (reads r1 p1 e1)
      refine RE.mono (hb pv ow1 H1 S1 σ _ r1 (Post.seq2 h1 k1)) ?_
      rintro y H2 ⟨ry, S2, ow2, -, k2, r2, p2, h2⟩
      split at h2
      · next n e2 =>
        cases intRd (reads r2 p2 e2)
        exact ⟨n, rfl, i, rfl, rfl, h2 _ ow2 H2 (k1.trans k2) r2 rfl⟩
      · exact False.elim h2
    · exact False.elim h1
  rcases ho with ⟨rfl, rfl⟩ | ⟨rfl, rfl⟩
  · exact RT.of (pt_inR pe_RE (prg_1 hg2 (G.free _ (by decide)) pe_RE (star_cons hs)) rfl) key
  · exact RT.of (pt_ninR pe_RE (prg_1 hg2 (G.free _ (by decide)) pe_RE (star_cons hs)) rfl) key
theorem rep_rg {ow : Ow} {H : Hp} {n : Nat} : RepL W ow H ((List.range n).map fun (i : Nat) => D.int (0 + (i : Int))) ((List.range n).map fun (i : Nat) => V.int (0 + (i : Int))) := by
  induction List.range n with
  | nil => exact .nil
  | cons x xs ih => exact .cons (.int _) ih
theorem snd_tupR (G : CxG W M cl gl k X sc Wx) (hg : Gl X "tuple") (hg2 : Gl X "range") (hs : noStar a = true) (ha : SndE W cl gl X Wx a ia) : SndE W cl gl X Wx (.Call (.Name "tuple" p1) [.Call (.Name "range" p2) [a] [] p3] [] pos) (.tupR ia) := by
  intro pv ow H S σ Q r h
  simp only [evE] at h
  refine RE.of (pe_tupRg G.calm hg (G.free _ (by decide)) (prg_1 hg2 (G.free _ (by decide)) pe_RE (star_cons hs)) rfl) ?_
  refine RE.mono (ha pv ow H S σ _ r (Post.seq h)) ?_
  rintro x H1 ⟨rx, S1, ow1, -, k1, r1, p1, h1⟩
  split at h1
  · next j e1 =>
    cases intRd (reads r1 p1 e1)
    split at h1
    · next hc =>
      simp only [Bool.and_eq_true, decide_eq_true_eq] at hc
      refine ⟨j, rfl, RgOk.of_le (by omega) (by omega) (by omega) (by omega), fun q hq => ?_⟩
      have g := Grow.new (ow := ow1) (o := .tup (rgV 0 j)) (t := .fz) hq
      exact h1 (.ref q) _ _ (k1.trans g.step) (r1.grow g) (.tup (.inl ⟨.inl upd_same, if_pos rfl⟩) rep_rg)
    · exact False.elim h1
  · exact False.elim h1
end
end Ev

/-! EvJ: slices, isinstance, calls, new instances; the text against the small syntax. -/
namespace Ev
open PySem PySem.Spec PyProof.Rows L2

section
variable {W : Wd} {M : MC} {cl : Calls} {gl : Str → Option D} {k : Nat} {X : Cx} {sc : Scope} {Wx : WX} {e a b c tgE iter elt : Expr} {ia ib ic : E} {pos p1 p2 p3 : Pos}
/-! ### slices -/
def RO (X : Cx) (e : Option Expr) (σ : L2.St) (H : Hp) (Q : Option Int → Hp → Prop) : Prop := ∃ t : TO, PO X e t ∧ t σ H Q
theorem po_RO {e : Option Expr} : PO X e (RO X e) := ⟨fun pins s σ H Q I h => let ⟨_, hp, q⟩ := h; hp.run pins s σ H Q I q⟩
def SndO (W : Wd) (cl : Calls) (gl : Str → Option D) (X : Cx) (Wx : WX) (e : Option Expr) (o : Oe) : Prop := ∀ (pv : Nat → Option V) (ow : Ow) (H : Hp) (S : Fr) (σ : L2.St) (Q : Option Int → Hp → Prop), Rel W pv ow H S σ → Post W pv ow H σ Wx (fun _ _ (a b : Option Int) => a = b) (evO cl gl o S) Q → RO X e σ H Q
theorem snd_o0 : SndO W cl gl X Wx none .none := fun pv ow H S σ Q r h => ⟨_, po_none, h none ow H Step.refl r rfl⟩
theorem snd_o1 (ha : SndE W cl gl X Wx a ia) : SndO W cl gl X Wx (some a) (.some ia) := by
  intro pv ow H S σ Q r h
  simp only [evO] at h
  refine ⟨_, po_some pe_RE, RE.mono (ha pv ow H S σ _ r (Post.seq h)) ?_⟩
  rintro v H1 ⟨x, S1, ow1, -, k1, r1, p1, h1⟩
  split at h1
  · next i e1 =>
    cases (show Rep W ow1 H1 (.int i) v from reads r1 p1 e1)
    exact ⟨i, rfl, h1 _ ow1 H1 k1 r1 rfl⟩
  · exact False.elim h1
theorem sliD_nobor {d : D} {lo hi : Option Int} {r : R} (h : sliD d lo hi = some r) : ∀ i, r ≠ .bor i := by
  intro i hr
  subst hr
  unfold sliD at h
  split at h <;> cases h
theorem RO.mono {e : Option Expr} {σ : L2.St} {H : Hp} {Q Q' : Option Int → Hp → Prop} (h : RO X e σ H Q) (k : ∀ v H', Q v H' → Q' v H') : RO X e σ H Q' :=
  ⟨fun σ H Q' => ∃ Q, RO X e σ H Q ∧ ∀ v H', Q v H' → Q' v H', ⟨fun pins s σ H Q' I ⟨Q, ⟨t, hp, q⟩, k⟩ => thn (hp.run pins s σ H Q I q) fun u s1 ⟨l, H1, I1, pl, q1⟩ => ⟨l, H1, I1, pl, k _ _ q1⟩⟩, Q, h, k⟩
theorem snd_sli (G : CxG W M cl gl k X sc Wx) {lo hi : Option Expr} {il ih : Oe} (ha : SndE W cl gl X Wx a ia) (hl : SndO W cl gl X Wx lo il) (hh : SndO W cl gl X Wx hi ih) : SndE W cl gl X Wx (.Subscript a (.Slice lo hi none p2) pos) (.sli ia il ih) := by
  intro pv ow H S σ Q r h
  simp only [evE] at h
  refine RE.of (pe_slice sl_best pe_RE po_RO po_RO) ?_
  refine RE.mono (ha pv ow H S σ _ r (Post.seq h)) ?_
  rintro x H1 ⟨rx, S1, ow1, -, k1, r1, p1, h1⟩
  refine RO.mono (hl pv ow1 H1 S1 σ _ r1 (Post.seq2 h1 k1)) ?_
  rintro l H2 ⟨l', S2, ow2, -, k2, r2, rfl, h2⟩
  refine RO.mono (hh pv ow2 H2 S2 σ _ r2 (Post.seq2 h2 (k1.trans k2))) ?_
  rintro l2 H3 ⟨l2', S3, ow3, -, k3, r3, rfl, h3⟩
  split at h3
  · next d e1 =>
    split at h3
    · next rr e3 =>
      refine sliD_ok G.K e3 (reads r3 (RRep.step (k2.trans k3) p1) e1) (gives_of ((k1.trans k2).trans k3) r3 (sliD_nobor e3) h3)
    · exact False.elim h3
  · exact False.elim h3

/-! ### isinstance -/
theorem snd_isiB (G : CxG W M cl gl k X sc Wx) {c : Str} {t : String} (hc : (c, t) ∈ biCls) (hv : bootBuiltins c = some (.type t)) (hg : Gl X "isinstance") (hgc : Gl X c) (hn : c ≠ "__name__") (hd : (c == ("__debug__" : Str)) = false) (hs : noStar a = true) (hf : c ∈ freeNames) (ha : SndE W cl gl X Wx a ia) :
    SndE W cl gl X Wx (.Call (.Name "isinstance" p1) [a, .Name c p2] [] pos) (.isi ia c) := by
  intro pv ow H S σ Q r h
  simp only [evE] at h
  refine RE.of (pe_callB (x := "isinstance") call_isi hg (G.free _ (by decide)) (by decide +kernel) (pa_cons pe_RE (pa_cons (pe_bltn (v := .ty t) hgc (G.free _ hf) hv rfl hn hd) pa_nil rfl) (star_cons hs)) (he := star_cons hs) (hpl := rfl)) ?_
  refine RE.mono (ha pv ow H S σ _ r (Post.seq h)) ?_
  rintro x H1 ⟨rx, S1, ow1, -, k1, r1, p1, h1⟩
  split at h1
  · next d e1 =>
    split at h1
    · exact False.elim h1
    · next hd =>
      have hd : isDic d = false := by simpa using hd
      have rd := reads r1 p1 e1
      refine ⟨x, .ty t, tyV W d, .type t, isiD c d, rfl, .ty t, ?_, by rw [G.K]; exact G.kit _ hc d hd (insOk_of rd), h1 _ ow1 H1 k1 r1 (.bl _)⟩
      rw [G.K]
      exact tyX_ok (fun c hc => (G.cls c hc).2) (fun kvs z => by subst z; simp [isDic] at hd) rd
  · exact False.elim h1
theorem snd_isiO (G : CxG W M cl gl k X sc Wx) {c : Str} (hc : c ∈ W.own) (hg : Gl X "isinstance") (hgc : Gl X c) (hd : (c == ("__debug__" : Str)) = false) (hs : noStar a = true) (ha : SndE W cl gl X Wx a ia) :
    SndE W cl gl X Wx (.Call (.Name "isinstance" p1) [a, .Name c p2] [] pos) (.isi ia c) := by
  intro pv ow H S σ Q r h
  simp only [evE] at h
  refine RE.of (pe_callB (x := "isinstance") call_isi hg (G.free _ (by decide)) (by decide +kernel) (pa_cons pe_RE (pa_cons (pe_glob (v := .ref (W.cad c)) hgc (G.cls c hc).1 rfl hd) pa_nil rfl) (star_cons hs)) (he := star_cons hs) (hpl := rfl)) ?_
  refine RE.mono (ha pv ow H S σ _ r (Post.seq h)) ?_
  rintro x H1 ⟨rx, S1, ow1, -, k1, r1, p1, h1⟩
  split at h1
  · next d e1 =>
    split at h1
    · exact False.elim h1
    · next hd =>
      have hd : isDic d = false := by simpa using hd
      have rd := reads r1 p1 e1
      refine ⟨x, .ref (W.cad c), tyV W d, .ref (W.cad c), isiD c d, rfl, .own _, ?_, by rw [G.K]; exact G.kitO _ hc d hd (insOk_of rd), h1 _ ow1 H1 k1 r1 (.bl _)⟩
      rw [G.K]
      exact tyX_ok (fun c hc => (G.cls c hc).2) (fun kvs z => by subst z; simp [isDic] at hd) rd
  · exact False.elim h1

/-! ### calls -/
theorem snd_call0 (G : CxG W M cl gl k X sc Wx) {f : Str} (hf : f ∈ M.fns) (hg : Gl X f) (hd : (f == ("__debug__" : Str)) = false) : SndE W cl gl X Wx (.Call (.Name f p1) [] [] pos) (.call f .nil) := by
  intro pv ow H S σ Q r h
  simp only [evE, evAs, Out.bind] at h
  obtain ⟨fa, hm, fd, ps, kp, hb, hF⟩ := G.fn f hf
  intro pins s I
  refine wpAny_Call_Name_kw (ld_glob I hg hm (PySem.W.callWith_K0 I.kIn kp ?_) hd)
  exact run_fnSD (us := []) (vs := []) (dvs := []) (ds := []) (E := fun σ cls d H' => Wx cls d σ H') hF (G.room.mono (by omega)) hb .nil (passAt G.tk σ) I .nil (call_sp r .nil h)
theorem snd_call (G : CxG W M cl gl k X sc Wx) {f : Str} {e0 : Expr} {es : List Expr} {ies : Es} (hf : f ∈ M.fns) (hg : Gl X f) (hd : (f == ("__debug__" : Str)) = false) (hs : (e0 :: es).all noStar = true) (ha : SndAs W cl gl X Wx (e0 :: es) ies) :
    SndE W cl gl X Wx (.Call (.Name f p1) (e0 :: es) [] pos) (.call f ies) := by
  intro pv ow H S σ Q r h
  simp only [evE] at h
  obtain ⟨fa, hm, fd, ps, kp, hb, hF⟩ := G.fn f hf
  have key : RA X (e0 :: es) σ H (fun vs H1 => spOf W cl f vs H1 Q (fun cls d H' => Wx cls d σ H')) := by
    refine RA.mono (ha pv ow H S σ _ r (Post.seq h)) ?_
    rintro vs H1 ⟨as, S1, ow1, -, k1, r1, p1, h1⟩
    exact call_sp r1 p1 (h1.reE k1)
  intro pins s I
  refine wpAny_Call_Name_kw (ld_glob I hg hm ?_ hd)
  simp only [List.all_cons, Bool.and_eq_true] at hs
  refine PySem.W.callWith_K (h₀ := X.base) I.ok.mod.kin kp (thn (key pos pins s I) fun us s1 ⟨vs, H1, I1, rv, q⟩ => ⟨I1.kIn, ?_⟩) (star_cons hs.1) (star_any hs.2)
  exact run_fnSD (dvs := []) (ds := []) (E := fun σ cls d H' => Wx cls d σ H') hF (G.room.mono (by omega)) hb .nil (passAt G.tk σ) I1 rv (by rw [List.append_nil]; exact q)

/-! ### one of some functions -/
def NamesOk (X : Cx) (M : MC) : List Str → List Expr → Prop
  | [], [] => True
  | f :: fs, .Name g _ :: es => f = g ∧ f ∈ M.fns ∧ Gl X f ∧ (f == ("__debug__" : Str)) = false ∧ NamesOk X M fs es
  | _, _ => False
theorem pa_names (G : CxG W M cl gl k X sc Wx) : ∀ {fs : List Str} {es : List Expr}, NamesOk X M fs es → ∃ fas : List Addr, (∀ (i : Nat) (f : Str), fs[i]? = some f → ∃ fa, fas[i]? = some fa ∧ FnAt W cl k X fa f) ∧ fas.length = fs.length ∧ ∀ (σ : L2.St) (H : Hp) (Q : List V → Hp → Prop), Q (fas.map V.ref) H → RA X es σ H Q
  | [], [], _ => ⟨[], fun i f h => by simp at h, rfl, fun σ H Q q => RA.of pa_nil q⟩
  | [], _ :: _, h => h.elim
  | f :: fs, e :: es, h => by
    cases e with
    | Name g p =>
      obtain ⟨rfl, h2, h3, h4, h5⟩ := h
      obtain ⟨fas, k1, k2, k3⟩ := pa_names G h5
      obtain ⟨fa, hm, hF⟩ := G.fn f h2
      refine ⟨fa :: fas, fun i g hi => ?_, by simp [k2], fun σ H Q q => RA.of (pa_cons (pe_glob (v := .ref fa) h3 hm rfl h4) pa_RA rfl) (k3 σ H _ q)⟩
      cases i with
      | zero => simp at hi; subst hi; exact ⟨fa, rfl, hF⟩
      | succ i => exact k1 i g (by simpa using hi)
    | _ => exact h.elim
  | _ :: _, [], h => h.elim
theorem snd_pick (G : CxG W M cl gl k X sc Wx) {fs : List Str} {es : List Expr} (hn : NamesOk X M fs es) (hl : fs.length ≤ 100) (hb' : plainS b = true) (hb : SndE W cl gl X Wx b ib) : SndE W cl gl X Wx (.Call (.Subscript (.List es p1) b p2) [] [] pos) (.pick fs ib) := by
  intro pv ow H S σ Q r h
  simp only [evE] at h
  obtain ⟨fas, hat, hlen, hra⟩ := pa_names G hn
  have key : RE X (.Subscript (.List es p1) b p2) σ H (fun v H2 => ∃ f fa S2 ow2, v = .ref fa ∧ FnAt W cl k X fa f ∧ Step ow H ow2 H2 ∧ Rel W pv ow2 H2 S2 σ ∧ PostE W pv ow H σ Wx (callR cl f [] S2) Q) := by
    refine RE.of (pe_ix ix_best pe_RE pe_RE (plain_ix hb')) ?_
    refine RE.of (pe_lst pa_RA) ?_
    refine hra σ H _ ⟨by rw [List.length_map, hlen, sizeLine_eq]; omega, fun p hp => ?_⟩
    have g := Grow.new (ow := ow) (o := .lst (fas.map V.ref)) (t := .tm) hp
    refine RE.mono (hb pv _ _ S σ _ (r.grow g) (Post.seq2 h g.step)) ?_
    rintro y H2 ⟨ry, S2, ow2, -, k2, r2, p2, h2⟩
    obtain ⟨e1, _⟩ := k2.tag (p := p) (by rw [upd_same]; simp) (if_pos rfl) (by simp)
    split at h2
    · next j ej =>
      cases intRd (reads r2 p2 ej)
      split at h2
      · next f hf =>
        unfold pickF at hf
        split at hf
        · next hj =>
          obtain ⟨fa, h3, h4⟩ := hat _ f hf
          have hlt := (List.getElem?_eq_some_iff.mp hf).1
          have hai : atI (fas.map V.ref) j = some (.ref fa) := by
            unfold atI ixN
            rw [List.length_map, hlen, if_pos hj, if_pos (by omega)]
            simp [h3]
          exact ⟨_, ix_list, p, fas.map V.ref, j, .ref fa, rfl, rfl, SqL.of (e1.trans upd_same), hai, f, fa, S2, ow2, rfl, h4, g.step.trans k2, r2, h2⟩
        · cases hf
      · exact False.elim h2
    · exact False.elim h2
  intro pins s I
  rw [show eval (.Call (.Subscript (.List es p1) b p2) [] [] pos) X.env = (do callWith pos (← eval (.Subscript (.List es p1) b p2) X.env) [] (backTo pos (starEach [] X.env)) (backToKw pos (keywordEach [] X.env))) from rfl]
  refine wpAny_bind (thn (key pins s I) fun u s1 hh => ?_)
  obtain ⟨v, H1, I1, rv, f, fa, S2, ow2, hv, hF, st, r2, h2⟩ := hh
  subst hv
  obtain rfl : u = Value.ref fa := rv
  obtain ⟨fd, ps, kp, hbd, hF⟩ := hF
  refine PySem.W.callWith_K0 I1.kIn kp ?_
  exact run_fnSD (us := []) (vs := []) (dvs := []) (ds := []) (E := fun σ cls d H' => Wx cls d σ H') hF (G.room.mono (by omega)) hbd .nil (passAt G.tk σ) I1 .nil (call_sp r2 .nil (h2.reE st))

/-! ### a new instance -/
open Classical in
noncomputable def owMk (x dx : Addr) (ow : Ow) : Ow := fun p => if p = x ∨ p = dx then .sl 0 else if ow p = .fz then .fz else .fo
open Classical in
noncomputable def owMkOut (H : Hp) (ow owc : Ow) : Ow := fun p => if H p = none then (if owc p = .sl 0 ∨ owc p = .tm then .tm else .fz) else ow p
theorem mk_sp {pv : Nat → Option V} {ow : Ow} {H : Hp} {S : Fr} {σ : L2.St} {c : Str} {ds : List D} {vs : List V} {Q : VK} {x dx : Addr} (hc : c ∈ W.own) (r : Rel W pv ow H S σ) (ha : RepL W ow H ds vs) (h : PostE W pv ow H σ Wx (newR cl c ds S) Q) (hx : H x = none) (hdx : H dx = none) (ne : dx ≠ x) :
    spOf W cl (c ++ ".__init__") (.ref x :: vs) (upd (upd H dx (.own x)) x (.ins (W.cad c) dx [])) (fun v H2 => v = .non ∧ Q (.ref x) H2) (fun cls d H' => Wx cls d σ H') := by
  have hold : ∀ p, H p ≠ none → p ≠ x ∧ p ≠ dx := fun p hp => ⟨fun z => hp (z ▸ hx), fun z => hp (z ▸ hdx)⟩
  have hH : ∀ p, H p ≠ none → upd (upd H dx (.own x)) x (.ins (W.cad c) dx []) p = H p := fun p hp => by rw [upd_ne (hold p hp).1, upd_ne (hold p hp).2]
  have hfz : ∀ p, H p ≠ none → ow p = .fz → owMk x dx ow p = .fz := fun p hp e => by
    unfold owMk
    rw [if_neg (fun z => z.elim (hold p hp).1 (hold p hp).2), if_pos e]
  have kp : Keep ow H (owMk x dx ow) (upd (upd H dx (.own x)) x (.ins (W.cad c) dx [])) := fun p hp e => ⟨hH p hp, hfz p hp e⟩
  have args : ∀ {ds : List D} {vs : List V} (n : Nat), RepL W ow H ds vs → ArgsRep W (owMk x dx ow) (upd (upd H dx (.own x)) x (.ins (W.cad c) dx [])) n (ds.map Cell.val) vs ∧ (ds.map Cell.val).all isArg = true := by
    intro ds
    induction ds with
    | nil => intro vs n l; cases l; exact ⟨trivial, rfl⟩
    | cons d ds ih =>
      intro vs n l
      cases l with
      | cons q l =>
        obtain ⟨h1, h2⟩ := ih (n + 1) l
        exact ⟨⟨Rep.keep kp q, h1⟩, by simpa [isArg] using h2⟩
  obtain ⟨a1, a2⟩ := args 1 ha
  have tx : owMk x dx ow x = .sl 0 := by unfold owMk; rw [if_pos (.inl rfl)]
  have tdx : owMk x dx ow dx = .sl 0 := by unfold owMk; rw [if_pos (.inr rfl)]
  have outs : ∀ {ds : List D} {vs : List V} {owc : Ow} {H' : Hp} {os : List Ob} (n : Nat), OutsRep W owc H' n (ds.map Cell.val) vs os → os = [] := by
    intro ds
    induction ds with
    | nil => intro vs owc H' os n q; cases vs <;> cases os <;> first | rfl | exact False.elim q
    | cons d ds ih => intro vs owc H' os n q; cases vs <;> first | exact False.elim q | exact ih (n + 1) q
  refine ⟨owMk x dx ow, .par (.ins c []) :: ds.map .val, ⟨⟨x, dx, [], rfl, hc, upd_same, tx, by rw [upd_ne ne, upd_same], tdx, .nil⟩, a1⟩, by simpa [isArg] using a2, fun p hp => ?_, ?_⟩
  · unfold owMk
    split
    · exact .inr (.inr ⟨0, rfl, rfl⟩)
    · split
      · exact .inl rfl
      · exact .inr (.inl rfl)
  · -- tags behind it
    have fin : ∀ {owc : Ow} {H' : Hp}, Step (owMk x dx ow) (upd (upd H dx (.own x)) x (.ins (W.cad c) dx [])) owc H' → Step ow H (owMkOut H ow owc) H' ∧ Rel W pv (owMkOut H ow owc) H' S σ ∧ Keep owc H' (owMkOut H ow owc) H' ∧ ∀ p, owc p = .sl 0 → owMkOut H ow owc p = .tm ∧ H p = none := by
      intro owc H' st
      have same : ∀ p, H p ≠ none → H' p = H p ∧ owc p = owMk x dx ow p := fun p hp => by
        have hn : upd (upd H dx (.own x)) x (.ins (W.cad c) dx []) p ≠ none := by rw [hH p hp]; exact hp
        have e : ∀ i, owMk x dx ow p ≠ .sl i := fun i => by
          unfold owMk
          rw [if_neg (fun z => z.elim (hold p hp).1 (hold p hp).2)]
          split <;> simp
        obtain ⟨q1, q2⟩ := (st p hn).2.1 e
        exact ⟨q1.trans (hH p hp), q2⟩
      have g : Grow ow H (owMkOut H ow owc) H' := fun p hp => ⟨(same p hp).1, by unfold owMkOut; rw [if_neg hp]⟩
      refine ⟨g.step, r.grow g, fun p hp e => ⟨rfl, ?_⟩, fun p e => ?_⟩
      · unfold owMkOut
        split
        · rw [if_neg (by rw [e]; simp)]
        · next hn =>
          have := (same p hn).2
          rw [e] at this
          unfold owMk at this
          rw [if_neg (fun z => z.elim (hold p hn).1 (hold p hn).2)] at this
          split at this
          · next q => exact q
          · cases this
      · have hn : H p = none := by
          cases hh : H p with
          | none => rfl
          | some o =>
            have hp : H p ≠ none := by rw [hh]; simp
            have := (same p hp).2
            rw [e] at this
            unfold owMk at this
            rw [if_neg (fun z => z.elim (hold p hp).1 (hold p hp).2)] at this
            split at this <;> cases this
        exact ⟨by unfold owMkOut; rw [if_pos hn, if_pos (.inl e)], hn⟩
    unfold newR at h
    unfold PostF
    split at h
    · next o ec =>
      rw [ec]
      intro v owc H' st hv ho
      obtain ⟨f1, f2, f3, f4⟩ := fin st
      cases (show Rep W owc H' .non v from hv)
      refine ⟨rfl, h (.ref x) _ H' f1 f2 ?_⟩
      exact ObRep.keep f3 (fun p _ z => ⟨rfl, (f4 p z).1, (f4 p z).2⟩) ho.1
    · next c' fs os ec =>
      rw [ec]
      intro cls d owc H' st hv ho
      obtain ⟨f1, f2, f3, f4⟩ := fin st
      refine h cls d _ H' f1 f2 ?_
      obtain ⟨h1, h2⟩ := hv
      refine ⟨h1, ?_⟩
      rcases h2 with h2 | ⟨h2, a, gs, h3, h4, h5⟩
      · exact .inl h2
      · exact .inr ⟨h2, a, gs, h3, h4, h5.keep f3⟩
    · exact False.elim h
theorem run_mk {C f : Addr} {fd : FuncData} {ps : List Str} {sp : Sp} {pins : List (Addr × Obj)} {σ : L2.St} {H : Hp} {s : Shared} {Q : VK} {us : List Value} {vs : List V} {EE : XK} (mk : Mk X.K C f) (F : FnOk X.prog X.w X.K X.mg X.base (L2.CX X.prog X.w) k f fd ps sp) (hr : Room (k + 1) X.A) (hb : Binds X.K fd ps [])
    (hx : PassesAt (L2.CX X.prog X.w) X σ EE) (I : Inv X pins σ H s) (r : Vals vs us)
    (h : ∀ x dx, H x = none → H dx = none → dx ≠ x → sp (.ref x :: vs) (upd (upd H dx (.own x)) x (.ins C dx [])) (fun v H2 => v = .non ∧ Q (.ref x) H2) EE) : wpAny (model X.prog X.w) X.A (call (.ref C) us) (EP X pins σ Q) X.xe s := by
  have hq := h (s.heap.objs.size + 1) s.heap.objs.size (I.hok.fresh (Nat.le_succ _)) (I.hok.fresh (Nat.le_refl _)) (Nat.ne_of_lt (Nat.lt_succ_self _))
  have J := Inv.made (C := C) I
  have rv : Vals (V.ref (s.heap.objs.size + 1) :: vs) (Value.ref (s.heap.objs.size + 1) :: us) := .cons rfl r
  have hl : (Value.ref (s.heap.objs.size + 1) :: us ++ []).length = ps.length := by rw [List.append_nil, ← rv.length]; exact F.len _ _ _ _ hq
  have hbd := hb _ (Value.ref (s.heap.objs.size + 1) :: us) J.kIn hl
  rw [List.append_nil] at hbd
  refine wpAny_call (make_map (f := f) I.kIn mk.makes mk.init (beq_iff_eq.mp mk.fn) (codeAny_mono (F.run _ X.stack _ _ ⟨Value.ref (s.heap.objs.size + 1) :: us, []⟩ _ _ _ EE (hr.make C us []) (J.env0.make C us []) hbd rv hq) ?_))
  rintro (er | fl) s' hq'
  · exact hx pins _ _ er s' J hq'
  · cases fl with
    | ret u =>
      obtain ⟨v, H', I3, rv', rfl, q3⟩ := J.after hq'
      exact ⟨rv', ⟨V.ref (s.heap.objs.size + 1), H', I3, rfl, q3⟩⟩
    | next => exact hq'.elim
    | brk => exact hq'.elim
    | cont => exact hq'.elim
theorem snd_new (G : CxG W M cl gl k X sc Wx) {c : Str} {e0 : Expr} {es : List Expr} {ies : Es} (hc : c ∈ M.made) (hg : Gl X c) (hd : (c == ("__debug__" : Str)) = false) (hs : (e0 :: es).all noStar = true) (ha : SndEs W cl gl X Wx (e0 :: es) ies) :
    SndE W cl gl X Wx (.Call (.Name c p1) (e0 :: es) [] pos) (.new c ies) := by
  intro pv ow H S σ Q r h
  simp only [evE] at h
  obtain ⟨hm, g, mk, fd, ps, kp, hb, hF⟩ := G.made c hc
  intro pins s I
  refine wpAny_Call_Name_kw (ld_glob I hg (G.cls c hm).1 ?_ hd)
  simp only [List.all_cons, Bool.and_eq_true] at hs
  rw [← G.K] at mk
  refine PySem.W.callWith_K (h₀ := X.base) I.ok.mod.kin mk.kp (thn (ha pv ow H S σ _ r (Post.seq h) pos pins s I) ?_) (star_cons hs.1) (star_any hs.2)
  rintro us s1 ⟨vs, H1, I1, rv, ds, S1, ow1, -, k1, r1, p1, h1⟩
  exact ⟨I1.kIn, run_mk mk hF (G.room.mono (by omega)) hb (passAt G.tk σ) I1 rv fun x dx hx hdx ne => mk_sp hm r1 p1 (h1.reE k1) hx hdx ne⟩

/-! ### dicts -/
theorem snd_dic0 (G : CxG W M cl gl k X sc Wx) : SndE W cl gl X Wx (.Dict [] [] pos) .dic0 := by
  intro pv ow H S σ Q r h
  simp only [evE] at h
  refine G.dn pos σ H Q fun p hn hs hd => ?_
  have g := Grow.new (ow := ow) (o := objAt p dict0) (t := .tm) hn
  exact h (.ref p) _ _ g.step (r.grow g) ⟨p, dict0, [], rfl, upd_same, hs, ⟨if_pos rfl, hn⟩, hd, .nil⟩
theorem snd_dic1 (G : CxG W M cl gl k X sc Wx) (ha : SndE W cl gl X Wx a ia) (hb : SndE W cl gl X Wx b ib) : SndE W cl gl X Wx (.Dict [some a] [b] pos) (.dic1 ia ib) := by
  intro pv ow H S σ Q r h
  simp only [evE] at h
  refine G.d1 a b pos σ H Q fun p hn hs => ?_
  have g := Grow.new (ow := ow) (o := objAt p dict0) (t := .tm) hn
  refine RE.mono (ha pv _ _ S σ _ (r.grow g) (Post.seq2 h g.step)) ?_
  rintro x H1 ⟨x1, S1, ow1, -, k1, r1, p1, h1⟩
  obtain ⟨kd, S2, ow2, k2, kp2, r2, p2, h2⟩ := Post.esc2 r1 k1 p1 h1
  refine RE.mono (hb pv ow2 H1 S2 σ _ r2 (Post.seq2 h2 (g.step.trans k2))) ?_
  rintro y H2 ⟨y1, S3, ow3, -, k3, r3, p3, h3⟩
  obtain ⟨d, S4, ow4, k4, kp4, r4, p4, h4⟩ := Post.esc2 r3 k3 p3 h3
  obtain ⟨e1, t1⟩ := k2.tag (p := p) (by rw [upd_same]; simp) (if_pos rfl) (by simp)
  obtain ⟨e2, t2⟩ := k4.tag (p := p) (by rw [e1, upd_same]; simp) t1 (by simp)
  refine ⟨e2.trans (e1.trans upd_same), ?_⟩
  unfold oneR at h4
  split at h4
  · next ks =>
    split at h4
    · next k hk =>
      have p2' := Rep.keep k4.keep p2
      have hx : ∃ b, x = .ref b := by
        cases p2'
        exact ⟨_, rfl⟩
      obtain ⟨b, rfl⟩ := hx
      refine ⟨ow4, ks, k, d, b, rfl, hk, p2', p4, by rw [t2]; simp, fun o es hd hr => ?_⟩
      have kpD : Keep ow4 H2 ow4 (upd H2 p (objAt p o)) := fun q hq e => ⟨upd_ne (fun z => by rw [z, t2] at e; cases e), e⟩
      refine h4 (.ref p) ow4 _ ?_ (r4.upd t2) ⟨p, o, es, rfl, upd_same, hs, ⟨t2, hn⟩, hd, hr.keep kpD⟩
      intro q hq
      have ne : q ≠ p := fun z => hq (z ▸ hn)
      rw [upd_ne ne]
      exact ((g.step.trans k2).trans k4) q hq
    · exact False.elim h4
  · exact False.elim h4
theorem repL_strs : ∀ {xs : List D} {us : List V} {ys : List Str} {ow : Ow} {H : Hp}, RepL W ow H xs us → asStrs xs = some ys → us = ys.map V.str
  | [], us, ys, _, _, h, e => by cases h; simp [asStrs] at e; subst e; rfl
  | y :: ds, us, ys, _, _, h, e => by
    cases h with
    | cons g l =>
      cases y <;> simp [asStrs] at e
      obtain ⟨ms, e1, e2⟩ := e
      subst e2
      cases g
      rw [repL_strs l e1]; rfl
theorem idxOf_at {ys : List Str} {k : Str} (h : k ∈ ys) : ys[ys.idxOf k]? = some k := by
  have := List.idxOf_lt_length_of_mem h
  rw [List.getElem?_eq_getElem this]
  simp
theorem idxOf_before : ∀ {ys : List Str} {k : Str} {m : Nat} {z : Str}, m < ys.idxOf k → ys[m]? = some z → z ≠ k
  | [], k, m, z, h, e => by simp at e
  | y :: ys, k, m, z, h, e => by
    rw [List.idxOf_cons] at h
    cases hy : y == k with
    | true => rw [hy] at h; simp at h
    | false =>
      rw [hy] at h
      simp only [cond_false] at h
      cases m with
      | zero =>
        simp only [List.getElem?_cons_zero, Option.some.injEq] at e
        subst e
        simpa using hy
      | succ m => exact idxOf_before (ys := ys) (m := m) (by omega) (by simpa using e)
theorem snd_idx (G : CxG W M cl gl k X sc Wx) {o : Expr} {io : E} {apos cpos : Pos} (hat : attrB o = true) (hl : (apos.endLine == cpos.line) = true) (ns1 : noStar a = true) (ho : SndE W cl gl X Wx o io) (ha : SndE W cl gl X Wx a ia) : SndE W cl gl X Wx (.Call (.Attribute o "index" apos) [a] [] cpos) (.idx io ia) := by
  intro pv ow H S σ Q r h
  simp only [evE] at h
  refine RE.of (pe_bm PySem.F.plainAttrs_list PySem.F.slot_list_index PySem.F.type_list_index mt_index pe_RE (pa_cons pe_RE pa_nil (star_cons ns1)) (attr_base hat) (by rw [star_cons ns1]; rfl) hl (star_cons ns1) rfl) ?_
  refine RE.mono (ho pv ow H S σ _ r (Post.seq h)) ?_
  rintro x H1 ⟨z, S1, ow1, -, k1, r1, p1, h1⟩
  split at h1
  case isFalse => exact False.elim h1
  next hc =>
  have hc' : ∃ xs, cont S1 z = some (.lst xs) := by
    unfold isLstO at hc
    split at hc
    · next xs e => exact ⟨xs, e⟩
    · cases hc
  obtain ⟨xs0, ec⟩ := hc'
  obtain ⟨a0, us0, rfl, ha0, la0⟩ := reads r1 p1 ec
  refine ⟨.inl ⟨rfl, us0, SqL.of ha0⟩, ?_⟩
  refine RE.mono (ha pv ow1 H1 S1 σ _ r1 (Post.seq2 h1 k1)) ?_
  rintro y H2 ⟨y1, S2, ow2, -, k2, r2, p2, h2⟩
  unfold idxR at h2
  split at h2
  · next d e e1 e2 =>
    split at h2
    · next j ej =>
      unfold idxD at ej
      split at ej
      · next xs kk =>
        simp only [Option.bind_eq_some_iff] at ej
        obtain ⟨ys, e3, e4⟩ := ej
        split at e4
        · next hk =>
          cases e4
          obtain ⟨a1, us1, ea, ha1, la1⟩ := reads r2 (RRep.step k2 p1) e1
          cases ea
          rw [repL_strs la1 e3] at ha1
          cases (show Rep W ow2 H2 (.str kk) y from reads r2 p2 e2)
          refine ⟨a0, ys.map V.str, .str kk, ys.idxOf kk, .str kk, rfl, rfl, SqL.of ha1, rfl, by simp [flatV], by rw [List.getElem?_map, idxOf_at hk]; rfl, by simp [eqV], fun m z' hm hz => ?_, h2 _ ow2 H2 (k1.trans k2) r2 (.int _)⟩
          rw [List.getElem?_map] at hz
          cases hw : ys[m]? with
          | none => rw [hw] at hz; cases hz
          | some w =>
            rw [hw] at hz
            cases hz
            have := idxOf_before hm hw
            simp [eqV, this]
        · cases e4
      · cases ej
    · exact False.elim h2
  · exact False.elim h2
theorem snd_get (G : CxG W M cl gl k X sc Wx) {o : Expr} {io : E} {apos cpos : Pos} (hat : attrB o = true) (hl : (apos.endLine == cpos.line) = true) (ns1 : noStar a = true) (ns2 : noStar b = true) (ho : SndE W cl gl X Wx o io) (ha : SndE W cl gl X Wx a ia) (hb : SndE W cl gl X Wx b ib) : SndE W cl gl X Wx (.Call (.Attribute o "get" apos) [a, b] [] cpos) (.get io ia ib) := by
  intro pv ow H S σ Q r h pins s I
  simp only [evE] at h
  have tr : backTo cpos (starEach [a, b] X.env) = [(false, eval a X.env), (false, eval b X.env)] := by
    rw [star_cons ns1, star_cons ns2]
    rfl
  refine wpAny_Call_method (attr_base hat) (by rw [tr]; rfl) hl PySem.F.plainAttrs_dict PySem.F.slot_dict_get PySem.F.type_dict_get (thn (ho pv ow H S σ _ r (Post.seq h) pins s I) fun u s1 hh => ?_)
  obtain ⟨x, H1, I1, rx, z, S1, ow1, -, k1, r1, p1, h1⟩ := hh
  split at h1
  case isFalse => exact False.elim h1
  next hc =>
  have hc' : ∃ kvs, cont S1 z = some (.dic kvs) := by
    unfold isDicO at hc
    split at hc
    · next kvs e => exact ⟨kvs, e⟩
    · cases hc
  obtain ⟨kvs0, ec⟩ := hc'
  obtain ⟨a0, rfl, t1, t2⟩ := G.dgo.1 pins s1 σ H1 ow1 kvs0 x I1 (reads r1 p1 ec)
  obtain rfl : u = Value.ref a0 := rx
  refine ⟨t1, t2, ?_⟩
  rw [tr]
  refine Calls.callWith_builtin rfl (Calls.evalArgs_plain (Calls.spliced_cons (thn (ha pv ow1 H1 S1 σ _ r1 (Post.seq2 h1 k1) pins s1 I1) fun iv s2 hh => ?_)))
  obtain ⟨y, H2, I2, ry, x2, S2, ow2, -, k2, r2, p2, h2⟩ := hh
  obtain ⟨kd, S3, ow3, k3, kp3, r3, p3, h3⟩ := Post.esc2 r2 k2 p2 h2
  refine Calls.spliced_cons (thn (hb pv ow3 H2 S3 σ _ r3 (Post.seq2 h3 (k1.trans k3)) pins s2 I2) fun fv s3 hh => Calls.spliced_nil ?_)
  obtain ⟨w, H3, I3, rw', x4, S4, ow4, -, k4, r4, p4, h4⟩ := hh
  obtain ⟨d, S5, ow5, k5, kp5, r5, p5, h5⟩ := Post.esc2 r4 k4 p4 h4
  unfold getR at h5
  split at h5
  · next kvs ks e5 =>
    split at h5
    · next k hk =>
      have p3' := Rep.keep k5.keep p3
      have hy : ∃ b, y = .ref b := by
        cases p3'
        exact ⟨_, rfl⟩
      obtain ⟨b0, rfl⟩ := hy
      obtain rfl : iv = Value.ref b0 := ry
      exact G.dgo.2 ow5 H3 ks kvs k a0 b0 d w Q hk (reads r5 (RRep.step (k3.trans k5) p1) e5) p3' p5 (fun v hv => h5 v ow5 H3 (k1.trans (k3.trans k5)) r5 hv) pins s3 σ fv I3 rw'
    · exact False.elim h5
  · exact False.elim h5
end
end Ev

/-! EvK: the text against the small syntax; every expression is sound. -/
namespace Ev
open PySem PySem.Spec PyProof.Rows L2

def visB (sc : Scope) (x : Str) : Bool := match sc.names.lookup x with
  | some .local => true
  | some .cell => true
  | some .free => true
  | _ => false
def glB (sc : Scope) (x : Str) : Bool := match sc.names.lookup x with
  | some .globalImplicit => true
  | _ => false
def okN (x : Str) : Bool := !(x == ("__debug__" : Str)) && !(x == ("__classdict__" : Str)) && !decide (x = "__name__")
def slotB (M : MC) (sc : Scope) (i : Nat) (x : Str) : Bool := decide (M.N[i]? = some x) && visB sc x && okN x
theorem visB_ok {sc : Scope} {x : Str} (h : visB sc x = true) : Vis sc x := by
  unfold visB at h
  split at h
  · next e => exact .inl e
  · next e => exact .inr (.inl e)
  · next e => exact .inr (.inr e)
  · cases h
theorem glB_ok {X : Cx} {sc : Scope} {x : Str} (hs : X.env.scope = sc) (h : glB sc x = true) : Gl X x := by
  unfold glB at h
  split at h
  · next e => show X.env.scope.names.lookup x = _; rw [hs]; exact e
  · cases h
theorem okN_ok {x : Str} (h : okN x = true) : (x == ("__debug__" : Str)) = false ∧ (x == ("__classdict__" : Str)) = false ∧ x ≠ "__name__" := by
  unfold okN at h
  simp only [Bool.and_eq_true, Bool.not_eq_true', decide_eq_false_iff_not] at h
  exact ⟨h.1.1, h.1.2, h.2⟩
def opB : BOp → Operator → Bool
  | .add, .Add => true | .sub, .Sub => true | .mul, .Mult => true | .fdiv, .FloorDiv => true | .mod, .Mod => true | .pow, .Pow => true | .shl, .LShift => true | .shr, .RShift => true | .band, .BitAnd => true
  | _, _ => false
def coB : COp → CmpOp → Bool
  | .eq, .Eq => true | .ne, .NotEq => true | .lt, .Lt => true | .le, .LtE => true | .gt, .Gt => true | .ge, .GtE => true | .isin, .In => true | .notin, .NotIn => true | .is, .Is => true | .isnot, .IsNot => true
  | _, _ => false
theorem opB_ok {op : BOp} {o : Operator} (h : opB op o = true) : o = bopO op := by cases op <;> cases o <;> first | rfl | cases h
theorem coB_ok {op : COp} {o : CmpOp} (h : coB op o = true) : o = copO op := by cases op <;> cases o <;> first | rfl | cases h
/-- the comprehension's own names with their slots -/
def ownOf (M : MC) (tg : Tg) : List (Str × Nat) := (slotsT tg).map fun i => ((M.N[i]?).getD "", i)
/-- a name that a target stores -/
def locB (M : MC) (sc orig : Scope) (i : Nat) (x : Str) : Bool := decide (M.N[i]? = some x) && (match sc.names.lookup x with
  | some .local => true
  | some .cell => (match orig.names.lookup x with
    | some .cell => true
    | _ => false)
  | _ => false)
def mNames (M : MC) (sc orig : Scope) : List Nat → List Expr → Bool
  | [], [] => true
  | i :: is, .Name x _ :: es => locB M sc orig i x && mNames M sc orig is es
  | _, _ => false
def mTg (M : MC) (sc orig : Scope) : Tg → Expr → Bool
  | .one i, .Name x _ => locB M sc orig i x
  | .many is, .Tuple es _ _ => mNames M sc orig is es
  | _, _ => false
def isTupT : Expr → Bool
  | .Tuple _ _ _ => true
  | _ => false
def isiB (W : List Str) (c : Str) : Bool := (biCls.map (·.1)).contains c || W.contains c
def noSet : Expr → Bool
  | .Set _ _ _ => false
  | _ => true
theorem noSet_ok {e : Expr} {env : Env} (h : noSet e = true) (x : Value) : foldedSetIterable e env x = pure x := by cases e <;> first | rfl | cases h
/-- a comprehension with one generator -/
def isLcI : E → Bool
  | .lc _ _ _ _ => true
  | _ => false
/-- names of functions -/
def mNm (M : MC) (sc : Scope) : List Str → List Expr → Bool
  | [], [] => true
  | f :: fs, .Name g _ :: l => decide (f = g) && M.fns.contains f && glB sc f && okN f && mNm M sc fs l
  | _, _ => false
mutual
def mE (own : List Str) (M : MC) (sc : Scope) : E → Expr → Bool
  | .var i, e => (match e with
    | .Name x _ => slotB M sc i x
    | _ => false)
  | .ref i, e => (match e with
    | .Name x _ => slotB M sc i x
    | _ => false)
  | .con d, e => (match e with
    | .Constant c _ _ => conOk d c
    | _ => false)
  | .glo x, e => (match e with
    | .Name y _ => decide (x = y) && glB sc x && M.cons.contains x && okN x
    | _ => false)
  | .tup es, e => (match e with
    | .Tuple l _ _ => mEs own M sc es l
    | _ => false)
  | .lst es, e => (match e with
    | .List l _ => mEs own M sc es l
    | _ => false)
  | .bin op a b, e => (match e with
    | .BinOp l o r _ => opB op o && mE own M sc a l && mE own M sc b r
    | _ => false)
  | .neg a, e => (match e with
    | .UnaryOp .USub x _ => mE own M sc a x
    | _ => false)
  | .not a, e => (match e with
    | .UnaryOp .Not x _ => mE own M sc a x
    | _ => false)
  | .cmp op a b, e => (match e with
    | .Compare l [o] [r] _ => coB op o && !behindInMarks o r && mE own M sc a l && mE own M sc b r
    | _ => false)
  | .chain p q a b c, e => (match e with
    | .Compare l [o1, o2] [r1, r2] _ => coB p o1 && coB q o2 && !lastMarks [o1, o2] [r1, r2] && mE own M sc a l && mE own M sc b r1 && mE own M sc c r2
    | _ => false)
  | .and es, e => (match e with
    | .BoolOp .And l _ => mAnd own M sc es l
    | _ => false)
  | .or es, e => (match e with
    | .BoolOp .Or l _ => mAnd own M sc es l
    | _ => false)
  | .ite t a b, e => (match e with
    | .IfExp c x y _ => mT own M sc t c && mE own M sc a x && mE own M sc b y
    | _ => false)
  | .call f es, e => (match e with
    | .Call (.Name g _) l [] _ => decide (f = g) && glB sc f && M.fns.contains f && okN f && mEs own M sc es l && l.all noStar
    | _ => false)
  | .new f es, e => (match e with
    | .Call (.Name g _) l [] _ => decide (f = g) && glB sc f && M.made.contains f && okN f && mEs own M sc es l && l.all noStar && !l.isEmpty
    | _ => false)
  | .prop c p a, e => (match e with
    | .Attribute x q _ => decide (p = q) && M.props.contains (c, p) && attrB x && mE own M sc a x
    | _ => false)
  | .fld c a f, e => (match e with
    | .Attribute x q _ => decide (f = q) && M.flds.contains (c, f) && attrB x && mE own M sc a x
    | _ => false)
  | .bi b es, e => (match e with
    | .Call (.Name g _) l [] _ => decide (g = biN b) && glB sc g && mEs own M sc es l && l.all noStar && !l.isEmpty
    | _ => false)
  | .isi a c, e => (match e with
    | .Call (.Name g _) [x, .Name d _] [] _ => decide (g = "isinstance") && decide (c = d) && glB sc g && glB sc c && okN c && isiB own c && noStar x && mE own M sc a x
    | _ => false)
  | .sub a b, e => (match e with
    | .Subscript x y _ => plainS y && mE own M sc a x && mE own M sc b y
    | _ => false)
  | .sli a lo hi, e => (match e with
    | .Subscript x (.Slice l h none _) _ => mE own M sc a x && mO own M sc lo l && mO own M sc hi h
    | _ => false)
  | .lc elt tg it c, e => (match e with
    | .ListComp el [⟨t, i, ifs, 0⟩] scope _ => blkC M.N sc scope (ownOf M tg) && mTg M (relS scope sc) scope tg t && mI own M sc it t i && noSet i && mOt own M (relS scope sc) c ifs && mE own M (relS scope sc) elt el
    | _ => false)
  | .lc2 elt tg it tg1 it1, e => (match e with
    | .ListComp el [⟨t, i, [], 0⟩, ⟨t1, i1, [], 0⟩] scope _ => blkC M.N sc scope (ownOf M tg ++ ownOf M tg1) && mTg M (relS scope sc) scope tg t && mI own M sc it t i && noSet i && mTg M (relS scope sc) scope tg1 t1 && mI own M (relS scope sc) it1 t1 i1 && noSet i1 && mE own M (relS scope sc) elt el
    | _ => false)
  | .minN es, e => (match e with
    | .Call (.Name g _) l [⟨some q, .Constant .none _ _, _⟩] _ => decide (g = "min") && decide (q = Str.ofString "default") && glB sc g && mEs own M sc es l && l.length == 1
    | _ => false)
  | .itl o, e => (match e with
    | .Call (.Name g _) [.Call (.Attribute x m p2) [] [] p3] [] _ => decide (g = "list") && decide (m = "items") && glB sc g && attrB x && (p2.endLine == p3.line) && mE own M sc o x
    | _ => false)
  | .pick fs a, e => (match e with
    | .Call (.Subscript (.List l _) x _) [] [] _ => mNm M sc fs l && decide (fs.length ≤ 100) && plainS x && mE own M sc a x
    | _ => false)
  | .tupR a, e => (match e with
    | .Call (.Name g _) [.Call (.Name f _) [x] [] _] [] _ => decide (g = "tuple") && decide (f = "range") && glB sc g && glB sc f && noStar x && mE own M sc a x
    | _ => false)
  | .idx o a, e => (match e with
    | .Call (.Attribute x m p2) [y] [] p3 => decide (m = "index") && attrB x && (p2.endLine == p3.line) && noStar y && mE own M sc o x && mE own M sc a y
    | _ => false)
  | .hold _ a, e => isLcI a && mE own M sc a e
  | .dicL a, e => (match e with
    | .Call (.Name g _) [x] [] _ => decide (g = "dict") && glB sc g && noStar x && mE own M sc a x
    | _ => false)
  | .dic0, e => (match e with
    | .Dict [] [] _ => true
    | _ => false)
  | .dic1 a b, e => (match e with
    | .Dict [some x] [y] _ => mE own M sc a x && mE own M sc b y
    | _ => false)
  | .get o a b, e => (match e with
    | .Call (.Attribute x m p2) [y, z] [] p3 => decide (m = "get") && attrB x && (p2.endLine == p3.line) && noStar y && noStar z && mE own M sc o x && mE own M sc a y && mE own M sc b z
    | _ => false)
  | .dc a b tg it, e => (match e with
    | .DictComp x y [⟨t, i, [], 0⟩] scope _ => blkC M.N sc scope (ownOf M tg) && mTg M (relS scope sc) scope tg t && mI own M sc it t i && noSet i && mE own M (relS scope sc) a x && mE own M (relS scope sc) b y
    | _ => false)
def mT (own : List Str) (M : MC) (sc : Scope) : T → Expr → Bool
  | .e a, e => plainT e && mE own M sc a e
  | .cmp op a b, e => (match e with
    | .Compare l [o] [r] _ => coB op o && !behindInMarks o r && mE own M sc a l && mE own M sc b r
    | _ => false)
  | .inR neg a b, e => (match e with
    | .Compare l [o] [.Call (.Name h _) [x] [] _] _ => (match neg, o with
      | false, .In => true
      | true, .NotIn => true
      | _, _ => false) && decide (h = "range") && glB sc h && noStar x && mE own M sc a l && mE own M sc b x
    | _ => false)
  | .chain p q a b c, e => (match e with
    | .Compare l [o1, o2] [r1, r2] _ => coB p o1 && coB q o2 && !lastMarks [o1, o2] [r1, r2] && mE own M sc a l && mE own M sc b r1 && mE own M sc c r2
    | _ => false)
  | .not t, e => (match e with
    | .UnaryOp .Not x _ => mT own M sc t x
    | _ => false)
  | .and ts, e => (match e with
    | .BoolOp .And l _ => mTs own M sc ts l
    | _ => false)
  | .or ts, e => (match e with
    | .BoolOp .Or l _ => mTs own M sc ts l
    | _ => false)
def mTs (own : List Str) (M : MC) (sc : Scope) : Ts → List Expr → Bool
  | .nil, _ => false
  | .cons t .nil, l => (match l with
    | [x] => mT own M sc t x
    | _ => false)
  | .cons t ts, l => (match l with
    | x :: r => mT own M sc t x && mTs own M sc ts r
    | _ => false)
def mAnd (own : List Str) (M : MC) (sc : Scope) : Es → List Expr → Bool
  | .nil, _ => false
  | .cons e .nil, l => (match l with
    | [x] => mE own M sc e x
    | _ => false)
  | .cons e es, l => (match l with
    | x :: r => mE own M sc e x && mAnd own M sc es r
    | _ => false)
def mEs (own : List Str) (M : MC) (sc : Scope) : Es → List Expr → Bool
  | .nil, l => l.isEmpty
  | .cons e es, l => (match l with
    | x :: r => noStar x && mE own M sc e x && mEs own M sc es r
    | _ => false)
def mO (own : List Str) (M : MC) (sc : Scope) : Oe → Option Expr → Bool
  | .none, e => e.isNone
  | .some a, e => (match e with
    | some x => mE own M sc a x
    | none => false)
def mOt (own : List Str) (M : MC) (sc : Scope) : Ot → List Expr → Bool
  | .none, l => l.isEmpty
  | .some t, l => (match l with
    | [x] => mT own M sc t x
    | _ => false)
def mI (own : List Str) (M : MC) (sc : Scope) : It → Expr → Expr → Bool
  | .seq a, _, e => mE own M sc a e
  | .rng es, _, e => (match e with
    | .Call (.Name g _) l [] _ => decide (g = "range") && glB sc g && mEs own M sc es l && (l.length == 1 || l.length == 2 || l.length == 3)
    | _ => false)
  | .enm es, t, e => (match e with
    | .Call (.Name g _) l [] _ => isTupT t && decide (g = "enumerate") && glB sc g && mEs own M sc es l && l.length == 1
    | _ => false)
  | .zip es, t, e => (match e with
    | .Call (.Name g _) l [] _ => isTupT t && decide (g = "zip") && glB sc g && mEs own M sc es l && l.length == 2
    | _ => false)
  | .rev a, _, e => (match e with
    | .Call (.Name g _) [.Call (.Name h _) [x] [] _] [] _ => decide (g = "reversed") && decide (h = "range") && glB sc g && glB sc h && noStar x && mE own M sc a x
    | _ => false)
end

section
variable {W : Wd} {M : MC} {cl : Calls} {gl : Str → Option D} {k : Nat}
theorem CxG.blk {X : Cx} {sc : Scope} {Wx : WX} (G : CxG W M cl gl k X sc Wx) (scope : Scope) (s : Shared) (H : Hp) (C : Addr) (cc : List (Str × Addr)) (fp : List Addr) : CxG W M cl gl k (blkOf X scope s H C cc fp) (relS scope sc) noWx where
  prog := G.prog
  w := G.w
  K := G.K
  N := G.N
  nd := G.nd
  sc := by show relS scope X.env.scope = _; rw [G.sc]
  calm := G.calm
  room := G.room
  tk := fun u s' ⟨_, _, _, _, _, _, _, _, _, _, _, _, _, _, _, _, z⟩ => z.elim
  pw := PassesOwn.never
  free := G.free
  fn := G.fn
  con := G.con
  cls := G.cls
  kit := G.kit
  kitO := G.kitO
  fld := G.fld
  prop := G.prop
  made := G.made
  eq := G.eq
  dic := G.dic
  exc := G.exc
theorem mEs_star : ∀ {es : Es} {l : List Expr} {own : List Str} {sc : Scope}, mEs own M sc es l = true → l.all noStar = true ∧ esLen es = l.length
  | .nil, l, _, _, h => by simp only [mEs] at h; cases l <;> first | exact ⟨rfl, rfl⟩ | cases h
  | .cons e es, l, _, _, h => by
    simp only [mEs] at h
    split at h
    · simp only [Bool.and_eq_true] at h
      obtain ⟨h1, h2⟩ := mEs_star h.2
      exact ⟨by simp [h.1.1, h1], by simp [esLen, h2]⟩
    · cases h
theorem pgs_of {X : Cx} {sc orig : Scope} (hN : X.N = M.N) (nd : M.N.Nodup) (hs : X.env.scope = sc) (hfn : ∀ x, orig.names.lookup x = some .cell → X.fn x = true) : ∀ {is : List Nat} {es : List Expr}, mNames M sc orig is es = true → PGs X es (gNames is)
  | [], [], _ => pgs_nil
  | [], _ :: _, h => by simp [mNames] at h
  | _ :: _, [], h => by simp [mNames] at h
  | i :: is, e :: es, h => by
    cases e <;> simp only [mNames] at h <;> try (cases h)
    next x p =>
      simp only [Bool.and_eq_true] at h
      obtain ⟨h1, h2⟩ := h
      unfold locB at h1
      simp only [Bool.and_eq_true, decide_eq_true_eq] at h1
      obtain ⟨h1, h3⟩ := h1
      refine pgs_cons (pg_name (i := i) (by rw [hN]; exact nd) (by rw [hN]; exact h1) ?_ ?_) (pgs_of hN nd hs hfn h2)
      · rw [hs]
        split at h3
        · next e => exact .inl e
        · next e => exact .inr e
        · cases h3
      · rw [hs]
        split at h3
        · next e => exact .inr e
        · next e =>
          split at h3
          · next e2 => exact .inl (hfn x e2)
          · cases h3
        · cases h3
theorem asg_len {sc orig : Scope} {env : Env} : ∀ {is : List Nat} {es : List Expr}, mNames M sc orig is es = true → (assignEach es env).length = is.length ∧ (assignEach es env).findIdx? (·.1) = none
  | [], [], _ => ⟨rfl, rfl⟩
  | [], _ :: _, h => by simp [mNames] at h
  | _ :: _, [], h => by simp [mNames] at h
  | i :: is, e :: es, h => by
    cases e <;> simp only [mNames] at h <;> try (cases h)
    next x p =>
      simp only [Bool.and_eq_true] at h
      obtain ⟨h1, h2⟩ := asg_len (env := env) h.2
      have e1 : assignEach (.Name x p :: es) env = (false, assign (.Name x p) env) :: assignEach es env := rfl
      rw [e1]
      exact ⟨by simp [h1], by rw [List.findIdx?_cons]; simp [h2]⟩
theorem pg_of {X : Cx} {sc orig : Scope} (hc : X.calm = true) (hN : X.N = M.N) (nd : M.N.Nodup) (hs : X.env.scope = sc) (hfn : ∀ x, orig.names.lookup x = some .cell → X.fn x = true) {tg : Tg} {e : Expr} (h : mTg M sc orig tg e = true) : PG X e (gOf X.K tg) := by
  cases tg with
  | one i =>
    cases e <;> simp only [mTg] at h <;> try (cases h)
    next x p =>
      have hh : mNames M sc orig [i] [.Name x p] = true := by simp [mNames, h]
      unfold locB at h
      simp only [Bool.and_eq_true, decide_eq_true_eq] at h
      obtain ⟨h1, h3⟩ := h
      refine pg_name (i := i) (by rw [hN]; exact nd) (by rw [hN]; exact h1) ?_ ?_
      · rw [hs]
        split at h3
        · next e => exact .inl e
        · next e => exact .inr e
        · cases h3
      · rw [hs]
        split at h3
        · next e => exact .inr e
        · next e =>
          split at h3
          · next e2 => exact .inl (hfn x e2)
          · cases h3
        · cases h3
  | many is =>
    cases e <;> simp only [mTg] at h <;> try (cases h)
    next es n p =>
      obtain ⟨h1, h2⟩ := asg_len (env := X.env) h
      exact pg_seq hc (pgs_of hN nd hs hfn h) h1 h2
theorem snd_at {X : Cx} {sc : Scope} {Wx : WX} (G : CxG W M cl gl k X sc Wx) {i : Nat} {x : Str} (h : slotB M sc i x = true) : X.N[i]? = some x ∧ Vis X.env.scope x ∧ (x == ("__debug__" : Str)) = false ∧ (x == ("__classdict__" : Str)) = false := by
  unfold slotB at h
  simp only [Bool.and_eq_true, decide_eq_true_eq] at h
  obtain ⟨⟨h1, h2⟩, h3⟩ := h
  obtain ⟨h4, h5, _⟩ := okN_ok h3
  exact ⟨by rw [G.N]; exact h1, by rw [G.sc]; exact visB_ok h2, h4, h5⟩
theorem mem_of {α : Type} [BEq α] [LawfulBEq α] {x : α} {l : List α} (h : l.contains x = true) : x ∈ l := by simpa using h
theorem mNm_ok {W : Wd} {M : MC} {cl : Calls} {gl : Str → Option D} {k : Nat} {X : Cx} {sc : Scope} {Wx : WX} (G : CxG W M cl gl k X sc Wx) : ∀ {fs : List Str} {l : List Expr}, mNm M sc fs l = true → NamesOk X M fs l
  | [], [], _ => trivial
  | [], _ :: _, h => by simp [mNm] at h
  | _ :: _, [], h => by simp [mNm] at h
  | f :: fs, e :: l, h => by
    cases e with
    | Name g p =>
      simp only [mNm, Bool.and_eq_true, decide_eq_true_eq] at h
      obtain ⟨⟨⟨⟨rfl, h2⟩, h3⟩, h4⟩, h5⟩ := h
      exact ⟨rfl, mem_of h2, glB_ok G.sc h3, (okN_ok h4).1, mNm_ok G h5⟩
    | _ => simp [mNm] at h

mutual
theorem sndE : ∀ (ie : E) {X : Cx} {sc : Scope} {Wx : WX} (_ : CxG W M cl gl k X sc Wx) {e : Expr}, mE W.own M sc ie e = true → SndE W cl gl X Wx e ie
  | .var i, X, sc, Wx, G, e, h => by
    simp only [mE] at h
    split at h
    · obtain ⟨h1, h2, h3, h4⟩ := snd_at G h
      exact snd_var h1 h2 h3 h4
    · cases h
  | .ref i, X, sc, Wx, G, e, h => by
    simp only [mE] at h
    split at h
    · obtain ⟨h1, h2, h3, h4⟩ := snd_at G h
      exact snd_ref h1 h2 h3 h4
    · cases h
  | .con d, X, sc, Wx, G, e, h => by
    simp only [mE] at h
    split at h
    · exact snd_con h
    · cases h
  | .glo x, X, sc, Wx, G, e, h => by
    simp only [mE] at h
    split at h
    · simp only [Bool.and_eq_true, decide_eq_true_eq] at h
      obtain ⟨⟨⟨rfl, h2⟩, h3⟩, h4⟩ := h
      exact snd_glo G (mem_of h3) (glB_ok G.sc h2) (okN_ok h4).1
    · cases h
  | .tup es, X, sc, Wx, G, e, h => by
    simp only [mE] at h
    split at h
    · exact snd_tup (sndEs es G h)
    · cases h
  | .lst es, X, sc, Wx, G, e, h => by
    simp only [mE] at h
    split at h
    · exact snd_lst (sndEs es G h)
    · cases h
  | .bin op a b, X, sc, Wx, G, e, h => by
    simp only [mE] at h
    split at h
    · simp only [Bool.and_eq_true] at h
      obtain ⟨⟨h1, h2⟩, h3⟩ := h
      rw [opB_ok h1]
      exact snd_bin G (sndE a G h2) (sndE b G h3)
    · cases h
  | .neg a, X, sc, Wx, G, e, h => by
    simp only [mE] at h
    split at h
    · exact snd_neg (sndE a G h)
    · cases h
  | .not a, X, sc, Wx, G, e, h => by
    simp only [mE] at h
    split at h
    · exact snd_not (sndE a G h)
    · cases h
  | .cmp op a b, X, sc, Wx, G, e, h => by
    simp only [mE] at h
    split at h
    · simp only [Bool.and_eq_true, Bool.not_eq_true'] at h
      obtain ⟨⟨⟨h1, h2⟩, h3⟩, h4⟩ := h
      have e1 := coB_ok h1
      subst e1
      exact snd_cmp G h2 (sndE a G h3) (sndE b G h4)
    · cases h
  | .chain p q a b c, X, sc, Wx, G, e, h => by
    simp only [mE] at h
    split at h
    · simp only [Bool.and_eq_true, Bool.not_eq_true'] at h
      obtain ⟨⟨⟨⟨⟨h1, h2⟩, h3⟩, h4⟩, h5⟩, h6⟩ := h
      have e1 := coB_ok h1
      have e2 := coB_ok h2
      subst e1 e2
      exact snd_chain h3 (sndE a G h4) (sndE b G h5) (sndE c G h6)
    · cases h
  | .and es, X, sc, Wx, G, e, h => by
    simp only [mE] at h
    split at h
    · exact sndAnd es G h
    · cases h
  | .or es, X, sc, Wx, G, e, h => by
    simp only [mE] at h
    split at h
    · exact sndOr es G h
    · cases h
  | .ite t a b, X, sc, Wx, G, e, h => by
    simp only [mE] at h
    split at h
    · simp only [Bool.and_eq_true] at h
      obtain ⟨⟨h1, h2⟩, h3⟩ := h
      exact snd_ite (sndT t G h1) (sndE a G h2) (sndE b G h3)
    · cases h
  | .call f es, X, sc, Wx, G, e, h => by
    simp only [mE] at h
    split at h
    · next g p l q =>
      simp only [Bool.and_eq_true, decide_eq_true_eq] at h
      obtain ⟨⟨⟨⟨⟨rfl, h2⟩, h3⟩, h4⟩, h5⟩, h6⟩ := h
      cases l with
      | nil =>
        cases es with
        | nil => exact snd_call0 G (mem_of h3) (glB_ok G.sc h2) (okN_ok h4).1
        | cons _ _ => simp [mEs] at h5
      | cons x l => exact snd_call G (mem_of h3) (glB_ok G.sc h2) (okN_ok h4).1 h6 (sndAs es G h5)
    · cases h
  | .new f es, X, sc, Wx, G, e, h => by
    simp only [mE] at h
    split at h
    · next g p l q =>
      simp only [Bool.and_eq_true, decide_eq_true_eq] at h
      obtain ⟨⟨⟨⟨⟨⟨rfl, h2⟩, h3⟩, h4⟩, h5⟩, h6⟩, h7⟩ := h
      cases l with
      | nil => simp at h7
      | cons x l => exact snd_new G (mem_of h3) (glB_ok G.sc h2) (okN_ok h4).1 h6 (sndEs es G h5)
    · cases h
  | .prop c p a, X, sc, Wx, G, e, h => by
    simp only [mE] at h
    split at h
    · simp only [Bool.and_eq_true, decide_eq_true_eq] at h
      obtain ⟨⟨⟨rfl, h2⟩, h3⟩, h4⟩ := h
      exact snd_prop G (mem_of h2) h3 (sndE a G h4)
    · cases h
  | .fld c a f, X, sc, Wx, G, e, h => by
    simp only [mE] at h
    split at h
    · simp only [Bool.and_eq_true, decide_eq_true_eq] at h
      obtain ⟨⟨⟨rfl, h2⟩, h3⟩, h4⟩ := h
      exact snd_fld G (mem_of h2) h3 (sndE a G h4)
    · cases h
  | .bi b es, X, sc, Wx, G, e, h => by
    simp only [mE] at h
    split at h
    · next g p l q =>
      simp only [Bool.and_eq_true, decide_eq_true_eq] at h
      obtain ⟨⟨⟨⟨rfl, h2⟩, h3⟩, h4⟩, h5⟩ := h
      cases l with
      | nil => simp at h5
      | cons x l => exact snd_bi G (glB_ok G.sc h2) h4 (sndRs es G h3)
    · cases h
  | .isi a c, X, sc, Wx, G, e, h => by
    simp only [mE] at h
    split at h
    · simp only [Bool.and_eq_true, decide_eq_true_eq] at h
      obtain ⟨⟨⟨⟨⟨⟨⟨rfl, rfl⟩, h2⟩, h3⟩, h4⟩, h5⟩, h6⟩, h7⟩ := h
      obtain ⟨d1, d2, d3⟩ := okN_ok h4
      unfold isiB at h5
      rw [Bool.or_eq_true] at h5
      rcases h5 with h5 | h5
      · have hm := mem_of h5
        simp only [biCls, List.map_cons, List.map_nil, List.mem_cons, List.not_mem_nil, or_false] at hm
        rcases hm with rfl | rfl | rfl | rfl | rfl
        · exact snd_isiB G (t := "int") (by decide) (by decide +kernel) (glB_ok G.sc h2) (glB_ok G.sc h3) d3 d1 h6 (by decide) (sndE a G h7)
        · exact snd_isiB G (t := "bool") (by decide) (by decide +kernel) (glB_ok G.sc h2) (glB_ok G.sc h3) d3 d1 h6 (by decide) (sndE a G h7)
        · exact snd_isiB G (t := "str") (by decide) (by decide +kernel) (glB_ok G.sc h2) (glB_ok G.sc h3) d3 d1 h6 (by decide) (sndE a G h7)
        · exact snd_isiB G (t := "tuple") (by decide) (by decide +kernel) (glB_ok G.sc h2) (glB_ok G.sc h3) d3 d1 h6 (by decide) (sndE a G h7)
        · exact snd_isiB G (t := "list") (by decide) (by decide +kernel) (glB_ok G.sc h2) (glB_ok G.sc h3) d3 d1 h6 (by decide) (sndE a G h7)
      · exact snd_isiO G (mem_of h5) (glB_ok G.sc h2) (glB_ok G.sc h3) d1 h6 (sndE a G h7)
    · cases h
  | .sub a b, X, sc, Wx, G, e, h => by
    simp only [mE] at h
    split at h
    · simp only [Bool.and_eq_true] at h
      obtain ⟨⟨h1, h2⟩, h3⟩ := h
      exact snd_sub G h1 (sndE a G h2) (sndE b G h3)
    · cases h
  | .sli a lo hi, X, sc, Wx, G, e, h => by
    simp only [mE] at h
    split at h
    · simp only [Bool.and_eq_true] at h
      obtain ⟨⟨h1, h2⟩, h3⟩ := h
      exact snd_sli G (sndE a G h1) (sndO lo G h2) (sndO hi G h3)
    · cases h
  | .lc elt tg it c, X, sc, Wx, G, e, h => by
    simp only [mE] at h
    split at h
    · next el t i ifs scope p =>
      simp only [Bool.and_eq_true] at h
      obtain ⟨⟨⟨⟨⟨h1, h2⟩, h3⟩, h4⟩, h5⟩, h6⟩ := h
      refine snd_lc (own := ownOf M tg) G (by rw [G.N, G.sc]; exact blkOk_by h1) (by simp [ownOf, Function.comp_def]) (sndI it G h3) (fun s H C cc fp => ?_) (fun s H C cc fp => sndOt c (G.blk scope s H C cc fp) h5) (fun s H C cc fp => sndE elt (G.blk scope s H C cc fp) h6) (noSet_ok h4)
      have G' := G.blk scope s H C cc fp
      exact pg_of (orig := scope) G'.calm G'.N G'.nd G'.sc (fun x hx => by show (scope.names.lookup x == some .cell) = true; rw [hx]; rfl) h2
    · cases h
  | .lc2 elt tg it tg1 it1, X, sc, Wx, G, e, h => by
    simp only [mE] at h
    split at h
    · next el t i t1 i1 scope p =>
      simp only [Bool.and_eq_true] at h
      obtain ⟨⟨⟨⟨⟨⟨⟨h1, h2⟩, h3⟩, h4⟩, h5⟩, h6⟩, h7⟩, h8⟩ := h
      refine snd_lc2 (own := ownOf M tg ++ ownOf M tg1) G (by rw [G.N, G.sc]; exact blkOk_by h1) (by simp [ownOf, Function.comp_def]) (sndI it G h3) (fun s H C cc fp => ?_) (fun s H C cc fp => sndI it1 (G.blk scope s H C cc fp) h6) (fun s H C cc fp => ?_) (fun s H C cc fp => sndE elt (G.blk scope s H C cc fp) h8) (noSet_ok h4) (fun env => noSet_ok h7)
      · have G' := G.blk scope s H C cc fp
        exact pg_of (orig := scope) G'.calm G'.N G'.nd G'.sc (fun x hx => by show (scope.names.lookup x == some .cell) = true; rw [hx]; rfl) h2
      · have G' := G.blk scope s H C cc fp
        exact pg_of (orig := scope) G'.calm G'.N G'.nd G'.sc (fun x hx => by show (scope.names.lookup x == some .cell) = true; rw [hx]; rfl) h5
    · cases h
  | .minN es, X, sc, Wx, G, e, h => by
    simp only [mE] at h
    split at h
    · next g p l q jj cp kp pos =>
      simp only [Bool.and_eq_true, decide_eq_true_eq] at h
      obtain ⟨⟨⟨⟨rfl, rfl⟩, h2⟩, h3⟩, h4⟩ := h
      obtain ⟨s1, s2⟩ := mEs_star h3
      match l, h4, h3, s1 with
      | [a], _, h3, s1 => exact snd_minN G (glB_ok G.sc h2) (by simpa using s1) (sndRs es G h3)
      | [], h4, _, _ => simp at h4
      | _ :: _ :: _, h4, _, _ => simp at h4
    · cases h
  | .itl o, X, sc, Wx, G, e, h => by
    simp only [mE] at h
    split at h
    · simp only [Bool.and_eq_true, decide_eq_true_eq] at h
      obtain ⟨⟨⟨⟨⟨rfl, rfl⟩, h2⟩, h3⟩, h4⟩, h5⟩ := h
      exact snd_itl G (glB_ok G.sc h2) h3 h4 (sndE o G h5)
    · cases h
  | .pick fs a, X, sc, Wx, G, e, h => by
    simp only [mE] at h
    split at h
    · simp only [Bool.and_eq_true, decide_eq_true_eq] at h
      obtain ⟨⟨⟨h1, h2⟩, h3⟩, h4⟩ := h
      exact snd_pick G (mNm_ok G h1) h2 h3 (sndE a G h4)
    · cases h
  | .tupR a, X, sc, Wx, G, e, h => by
    simp only [mE] at h
    split at h
    · simp only [Bool.and_eq_true, decide_eq_true_eq] at h
      obtain ⟨⟨⟨⟨⟨rfl, rfl⟩, h2⟩, h3⟩, h4⟩, h5⟩ := h
      exact snd_tupR G (glB_ok G.sc h2) (glB_ok G.sc h3) h4 (sndE a G h5)
    · cases h
  | .idx o a, X, sc, Wx, G, e, h => by
    simp only [mE] at h
    split at h
    · simp only [Bool.and_eq_true, decide_eq_true_eq] at h
      obtain ⟨⟨⟨⟨⟨rfl, h2⟩, h3⟩, h4⟩, h6⟩, h7⟩ := h
      exact snd_idx G h2 h3 h4 (sndE o G h6) (sndE a G h7)
    · cases h
  | .hold i a, X, sc, Wx, G, e, h => by
    simp only [mE, Bool.and_eq_true] at h
    exact snd_hold (sndE a G h.2)
  | .dicL a, X, sc, Wx, G, e, h => by
    simp only [mE] at h
    split at h
    · simp only [Bool.and_eq_true, decide_eq_true_eq] at h
      obtain ⟨⟨⟨rfl, h2⟩, h3⟩, h4⟩ := h
      exact snd_dicL G (glB_ok G.sc h2) h3 (sndE a G h4)
    · cases h
  | .dic0, X, sc, Wx, G, e, h => by
    simp only [mE] at h
    split at h
    · exact snd_dic0 G
    · cases h
  | .dic1 a b, X, sc, Wx, G, e, h => by
    simp only [mE] at h
    split at h
    · simp only [Bool.and_eq_true] at h
      exact snd_dic1 G (sndE a G h.1) (sndE b G h.2)
    · cases h
  | .get o a b, X, sc, Wx, G, e, h => by
    simp only [mE] at h
    split at h
    · simp only [Bool.and_eq_true, decide_eq_true_eq] at h
      obtain ⟨⟨⟨⟨⟨⟨⟨rfl, h2⟩, h3⟩, h4⟩, h5⟩, h6⟩, h7⟩, h8⟩ := h
      exact snd_get G h2 h3 h4 h5 (sndE o G h6) (sndE a G h7) (sndE b G h8)
    · cases h
  | .dc a b tg it, X, sc, Wx, G, e, h => by
    simp only [mE] at h
    split at h
    · next x y t i scope p =>
      simp only [Bool.and_eq_true] at h
      obtain ⟨⟨⟨⟨⟨h1, h2⟩, h3⟩, h4⟩, h5⟩, h6⟩ := h
      refine snd_dc (own := ownOf M tg) G (by rw [G.N, G.sc]; exact blkOk_by h1) (by simp [ownOf, Function.comp_def]) (sndI it G h3) (fun s H C cc fp => ?_) (fun s H C cc fp => sndE a (G.blk scope s H C cc fp) h5) (fun s H C cc fp => sndE b (G.blk scope s H C cc fp) h6) (noSet_ok h4)
      have G' := G.blk scope s H C cc fp
      exact pg_of (orig := scope) G'.calm G'.N G'.nd G'.sc (fun x hx => by show (scope.names.lookup x == some .cell) = true; rw [hx]; rfl) h2
    · cases h
theorem sndT : ∀ (it : T) {X : Cx} {sc : Scope} {Wx : WX} (_ : CxG W M cl gl k X sc Wx) {e : Expr}, mT W.own M sc it e = true → SndT W cl gl X Wx e it
  | .e a, X, sc, Wx, G, e, h => by
    simp only [mT, Bool.and_eq_true] at h
    exact snd_tru G h.1 (sndE a G h.2)
  | .cmp op a b, X, sc, Wx, G, e, h => by
    simp only [mT] at h
    split at h
    · simp only [Bool.and_eq_true, Bool.not_eq_true'] at h
      obtain ⟨⟨⟨h1, h2⟩, h3⟩, h4⟩ := h
      have e1 := coB_ok h1
      subst e1
      exact snd_cmpT G h2 (sndE a G h3) (sndE b G h4)
    · cases h
  | .inR neg a b, X, sc, Wx, G, e, h => by
    simp only [mT] at h
    split at h
    · simp only [Bool.and_eq_true, decide_eq_true_eq] at h
      obtain ⟨⟨⟨⟨⟨h1, h2⟩, h3⟩, h4⟩, h5⟩, h6⟩ := h
      subst h2
      refine snd_inR G ?_ (glB_ok G.sc h3) h4 (sndE a G h5) (sndE b G h6)
      split at h1
      · exact .inl ⟨rfl, rfl⟩
      · exact .inr ⟨rfl, rfl⟩
      · cases h1
    · cases h
  | .chain p q a b c, X, sc, Wx, G, e, h => by
    simp only [mT] at h
    split at h
    · simp only [Bool.and_eq_true, Bool.not_eq_true'] at h
      obtain ⟨⟨⟨⟨⟨h1, h2⟩, h3⟩, h4⟩, h5⟩, h6⟩ := h
      have e1 := coB_ok h1
      have e2 := coB_ok h2
      subst e1 e2
      exact snd_chainT h3 (sndE a G h4) (sndE b G h5) (sndE c G h6)
    · cases h
  | .not t, X, sc, Wx, G, e, h => by
    simp only [mT] at h
    split at h
    · exact snd_notT (sndT t G h)
    · cases h
  | .and ts, X, sc, Wx, G, e, h => by
    simp only [mT] at h
    split at h
    · exact (sndAndT ts G h).t fun S => by simp only [evT]
    · cases h
  | .or ts, X, sc, Wx, G, e, h => by
    simp only [mT] at h
    split at h
    · exact (sndOrT ts G h).t fun S => by simp only [evT]
    · cases h
theorem sndAndT : ∀ (ts : Ts) {X : Cx} {sc : Scope} {Wx : WX} (_ : CxG W M cl gl k X sc Wx) {l : List Expr} {p : Pos}, mTs W.own M sc ts l = true → SndW W cl gl X Wx (.BoolOp .And l p) (evAndT cl gl ts)
  | .nil, X, sc, Wx, G, l, p, h => by simp [mTs] at h
  | .cons t .nil, X, sc, Wx, G, l, p, h => by
    simp only [mTs] at h
    split at h
    · exact snd_and1 (sndT t G h)
    · cases h
  | .cons t (.cons t2 ts), X, sc, Wx, G, l, p, h => by
    simp only [mTs] at h
    split at h
    · next x r =>
      simp only [Bool.and_eq_true] at h
      cases r with
      | nil => have := h.2; cases ts <;> simp [mTs] at this
      | cons y r => exact snd_andT (sndT t G h.1) (sndAndT (.cons t2 ts) G h.2)
    · cases h
theorem sndOrT : ∀ (ts : Ts) {X : Cx} {sc : Scope} {Wx : WX} (_ : CxG W M cl gl k X sc Wx) {l : List Expr} {p : Pos}, mTs W.own M sc ts l = true → SndW W cl gl X Wx (.BoolOp .Or l p) (evOrT cl gl ts)
  | .nil, X, sc, Wx, G, l, p, h => by simp [mTs] at h
  | .cons t .nil, X, sc, Wx, G, l, p, h => by
    simp only [mTs] at h
    split at h
    · exact snd_or1 (sndT t G h)
    · cases h
  | .cons t (.cons t2 ts), X, sc, Wx, G, l, p, h => by
    simp only [mTs] at h
    split at h
    · next x r =>
      simp only [Bool.and_eq_true] at h
      cases r with
      | nil => have := h.2; cases ts <;> simp [mTs] at this
      | cons y r => exact snd_orT (sndT t G h.1) (sndOrT (.cons t2 ts) G h.2)
    · cases h
theorem sndAnd : ∀ (es : Es) {X : Cx} {sc : Scope} {Wx : WX} (_ : CxG W M cl gl k X sc Wx) {l : List Expr} {p : Pos}, mAnd W.own M sc es l = true → SndE W cl gl X Wx (.BoolOp .And l p) (.and es)
  | .nil, X, sc, Wx, G, l, p, h => by simp [mAnd] at h
  | .cons e .nil, X, sc, Wx, G, l, p, h => by
    simp only [mAnd] at h
    split at h
    · intro pv ow H S σ Q r hp
      exact snd_one (sndE e G h) pv ow H S σ Q r (by simpa only [evE, evAnd] using hp)
    · cases h
  | .cons e (.cons e2 es), X, sc, Wx, G, l, p, h => by
    simp only [mAnd] at h
    split at h
    · next x r =>
      simp only [Bool.and_eq_true] at h
      cases r with
      | nil => have := h.2; cases es <;> simp [mAnd] at this
      | cons y r =>
        intro pv ow H S σ Q r hp
        exact snd_and (sndE e G h.1) (fun pv ow H S σ Q r hp => sndAnd (.cons e2 es) G h.2 pv ow H S σ Q r (by simpa only [evE] using hp)) pv ow H S σ Q r (by simpa only [evE] using hp)
    · cases h
theorem sndOr : ∀ (es : Es) {X : Cx} {sc : Scope} {Wx : WX} (_ : CxG W M cl gl k X sc Wx) {l : List Expr} {p : Pos}, mAnd W.own M sc es l = true → SndE W cl gl X Wx (.BoolOp .Or l p) (.or es)
  | .nil, X, sc, Wx, G, l, p, h => by simp [mAnd] at h
  | .cons e .nil, X, sc, Wx, G, l, p, h => by
    simp only [mAnd] at h
    split at h
    · intro pv ow H S σ Q r hp
      exact snd_one (sndE e G h) pv ow H S σ Q r (by simpa only [evE, evOr] using hp)
    · cases h
  | .cons e (.cons e2 es), X, sc, Wx, G, l, p, h => by
    simp only [mAnd] at h
    split at h
    · next x r =>
      simp only [Bool.and_eq_true] at h
      cases r with
      | nil => have := h.2; cases es <;> simp [mAnd] at this
      | cons y r =>
        intro pv ow H S σ Q r hp
        exact snd_or (sndE e G h.1) (fun pv ow H S σ Q r hp => sndOr (.cons e2 es) G h.2 pv ow H S σ Q r (by simpa only [evE] using hp)) pv ow H S σ Q r (by simpa only [evE] using hp)
    · cases h
theorem sndEs : ∀ (es : Es) {X : Cx} {sc : Scope} {Wx : WX} (_ : CxG W M cl gl k X sc Wx) {l : List Expr}, mEs W.own M sc es l = true → SndEs W cl gl X Wx l es
  | .nil, X, sc, Wx, G, l, h => by
    simp only [mEs] at h
    cases l with
    | nil => exact snd_nil
    | cons _ _ => cases h
  | .cons e es, X, sc, Wx, G, l, h => by
    simp only [mEs] at h
    split at h
    · simp only [Bool.and_eq_true] at h
      exact snd_cons h.1.1 (sndE e G h.1.2) (sndEs es G h.2)
    · cases h
theorem sndRs : ∀ (es : Es) {X : Cx} {sc : Scope} {Wx : WX} (_ : CxG W M cl gl k X sc Wx) {l : List Expr}, mEs W.own M sc es l = true → SndRs W cl gl X Wx l es
  | .nil, X, sc, Wx, G, l, h => by
    simp only [mEs] at h
    cases l with
    | nil => exact snd_nilR
    | cons _ _ => cases h
  | .cons e es, X, sc, Wx, G, l, h => by
    simp only [mEs] at h
    split at h
    · simp only [Bool.and_eq_true] at h
      exact snd_consR h.1.1 (sndE e G h.1.2) (sndRs es G h.2)
    · cases h
theorem sndAs : ∀ (es : Es) {X : Cx} {sc : Scope} {Wx : WX} (_ : CxG W M cl gl k X sc Wx) {l : List Expr}, mEs W.own M sc es l = true → SndAs W cl gl X Wx l es
  | .nil, X, sc, Wx, G, l, h => by
    simp only [mEs] at h
    cases l with
    | nil => exact snd_nilA
    | cons _ _ => cases h
  | .cons e es, X, sc, Wx, G, l, h => by
    simp only [mEs] at h
    split at h
    · simp only [Bool.and_eq_true] at h
      exact snd_consA h.1.1 (sndE e G h.1.2) (sndAs es G h.2)
    · cases h
theorem sndO : ∀ (o : Oe) {X : Cx} {sc : Scope} {Wx : WX} (_ : CxG W M cl gl k X sc Wx) {e : Option Expr}, mO W.own M sc o e = true → SndO W cl gl X Wx e o
  | .none, X, sc, Wx, G, e, h => by
    simp only [mO] at h
    cases e with
    | none => exact snd_o0
    | some _ => cases h
  | .some a, X, sc, Wx, G, e, h => by
    simp only [mO] at h
    split at h
    · exact snd_o1 (sndE a G h)
    · cases h
theorem sndOt : ∀ (o : Ot) {X : Cx} {sc : Scope} {Wx : WX} (_ : CxG W M cl gl k X sc Wx) {l : List Expr}, mOt W.own M sc o l = true → SndOt W cl gl X Wx l o
  | .none, X, sc, Wx, G, l, h => by
    simp only [mOt] at h
    cases l with
    | nil => exact snd_ot0
    | cons _ _ => cases h
  | .some t, X, sc, Wx, G, l, h => by
    simp only [mOt] at h
    split at h
    · exact snd_ot1 (sndT t G h)
    · cases h
theorem sndI : ∀ (it : It) {X : Cx} {sc : Scope} {Wx : WX} (_ : CxG W M cl gl k X sc Wx) {t e : Expr}, mI W.own M sc it t e = true → SndI W cl gl X Wx t e it
  | .seq a, X, sc, Wx, G, t, e, h => by
    simp only [mI] at h
    exact snd_seq G (sndE a G h)
  | .rng es, X, sc, Wx, G, t, e, h => by
    simp only [mI] at h
    split at h
    · next g p l q =>
      simp only [Bool.and_eq_true, decide_eq_true_eq] at h
      obtain ⟨⟨⟨rfl, h2⟩, h3⟩, h4⟩ := h
      obtain ⟨s1, s2⟩ := mEs_star h3
      match l, h4, h3, s1, s2 with
      | [a], _, h3, s1, s2 => exact snd_rng1 G s2 (glB_ok G.sc h2) (by simpa using s1) (sndEs es G h3)
      | [a, b], _, h3, s1, s2 => exact snd_rng2 G s2 (glB_ok G.sc h2) (by simp at s1; exact s1.1) (by simp at s1; exact s1.2) (sndEs es G h3)
      | [a, b, c], _, h3, s1, s2 => exact snd_rng3 G s2 (glB_ok G.sc h2) (by simp at s1; exact s1.1) (by simp at s1; exact s1.2.1) (by simp at s1; exact s1.2.2) (sndEs es G h3)
      | [], h4, _, _, _ => simp at h4
      | _ :: _ :: _ :: _ :: _, h4, _, _, _ => simp at h4
    · cases h
  | .enm es, X, sc, Wx, G, t, e, h => by
    simp only [mI] at h
    split at h
    · next g p l q =>
      simp only [Bool.and_eq_true, decide_eq_true_eq] at h
      obtain ⟨⟨⟨⟨h0, rfl⟩, h2⟩, h3⟩, h4⟩ := h
      obtain ⟨s1, s2⟩ := mEs_star h3
      cases t <;> simp only [isTupT] at h0 <;> try (cases h0)
      match l, h4, h3, s1, s2 with
      | [a], _, h3, s1, s2 => exact snd_enm G (glB_ok G.sc h2) (by simpa using s1) (sndEs es G h3)
      | [], h4, _, _, _ => simp at h4
      | _ :: _ :: _, h4, _, _, _ => simp at h4
    · cases h
  | .zip es, X, sc, Wx, G, t, e, h => by
    simp only [mI] at h
    split at h
    · next g p l q =>
      simp only [Bool.and_eq_true, decide_eq_true_eq] at h
      obtain ⟨⟨⟨⟨h0, rfl⟩, h2⟩, h3⟩, h4⟩ := h
      obtain ⟨s1, s2⟩ := mEs_star h3
      cases t <;> simp only [isTupT] at h0 <;> try (cases h0)
      match l, h4, h3, s1, s2 with
      | [a, b], _, h3, s1, s2 => exact snd_zip G (glB_ok G.sc h2) (by simp at s1; exact s1.1) (by simp at s1; exact s1.2) (sndEs es G h3)
      | [], h4, _, _, _ => simp at h4
      | [_], h4, _, _, _ => simp at h4
      | _ :: _ :: _ :: _, h4, _, _, _ => simp at h4
    · cases h
  | .rev a, X, sc, Wx, G, t, e, h => by
    simp only [mI] at h
    split at h
    · simp only [Bool.and_eq_true, decide_eq_true_eq] at h
      obtain ⟨⟨⟨⟨⟨rfl, rfl⟩, h2⟩, h3⟩, h4⟩, h5⟩ := h
      exact snd_rev G (glB_ok G.sc h2) (glB_ok G.sc h3) h4 (sndE a G h5)
    · cases h
end
end
end Ev

/-! EvL: statements. -/
namespace Ev
open PySem PySem.Spec PyProof.Rows L2

/-- what stood at the def's entry is nobody's but the callers' -/
def Ent (pv : Nat → Option V) (H0 : Hp) (ow : Ow) (H : Hp) : Prop := ∀ p, H0 p ≠ none → H p ≠ none ∧ (ow p = .fz ∨ ow p = .fo ∨ ow p = .tm ∨ ∃ i v, pv i = some v ∧ ow p = .sl i)
/-- a cell in hand; t: the tag of what it owns -/
def CellT (W : Wd) (ow : Ow) (H : Hp) (t : Addr → Prop) : Cell → V → Prop
  | .val d, v => Rep W ow H d v
  | .own o, v => ObRep W ow H t o v
  | _, _ => False
def PostS (W : Wd) (pv : Nat → Option V) (H0 : Hp) (ow : Ow) (H : Hp) (Wx : WX) (o : Fl) (D : Ends) : Prop := match o with
  | .nx S' => ∀ σ' ow' H', Step ow H ow' H' → Rel W pv ow' H' S' σ' → D.nx σ' H'
  | .brk S' => ∀ σ' ow' H', Step ow H ow' H' → Rel W pv ow' H' S' σ' → D.bk σ' H'
  | .cnt S' => ∀ σ' ow' H', Step ow H ow' H' → Rel W pv ow' H' S' σ' → D.ct σ' H'
  | .ret r S' => ∀ v σ' ow' H', Step ow H ow' H' → Rel W pv ow' H' S' σ' → RCRep W H0 ow' H' r v → D.rt v H'
  | .exc c fs S' => ∀ cls d σ' ow' H', Step ow H ow' H' → Rel W pv ow' H' S' σ' → ExRep W ow' H' c fs cls d → Wx cls d σ' H'
  | .bad => False
def SndS (W : Wd) (cl : Calls) (gl : Str → Option D) (X : Cx) (Wx : WX) (st : Stmt) (is : St) : Prop := ∀ (pv : Nat → Option V) (H0 : Hp) (ow : Ow) (H : Hp) (S : Fr) (σ : L2.St) (D : Ends), Ent pv H0 ow H → Rel W pv ow H S σ → PostS W pv H0 ow H Wx (exS cl gl is S) D → RS X st D σ H
def SndSs (W : Wd) (cl : Calls) (gl : Str → Option D) (X : Cx) (Wx : WX) (sts : List Stmt) (iss : Ss) : Prop := ∀ (pv : Nat → Option V) (H0 : Hp) (ow : Ow) (H : Hp) (S : Fr) (σ : L2.St) (D : Ends), Ent pv H0 ow H → Rel W pv ow H S σ → PostS W pv H0 ow H Wx (exSs cl gl iss S) D → RSs X sts D σ H
section
variable {W : Wd} {pv : Nat → Option V} {H0 : Hp} {ow ow1 : Ow} {H H1 : Hp} {S S1 : Fr} {σ : L2.St} {Wx : WX}
theorem Ent.step (e : Ent pv H0 ow H) (k : Step ow H ow1 H1) : Ent pv H0 ow1 H1 := fun p hp => by
  obtain ⟨h1, h2⟩ := e p hp
  refine ⟨(k p h1).1, ?_⟩
  rcases h2 with h2 | h2 | h2 | ⟨i, v, hv, h2⟩
  · exact .inl (k.tag h1 h2 (by simp)).2
  · exact .inr (.inl (k.tag h1 h2 (by simp)).2)
  · exact .inr (.inr (.inl (k.tag h1 h2 (by simp)).2))
  · rcases (k p h1).2.2 i h2 with q | q | q
    · exact .inr (.inr (.inr ⟨i, v, hv, q⟩))
    · exact .inl q
    · exact .inr (.inr (.inl q))
theorem PostS.re {o : Fl} {D : Ends} (h : PostS W pv H0 ow H Wx o D) (k : Step ow H ow1 H1) : PostS W pv H0 ow1 H1 Wx o D := by
  cases o with
  | nx S' => exact fun σ' ow' H' k' r => h σ' ow' H' (k.trans k') r
  | brk S' => exact fun σ' ow' H' k' r => h σ' ow' H' (k.trans k') r
  | cnt S' => exact fun σ' ow' H' k' r => h σ' ow' H' (k.trans k') r
  | ret r S' => exact fun v σ' ow' H' k' r => h v σ' ow' H' (k.trans k') r
  | exc c fs S' => exact fun cls d σ' ow' H' k' r => h cls d σ' ow' H' (k.trans k') r
  | bad => exact h
/-- an evaluation, then the rest of the statement -/
theorem PostS.seq {α β : Type} {rep1 : Ow → Hp → α → β → Prop} {x : Out α} {f : α → Fr → Fl} {D : Ends} (h : PostS W pv H0 ow H Wx (Fl.bindO x f) D) :
    Post W pv ow H σ Wx rep1 x (fun b H1 => ∃ a S1 ow1, x = .ok a S1 ∧ Step ow H ow1 H1 ∧ Rel W pv ow1 H1 S1 σ ∧ rep1 ow1 H1 a b ∧ PostS W pv H0 ow H Wx (f a S1) D) := by
  cases x with
  | ok a S1 => exact fun b ow' H' k r p => ⟨a, S1, ow', rfl, k, r, p, h⟩
  | exc c fs S1 => exact fun cls d ow' H' k r p => h cls d σ ow' H' k r p
  | bad => exact h
theorem PostS.seq2 {α β : Type} {rep1 : Ow → Hp → α → β → Prop} {x : Out α} {f : α → Fr → Fl} {D : Ends} (h : PostS W pv H0 ow H Wx (Fl.bindO x f) D) (k1 : Step ow H ow1 H1) :
    Post W pv ow1 H1 σ Wx rep1 x (fun b H2 => ∃ a S1 ow2, x = .ok a S1 ∧ Step ow1 H1 ow2 H2 ∧ Rel W pv ow2 H2 S1 σ ∧ rep1 ow2 H2 a b ∧ PostS W pv H0 ow H Wx (f a S1) D) := by
  cases x with
  | ok a S1 => exact fun b ow' H' k r p => ⟨a, S1, ow', rfl, k, r, p, h⟩
  | exc c fs S1 => exact fun cls d ow' H' k r p => h cls d σ ow' H' (k1.trans k) r p
  | bad => exact h
theorem PostS.esc {owa : Ow} {Ha : Hp} {x : R} {v : V} {f : D → Fr → Fl} {D : Ends} (r : Rel W pv ow1 H1 S σ) (k : Step owa Ha ow1 H1) (p : RRep W Ha ow1 H1 σ x v) (h : PostS W pv H0 ow H Wx (Fl.bindO (Ev.esc x S) f) D) :
    ∃ d S1 ow2, Step owa Ha ow2 H1 ∧ Keep ow1 H1 ow2 H1 ∧ Rel W pv ow2 H1 S1 σ ∧ Rep W ow2 H1 d v ∧ PostS W pv H0 ow H Wx (f d S1) D := by
  cases e : Ev.esc x S with
  | ok d S1 =>
    obtain ⟨ow2, k1, kp, r1, p1⟩ := esc_ok r k p e
    rw [e] at h
    exact ⟨d, S1, ow2, k1, kp, r1, p1, h⟩
  | exc c fs S1 => exact absurd e esc_noexc
  | bad => rw [e] at h; exact False.elim h

/-! ### a slot that owns -/
open Classical in
/-- the new temporaries go to a slot -/
noncomputable def owTake (Ha : Hp) (t : Tag) (ow : Ow) : Ow := fun p => if ow p = .tm ∧ Ha p = none then t else ow p
theorem owTake_keep {Ha : Hp} {t : Tag} : Keep ow H (owTake Ha t ow) H := fun p _ e => ⟨rfl, by unfold owTake; rw [if_neg (by rw [e]; simp)]; exact e⟩
theorem owTake_step {Ha : Hp} {t : Tag} {owa : Ow} (k : Step owa Ha ow H) : Step owa Ha (owTake Ha t ow) H := fun p hp => by
  have e : owTake Ha t ow p = ow p := by unfold owTake; rw [if_neg (fun z => hp z.2)]
  rw [e]
  exact k p hp
theorem owTake_rel {Ha : Hp} {t : Tag} (r : Rel W pv ow H S σ) : Rel W pv (owTake Ha t ow) H S σ := by
  have kt : ∀ i p, H p ≠ none → ow p = .sl i → H p = H p ∧ owTake Ha t ow p = .sl i := fun i p _ e => ⟨rfl, by unfold owTake; rw [if_neg (by rw [e]; simp)]; exact e⟩
  refine ⟨r.len, fun j c hc => ?_, r.par, r.unpar⟩
  obtain ⟨v, hv, q⟩ := r.cell j c hc
  refine ⟨v, hv, ?_⟩
  cases c with
  | val d => exact Rep.keep owTake_keep q
  | own o => exact ObRep.keep owTake_keep (kt j) q
  | par o => exact ObRep.keep owTake_keep (kt j) q
  | exc _ _ => exact q
/-- a cell in hand is put into a slot -/
theorem put_cell (r : Rel W pv ow H S σ) {i : Nat} {c : Cell} {v : V} (hc : ∀ o, c ≠ .par o) (h : CellRep W ow H i c v) (e : putC S i c = some S1) : Rel W pv ow H S1 (σ.set i (some v)) := by
  unfold putC at e
  split at e
  · cases e
  · next hn =>
    cases e
    refine ⟨by simp [setC, r.len], fun j c' hc' => ?_, fun j u hu => ?_, fun j o hc' => ?_⟩
    · by_cases hj : i = j
      · subst hj
        have hlt : i < S.length := by
          have := getC_lt hc'
          simpa [setC] using this
        rw [getC_set_self hlt] at hc'
        cases hc'
        exact ⟨v, List.getElem?_set_self (by rw [← r.len]; exact hlt), h⟩
      · rw [getC_set_ne hj] at hc'
        obtain ⟨u, hu, q⟩ := r.cell j c' hc'
        exact ⟨u, by rw [List.getElem?_set_ne hj]; exact hu, q⟩
    · obtain ⟨o, h1, h2⟩ := r.par j u hu
      have hj : i ≠ j := fun z => hn o (z ▸ h1)
      exact ⟨o, by rw [getC_set_ne hj]; exact h1, by rw [List.getElem?_set_ne hj]; exact h2⟩
    · by_cases hj : i = j
      · subst hj
        have hlt : i < S.length := by
          have := getC_lt hc'
          simpa [setC] using this
        rw [getC_set_self hlt] at hc'
        exact absurd (Option.some.inj hc') (hc o)
      · rw [getC_set_ne hj] at hc'
        exact r.unpar j o hc'
/-- a result goes to a slot (or waits with the tag t) -/
theorem asg_cell {owa : Ow} {Ha : Hp} {z : Bool} {x : R} {v : V} {c : Cell} {t : Tag} (r : Rel W pv ow H S σ) (k : Step owa Ha ow H) (p : RRep W Ha ow H σ x v) (e : asgR z x S = .ok c S1) :
    ∃ ow', Step owa Ha ow' H ∧ Keep ow H ow' H ∧ Rel W pv ow' H S1 σ ∧ CellT W ow' H (fun q => ow' q = t ∧ Ha q = none) c v := by
  cases z with
  | true =>
    simp only [asgR] at e
    cases he : Ev.esc x S with
    | ok d S2 =>
      rw [he] at e
      cases e
      obtain ⟨ow2, k1, kp, r1, p1⟩ := esc_ok r k p he
      exact ⟨ow2, k1, kp, r1, p1⟩
    | exc _ _ _ => exact absurd he esc_noexc
    | bad => rw [he] at e; cases e
  | false =>
    cases x with
    | val d => simp only [asgR] at e; cases e; exact ⟨ow, k, fun _ _ q => ⟨rfl, q⟩, r, p⟩
    | tmp o =>
      simp only [asgR] at e
      cases e
      refine ⟨owTake Ha t ow, owTake_step k, owTake_keep, owTake_rel r, ?_⟩
      exact ObRep.keep owTake_keep (fun q _ z => ⟨rfl, by unfold owTake; rw [if_pos z], z.2⟩) p
    | bor i => simp only [asgR] at e; cases e
theorem asg_noexc {z : Bool} {x : R} {c : Str} {fs : List (Str × D)} : asgR z x S ≠ .exc c fs S1 := by
  intro e
  cases z with
  | true =>
    simp only [asgR] at e
    cases he : Ev.esc x S with
    | ok d S2 => rw [he] at e; cases e
    | exc _ _ _ => exact absurd he esc_noexc
    | bad => rw [he] at e; cases e
  | false => cases x <;> simp only [asgR] at e <;> cases e
end

/-! ### plain statements -/
section
variable {W : Wd} {M : MC} {cl : Calls} {gl : Str → Option D} {k : Nat} {X : Cx} {sc : Scope} {Wx : WX} {e a b c tgE iter elt : Expr} {ia ib ic : E} {pos p1 p2 p3 : Pos} {sts sts2 : List Stmt} {st : Stmt} {iss iss2 : Ss} {is : St}
theorem snd_snil : SndSs W cl gl X Wx [] .nil := fun pv H0 ow H S σ D en r h => RSs.of pss_nil (h σ ow H Step.refl r)
theorem exS_seq {D : Ends} {pv : Nat → Option V} {H0 : Hp} {ow : Ow} {H : Hp} {x : Fl} {f : Fr → Fl} (h : PostS W pv H0 ow H Wx (match x with | .nx S => f S | y => y) D) (P : L2.St → Hp → Prop) (hP : ∀ S', x = .nx S' → ∀ σ' ow' H', Step ow H ow' H' → Rel W pv ow' H' S' σ' → PostS W pv H0 ow H Wx (f S') D → P σ' H') :
    PostS W pv H0 ow H Wx x { D with nx := P } := by
  cases x with
  | nx S' => exact fun σ' ow' H' k r => hP S' rfl σ' ow' H' k r h
  | brk S' => exact h
  | cnt S' => exact h
  | ret r S' => exact h
  | exc c fs S' => exact h
  | bad => exact h
theorem snd_scons (h1 : SndS W cl gl X Wx st is) (h2 : SndSs W cl gl X Wx sts iss) : SndSs W cl gl X Wx (st :: sts) (.cons is iss) := by
  intro pv H0 ow H S σ D en r h
  refine RSs.of (pss_cons ps_RS pss_RS) ?_
  simp only [exSs] at h
  exact h1 pv H0 ow H S σ _ en r (exS_seq h _ fun S' _ σ' ow' H' k r' h' => h2 pv H0 ow' H' S' σ' D (en.step k) r' (h'.re k))
/-- a statement that only forgets -/
theorem snd_kill {ks : List Nat} (h2 : SndSs W cl gl X Wx sts iss) : SndSs W cl gl X Wx sts (.cons (.kill ks) iss) := by
  intro pv H0 ow H S σ D en r h
  simp only [exSs, exS] at h
  exact h2 pv H0 ow H _ σ D en (r.kill ks) h
theorem snd_pas : SndS W cl gl X Wx (.Pass pos) .pas := fun pv H0 ow H S σ D en r h => RS.of ps_pass (h σ ow H Step.refl r)
theorem snd_brk : SndS W cl gl X Wx (.Break pos) .brk := fun pv H0 ow H S σ D en r h => RS.of ps_break (h σ ow H Step.refl r)
theorem snd_retN : SndS W cl gl X Wx (.Return none pos) .retN := fun pv H0 ow H S σ D en r h => RS.of ps_retN (h .non σ ow H Step.refl r .non)
def noComp : Expr → Bool
  | .ListComp _ _ _ _ => false
  | .SetComp _ _ _ _ => false
  | .DictComp _ _ _ _ _ => false
  | _ => true
theorem swaps_no {t : Option Expr} {n : Nat} {env : Env} (h : noComp e = true) : swapsWith e t n env = pure false := by
  cases e <;> first | rfl | cases h
theorem swaps_tup {ts : List Expr} {kk n : Nat} {env : Env} : swapsWithSole [.Tuple ts kk p1] e n env = pure false := by
  cases e <;> rfl
theorem snd_exp (hn : noComp a = true) (ha : SndE W cl gl X Wx a ia) : SndS W cl gl X Wx (.Expr a pos) (.exp ia) := by
  intro pv H0 ow H S σ D en r h
  simp only [exS] at h
  refine RS.of (ps_expr pe_RE (swaps_no hn)) (RE.mono (ha pv ow H S σ _ r (PostS.seq h)) ?_)
  rintro v H1 ⟨x, S1, ow1, -, k1, r1, p1, h1⟩
  exact h1 σ ow1 H1 k1 r1
theorem snd_ife {it : T} (hc : SndT W cl gl X Wx c it) (h1 : SndSs W cl gl X Wx sts iss) (h2 : SndSs W cl gl X Wx sts2 iss2) : SndS W cl gl X Wx (.If c sts sts2 pos) (.ife it iss iss2) := by
  intro pv H0 ow H S σ D en r h
  simp only [exS] at h
  refine RS.of (ps_if pt_RT pss_RS pss_RS) (RT.mono (hc pv ow H S σ _ r (PostS.seq h)) ?_)
  rintro v H1 ⟨x, S1, ow1, -, k1, r1, p1, h3⟩
  subst p1
  cases x with
  | true => rw [if_pos rfl] at h3 ⊢; exact h1 pv H0 ow1 H1 S1 σ D (en.step k1) r1 (h3.re k1)
  | false => rw [if_neg (by simp)] at h3 ⊢; exact h2 pv H0 ow1 H1 S1 σ D (en.step k1) r1 (h3.re k1)
open Classical in
/-- a slot's object goes out -/
noncomputable def owTo (i : Nat) (ow : Ow) : Ow := fun p => if ow p = .sl i then .tm else ow p
theorem snd_ret {z : Bool} (ha : SndE W cl gl X Wx a ia) : SndS W cl gl X Wx (.Return (some a) pos) (.ret z ia) := by
  intro pv H0 ow H S σ D en r h
  simp only [exS] at h
  refine RS.of (ps_ret pe_RE) (RE.mono (ha pv ow H S σ _ r (PostS.seq h)) ?_)
  rintro v H1 ⟨x, S1, ow1, -, k1, r1, p1, h1⟩
  have hH0 : ∀ p, H p = none → H0 p = none := fun p hp => by
    cases q : H0 p with
    | none => rfl
    | some o => exact absurd hp (en p (by rw [q]; simp)).1
  split at h1
  · obtain ⟨d, S2, ow2, k2, _, r2, p2, h2⟩ := PostS.esc r1 k1 p1 h1
    exact h2 v σ ow2 H1 k2 r2 p2
  · exact h1 v σ ow1 H1 k1 r1 p1
  · exact h1 v σ ow1 H1 k1 r1 (ObRep.keep (fun _ _ q => ⟨rfl, q⟩) (fun p _ q => ⟨rfl, q.1, hH0 p q.2⟩) p1)
  · next i =>
    split at h1
    · next o hc =>
      obtain ⟨u, hu, q⟩ := r1.cell i _ hc
      have hv : σ[i]? = some (some v) := p1
      rw [hv] at hu
      cases hu
      have hpv : pv i = none := by
        cases e : pv i with
        | none => rfl
        | some w =>
          obtain ⟨o', z, _⟩ := r1.par i w e
          rw [hc] at z
          cases z
      have hnew : ∀ p, ow1 p = .sl i → H0 p = none := fun p hp => by
        cases z : H0 p with
        | none => rfl
        | some o' =>
          rcases (en.step k1 p (by rw [z]; simp)).2 with q | q | q | ⟨j, w, hw, q⟩
          · rw [hp] at q; cases q
          · rw [hp] at q; cases q
          · rw [hp] at q; cases q
          · rw [hp] at q
            cases q
            rw [hpv] at hw
            cases hw
      have hk : Keep ow1 H1 (owTo i ow1) H1 := fun p _ e => ⟨rfl, by unfold owTo; rw [if_neg (by rw [e]; simp)]; exact e⟩
      have hst : Step ow1 H1 (owTo i ow1) H1 := fun p hp => by
        refine ⟨hp, fun e => ⟨rfl, by unfold owTo; rw [if_neg (e i)]⟩, fun j e => ?_⟩
        unfold owTo
        split
        · exact .inr (.inr rfl)
        · exact .inl e
      refine h1 v σ (owTo i ow1) H1 (k1.trans hst) ⟨by simp [setC, r1.len], fun j c' hc' => ?_, fun j u hu => ?_, fun j o' hc' => ?_⟩ (ObRep.keep hk (fun p _ e => ⟨rfl, by unfold owTo; rw [if_pos e], hnew p e⟩) q)
      · have hj : i ≠ j := fun z => by subst z; rw [getC_set_self (getC_lt hc)] at hc'; cases hc'
        rw [getC_set_ne hj] at hc'
        obtain ⟨u, hu, q'⟩ := r1.cell j c' hc'
        have kt : ∀ p, H1 p ≠ none → ow1 p = .sl j → H1 p = H1 p ∧ owTo i ow1 p = .sl j := fun p _ e => ⟨rfl, by unfold owTo; rw [if_neg (by rw [e]; simp [Ne.symm hj])]; exact e⟩
        refine ⟨u, hu, ?_⟩
        cases c' with
        | val d => exact Rep.keep hk q'
        | own o => exact ObRep.keep hk kt q'
        | par o => exact ObRep.keep hk kt q'
        | exc _ _ => exact q'
      · obtain ⟨o', h2, h3⟩ := r1.par j u hu
        have hj : i ≠ j := fun z => by subst z; rw [hpv] at hu; cases hu
        exact ⟨o', by rw [getC_set_ne hj]; exact h2, h3⟩
      · have hj : i ≠ j := fun z => by subst z; rw [getC_set_self (getC_lt hc)] at hc'; cases hc'
        rw [getC_set_ne hj] at hc'
        exact r1.unpar j o' hc'
    · exact False.elim h1
theorem snd_asgS {z : Bool} {i : Nat} {x : Str} (hN : X.N.Nodup) (hi : X.N[i]? = some x) (hx : Loc X.env.scope x) (hf : X.fn x = true ∨ X.env.scope.names.lookup x = some .local) (hn : swapsWith a (some (.Name x p1)) pos.line X.env = pure false) (ha : SndE W cl gl X Wx a ia) :
    SndS W cl gl X Wx (.Assign [.Name x p1] a pos) (.asg z i ia) := by
  intro pv H0 ow H S σ D en r h
  simp only [exS] at h
  refine RS.of (ps_set hN hi hx pe_RE hn hf) (RE.mono (ha pv ow H S σ _ r (PostS.seq h)) ?_)
  rintro v H1 ⟨x, S1, ow1, -, k1, r1, p1, h1⟩
  cases e : asgR z x S1 with
  | ok c S2 =>
    rw [e] at h1
    simp only [Fl.bindO] at h1
    obtain ⟨ow2, k2, _, r2, q⟩ := asg_cell (t := .sl i) r1 k1 p1 e
    cases e2 : putC S2 i c with
    | none => rw [e2] at h1; exact False.elim h1
    | some S3 =>
      rw [e2] at h1
      cases c with
      | val d => exact h1 _ ow2 H1 k2 (put_cell (c := .val d) r2 (by simp) q e2)
      | own o => exact h1 _ ow2 H1 k2 (put_cell (c := .own o) r2 (by simp) (ObRep.keep (fun _ _ z => ⟨rfl, z⟩) (fun _ _ z => ⟨rfl, z.1⟩) q) e2)
      | par o => exact False.elim q
      | exc _ _ => exact False.elim q
  | exc c fs S2 => exact absurd e asg_noexc
  | bad => rw [e] at h1; exact False.elim h1
end
end Ev

/-! EvM: stores, loops. -/
namespace Ev
open PySem PySem.Spec PyProof.Rows L2

section
variable {W : Wd} {pv : Nat → Option V} {H0 : Hp} {ow ow1 : Ow} {H H1 : Hp} {S S1 : Fr} {σ : L2.St} {Wx : WX}
theorem getO_cell {i : Nat} {o : Ob} (h : getO S i = some o) : (getC S i = some (.own o) ∨ getC S i = some (.par o)) ∧ i < S.length := by
  unfold getO at h
  split at h
  · next o' e => cases h; exact ⟨.inl e, getC_lt e⟩
  · next o' e => cases h; exact ⟨.inr e, getC_lt e⟩
  · cases h
/-- a slot's own object is changed -/
theorem Rel.putO (r : Rel W pv ow H S σ) {i : Nat} {o o' : Ob} {v : V} (hg : getO S i = some o) (hv : σ[i]? = some (some v)) (kp : Keep ow H ow1 H1) (ks : ∀ j, j ≠ i → ∀ p, H p ≠ none → ow p = .sl j → H1 p = H p ∧ ow1 p = .sl j) (h : ObRep W ow1 H1 (fun p => ow1 p = .sl i) o' v) :
    Rel W pv ow1 H1 (Ev.putO S i o') σ := by
  obtain ⟨hc, hlt⟩ := getO_cell hg
  have hl : (Ev.putO S i o').length = S.length := by unfold Ev.putO; split <;> simp [setC]
  have hself : getC (Ev.putO S i o') i = some (.own o') ∨ getC (Ev.putO S i o') i = some (.par o') := by
    unfold Ev.putO
    split
    · exact .inr (getC_set_self hlt)
    · exact .inl (getC_set_self hlt)
  have hpar : ∀ o'', getC (Ev.putO S i o') i = some (.par o'') → ∃ o3, getC S i = some (.par o3) := by
    intro o'' z
    unfold Ev.putO at z
    split at z
    · next o3 e => exact ⟨o3, e⟩
    · rw [getC_set_self hlt] at z; cases z
  have hpar2 : ∀ o'', getC S i = some (.par o'') → getC (Ev.putO S i o') i = some (.par o') := by
    intro o'' z
    unfold Ev.putO
    rw [z]
    exact getC_set_self hlt
  refine ⟨hl.trans r.len, fun j c hc' => ?_, fun j u hu => ?_, fun j o'' hc' => ?_⟩
  · by_cases hj : i = j
    · subst hj
      refine ⟨v, hv, ?_⟩
      rcases hself with e | e
      · rw [e] at hc'; cases hc'; exact h
      · rw [e] at hc'; cases hc'; exact h
    · rw [getC_putO_ne hj] at hc'
      obtain ⟨u, hu, q⟩ := r.cell j c hc'
      refine ⟨u, hu, ?_⟩
      cases c with
      | val d => exact Rep.keep kp q
      | own o => exact ObRep.keep kp (ks j (Ne.symm hj)) q
      | par o => exact ObRep.keep kp (ks j (Ne.symm hj)) q
      | exc _ _ => exact q
  · obtain ⟨o'', h1, h2⟩ := r.par j u hu
    by_cases hj : i = j
    · subst hj; exact ⟨o', hpar2 _ h1, h2⟩
    · exact ⟨o'', by rw [getC_putO_ne hj]; exact h1, h2⟩
  · by_cases hj : i = j
    · subst hj
      obtain ⟨o3, e⟩ := hpar _ hc'
      exact r.unpar i o3 e
    · rw [getC_putO_ne hj] at hc'
      exact r.unpar j o'' hc'
/-- .. at one address of it -/
theorem upd_sl {i : Nat} {a : Addr} {o : HO} (t : ow a = .sl i) (hn : H a ≠ none) : Keep ow H ow (L2.upd H a o) ∧ (∀ j, j ≠ i → ∀ p, H p ≠ none → ow p = .sl j → L2.upd H a o p = H p ∧ ow p = .sl j) ∧ Step ow H ow (L2.upd H a o) := by
  refine ⟨fun p _ e => ⟨upd_ne (fun z => by rw [z, t] at e; cases e), e⟩, fun j hj p _ e => ⟨upd_ne (fun z => by rw [z, t] at e; cases e; exact hj rfl), e⟩, fun p hp => ⟨?_, fun e => ⟨upd_ne (fun z => e i (z ▸ t)), rfl⟩, fun j e => .inl e⟩⟩
  by_cases z : p = a
  · rw [z, upd_same]; simp
  · rw [upd_ne z]; exact hp
end

section
variable {W : Wd} {M : MC} {cl : Calls} {gl : Str → Option D} {k : Nat} {X : Cx} {sc : Scope} {Wx : WX} {e a b c tgE iter elt : Expr} {ia ib ic : E} {pos p1 p2 p3 : Pos} {sts sts2 : List Stmt} {st : Stmt} {iss iss2 : Ss} {is : St}
/-! ### x = [.. for ..] on one line -/
theorem snd_asgLc (G : CxG W M cl gl k X sc Wx) {z : Bool} {i : Nat} {y : Str} {scope : Scope} {own : List (Str × Nat)} {tg : Tg} {it : It} {ot : Ot} {ifs : List Expr} (hy : X.N[i]? = some y) (hyl : X.env.scope.names.lookup y = some .local)
    (hsw : swapsWith (.ListComp elt [⟨tgE, iter, ifs, 0⟩] scope pos) (some (.Name y p1)) p2.line X.env = pure true) (ok : BlkOk X.N X.env.scope scope own) (hown : own.map (·.2) = slotsT tg) (hi : SndI W cl gl X Wx tgE iter it)
    (hg : ∀ s H C cc fp, PG (blkOf X scope s H C cc fp) tgE (gOf X.K tg)) (ht : ∀ s H C cc fp, SndOt W cl gl (blkOf X scope s H C cc fp) noWx ifs ot) (he : ∀ s H C cc fp, SndE W cl gl (blkOf X scope s H C cc fp) noWx elt ia)
    (hf : ∀ x, foldedSetIterable iter X.env x = pure x) : SndS W cl gl X Wx (.Assign [.Name y p1] (.ListComp elt [⟨tgE, iter, ifs, 0⟩] scope pos) p2) (.asg z i (.lc ia tg it ot)) := by
  intro pv H0 ow H S σ D en r h
  simp only [exS] at h
  refine RS.of (ps_setLc (tt := ttLc X scope ifs) (te := teLc X scope elt) G.calm (by rw [G.N]; exact G.nd) hy hyl hsw pi_RI ok hg (fun s H C cc fp => ⟨fun pins s1 σ H1 Q I q => q s H C cc fp pins s1 I⟩) (fun s H C cc fp => ⟨fun pins s1 σ H1 Q I q => q s H C cc fp pins s1 I⟩) hf) ?_
  rw [hown]
  have key : PostE W pv ow H σ Wx (evE cl gl (.lc ia tg it ot) S) (fun v H1 => D.nx (σ.set i (some v)) H1) := by
    cases ev : evE cl gl (.lc ia tg it ot) S with
    | bad => rw [ev] at h; exact h
    | exc c fs S1 => rw [ev] at h; exact fun cls d ow' H' k r p => h cls d σ ow' H' k r p
    | ok x S1 =>
      rw [ev] at h
      simp only [Fl.bindO] at h
      intro v ow1 H1 k1 r1 p1
      cases e : asgR z x S1 with
      | ok c S2 =>
        rw [e] at h
        simp only at h
        obtain ⟨ow2, k2, _, r2, q⟩ := asg_cell (t := .sl i) r1 k1 p1 e
        cases e2 : putC S2 i c with
        | none => rw [e2] at h; exact False.elim h
        | some S3 =>
          rw [e2] at h
          cases c with
          | val d => exact h _ ow2 H1 k2 (put_cell (c := .val d) r2 (by simp) q e2)
          | own o => exact h _ ow2 H1 k2 (put_cell (c := .own o) r2 (by simp) (ObRep.keep (fun _ _ z => ⟨rfl, z⟩) (fun _ _ z => ⟨rfl, z.1⟩) q) e2)
          | par o => exact False.elim q
          | exc _ _ => exact False.elim q
      | exc c fs S2 => exact absurd e asg_noexc
      | bad => rw [e] at h; exact False.elim h
  exact lc_read G hi ht he r key
theorem snd_asgLcH (G : CxG W M cl gl k X sc Wx) {z : Bool} {i hj : Nat} {y : Str} {scope : Scope} {own : List (Str × Nat)} {tg : Tg} {it : It} {ot : Ot} {ifs : List Expr} (hy : X.N[i]? = some y) (hyl : X.env.scope.names.lookup y = some .local)
    (hsw : swapsWith (.ListComp elt [⟨tgE, iter, ifs, 0⟩] scope pos) (some (.Name y p1)) p2.line X.env = pure true) (ok : BlkOk X.N X.env.scope scope own) (hown : own.map (·.2) = slotsT tg) (hi : SndI W cl gl X Wx tgE iter it)
    (hg : ∀ s H C cc fp, PG (blkOf X scope s H C cc fp) tgE (gOf X.K tg)) (ht : ∀ s H C cc fp, SndOt W cl gl (blkOf X scope s H C cc fp) noWx ifs ot) (he : ∀ s H C cc fp, SndE W cl gl (blkOf X scope s H C cc fp) noWx elt ia)
    (hf : ∀ x, foldedSetIterable iter X.env x = pure x) : SndS W cl gl X Wx (.Assign [.Name y p1] (.ListComp elt [⟨tgE, iter, ifs, 0⟩] scope pos) p2) (.asg z i (.hold hj (.lc ia tg it ot))) := by
  intro pv H0 ow H S σ D en r h
  simp only [exS] at h
  refine RS.of (ps_setLc (tt := ttLc X scope ifs) (te := teLc X scope elt) G.calm (by rw [G.N]; exact G.nd) hy hyl hsw pi_RI ok hg (fun s H C cc fp => ⟨fun pins s1 σ H1 Q I q => q s H C cc fp pins s1 I⟩) (fun s H C cc fp => ⟨fun pins s1 σ H1 Q I q => q s H C cc fp pins s1 I⟩) hf) ?_
  rw [hown]
  have key : PostE W pv ow H σ Wx (evE cl gl (.hold hj (.lc ia tg it ot)) S) (fun v H1 => D.nx (σ.set i (some v)) H1) := by
    cases ev : evE cl gl (.hold hj (.lc ia tg it ot)) S with
    | bad => rw [ev] at h; exact h
    | exc c fs S1 => rw [ev] at h; exact fun cls d ow' H' k r p => h cls d σ ow' H' k r p
    | ok x S1 =>
      rw [ev] at h
      simp only [Fl.bindO] at h
      intro v ow1 H1 k1 r1 p1
      cases e : asgR z x S1 with
      | ok c S2 =>
        rw [e] at h
        simp only at h
        obtain ⟨ow2, k2, _, r2, q⟩ := asg_cell (t := .sl i) r1 k1 p1 e
        cases e2 : putC S2 i c with
        | none => rw [e2] at h; exact False.elim h
        | some S3 =>
          rw [e2] at h
          cases c with
          | val d => exact h _ ow2 H1 k2 (put_cell (c := .val d) r2 (by simp) q e2)
          | own o => exact h _ ow2 H1 k2 (put_cell (c := .own o) r2 (by simp) (ObRep.keep (fun _ _ z => ⟨rfl, z⟩) (fun _ _ z => ⟨rfl, z.1⟩) q) e2)
          | par o => exact False.elim q
          | exc _ _ => exact False.elim q
      | exc c fs S2 => exact absurd e asg_noexc
      | bad => rw [e] at h; exact False.elim h
  obtain ⟨owh, Sh, rh, keyh⟩ := hold_post r key
  exact lc_read G hi ht he rh keyh
theorem snd_asgDc (G : CxG W M cl gl k X sc Wx) {z : Bool} {i : Nat} {y : Str} {scope : Scope} {own : List (Str × Nat)} {tg : Tg} {it : It} (hy : X.N[i]? = some y) (hyl : X.env.scope.names.lookup y = some .local)
    (hsw : swapsWith (.DictComp a b [⟨tgE, iter, [], 0⟩] scope pos) (some (.Name y p1)) p2.line X.env = pure true) (ok : BlkOk X.N X.env.scope scope own) (hown : own.map (·.2) = slotsT tg) (hi : SndI W cl gl X Wx tgE iter it)
    (hg : ∀ s H C cc fp, PG (blkOf X scope s H C cc fp) tgE (gOf X.K tg)) (ha : ∀ s H C cc fp, SndE W cl gl (blkOf X scope s H C cc fp) noWx a ia) (hb : ∀ s H C cc fp, SndE W cl gl (blkOf X scope s H C cc fp) noWx b ib)
    (hf : ∀ x, foldedSetIterable iter X.env x = pure x) : SndS W cl gl X Wx (.Assign [.Name y p1] (.DictComp a b [⟨tgE, iter, [], 0⟩] scope pos) p2) (.asg z i (.dc ia ib tg it)) := by
  intro pv H0 ow H S σ D en r h
  simp only [exS] at h
  have key : PostE W pv ow H σ Wx (evE cl gl (.dc ia ib tg it) S) (fun v H1 => D.nx (σ.set i (some v)) H1) := by
    cases ev : evE cl gl (.dc ia ib tg it) S with
    | bad => rw [ev] at h; exact h
    | exc c fs S1 => rw [ev] at h; exact fun cls d ow' H' k r p => h cls d σ ow' H' k r p
    | ok x S1 =>
      rw [ev] at h
      simp only [Fl.bindO] at h
      intro v ow1 H1 k1 r1 p1
      cases e : asgR z x S1 with
      | ok c S2 =>
        rw [e] at h
        simp only at h
        obtain ⟨ow2, k2, _, r2, q⟩ := asg_cell (t := .sl i) r1 k1 p1 e
        cases e2 : putC S2 i c with
        | none => rw [e2] at h; exact False.elim h
        | some S3 =>
          rw [e2] at h
          cases c with
          | val d => exact h _ ow2 H1 k2 (put_cell (c := .val d) r2 (by simp) q e2)
          | own o => exact h _ ow2 H1 k2 (put_cell (c := .own o) r2 (by simp) (ObRep.keep (fun _ _ z => ⟨rfl, z⟩) (fun _ _ z => ⟨rfl, z.1⟩) q) e2)
          | par o => exact False.elim q
          | exc _ _ => exact False.elim q
      | exc c fs S2 => exact absurd e asg_noexc
      | bad => rw [e] at h; exact False.elim h
  intro pins s I
  have hN : X.N.Nodup := by rw [G.N]; exact G.nd
  rw [exec_Assign_Name_used _ _ _ _ hsw]
  refine wpAny_bind (wpAny_standAt (wpAny_bind ?_))
  show wpAny _ X.A (do let _ ← comprehension (.DictComp a b [⟨tgE, iter, [], 0⟩] scope pos) scope X.env (firstIterPos [⟨tgE, iter, [], 0⟩] pos) newDict false (eval iter X.env) (some (assign (.Name y p1) X.env))) _ _ s
  refine wpAny_bind (thn (dx_block (W := W) (Qf := fun _ s' => SP X pins D .next s') (tk := teLc X scope a) (tv := teLc X scope b) (own := own) G.prog G.w G.K (by have := G.room.un; omega) G.calm hN I pi_RI ok hg (fun s H C cc fp => ⟨fun pins s1 σ H1 Q I q => q s H C cc fp pins s1 I⟩) (fun s H C cc fp => ⟨fun pins s1 σ H1 Q I q => q s H C cc fp pins s1 I⟩) hf (by rw [hown]; exact dc_read G hi ha hb r key) fun Dd C s' m H' I' q hn f => ?_) fun _ s' hq => wpAny_pure (wpAny_pure hq))
  show wpAny _ _ (assign (.Name y p1) X.env (.ref Dd)) _ _ _
  refine wpAny_assign_Name (store_ok2 (v := V.ref Dd) I' hN hy (.inl hyl) rfl (fun s2 I2 ⟨a, sb, ha⟩ => ?_) (.inr hyl))
  obtain ⟨f0, f1, f2, f3, f4, f5⟩ := f
  have haC : C ≠ a := by
    rcases ha with z | z
    · rw [z]; exact f1
    · exact fun e => f4 y a z e.symm
  refine ⟨m, hn.sameBut sb haC, fun h3 sb3 => ?_⟩
  exact ⟨_, H', I2.turned (t' := s2.toks) (fun b o hb e => (sb3.2 b hb).trans e) f0 f1 f3 f4 f5, q⟩
theorem snd_asgLc2 (G : CxG W M cl gl k X sc Wx) {z : Bool} {i : Nat} {y : Str} {scope : Scope} {own : List (Str × Nat)} {tg tg1 : Tg} {it it1 : It} {tgE1 iter1 : Expr} (hy : X.N[i]? = some y) (hyl : X.env.scope.names.lookup y = some .local)
    (hsw : swapsWith (.ListComp elt [⟨tgE, iter, [], 0⟩, ⟨tgE1, iter1, [], 0⟩] scope pos) (some (.Name y p1)) p2.line X.env = pure true) (ok : BlkOk X.N X.env.scope scope own) (hown : own.map (·.2) = slotsT tg ++ slotsT tg1) (hi : SndI W cl gl X Wx tgE iter it)
    (hg : ∀ s H C cc fp, PG (blkOf X scope s H C cc fp) tgE (gOf X.K tg)) (hi1 : ∀ s H C cc fp, SndI W cl gl (blkOf X scope s H C cc fp) noWx tgE1 iter1 it1) (hg1 : ∀ s H C cc fp, PG (blkOf X scope s H C cc fp) tgE1 (gOf X.K tg1)) (he : ∀ s H C cc fp, SndE W cl gl (blkOf X scope s H C cc fp) noWx elt ia)
    (hf : ∀ x, foldedSetIterable iter X.env x = pure x) (hf1 : ∀ env x, foldedSetIterable iter1 env x = pure x) : SndS W cl gl X Wx (.Assign [.Name y p1] (.ListComp elt [⟨tgE, iter, [], 0⟩, ⟨tgE1, iter1, [], 0⟩] scope pos) p2) (.asg z i (.lc2 ia tg it tg1 it1)) := by
  intro pv H0 ow H S σ D en r h
  simp only [exS] at h
  refine RS.of (ps_setLc2 (vs1 := slotsT tg1) (wi1 := riLc X scope tgE1 iter1) (tt := ttLc X scope []) (tt1 := ttLc X scope []) (te := teLc X scope elt) G.calm (by rw [G.N]; exact G.nd) hy hyl hsw pi_RI ok (by rw [hown]; exact fun i hi => List.mem_append_right _ hi) hg (fun s H C cc fp => ⟨fun pins s1 σ H1 Q I q => q s H C cc fp pins s1 I⟩) (fun s H C cc fp => ⟨fun pins s1 σ H1 Q I q => q s H C cc fp pins s1 I⟩) hg1 (fun s H C cc fp => ⟨fun pins s1 σ H1 Q I q => q s H C cc fp pins s1 I⟩) (fun s H C cc fp => ⟨fun pins s1 σ H1 Q I q => q s H C cc fp pins s1 I⟩) hf hf1) ?_
  rw [hown]
  have key : PostE W pv ow H σ Wx (evE cl gl (.lc2 ia tg it tg1 it1) S) (fun v H1 => D.nx (σ.set i (some v)) H1) := by
    cases ev : evE cl gl (.lc2 ia tg it tg1 it1) S with
    | bad => rw [ev] at h; exact h
    | exc c fs S1 => rw [ev] at h; exact fun cls d ow' H' k r p => h cls d σ ow' H' k r p
    | ok x S1 =>
      rw [ev] at h
      simp only [Fl.bindO] at h
      intro v ow1 H1 k1 r1 p1
      cases e : asgR z x S1 with
      | ok c S2 =>
        rw [e] at h
        simp only at h
        obtain ⟨ow2, k2, _, r2, q⟩ := asg_cell (t := .sl i) r1 k1 p1 e
        cases e2 : putC S2 i c with
        | none => rw [e2] at h; exact False.elim h
        | some S3 =>
          rw [e2] at h
          cases c with
          | val d => exact h _ ow2 H1 k2 (put_cell (c := .val d) r2 (by simp) q e2)
          | own o => exact h _ ow2 H1 k2 (put_cell (c := .own o) r2 (by simp) (ObRep.keep (fun _ _ z => ⟨rfl, z⟩) (fun _ _ z => ⟨rfl, z.1⟩) q) e2)
          | par o => exact False.elim q
          | exc _ _ => exact False.elim q
      | exc c fs S2 => exact absurd e asg_noexc
      | bad => rw [e] at h; exact False.elim h
  exact lc2_read G hi hi1 he r key
/-! ### a, b = e -/
theorem snd_unp (G : CxG W M cl gl k X sc Wx) {is : List Nat} {ts : List Expr} {kk : Nat} (hg : PG X (.Tuple ts kk p1) (gOf X.K (.many is))) (hw : swappedStores [.Tuple ts kk p1] a X.env = pure none) (ha : SndE W cl gl X Wx a ia) : SndS W cl gl X Wx (.Assign [.Tuple ts kk p1] a pos) (.unp is ia) := by
  intro pv H0 ow H S σ D en r h
  simp only [exS] at h
  refine RS.of (ps_asg pe_RE hg swaps_tup hw) (RE.mono (ha pv ow H S σ _ r (PostS.seq h)) ?_)
  rintro v H1 ⟨x, S1, ow1, -, k1, r1, p1, h1⟩
  obtain ⟨d, S2, ow2, k2, _, r2, p2, h2⟩ := PostS.esc r1 k1 p1 h1
  split at h2
  · next S3 e => rw [G.K]; exact g_ok r2 p2 e fun σ1 r3 _ _ => h2 σ1 ow2 H1 k2 r3
  · exact False.elim h2
/-! ### x.append(e) -/
theorem snd_app (hs : noStar a = true) {i : Nat} {x : Str} (hN : X.N[i]? = some x) (hv : Vis X.env.scope x) (hd : (x == ("__debug__" : Str)) = false) (hcd : (x == ("__classdict__" : Str)) = false) (hl : (p2.endLine == p3.line) = true) (ha : SndE W cl gl X Wx a ia) :
    SndS W cl gl X Wx (.Expr (.Call (.Attribute (.Name x p1) "append" p2) [a] [] p3) pos) (.app i ia) := by
  intro pv H0 ow H S σ D en r h
  simp only [exS] at h
  refine RS.of (ps_expr (pe_bm PySem.F.plainAttrs_list PySem.F.slot_list_append PySem.F.type_list_append mt_append (pe_var hN hv hd hcd) (pa_cons pe_RE pa_nil (star_cons hs)) (attr_base rfl) (by rw [star_cons hs]; rfl) hl (star_cons hs) rfl) rfl) ?_
  split at h
  · next xs0 hg =>
    obtain ⟨v, hv, l, us, rfl, hl0, _⟩ := r.obj hg
    refine ⟨_, hv, .inl ⟨rfl, _, SqL.of hl0⟩, RE.mono (ha pv ow H S σ _ r (PostS.seq h)) ?_⟩
    rintro y H1 ⟨ry, S1, ow1, -, k1, r1, p1, h1⟩
    obtain ⟨d, S2, ow2, k2, _, r2, p2, h2⟩ := PostS.esc r1 k1 p1 h1
    split at h2
    · next xs hg2 =>
      split at h2
      · next hz =>
        obtain ⟨v', hv', l', vs, rfl, hl', tl', rl'⟩ := r2.obj hg2
        rw [hv] at hv'
        cases hv'
        have hn : H1 l ≠ none := by rw [hl']; simp
        obtain ⟨u1, u2, u3⟩ := upd_sl (o := .lst (vs ++ [y])) tl' hn
        refine ⟨l, vs, y, rfl, rfl, hl', by rw [← rl'.length]; simpa using hz, ?_⟩
        refine h2 σ ow2 _ (k2.trans u3) (r2.putO hg2 hv u1 u2 ⟨l, vs ++ [y], rfl, upd_same, tl', (rl'.append (.one p2)).keep u1⟩)
      · exact False.elim h2
    · exact False.elim h2
  · exact False.elim h
/-! ### self.f = e -/
theorem repV_put {ow : Ow} {H : Hp} {t : Addr → Prop} {f : Str} {d : D} {v : V} (hd : Rep W ow H d v) : ∀ {fs : List (Str × FV)} {gs : List (Str × V)}, RepV W ow H t fs gs → RepV W ow H t (setFld fs f d) (putF f v gs)
  | _, _, .nil => .val hd .nil
  | _, _, .val (f := g) q l => by
    unfold setFld putF
    by_cases hg : g = f
    · rw [if_pos hg, if_pos hg]; exact .val hd l
    · rw [if_neg hg, if_neg hg]; exact .val q (repV_put hd l)
  | _, _, .lst (f := g) h1 h2 h3 l => by
    unfold setFld putF
    by_cases hg : g = f
    · rw [if_pos hg, if_pos hg]; exact .val hd l
    · rw [if_neg hg, if_neg hg]; exact .lst h1 h2 h3 (repV_put hd l)
theorem repV_len {ow : Ow} {H : Hp} {t : Addr → Prop} : ∀ {fs : List (Str × FV)} {gs : List (Str × V)}, RepV W ow H t fs gs → fs.length = gs.length
  | _, _, .nil => rfl
  | _, _, .val _ l => by simp [repV_len l]
  | _, _, .lst _ _ _ l => by simp [repV_len l]
theorem repV_upd {ow : Ow} {H : Hp} {i : Nat} {p : Addr} {o : HO} (hp : ow p = .sl i) (hno : ∀ us, H p ≠ some (.lst us)) : ∀ {fs : List (Str × FV)} {gs : List (Str × V)}, RepV W ow H (fun q => ow q = .sl i) fs gs → RepV W ow (L2.upd H p o) (fun q => ow q = .sl i) fs gs
  | _, _, .nil => .nil
  | _, _, .val q l => .val (Rep.keep (fun r _ e => ⟨upd_ne (fun z => by rw [z, hp] at e; cases e), e⟩) q) (repV_upd hp hno l)
  | _, _, .lst (a := a) (us := us) h1 h2 h3 l => .lst (by rw [upd_ne (fun z => hno us (by rw [← z]; exact h1))]; exact h1) h2 (RepL.keep (fun r _ e => ⟨upd_ne (fun z => by rw [z, hp] at e; cases e), e⟩) h3) (repV_upd hp hno l)
theorem snd_atr (G : CxG W M cl gl k X sc Wx) {i : Nat} {x f : Str} {c : Str} (hq : (c, f) ∈ M.flds) (hN : X.N[i]? = some x) (hv : Vis X.env.scope x) (hd : (x == ("__debug__" : Str)) = false) (hcd : (x == ("__classdict__" : Str)) = false) (hn : noComp a = true) (ha : SndE W cl gl X Wx a ia) :
    SndS W cl gl X Wx (.Assign [.Attribute (.Name x p1) f p2] a pos) (.atr c i f ia) := by
  intro pv H0 ow H S σ D en r h
  simp only [exS] at h
  obtain ⟨hm, hna⟩ := G.fld _ hq
  refine RS.of (ps_fld (pe_var hN hv hd hcd) pe_RE (swaps_no hn)) (RE.mono (ha pv ow H S σ _ r (PostS.seq h)) ?_)
  rintro y H1 ⟨ry, S1, ow1, -, k1, r1, p1, h1⟩
  obtain ⟨d, S2, ow2, k2, _, r2, p2, h2⟩ := PostS.esc r1 k1 p1 h1
  split at h2
  · next c' fs hg =>
    split at h2
    · next hz =>
      obtain ⟨rfl, hz⟩ := hz
      obtain ⟨v, hv', ad, dx, gs, rfl, hm', e1, t1, e2, t2, rf⟩ := r2.obj hg
      have hn : H1 ad ≠ none := by rw [e1]; simp
      obtain ⟨u1, u2, u3⟩ := upd_sl (o := .ins (W.cad c') dx (putF f y gs)) t1 hn
      have hne : dx ≠ ad := fun z => by rw [z, e1] at e2; cases e2
      refine ⟨_, hv', ad, _, dx, gs, rfl, e1, by rw [G.K]; exact (G.cls _ hm).2.cl, by rw [G.K]; exact hna, by rw [← repV_len rf]; omega, ?_⟩
      exact h2 σ ow2 _ (k2.trans u3) (r2.putO hg hv' u1 u2 ⟨ad, dx, _, rfl, hm', upd_same, t1, by rw [upd_ne hne]; exact e2, t2, repV_upd t1 (fun us z => by rw [e1] at z; cases z) (repV_put p2 rf)⟩)
    · exact False.elim h2
  · exact False.elim h2
/-! ### x += e -/
theorem snd_aug {op : BOp} {i : Nat} {x : Str} (hop : op = .add ∨ op = .sub) (hN : X.N.Nodup) (hi : X.N[i]? = some x) (hx : Loc X.env.scope x) (hf : X.fn x = true ∨ X.env.scope.names.lookup x = some .local) (ha : SndE W cl gl X Wx a ia) :
    SndS W cl gl X Wx (.AugAssign (.Name x p1) (bopO op) a pos) (.aug op i ia) := by
  intro pv H0 ow H S σ D en r h
  simp only [exS] at h
  split at h
  · next n hc =>
    obtain ⟨u, hu, q⟩ := r.cell i _ hc
    cases (show Rep W ow H (.int n) u from q)
    rcases hop with rfl | rfl
    · refine RS.of (ps_aug hN hi hx pe_RE ip_add hf) ⟨_, hu, RE.mono (ha pv ow H S σ _ r (PostS.seq h)) ?_⟩
      rintro y H1 ⟨x, S1, ow1, -, k1, r1, p1, h1⟩
      split at h1
      · next a b hc1 hx1 =>
        obtain ⟨u, hu1, q⟩ := r1.cell i _ hc1
        rw [hu] at hu1
        cases hu1
        cases (show Rep W ow1 H1 (.int a) (.int n) from q)
        cases (show Rep W ow1 H1 (.int b) y from reads r1 p1 hx1)
        refine ⟨n, b, rfl, rfl, ?_⟩
        simp only at h1
        cases e2 : putC S1 i (.val (.int (n + b))) with
        | none => rw [e2] at h1; exact False.elim h1
        | some S2 => rw [e2] at h1; exact h1 _ ow1 H1 k1 (put_cell (c := .val (.int (n + b))) r1 (by simp) (.int _) e2)
      · exact False.elim h1
    · refine RS.of (ps_aug hN hi hx pe_RE ip_sub hf) ⟨_, hu, RE.mono (ha pv ow H S σ _ r (PostS.seq h)) ?_⟩
      rintro y H1 ⟨x, S1, ow1, -, k1, r1, p1, h1⟩
      split at h1
      · next a b hc1 hx1 =>
        obtain ⟨u, hu1, q⟩ := r1.cell i _ hc1
        rw [hu] at hu1
        cases hu1
        cases (show Rep W ow1 H1 (.int a) (.int n) from q)
        cases (show Rep W ow1 H1 (.int b) y from reads r1 p1 hx1)
        refine ⟨n, b, rfl, rfl, ?_⟩
        simp only at h1
        cases e2 : putC S1 i (.val (.int (n - b))) with
        | none => rw [e2] at h1; exact False.elim h1
        | some S2 => rw [e2] at h1; exact h1 _ ow1 H1 k1 (put_cell (c := .val (.int (n - b))) r1 (by simp) (.int _) e2)
      · exact False.elim h1
  · exact False.elim h
/-! ### a, b = c, d -/
open Classical in
noncomputable def owGo (Ha : Hp) (n : Nat) (i : Nat) (ow : Ow) : Ow := fun p => if ow p = .pd n ∧ Ha p = none then .sl i else ow p
inductive CellTs (W : Wd) (Ha : Hp) (ow : Ow) (H : Hp) : Nat → List Cell → List V → Prop
  | nil {n : Nat} : CellTs W Ha ow H n [] []
  | cons {n : Nat} {c : Cell} {v : V} {cs : List Cell} {vs : List V} : CellT W ow H (fun q => ow q = .pd n ∧ Ha q = none) c v → CellTs W Ha ow H (n + 1) cs vs → CellTs W Ha ow H n (c :: cs) (v :: vs)
theorem CellT.keep {ow ow1 : Ow} {H H1 : Hp} {t t1 : Addr → Prop} {c : Cell} {v : V} (kp : Keep ow H ow1 H1) (kt : ∀ p, H p ≠ none → t p → H1 p = H p ∧ t1 p) (h : CellT W ow H t c v) : CellT W ow1 H1 t1 c v := by
  cases c with
  | val d => exact Rep.keep kp h
  | own o => exact ObRep.keep kp kt h
  | par o => exact h
  | exc _ _ => exact h
theorem CellTs.back {Ha Hb : Hp} {ow : Ow} {H : Hp} (hb : ∀ p, Ha p = none → Hb p = none) {n : Nat} {cs : List Cell} {vs : List V} (h : CellTs W Ha ow H n cs vs) : CellTs W Hb ow H n cs vs := by
  induction h with
  | nil => exact .nil
  | cons a l ih => exact .cons (a.keep (fun _ _ z => ⟨rfl, z⟩) fun p hp e => ⟨rfl, e.1, hb p e.2⟩) ih
def SndPar (W : Wd) (cl : Calls) (gl : Str → Option D) (X : Cx) (Wx : WX) (n : Nat) (zs : List Bool) (es : List Expr) (ies : Es) : Prop := ∀ (pv : Nat → Option V) (ow : Ow) (H : Hp) (S : Fr) (σ : L2.St) (Q : List V → Hp → Prop), Rel W pv ow H S σ → Post W pv ow H σ Wx (fun ow' H' cs vs => CellTs W H ow' H' n cs vs) (parR cl gl zs ies S) Q → RA X es σ H Q
theorem snd_par0 {n : Nat} : SndPar W cl gl X Wx n [] [] .nil := by
  intro pv ow H S σ Q r h
  exact RA.of pa_nil (h [] ow H Step.refl r .nil)
theorem snd_par1 {n : Nat} {z : Bool} {zs : List Bool} {es : List Expr} {ies : Es} (hs : noStar a = true) (ha : SndE W cl gl X Wx a ia) (hes : SndPar W cl gl X Wx (n + 1) zs es ies) : SndPar W cl gl X Wx n (z :: zs) (a :: es) (.cons ia ies) := by
  intro pv ow H S σ Q r h
  refine RA.of (pa_cons pe_RE pa_RA (star_cons hs)) ?_
  simp only [parR] at h
  refine RE.mono (ha pv ow H S σ _ r (Post.seq h)) ?_
  rintro v H1 ⟨x, S1, ow1, -, k1, r1, p1, h1⟩
  cases e : asgR z x S1 with
  | ok c S2 =>
    rw [e] at h1
    simp only [Out.bind] at h1
    obtain ⟨ow2, k2, _, r2, q⟩ := asg_cell (t := .pd n) r1 k1 p1 e
    refine RA.mono (hes pv ow2 H1 S2 σ _ r2 (Post.seq2 h1 k2)) ?_
    rintro vs H2 ⟨cs, S3, ow3, -, k3, r3, p3, h3⟩
    exact h3 (v :: vs) ow3 H2 (k2.trans k3) r3 (.cons (q.keep k3.keep fun p hp e => let ⟨a, b⟩ := k3.tag hp e.1 (by simp); ⟨a, b, e.2⟩) (p3.back fun _ z => k2.none z))
  | exc c fs S2 => exact absurd e asg_noexc
  | bad => rw [e] at h1; exact False.elim h1
/-- the waiting cells go to their slots -/
theorem puts_ok {W : Wd} {pv : Nat → Option V} {owa : Ow} {Ha H : Hp} : ∀ {is : List Nat} {cs : List Cell} {vs : List V} {n : Nat} {ow : Ow} {S S1 : Fr} {σ : L2.St}, Rel W pv ow H S σ → Step owa Ha ow H → CellTs W Ha ow H n cs vs → cs.length = is.length → putCs S is cs = some S1 →
    ∃ ow', Step owa Ha ow' H ∧ Rel W pv ow' H S1 ((is.zip vs).foldl (fun s q => s.set q.1 (some q.2)) σ)
  | [], cs, vs, n, ow, S, S1, σ, r, k, h, hl, e => by
    cases h with
    | nil => simp [putCs] at e; subst e; exact ⟨ow, k, by simpa using r⟩
    | cons _ _ => simp at hl
  | i :: is, cs, vs, n, ow, S, S1, σ, r, k, h, hl, e => by
    cases h with
    | nil => simp at hl
    | @cons _ c v cs vs h l =>
      simp only [putCs, Option.bind_eq_some_iff] at e
      obtain ⟨S2, e1, e2⟩ := e
      have kp : Keep ow H (owGo Ha n i ow) H := fun p _ e => ⟨rfl, by unfold owGo; rw [if_neg (by rw [e]; simp)]; exact e⟩
      have ks : ∀ j p, H p ≠ none → ow p = .sl j → H p = H p ∧ owGo Ha n i ow p = .sl j := fun j p _ e => ⟨rfl, by unfold owGo; rw [if_neg (by rw [e]; simp)]; exact e⟩
      have st : Step owa Ha (owGo Ha n i ow) H := fun p hp => by
        have : owGo Ha n i ow p = ow p := by unfold owGo; rw [if_neg (fun z => hp z.2)]
        rw [this]; exact k p hp
      have r' : Rel W pv (owGo Ha n i ow) H S σ := ⟨r.len, fun j c hc => by
        obtain ⟨u, hu, q⟩ := r.cell j c hc
        refine ⟨u, hu, ?_⟩
        cases c with
        | val d => exact Rep.keep kp q
        | own o => exact ObRep.keep kp (ks j) q
        | par o => exact ObRep.keep kp (ks j) q
        | exc _ _ => exact q, r.par, r.unpar⟩
      have h' : CellT W (owGo Ha n i ow) H (fun q => owGo Ha n i ow q = .sl i) c v := h.keep kp fun p _ e => ⟨rfl, by unfold owGo; rw [if_pos e]⟩
      have l' : CellTs W Ha (owGo Ha n i ow) H (n + 1) cs vs := by
        have : ∀ {m : Nat} {cs : List Cell} {vs : List V}, n < m → CellTs W Ha ow H m cs vs → CellTs W Ha (owGo Ha n i ow) H m cs vs := by
          intro m cs vs hm hh
          induction hh with
          | nil => exact .nil
          | cons a l ih => exact .cons (a.keep kp fun p _ e => ⟨rfl, by unfold owGo; rw [if_neg (by rw [e.1]; simp; omega)]; exact e.1, e.2⟩) (ih (by omega))
        exact this (Nat.lt_succ_self n) l
      have r2 : Rel W pv (owGo Ha n i ow) H S2 (σ.set i (some v)) := by
        cases c with
        | val d => exact put_cell (c := .val d) r' (by simp) h' e1
        | own o => exact put_cell (c := .own o) r' (by simp) h' e1
        | par o => exact False.elim h'
        | exc _ _ => exact False.elim h'
      obtain ⟨ow', s1, s2⟩ := puts_ok r2 st l' (by simpa using hl) e2
      exact ⟨ow', s1, by simpa using s2⟩
theorem CellTs.length {Ha : Hp} {ow : Ow} {H : Hp} {n : Nat} {cs : List Cell} {vs : List V} (h : CellTs W Ha ow H n cs vs) : cs.length = vs.length := by
  induction h with
  | nil => rfl
  | cons _ _ ih => simp [ih]
theorem snd_parS2 (G : CxG W M cl gl k X sc Wx) {i j : Nat} {x y : Str} {zs : List Bool} {ies : Es} {px py pt : Pos} {kt k2 : Nat} {pt2 : Pos} (hij : i ≠ j) (hi : X.N[i]? = some x) (hj : X.N[j]? = some y) (hx : X.env.scope.names.lookup x = some .local) (hy : X.env.scope.names.lookup y = some .local)
    (hw : swappedStores [.Tuple [.Name x px, .Name y py] kt pt] (.Tuple [a, b] k2 pt2) X.env = pure (some [x, y])) (ha : SndPar W cl gl X Wx 0 zs [a, b] ies) :
    SndS W cl gl X Wx (.Assign [.Tuple [.Name x px, .Name y py] kt pt] (.Tuple [a, b] k2 pt2) pos) (.par zs [i, j] ies) := by
  intro pv H0 ow H S σ D en r h
  simp only [exS] at h
  · refine RS.of (ps_par G.calm (by rw [G.N]; exact G.nd) hi hj hij hx hy pa_RA hw rfl) (RA.mono (ha pv ow H S σ _ r (PostS.seq h)) ?_)
    rintro vs H1 ⟨cs, S1, ow1, -, k1, r1, p1, h1⟩
    split at h1
    · next hl =>
      cases e : putCs S1 [i, j] cs with
      | none => rw [e] at h1; exact False.elim h1
      | some S2 =>
        rw [e] at h1
        obtain ⟨ow2, k2, r2⟩ := puts_ok r1 k1 p1 hl.1 e
        have hlen := p1.length
        match vs, hlen.symm.trans hl.1, r2 with
        | [u, v], _, r2 => exact ⟨u, v, rfl, h1 _ ow2 H1 k2 r2⟩
    · exact False.elim h1
theorem snd_parS3 (G : CxG W M cl gl k X sc Wx) {i j l : Nat} {x y w : Str} {zs : List Bool} {ies : Es} {px py pz pt : Pos} {kt k2 : Nat} {pt2 : Pos} (hij : i ≠ j) (hil : i ≠ l) (hjl : j ≠ l) (hi : X.N[i]? = some x) (hj : X.N[j]? = some y) (hl : X.N[l]? = some w) (hx : X.env.scope.names.lookup x = some .local) (hy : X.env.scope.names.lookup y = some .local) (hz : X.env.scope.names.lookup w = some .local)
    (hw : swappedStores [.Tuple [.Name x px, .Name y py, .Name w pz] kt pt] (.Tuple [a, b, c] k2 pt2) X.env = pure (some [x, y, w])) (ha : SndPar W cl gl X Wx 0 zs [a, b, c] ies) :
    SndS W cl gl X Wx (.Assign [.Tuple [.Name x px, .Name y py, .Name w pz] kt pt] (.Tuple [a, b, c] k2 pt2) pos) (.par zs [i, j, l] ies) := by
  intro pv H0 ow H S σ D en r h
  simp only [exS] at h
  refine RS.of (ps_par3 G.calm (by rw [G.N]; exact G.nd) hi hj hl hij hil hjl hx hy hz pa_RA hw rfl) (RA.mono (ha pv ow H S σ _ r (PostS.seq h)) ?_)
  rintro vs H1 ⟨cs, S1, ow1, -, k1, r1, p1, h1⟩
  split at h1
  · next hl =>
    cases e : putCs S1 [i, j, l] cs with
    | none => rw [e] at h1; exact False.elim h1
    | some S2 =>
      rw [e] at h1
      obtain ⟨ow2, k2, r2⟩ := puts_ok r1 k1 p1 hl.1 e
      have hlen := p1.length
      match vs, hlen.symm.trans hl.1, r2 with
      | [u, v, w], _, r2 => exact ⟨u, v, w, rfl, h1 _ ow2 H1 k2 r2⟩
  · exact False.elim h1
/-! ### loops -/
theorem snd_whl (G : CxG W M cl gl k X sc Wx) {n : Nat} {it : T} {kl : List Nat} (hc : SndT W cl gl X Wx c it) (hb : SndSs W cl gl X Wx sts iss) : SndS W cl gl X Wx (.While c sts [] pos) (.whl n it kl iss) := by
  intro pv H0 ow H S σ D en r h
  simp only [exS] at h
  refine RS.of (ps_while G.pw pt_RT pss_RS) ?_
  refine ⟨fun m σ' H' => ∃ ow' S', Step ow H ow' H' ∧ Rel W pv ow' H' S' σ' ∧ PostS W pv H0 ow H Wx (whlLoop kl (fun S => evT cl gl it S) (fun S => exSs cl gl iss S) m S') D, ⟨n, ow, S, Step.refl, r, h⟩, ?_⟩
  rintro m σ1 H1 ⟨ow1, S1, k1, r1, h1⟩
  cases m with
  | zero => simp only [whlLoop] at h1; exact False.elim h1
  | succ m =>
    simp only [whlLoop] at h1
    refine RT.mono (hc pv ow1 H1 S1 σ1 _ r1 (PostS.seq2 h1 k1)) ?_
    rintro b H2 ⟨x, S2, ow2, -, k2, r2, p2, h2⟩
    subst p2
    cases x with
    | false =>
      rw [if_neg (by simp)] at h2 ⊢
      exact h2 σ1 ow2 H2 (k1.trans k2) (r2.kill kl)
    | true =>
      rw [if_pos rfl] at h2 ⊢
      refine ⟨fun σ' H' => ∃ ow' S', Step ow H ow' H' ∧ Rel W pv ow' H' S' σ' ∧ PostS W pv H0 ow H Wx (whlLoop kl (fun S => evT cl gl it S) (fun S => exSs cl gl iss S) m S') D, fun σ' H' q => ⟨m, Nat.lt_succ_self m, q⟩, ?_⟩
      have k12 := k1.trans k2
      refine hb pv H0 ow2 H2 S2 σ1 _ (en.step k12) r2 ?_
      cases e : exSs cl gl iss S2 with
      | nx S3 => rw [e] at h2; exact fun σ' ow' H' k' r' => ⟨ow', killS S3 kl, k12.trans k', r'.kill kl, h2⟩
      | cnt S3 => rw [e] at h2; exact fun σ' ow' H' k' r' => ⟨ow', killS S3 kl, k12.trans k', r'.kill kl, h2⟩
      | brk S3 => rw [e] at h2; exact fun σ' ow' H' k' r' => h2 σ' ow' H' (k12.trans k') (r'.kill kl)
      | ret rr S3 => rw [e] at h2; exact fun v σ' ow' H' k' r' => h2 v σ' ow' H' (k12.trans k') r'
      | exc c fs S3 => rw [e] at h2; exact fun cls d σ' ow' H' k' r' => h2 cls d σ' ow' H' (k12.trans k') r'
      | bad => rw [e] at h2; exact h2
theorem snd_for (G : CxG W M cl gl k X sc Wx) {tg : Tg} {it : It} {kl : List Nat} (hf : ∀ x, foldedSetIterable iter X.env x = pure x) (hg : PG X tgE (gOf X.K tg)) (hi : SndI W cl gl X Wx tgE iter it) (hb : SndSs W cl gl X Wx sts iss) : SndS W cl gl X Wx (.For tgE iter sts [] pos) (.fr tg it kl iss) := by
  intro pv H0 ow H S σ D en r h
  simp only [exS] at h
  refine RS.of (ps_for G.pw G.calm pi_RI hg pss_RS hf) ?_
  refine RI.mono (hi pv ow H S σ _ r (PostS.seq h)) ?_
  rintro J H1 ⟨ds, S1, ow1, -, k1, r1, wk, h1⟩
  refine ⟨fun i m σ' H' => m = ds.length - i ∧ i ≤ ds.length ∧ ∃ ow' S', Step ow1 H1 ow' H' ∧ Rel W pv ow' H' S' σ' ∧ PostS W pv H0 ow H Wx (forLoop tg kl (fun S => exSs cl gl iss S) (ds.drop i) S') D, ⟨ds.length, by simp, Nat.zero_le _, ow1, S1, Step.refl, r1, by simpa using h1⟩, ?_⟩
  rintro i m σ2 H2 ⟨rfl, hle, ow2, S2, k2, r2, h2⟩
  have k12 := k1.trans k2
  by_cases hlt : i < ds.length
  · right
    have hd : ds[i]? = some ds[i] := List.getElem?_eq_getElem hlt
    obtain ⟨go, yl⟩ := (wk ow2 H2 k2.keep i).1 _ hd
    refine ⟨go, fun σ' H' => ds.length - (i + 1) = ds.length - (i + 1) ∧ i + 1 ≤ ds.length ∧ ∃ ow' S', Step ow1 H1 ow' H' ∧ Rel W pv ow' H' S' σ' ∧ PostS W pv H0 ow H Wx (forLoop tg kl (fun S => exSs cl gl iss S) (ds.drop (i + 1)) S') D, fun σ' H' q => ⟨_, by omega, q⟩, fun x H3 hy => ?_⟩
    obtain ⟨ow3, g3, rx⟩ := yl x H3 hy
    rw [List.drop_eq_getElem_cons hlt] at h2
    unfold forLoop at h2
    split at h2
    · exact False.elim h2
    · next S3 hb' =>
      rw [G.K]
      refine g_ok (r2.grow g3) rx hb' fun σ3 r3 _ _ => ?_
      have k23 := k2.trans g3.step
      have k13 := k12.trans g3.step
      refine hb pv H0 ow3 H3 S3 σ3 _ (en.step k13) r3 ?_
      cases e : exSs cl gl iss S3 with
      | nx S4 => rw [e] at h2; exact fun σ' ow' H' k' r' => ⟨rfl, hlt, ow', killS S4 kl, k23.trans k', r'.kill kl, h2⟩
      | cnt S4 => rw [e] at h2; exact fun σ' ow' H' k' r' => ⟨rfl, hlt, ow', killS S4 kl, k23.trans k', r'.kill kl, h2⟩
      | brk S4 => rw [e] at h2; exact fun σ' ow' H' k' r' => h2 σ' ow' H' (k13.trans k') (r'.kill kl)
      | ret rr S4 => rw [e] at h2; exact fun v σ' ow' H' k' r' => h2 v σ' ow' H' (k13.trans k') r'
      | exc c fs S4 => rw [e] at h2; exact fun cls d σ' ow' H' k' r' => h2 cls d σ' ow' H' (k13.trans k') r'
      | bad => rw [e] at h2; exact h2
  · left
    have e : i = ds.length := by omega
    subst e
    refine ⟨(wk ow2 H2 k2.keep ds.length).2 rfl, ?_⟩
    rw [List.drop_length] at h2
    exact h2 σ2 ow2 H2 k12 (r2.kill kl)
end
end Ev

/-! EvN: the text's statements against the small syntax; every statement is sound. -/
namespace Ev
open PySem PySem.Spec PyProof.Rows L2

/-! ### shapes -/
def isLc : Expr → Bool
  | .ListComp _ _ _ _ => true
  | .DictComp _ _ _ _ _ => true
  | _ => false
/-- a comprehension stored on its own line -/
def swB (sc : Scope) (x : Str) (px : Pos) : Expr → Bool
  | .ListComp _ _ scope pos => (sc.names.lookup x == some .local) && (px.line == pos.line) && !(scope.names.any fun (n, k) => n == x && (k == .local || k == .cell))
  | .DictComp _ _ _ scope pos => (sc.names.lookup x == some .local) && (px.line == pos.line) && !(scope.names.any fun (n, k) => n == x && (k == .local || k == .cell))
  | _ => false
theorem swB_ok {sc : Scope} {x : Str} {px : Pos} {a : Expr} {l : Nat} {env : Env} (he : env.scope = sc) (hk : sc.kind = .function) (hl : (noComp a || isLc a) = true) : swapsWith a (some (.Name x px)) l env = pure (swB sc x px a) := by
  cases h : noComp a with
  | true =>
    rw [swaps_no h]
    cases a <;> first | rfl | cases h
  | false =>
    rw [h] at hl
    cases a <;> simp [isLc] at hl
    all_goals
      have hb : env.blockKind = .function := by unfold Env.blockKind; rw [he, hk]; rfl
      unfold swapsWith swB
      simp only [hb, Env.kindOf, he, Expr.pos]
      simp
def isStar : Expr → Bool
  | .Starred _ _ => true
  | _ => false
/-- the order of the stores of a tuple, as the model's rule has it -/
def swpS (sc : Scope) (ts vs : List Expr) : Option (Option (List Str)) :=
  if !(ts.length == 2 || ts.length == 3) || vs.length != ts.length then some none
  else if vs.any (fun | .Starred .. => true | _ => false) then some none
  else
    let line := (ts.head?.map (·.pos.line)).getD 0
    let names := ts.filterMap fun
      | .Name id pos => if sc.names.lookup id == some .local && pos.line == line then some id else none
      | _ => none
    if names.length != ts.length || names.eraseDups.length != names.length then some none
    else if vs.all (foldedForSure 8) then some none
    else if vs.all (constantsAlone 8) then none
    else some (some names)
theorem swp_ok {sc : Scope} {ts vs : List Expr} {k1 k2 : Nat} {q1 q2 : Pos} {env : Env} {r : Option (List Str)} (he : env.scope = sc) (hk : sc.kind = .function) (h : swpS sc ts vs = some r) : swappedStores [.Tuple ts k1 q1] (.Tuple vs k2 q2) env = pure r := by
  have hb : env.blockKind = .function := by unfold Env.blockKind; rw [he, hk]; rfl
  unfold swpS at h
  unfold swappedStores
  simp only [hb, Env.kindOf, he]
  simp only [bne_self_eq_false, Bool.or_false]
  split at h
  · next h1 => cases h; simp only [h1, if_true]
  · next h1 =>
    simp only [h1]
    rw [if_neg (by decide)]
    split at h
    · next h2 => cases h; exact if_pos h2
    · next h2 =>
      refine (if_neg h2).trans ?_
      simp only at h
      split at h
      · next h3 => cases h; exact if_pos h3
      · next h3 =>
        refine (if_neg h3).trans ?_
        split at h
        · next h4 => cases h; exact if_pos h4
        · next h4 =>
          refine (if_neg h4).trans ?_
          split at h
          · cases h
          · next h5 => cases h; exact if_neg h5
theorem swp_no {ts : List Expr} {k1 : Nat} {q1 : Pos} {env : Env} {a : Expr} (h : isTupT a = false) : swappedStores [.Tuple ts k1 q1] a env = pure none := by
  cases a <;> first | rfl | cases h
theorem swp_sub {o i : Expr} {q1 : Pos} {env : Env} {a : Expr} : swappedStores [.Subscript o i q1] a env = pure none := by cases a <;> rfl
theorem sw_sub {o i : Expr} {q1 : Pos} {env : Env} {a : Expr} {l : Nat} : swapsWithSole [.Subscript o i q1] a l env = pure false := by cases a <;> rfl
/-- a name that a statement stores -/
def stB (M : MC) (sc : Scope) (i : Nat) (x : Str) : Bool := decide (M.N[i]? = some x) && (match sc.names.lookup x with
  | some .local => true
  | some .cell => true
  | _ => false)
theorem stB_ok {M : MC} {X : Cx} {sc : Scope} {i : Nat} {x : Str} (hs : X.env.scope = sc) (hN : X.N = M.N) (h : stB M sc i x = true) : X.N[i]? = some x ∧ Loc X.env.scope x := by
  unfold stB at h
  simp only [Bool.and_eq_true, decide_eq_true_eq] at h
  refine ⟨by rw [hN]; exact h.1, ?_⟩
  rw [hs]
  have := h.2
  split at this
  · next e => exact .inl e
  · next e => exact .inr e
  · cases this
def mPar (own : List Str) (M : MC) (sc : Scope) : List Bool → Es → List Expr → Bool
  | [], .nil, [] => true
  | _ :: zs, .cons e es, x :: r => noStar x && mE own M sc e x && mPar own M sc zs es r
  | _, _, _ => false
def namesE : List Expr → Option (List Str)
  | [] => some []
  | .Name x _ :: r => (namesE r).map (x :: ·)
  | _ => none
def allLoc (M : MC) (sc : Scope) : List Nat → List Expr → Bool
  | [], [] => true
  | i :: is, .Name x _ :: es => decide (M.N[i]? = some x) && (sc.names.lookup x == some .local) && allLoc M sc is es
  | _, _ => false
/-- except X: return a constant -/
def mHs (M : MC) (sc : Scope) : List (Str × D) → List ExceptHandler → Bool
  | [], [] => true
  | (c, d) :: hs, .ExceptHandler (some (.Name x _)) none [.Return (some (.Constant cn _ _)) _] _ :: hds => decide (x = c) && M.excs.contains c && glB sc x && okN x && conOk d cn && mHs M sc hs hds
  | _, _ => false
mutual
def mS (own : List Str) (M : MC) (sc : Scope) : St → Stmt → Bool
  | .asg _ i e, st => (match st with
    | .Assign [.Name x px] a _ => stB M sc i x && (noComp a || isLc a) && mE own M sc e a
    | _ => false)
  | .unp is e, st => (match st with
    | .Assign [.Tuple ts _ _] a _ => mNames M sc sc is ts && mE own M sc e a && (match a with
      | .Tuple vs _ _ => decide (swpS sc ts vs = some none)
      | _ => true)
    | _ => false)
  | .par zs is es, st => (match st with
    | .Assign [.Tuple ts _ _] (.Tuple vs _ _) _ => (ts.length == 2 || ts.length == 3) && vs.length == ts.length && decide is.Nodup && allLoc M sc is ts && decide ((namesE ts).isSome ∧ swpS sc ts vs = some (namesE ts)) && mPar own M sc zs es vs
    | _ => false)
  | .app i e, st => (match st with
    | .Expr (.Call (.Attribute (.Name x _) m p2) [a] [] p3) _ => decide (m = "append") && slotB M sc i x && noStar a && (p2.endLine == p3.line) && mE own M sc e a
    | _ => false)
  | .six i k e, st => (match st with
    | .Assign [.Subscript (.Name x _) y _] a _ => slotB M sc i x && plainS y && mE own M sc k y && mE own M sc e a
    | _ => false)
  | .del i k, st => (match st with
    | .Delete [.Subscript (.Name x _) y _] _ => slotB M sc i x && mE own M sc k y
    | _ => false)
  | .atr c i f e, st => (match st with
    | .Assign [.Attribute (.Name x _) g _] a _ => decide (f = g) && M.flds.contains (c, f) && slotB M sc i x && noComp a && mE own M sc e a
    | _ => false)
  | .aug op i e, st => (match st with
    | .AugAssign (.Name x _) o a _ => opB op o && (match op with
      | .add => true
      | .sub => true
      | _ => false) && stB M sc i x && mE own M sc e a
    | _ => false)
  | .ife c a b, st => (match st with
    | .If t x y _ => mT own M sc c t && mSs own M sc a x && mSs own M sc b y
    | _ => false)
  | .whl _ c _ b, st => (match st with
    | .While t x [] _ => mT own M sc c t && mSs own M sc b x
    | _ => false)
  | .fr tg it _ b, st => (match st with
    | .For t i x [] _ => mTg M sc sc tg t && mI own M sc it t i && noSet i && mSs own M sc b x
    | _ => false)
  | .ret _ e, st => (match st with
    | .Return (some a) _ => mE own M sc e a
    | _ => false)
  | .retN, st => (match st with
    | .Return none _ => true
    | _ => false)
  | .rse c fs es, st => (match fs, es with
    | [], .nil => (match st with
      | .Raise (some (.Call (.Name x _) [] [] _)) none _ => decide (x = c) && M.excs.contains c && glB sc x && okN x
      | _ => false)
    | _, _ => (match st with
      | .Raise _ _ _ => true
      | _ => false))
  | .tr ok b hs, st => (match st with
    | .Try x hds [] [] _ => (ok.all fun c => M.excs.contains c) && mSs own M sc b x && mHs M sc hs hds && !hds.isEmpty
    | _ => false)
  | .exp e, st => (match st with
    | .Expr a _ => noComp a && mE own M sc e a
    | _ => false)
  | .pas, st => (match st with
    | .Pass _ => true
    | _ => false)
  | .brk, st => (match st with
    | .Break _ => true
    | _ => false)
  | .kill _, _ => false
def mSs (own : List Str) (M : MC) (sc : Scope) : Ss → List Stmt → Bool
  | .nil, l => l.isEmpty
  | .cons (.kill _) ss, l => mSs own M sc ss l
  | .cons s ss, l => (match l with
    | x :: r => mS own M sc s x && mSs own M sc ss r
    | _ => false)
end

section
variable {W : Wd} {M : MC} {cl : Calls} {gl : Str → Option D} {k : Nat} {X : Cx} {sc : Scope} {Wx : WX}
theorem slotB_ok (G : CxG W M cl gl k X sc Wx) {i : Nat} {x : Str} (h : slotB M sc i x = true) : X.N[i]? = some x ∧ Vis X.env.scope x ∧ (x == ("__debug__" : Str)) = false ∧ (x == ("__classdict__" : Str)) = false := by
  unfold slotB at h
  simp only [Bool.and_eq_true, decide_eq_true_eq] at h
  obtain ⟨⟨h1, h2⟩, h3⟩ := h
  exact ⟨by rw [G.N]; exact h1, by rw [G.sc]; exact visB_ok h2, (okN_ok h3).1, (okN_ok h3).2.1⟩
/-! ### xs[i] = e -/
/-- whatever the store needs -/
def RSt (X : Cx) : TSet := fun o i v H Q => ∀ (pins : List (Addr × Obj)) (s : Shared) (σ : L2.St) (ov iv u : Value), Inv X pins σ H s → RelV o ov → RelV i iv → RelV v u →
    wpAny (model X.prog X.w) X.A (setItem ov iv u) (fun _ s' => ∃ H', Inv X pins σ H' s' ∧ Q H') X.xe s
theorem pset_R : PSet X (RSt X) := fun pins s σ H o i v ov iv u Q I r1 r2 r3 h => h pins s σ ov iv u I r1 r2 r3
theorem RSt.of {t : TSet} (h : PSet X t) {o i v : V} {H : Hp} {Q : Hp → Prop} (q : t o i v H Q) : RSt X o i v H Q := fun pins s σ ov iv u I r1 r2 r3 => h pins s σ H o i v ov iv u Q I r1 r2 r3 q
theorem repL_set {ow : Ow} {H : Hp} {d : D} {v : V} (hd : Rep W ow H d v) : ∀ {ds : List D} {vs : List V} (j : Nat), RepL W ow H ds vs → RepL W ow H (ds.set j d) (vs.set j v)
  | _, _, _, .nil => .nil
  | _, _, 0, .cons a l => .cons hd l
  | _, _, j + 1, .cons a l => .cons a (repL_set hd j l)
theorem repK_del {ow : Ow} {H : Hp} {k : NestedKey} : ∀ {kvs : List (NestedKey × D)} {es : List (NestedKey × Addr × V)}, RepK W ow H kvs es → RepK W ow H (kvs.filter fun p => !decide (p.1 = k)) (es.filter fun x => decide (x.1 ≠ k))
  | _, _, .nil => .nil
  | _, _, .cons (k := k0) r1 r2 r3 r4 => by
    by_cases h : k0 = k
    · rw [List.filter_cons_of_neg (by simpa using h), List.filter_cons_of_neg (by simpa using h)]
      exact repK_del r4
    · rw [List.filter_cons_of_pos (by simpa using h), List.filter_cons_of_pos (by simpa using h)]
      exact .cons r1 r2 r3 (repK_del r4)
theorem pr_del {k : NestedKey} : ∀ {es : List (NestedKey × Addr × V)} {xs : List (NestedKey × Addr × Value)}, Paired PR es xs → Paired PR (es.filter fun x => decide (x.1 ≠ k)) (withoutH xs k)
  | _, _, .nil => .nil
  | e :: es, x :: xs, .cons h l => by
    unfold withoutH
    by_cases hk : e.1 = k
    · rw [List.filter_cons_of_neg (by simpa using hk), List.filter_cons_of_neg (by rw [← h.1]; simpa using hk)]
      exact pr_del l
    · rw [List.filter_cons_of_pos (by simpa using hk), List.filter_cons_of_pos (by rw [← h.1]; simpa using hk)]
      exact .cons h (pr_del l)
theorem snd_del (G : CxG W M cl gl k X sc Wx) {i : Nat} {x : Str} {ik : E} {y : Expr} {p1 p2 pos : Pos} (hN : X.N[i]? = some x) (hv : Vis X.env.scope x) (hd : (x == ("__debug__" : Str)) = false) (hcd : (x == ("__classdict__" : Str)) = false) (hk : SndE W cl gl X Wx y ik) :
    SndS W cl gl X Wx (.Delete [.Subscript (.Name x p1) y p2] pos) (.del i ik) := by
  intro pv H0 ow H S σ D en r h
  simp only [exS] at h
  split at h
  · next o0 hg0 =>
    have hs : ∃ u, σ[i]? = some (some u) := by
      rcases (getO_cell hg0).1 with hc | hc
      · obtain ⟨u, hu, _⟩ := r.cell i _ hc; exact ⟨u, hu⟩
      · obtain ⟨u, hu, _⟩ := r.cell i _ hc; exact ⟨u, hu⟩
    obtain ⟨u, hu⟩ := hs
    intro pins s I
    refine wpAny_Delete (wpAny_deleteEach_cons (wpAny_delete_Subscript (thn ((RE.of (pe_var hN hv hd hcd) (σ := σ) (H := H) (Q := fun v H1 => v = u ∧ H1 = H) ⟨u, hu, rfl, rfl⟩) pins s I) fun ov s1 hh => ?_)))
    obtain ⟨v1, H1, I1, rv, rfl, rfl⟩ := hh
    refine thn (hk pv ow H1 S σ _ r (PostS.seq h) pins s1 I1) fun iv s2 hh => ?_
    obtain ⟨w, H2, I2, rw', x3, S3, ow3, -, k3, r3, p3, h3⟩ := hh
    obtain ⟨d4, S4, ow4, k4, kp4, r4, p4, h4⟩ := PostS.esc r3 k3 p3 h3
    split at h4
    · next o hg =>
      split at h4
      · next o' hz =>
        unfold delIx at hz
        split at hz
        · next kvs ks =>
          simp only [Option.bind_eq_some_iff] at hz
          obtain ⟨kk, hkk, hz⟩ := hz
          split at hz
          case isFalse => cases hz
          next hhas =>
          cases hz
          obtain ⟨u', hu', a0, o0, es, rfl, ha0, hs0, t0, hd0, hk0⟩ := r4.obj hg
          rw [hu] at hu'
          cases hu'
          have p4' : Rep W ow4 H2 (.tup ks) w := p4
          have hw : ∃ b, w = .ref b := by
            cases p4'
            exact ⟨_, rfl⟩
          obtain ⟨b0, rfl⟩ := hw
          obtain rfl : ov = Value.ref a0 := rv
          obtain rfl : iv = Value.ref b0 := rw'
          have hne : H2 a0 ≠ none := by rw [ha0]; simp
          obtain ⟨hgd, xs, hp, hm⟩ := dictOf G.prog G.w G.K I2 ha0 hd0 hk0
          have hat : (atKey xs (.tup kk)).isSome = true := by
            have := (at_some hk0 hp (k := .tup kk)).1
            rw [valueAt_pairsH, Option.isSome_map, hhas] at this
            exact this
          obtain ⟨pp, hpp⟩ := Option.isSome_iff_exists.mp hat
          have hl1 := Paired.length hp
          have hl2 := hd0.1
          refine wpAny_delItem_heap (hsz := by omega) (room_in1 (by have := G.room.un; omega)) (keyIs G.K I2 p4'.rd hkk) hs0 hm hpp fun h' hm' hsb => wpAny_deleteEach_nil ?_
          obtain ⟨o', ds, ep, g1, g2, g3, g4, g5, g6⟩ := hm'
          obtain ⟨u1, u2, u3⟩ := upd_sl (o := objAt a0 o') t0 hne
          refine ⟨σ, _, d_write I2 (by rw [ha0]; exact True.intro) hsb ⟨o', g1⟩ (ext_ok g1), ?_⟩
          refine h4 σ ow4 _ (k4.trans u3) (r4.putO hg hu u1 u2 ⟨a0, o', es.filter fun x => decide (x.1 ≠ .tup kk), rfl, upd_same, hs0, t0, ⟨?_, g2, _, pr_del hp, ds, ep, g3, ?_, g6⟩, (repK_del hk0).keep u1⟩)
          · exact Nat.le_trans (List.length_filter_le _ _) hl2
          · rw [← G.prog, ← G.w]
            exact g4
        · cases hz
      · exact False.elim h4
    · exact False.elim h4
  · exact False.elim h
theorem snd_six (G : CxG W M cl gl k X sc Wx) {i : Nat} {x : Str} {ik ie : E} {y a : Expr} {p1 p2 pos : Pos} (hN : X.N[i]? = some x) (hv : Vis X.env.scope x) (hd : (x == ("__debug__" : Str)) = false) (hcd : (x == ("__classdict__" : Str)) = false) (hy : plainS y = true) (hk : SndE W cl gl X Wx y ik) (ha : SndE W cl gl X Wx a ie) :
    SndS W cl gl X Wx (.Assign [.Subscript (.Name x p1) y p2] a pos) (.six i ik ie) := by
  intro pv H0 ow H S σ D en r h
  simp only [exS] at h
  refine RS.of (ps_asg pe_RE (pg_sub (pe_var hN hv hd hcd) pe_RE pset_R (by intro v; cases y <;> first | rfl | cases hy)) sw_sub swp_sub) ?_
  split at h
  · next o0 hg0 =>
    refine RE.mono (ha pv ow H S σ _ r (PostS.seq h)) ?_
    rintro v H1 ⟨x1, S1, ow1, -, k1, r1, p1, h1⟩
    obtain ⟨d, S2, ow2, k2, kp2, r2, p2, h2⟩ := PostS.esc r1 k1 p1 h1
    have hs : ∃ u, σ[i]? = some (some u) := by
      rcases (getO_cell hg0).1 with hc | hc
      · obtain ⟨u, hu, _⟩ := r.cell i _ hc; exact ⟨u, hu⟩
      · obtain ⟨u, hu, _⟩ := r.cell i _ hc; exact ⟨u, hu⟩
    obtain ⟨u, hu⟩ := hs
    refine ⟨u, hu, RE.mono (hk pv ow2 H1 S2 σ _ r2 (PostS.seq2 h2 k2)) ?_⟩
    rintro w H2 ⟨x3, S3, ow3, -, k3, r3, p3, h3⟩
    obtain ⟨d4, S4, ow4, k4, kp4, r4, p4, h4⟩ := PostS.esc r3 k3 p3 h3
    split at h4
    · next o hg =>
      split at h4
      · next o' hz =>
        unfold setIx at hz
        split at hz
        · next xs j =>
          simp only [Option.map_eq_some_iff] at hz
          obtain ⟨n, hn, rfl⟩ := hz
          obtain ⟨u', hu', l, vs, rfl, hl, tl, rl⟩ := r4.obj hg
          rw [hu] at hu'
          cases hu'
          cases (show Rep W ow4 H2 (.int j) w from p4)
          have hne : H2 l ≠ none := by rw [hl]; simp
          obtain ⟨u1, u2, u3⟩ := upd_sl (o := .lst (vs.set n v)) tl hne
          refine RSt.of set_list ⟨l, vs, j, n, rfl, rfl, hl, by rw [← rl.length]; exact hn, ?_⟩
          have pd : Rep W ow4 H2 d v := Rep.keep kp4 (Rep.keep k3.keep p2)
          exact h4 σ ow4 _ (k2.trans (k4.trans u3)) (r4.putO hg hu u1 u2 ⟨l, vs.set n v, rfl, upd_same, tl, (repL_set pd n rl).keep u1⟩)
        · next kvs ks =>
          simp only [Option.bind_eq_some_iff] at hz
          obtain ⟨kk, hkk, hz⟩ := hz
          split at hz
          case isFalse => cases hz
          next hlt =>
          cases hz
          obtain ⟨u', hu', a0, o0, es, rfl, ha0, hs0, t0, hd0, hk0⟩ := r4.obj hg
          rw [hu] at hu'
          cases hu'
          have p4' : Rep W ow4 H2 (.tup ks) w := p4
          have hw : ∃ b, w = .ref b := by
            cases p4'
            exact ⟨_, rfl⟩
          obtain ⟨b0, rfl⟩ := hw
          have hne : H2 a0 ≠ none := by rw [ha0]; simp
          have pd : Rep W ow4 H2 d v := Rep.keep kp4 (Rep.keep k3.keep p2)
          intro pins s σ' ov iv u I q1 q2 q3
          obtain rfl : ov = Value.ref a0 := q1
          obtain rfl : iv = Value.ref b0 := q2
          refine G.ds ow4 H2 ks kvs kk d a0 b0 v _ hkk ⟨a0, o0, es, rfl, ha0, hs0, hd0, hk0⟩ p4' pd hlt (fun o' es' _ hd' hr' => ?_) pins s σ' u I q3
          obtain ⟨u1, u2, u3⟩ := upd_sl (o := objAt a0 o') t0 hne
          exact h4 σ ow4 _ (k2.trans (k4.trans u3)) (r4.putO hg hu u1 u2 ⟨a0, o', es', rfl, upd_same, hs0, t0, hd', hr'.keep u1⟩)
        · cases hz
      · exact False.elim h4
    · exact False.elim h4
  · exact False.elim h
/-! ### raise, try -/
/-- X() of an exception class of the text -/
theorem pmk_own0 {x : Str} {C : Addr} {p pos : Pos} (q : ExcOk X.K C) (gC : X.mg x = some (.ref C)) (hg : Gl X x) (hdb : (x == ("__debug__" : Str)) = false) : PMk X (.Call (.Name x p) [] [] pos) (fun _ H Q => Q (.ref C) none H) := by
  intro pins s σ H Q I h
  obtain ⟨q1, q2, q3, q4⟩ := q
  refine wpAny_Call_Name_kw (ld_glob I hg gC ?_ hdb)
  refine PySem.W.callWith_K0 I.kIn q2 ?_
  show wpAny _ _ (call (.ref C) []) _ _ _
  obtain ⟨bm, N, nm, qn, bs, hdct, sn, sub, ab, col, dd, k0, k1, k2, k3, k5, mN, hC, hN, hni, T⟩ := exc_obj I.kIn q1
  refine wpAny_call_exc_subT PySem.F.excBase_ValueError T hC hN hni (fun h' e hm => ?_) (Nat.zero_le _)
  exact mk_of I hm (raises_own q3 q4) h (I.hok.gone hm.new)
theorem snd_rse0 (G : CxG W M cl gl k X sc Wx) {c : Str} {p p2 pos : Pos} (hc : c ∈ M.excs) (hg : Gl X c) (hd : (c == ("__debug__" : Str)) = false) : SndS W cl gl X Wx (.Raise (some (.Call (.Name c p) [] [] p2)) none pos) (.rse c [] .nil) := by
  intro pv H0 ow H S σ D en r h
  simp only [exS, rseR] at h
  obtain ⟨h1, h2, _⟩ := G.exc c hc
  refine RS.of (ps_raise G.calm G.tk (pmk_own0 (G.K ▸ h2) h1 hg hd)) ?_
  exact h _ none σ ow H Step.refl r ⟨rfl, .inl ⟨rfl, rfl⟩⟩
theorem snd_rseB {st : Stmt} {c : Str} {fs : List Str} {es : Es} (hz : ∀ S, rseR c fs es S = .bad) : SndS W cl gl X Wx st (.rse c fs es) := by
  intro pv H0 ow H S σ D en r h
  simp only [exS, hz] at h
  exact False.elim h
theorem CxG.tr (G : CxG W M cl gl k X sc Wx) {pn : List (Addr × Obj)} {xe : Value → Shared → Prop} {Wy : WX} (tk : Takes (X.tr pn xe) Wy) (pw : PassesOwn (model X.prog X.w) X.A X.env xe) : CxG W M cl gl k (X.tr pn xe) sc Wy :=
  ⟨G.prog, G.w, G.K, G.N, G.nd, G.sc, G.calm, G.room, tk, pw, G.free, G.fn, G.con, G.cls, G.kit, G.kitO, G.fld, G.prop, G.made, G.eq, G.dic, G.exc⟩
/-- a block, as a promise -/
def tBlk (W : Wd) (cl : Calls) (gl : Str → Option D) (iss : Ss) (Wy : WX) : TS := fun D σ H => ∃ pv H0 ow S, Ent pv H0 ow H ∧ Rel W pv ow H S σ ∧ PostS W pv H0 ow H Wy (exSs cl gl iss S) D
def retC (d : D) : Ss := .cons (.ret false (.con d)) .nil
/-- the clauses' promises -/
def tHs (W : Wd) (cl : Calls) (gl : Str → Option D) (hs : List (Str × D)) : List (Value × (Addr → Value → Option Addr → TS)) := hs.map fun p => (.ref (W.cad p.1), fun _ _ _ => tBlk W cl gl (retC p.2) noWx)
theorem hds_ok (G : CxG W M cl gl k X sc Wx) : ∀ {hs : List (Str × D)} {hds : List ExceptHandler}, mHs M sc hs hds = true → HdsOk X hds (tHs W cl gl hs)
  | [], [], _ => .nil
  | [], _ :: _, h => by simp [mHs] at h
  | _ :: _, [], h => by simp [mHs] at h
  | (c, d) :: hs, hd :: hds, h => by
    unfold mHs at h
    split at h
    · rename_i hzero _; cases hzero
    · rename_i _ _ c' d' hs' x px cn j pc pr ph hds' e1 e2
      cases e1
      cases e2
      simp only [Bool.and_eq_true, decide_eq_true_eq] at h
      obtain ⟨⟨⟨⟨⟨rfl, h2⟩, h3⟩, h4⟩, h5⟩, h6⟩ := h
      have hm := G.exc x (List.contains_iff_mem.mp h2)
      refine .cons ⟨glB_ok G.sc h3, (okN_ok h4).1, .inl hm.1⟩ (fun a oe cls dd pn _ _ => ⟨fun pins s σ H D I q => ?_⟩) (hds_ok G h6)
      obtain ⟨pv, H0, ow, S, en, r, hp⟩ := q
      exact snd_scons (snd_ret (snd_con h5)) snd_snil pv H0 ow H S σ D en r hp pins s I
    · cases h
theorem many_of (G : CxG W M cl gl k X sc Wx) {De : Ends} {c : Str} {cls : Value} {dd : Option Addr} {σ : L2.St} {H : Hp} (hc : c ∈ M.excs) (hcls : cls = .ref (W.cad c)) : ∀ {hs : List (Str × D)} {hds : List ExceptHandler}, mHs M sc hs hds = true →
    (∀ d, findH c hs = some d → tBlk W cl gl (retC d) noWx De σ H) → (findH c hs = none → Wx cls dd σ H) → wMany X.K Wx De (tHs W cl gl hs) cls dd σ H
  | [], _, _, _, h2 => h2 rfl
  | (k, d) :: hs, hds, hm, h1, h2 => by
    cases hds with
    | nil => simp [mHs] at hm
    | cons hd hds =>
    unfold mHs at hm
    split at hm
    · rename_i hzero _; cases hzero
    · rename_i _ _ c' d' hs' x px cn j pc pr ph hds' e1 e2
      cases e1
      cases e2
      simp only [Bool.and_eq_true, decide_eq_true_eq] at hm
      obtain ⟨⟨⟨⟨⟨rfl, m2⟩, m3⟩, m4⟩, m5⟩, m6⟩ := hm
      have he := (G.exc c hc).2.2 x (List.contains_iff_mem.mp m2)
      refine ⟨decide (c = x), by rw [G.K, hcls]; exact he, fun hb a _ => ?_, fun hb => ?_⟩
      · have hb := of_decide_eq_true hb
        exact h1 d (by simp [findH, hb])
      · have hb := of_decide_eq_false hb
        exact many_of G hc hcls m6 (fun d' hd' => h1 d' (by simp [findH, hb, hd'])) (fun hn => h2 (by simp [findH, hb, hn]))
    · cases hm
theorem snd_tr (G : CxG W M cl gl k X sc Wx) (hst : X.stack = X.env :: X.outer) (hfr : X.env.frame = some X.env.locals) {ok : List Str} {b : Ss} {hs : List (Str × D)} {body : List Stmt} {h0 : ExceptHandler} {hds : List ExceptHandler} {pos : Pos} (hok : ∀ c ∈ ok, c ∈ M.excs)
    (hb : ∀ (pn : List (Addr × Obj)) (xe : Value → Shared → Prop) (Wy : WX), CxG W M cl gl k (X.tr pn xe) sc Wy → SndSs W cl gl (X.tr pn xe) Wy body b) (hm : mHs M sc hs (h0 :: hds) = true) : SndS W cl gl X Wx (.Try body (h0 :: hds) [] [] pos) (.tr ok b hs) := by
  intro pv H0 ow H S σ D en r h
  simp only [exS] at h
  refine RS.of (ps_try_many (tb := fun Wy => tBlk W cl gl b Wy) hst hfr G.tk (fun Wy pn xe tk pw => ⟨fun pins s σ H D I q => ?_⟩) (hds_ok G hm)) ?_
  · obtain ⟨pv, H0, ow, S, en, r, hp⟩ := q
    exact hb pn xe Wy (G.tr tk pw) pv H0 ow H S σ D en r hp pins s I
  · refine ⟨pv, H0, ow, S, en, r, ?_⟩
    cases e : exSs cl gl b S with
    | exc c fs S' =>
      rw [e] at h
      simp only [catchR] at h
      split at h
      · next hc =>
        intro cls d σ' ow' H' st rl ex
        have hc' := hok c (List.contains_iff_mem.mp hc)
        refine many_of G hc' ex.1 hm (fun d' hd' => ?_) (fun hn => ?_)
        · rw [hd'] at h
          refine ⟨pv, H0, ow', S', en.step st, rl, ?_⟩
          simp only [retC, exSs, exS, evE, Fl.bindO]
          exact fun v σ'' ow'' H'' k'' r'' q'' => h v σ'' ow'' H'' (st.trans k'') r'' q''
        · rw [hn] at h
          exact h cls d σ' ow' H' st rl ex
      · exact False.elim h
    | _ => rw [e] at h; exact h
theorem sndPar (G : CxG W M cl gl k X sc Wx) : ∀ {zs : List Bool} {ies : Es} {es : List Expr} {n : Nat}, mPar W.own M sc zs ies es = true → SndPar W cl gl X Wx n zs es ies
  | [], .nil, [], n, _ => snd_par0
  | z :: zs, .cons e es, x :: r, n, h => by
    simp only [mPar, Bool.and_eq_true] at h
    exact snd_par1 h.1.1 (sndE e G h.1.2) (sndPar G h.2)
  | [], .nil, _ :: _, n, h => by simp [mPar] at h
  | [], .cons _ _, _, n, h => by simp [mPar] at h
  | _ :: _, .nil, _, n, h => by simp [mPar] at h
  | _ :: _, .cons _ _, [], n, h => by simp [mPar] at h
theorem allLoc_len : ∀ {is : List Nat} {ts : List Expr}, allLoc M sc is ts = true → is.length = ts.length
  | [], [], _ => rfl
  | [], _ :: _, h => by simp [allLoc] at h
  | _ :: _, [], h => by simp [allLoc] at h
  | i :: is, t :: ts, h => by
    cases t <;> simp only [allLoc] at h <;> try (cases h)
    simp only [Bool.and_eq_true] at h
    simp [allLoc_len h.2]
theorem allLoc_cons {i : Nat} {is : List Nat} {t : Expr} {ts : List Expr} (h : allLoc M sc (i :: is) (t :: ts) = true) : ∃ x p, t = .Name x p ∧ M.N[i]? = some x ∧ sc.names.lookup x = some .local ∧ allLoc M sc is ts = true := by
  cases t <;> simp only [allLoc] at h <;> try (cases h)
  next x p =>
    simp only [Bool.and_eq_true, decide_eq_true_eq, beq_iff_eq] at h
    exact ⟨x, p, rfl, h.1.1, h.1.2, h.2⟩
theorem sndParS (G : CxG W M cl gl k X sc Wx) (hk : sc.kind = .function) {zs : List Bool} {is : List Nat} {ies : Es} {ts vs : List Expr} {k1 k2 : Nat} {q1 q2 pos : Pos}
    (h1 : (ts.length == 2 || ts.length == 3) = true) (h2 : vs.length = ts.length) (hd : is.Nodup) (hl : allLoc M sc is ts = true) (hn : (namesE ts).isSome = true) (hw : swpS sc ts vs = some (namesE ts)) (ha : SndPar W cl gl X Wx 0 zs vs ies) :
    SndS W cl gl X Wx (.Assign [.Tuple ts k1 q1] (.Tuple vs k2 q2) pos) (.par zs is ies) := by
  have hlen := allLoc_len hl
  simp only [Bool.or_eq_true, beq_iff_eq] at h1
  rcases h1 with h1 | h1
  · match ts, vs, is, h1, h2, hlen, hl, hd, hn, hw, ha with
    | [t1, t2], [a, b], [i, j], _, _, _, hl, hd, hn, hw, ha =>
      obtain ⟨x, px, rfl, e1, l1, hl⟩ := allLoc_cons hl
      obtain ⟨y, py, rfl, e2, l2, hl⟩ := allLoc_cons hl
      refine snd_parS2 G ?_ (by rw [G.N]; exact e1) (by rw [G.N]; exact e2) (by rw [G.sc]; exact l1) (by rw [G.sc]; exact l2) (swp_ok G.sc hk hw) ha
      intro z
      subst z
      simp at hd
  · match ts, vs, is, h1, h2, hlen, hl, hd, hn, hw, ha with
    | [t1, t2, t3], [a, b, c], [i, j, l], _, _, _, hl, hd, hn, hw, ha =>
      obtain ⟨x, px, rfl, e1, l1, hl⟩ := allLoc_cons hl
      obtain ⟨y, py, rfl, e2, l2, hl⟩ := allLoc_cons hl
      obtain ⟨w, pw, rfl, e3, l3, hl⟩ := allLoc_cons hl
      simp at hd
      refine snd_parS3 G hd.1.1 hd.1.2 hd.2 (by rw [G.N]; exact e1) (by rw [G.N]; exact e2) (by rw [G.N]; exact e3) (by rw [G.sc]; exact l1) (by rw [G.sc]; exact l2) (by rw [G.sc]; exact l3) (swp_ok G.sc hk hw) ha
theorem sndAsg (G : CxG W M cl gl k X sc Wx) (hk : sc.kind = .function) (hfn : ∀ x, X.fn x = true) {z : Bool} {i : Nat} {x : Str} {ia : E} {a : Expr} {px pos : Pos} (h1 : stB M sc i x = true) (h2 : (noComp a || isLc a) = true) (h3 : mE W.own M sc ia a = true) : SndS W cl gl X Wx (.Assign [.Name x px] a pos) (.asg z i ia) := by
  obtain ⟨e1, e2⟩ := stB_ok G.sc G.N h1
  have hsw := swB_ok (x := x) (px := px) (l := pos.line) G.sc hk h2
  cases hb : swB sc x px a with
  | false =>
    rw [hb] at hsw
    exact snd_asgS (by rw [G.N]; exact G.nd) e1 e2 (.inl (hfn x)) hsw (sndE ia G h3)
  | true =>
    rw [hb] at hsw
    cases a <;> simp only [swB] at hb <;> try (cases hb)
    next elt gs scope p =>
      simp only [Bool.and_eq_true, beq_iff_eq] at hb
      cases ia <;> simp only [mE] at h3 <;> try (cases h3)
      next ie tg it ot =>
        split at h3
        · next el t i' ifs scope2 p2 he =>
          cases he
          simp only [Bool.and_eq_true] at h3
          obtain ⟨⟨⟨⟨⟨g1, g2⟩, g3⟩, g4⟩, g5⟩, g6⟩ := h3
          refine snd_asgLc (own := ownOf M tg) G e1 (by rw [G.sc]; exact hb.1.1) hsw (by rw [G.N, G.sc]; exact blkOk_by g1) (by simp [ownOf, Function.comp_def]) (sndI it G g3) (fun s H C cc fp => ?_) (fun s H C cc fp => sndOt ot (G.blk scope s H C cc fp) g5) (fun s H C cc fp => sndE ie (G.blk scope s H C cc fp) g6) (noSet_ok g4)
          have G' := G.blk scope s H C cc fp
          exact pg_of (orig := scope) G'.calm G'.N G'.nd G'.sc (fun x hx => by show (scope.names.lookup x == some .cell) = true; rw [hx]; rfl) g2
        · cases h3
      next ie tg it tg1 it1 =>
        split at h3
        · next el t i' t1 i1 scope2 p2 he =>
          cases he
          simp only [Bool.and_eq_true] at h3
          obtain ⟨⟨⟨⟨⟨⟨⟨g1, g2⟩, g3⟩, g4⟩, g5⟩, g6⟩, g7⟩, g8⟩ := h3
          refine snd_asgLc2 (own := ownOf M tg ++ ownOf M tg1) G e1 (by rw [G.sc]; exact hb.1.1) hsw (by rw [G.N, G.sc]; exact blkOk_by g1) (by simp [ownOf, Function.comp_def]) (sndI it G g3) (fun s H C cc fp => ?_) (fun s H C cc fp => sndI it1 (G.blk scope s H C cc fp) g6) (fun s H C cc fp => ?_) (fun s H C cc fp => sndE ie (G.blk scope s H C cc fp) g8) (noSet_ok g4) (fun env => noSet_ok g7)
          · have G' := G.blk scope s H C cc fp
            exact pg_of (orig := scope) G'.calm G'.N G'.nd G'.sc (fun x hx => by show (scope.names.lookup x == some .cell) = true; rw [hx]; rfl) g2
          · have G' := G.blk scope s H C cc fp
            exact pg_of (orig := scope) G'.calm G'.N G'.nd G'.sc (fun x hx => by show (scope.names.lookup x == some .cell) = true; rw [hx]; rfl) g5
        · cases h3
      next hj ih =>
        cases ih <;> simp only [mE, isLcI, Bool.false_and, Bool.true_and] at h3 <;> try (cases h3)
        next ie tg it ot =>
          split at h3
          · next el t i' ifs scope2 p2 he =>
            cases he
            simp only [Bool.and_eq_true] at h3
            obtain ⟨⟨⟨⟨⟨g1, g2⟩, g3⟩, g4⟩, g5⟩, g6⟩ := h3
            refine snd_asgLcH (own := ownOf M tg) G e1 (by rw [G.sc]; exact hb.1.1) hsw (by rw [G.N, G.sc]; exact blkOk_by g1) (by simp [ownOf, Function.comp_def]) (sndI it G g3) (fun s H C cc fp => ?_) (fun s H C cc fp => sndOt ot (G.blk scope s H C cc fp) g5) (fun s H C cc fp => sndE ie (G.blk scope s H C cc fp) g6) (noSet_ok g4)
            have G' := G.blk scope s H C cc fp
            exact pg_of (orig := scope) G'.calm G'.N G'.nd G'.sc (fun x hx => by show (scope.names.lookup x == some .cell) = true; rw [hx]; rfl) g2
          · cases h3
    next kx vx gs scope p =>
      simp only [Bool.and_eq_true, beq_iff_eq] at hb
      cases ia <;> simp only [mE] at h3 <;> try (cases h3)
      next hj ih =>
        cases ih <;> simp only [mE, isLcI, Bool.false_and, Bool.true_and] at h3 <;> try (cases h3)
      next ka va tg it =>
        split at h3
        · next kx' vx' t i' scope2 p2 he =>
          cases he
          simp only [Bool.and_eq_true] at h3
          obtain ⟨⟨⟨⟨⟨g1, g2⟩, g3⟩, g4⟩, g5⟩, g6⟩ := h3
          refine snd_asgDc (own := ownOf M tg) G e1 (by rw [G.sc]; exact hb.1.1) hsw (by rw [G.N, G.sc]; exact blkOk_by g1) (by simp [ownOf, Function.comp_def]) (sndI it G g3) (fun s H C cc fp => ?_) (fun s H C cc fp => sndE ka (G.blk scope s H C cc fp) g5) (fun s H C cc fp => sndE va (G.blk scope s H C cc fp) g6) (noSet_ok g4)
          have G' := G.blk scope s H C cc fp
          exact pg_of (orig := scope) G'.calm G'.N G'.nd G'.sc (fun x hx => by show (scope.names.lookup x == some .cell) = true; rw [hx]; rfl) g2
        · cases h3
mutual
theorem sndS {X : Cx} {Wx : WX} (G : CxG W M cl gl k X sc Wx) (hk : sc.kind = .function) (hfn : ∀ x, X.fn x = true) (hst : X.stack = X.env :: X.outer) (hfr : X.env.frame = some X.env.locals) : ∀ (is : St) {st : Stmt}, mS W.own M sc is st = true → SndS W cl gl X Wx st is
  | .asg z i e, st, h => by
    simp only [mS] at h
    split at h
    · simp only [Bool.and_eq_true] at h
      exact sndAsg G hk hfn h.1.1 h.1.2 h.2
    · cases h
  | .unp is e, st, h => by
    simp only [mS] at h
    split at h
    · next ts kk q a pos =>
      simp only [Bool.and_eq_true] at h
      obtain ⟨⟨h1, h2⟩, h3⟩ := h
      refine snd_unp G (pg_of (orig := sc) (tg := .many is) G.calm G.N G.nd G.sc (fun x _ => hfn x) h1) ?_ (sndE e G h2)
      split at h3
      · exact swp_ok G.sc hk (of_decide_eq_true h3)
      · next hz => exact swp_no (by cases a <;> first | rfl | exact absurd rfl (hz _ _ _))
    · cases h
  | .par zs is es, st, h => by
    simp only [mS] at h
    split at h
    · simp only [Bool.and_eq_true, decide_eq_true_eq, beq_iff_eq] at h
      obtain ⟨⟨⟨⟨⟨h1, h2⟩, h3⟩, h4⟩, h5⟩, h6⟩ := h
      exact sndParS G hk h1 h2 h3 h4 h5.1 h5.2 (sndPar G h6)
    · cases h
  | .app i e, st, h => by
    simp only [mS] at h
    split at h
    · simp only [Bool.and_eq_true, decide_eq_true_eq] at h
      obtain ⟨⟨⟨⟨rfl, h2⟩, h3⟩, h4⟩, h5⟩ := h
      obtain ⟨e1, e2, e3, e4⟩ := slotB_ok G h2
      exact snd_app h3 e1 e2 e3 e4 h4 (sndE e G h5)
    · cases h
  | .six i k' e, st, h => by
    simp only [mS] at h
    split at h
    · simp only [Bool.and_eq_true] at h
      obtain ⟨⟨⟨h1, h2⟩, h3⟩, h4⟩ := h
      obtain ⟨e1, e2, e3, e4⟩ := slotB_ok G h1
      exact snd_six G e1 e2 e3 e4 h2 (sndE k' G h3) (sndE e G h4)
    · cases h
  | .del i k', st, h => by
    simp only [mS] at h
    split at h
    · simp only [Bool.and_eq_true] at h
      obtain ⟨e1, e2, e3, e4⟩ := slotB_ok G h.1
      exact snd_del G e1 e2 e3 e4 (sndE k' G h.2)
    · cases h
  | .atr c i f e, st, h => by
    simp only [mS] at h
    split at h
    · simp only [Bool.and_eq_true, decide_eq_true_eq] at h
      obtain ⟨⟨⟨⟨rfl, h1⟩, h2⟩, h3⟩, h4⟩ := h
      obtain ⟨e1, e2, e3, e4⟩ := slotB_ok G h2
      exact snd_atr G (List.contains_iff_mem.mp h1) e1 e2 e3 e4 h3 (sndE e G h4)
    · cases h
  | .aug op i e, st, h => by
    simp only [mS] at h
    split at h
    · simp only [Bool.and_eq_true] at h
      obtain ⟨⟨⟨h1, h2⟩, h3⟩, h4⟩ := h
      obtain ⟨e1, e2⟩ := stB_ok G.sc G.N h3
      have := opB_ok h1
      subst this
      exact snd_aug (by cases op <;> first | exact .inl rfl | exact .inr rfl | cases h2) (by rw [G.N]; exact G.nd) e1 e2 (.inl (hfn _)) (sndE e G h4)
    · cases h
  | .ife c a b, st, h => by
    simp only [mS] at h
    split at h
    · simp only [Bool.and_eq_true] at h
      exact snd_ife (sndT c G h.1.1) (sndSs G hk hfn hst hfr a h.1.2) (sndSs G hk hfn hst hfr b h.2)
    · cases h
  | .whl n c kl b, st, h => by
    simp only [mS] at h
    split at h
    · simp only [Bool.and_eq_true] at h
      exact snd_whl G (sndT c G h.1) (sndSs G hk hfn hst hfr b h.2)
    · cases h
  | .fr tg it kl b, st, h => by
    simp only [mS] at h
    split at h
    · simp only [Bool.and_eq_true] at h
      obtain ⟨⟨⟨h1, h2⟩, h3⟩, h4⟩ := h
      exact snd_for G (noSet_ok h3) (pg_of (orig := sc) G.calm G.N G.nd G.sc (fun x _ => hfn x) h1) (sndI it G h2) (sndSs G hk hfn hst hfr b h4)
    · cases h
  | .ret z e, st, h => by
    simp only [mS] at h
    split at h
    · exact snd_ret (sndE e G h)
    · cases h
  | .retN, st, h => by
    simp only [mS] at h
    split at h
    · exact snd_retN
    · cases h
  | .rse c fs es, st, h => by
    simp only [mS] at h
    split at h
    · split at h
      · simp only [Bool.and_eq_true, decide_eq_true_eq] at h
        obtain ⟨⟨⟨rfl, h2⟩, h3⟩, h4⟩ := h
        exact snd_rse0 G (List.contains_iff_mem.mp h2) (glB_ok G.sc h3) (okN_ok h4).1
      · cases h
    · next hz =>
      refine snd_rseB fun S => ?_
      unfold rseR
      split
      · exact (hz rfl rfl).elim
      · rfl
  | .tr ok b hs, st, h => by
    simp only [mS] at h
    split at h
    · next x hds pos =>
      simp only [Bool.and_eq_true, List.all_eq_true, Bool.not_eq_true'] at h
      obtain ⟨⟨⟨h1, h2⟩, h3⟩, h4⟩ := h
      cases hds with
      | nil => cases h4
      | cons h0 hds => exact snd_tr G hst hfr (fun c hc => List.contains_iff_mem.mp (h1 c hc)) (fun pn xe Wy G' => sndSs G' hk hfn hst hfr b h2) h3
    · cases h
  | .exp e, st, h => by
    simp only [mS] at h
    split at h
    · simp only [Bool.and_eq_true] at h
      exact snd_exp h.1 (sndE e G h.2)
    · cases h
  | .pas, st, h => by
    simp only [mS] at h
    split at h
    · exact snd_pas
    · cases h
  | .brk, st, h => by
    simp only [mS] at h
    split at h
    · exact snd_brk
    · cases h
  | .kill _, st, h => by simp [mS] at h
theorem sndSs {X : Cx} {Wx : WX} (G : CxG W M cl gl k X sc Wx) (hk : sc.kind = .function) (hfn : ∀ x, X.fn x = true) (hst : X.stack = X.env :: X.outer) (hfr : X.env.frame = some X.env.locals) : ∀ (iss : Ss) {sts : List Stmt}, mSs W.own M sc iss sts = true → SndSs W cl gl X Wx sts iss
  | .nil, sts, h => by
    simp only [mSs] at h
    cases sts with
    | nil => exact snd_snil
    | cons _ _ => cases h
  | .cons s ss, sts, h => by
    by_cases hkl : ∃ ks, s = .kill ks
    · obtain ⟨ks, rfl⟩ := hkl
      simp only [mSs] at h
      exact snd_kill (sndSs G hk hfn hst hfr ss h)
    · cases sts with
      | nil => cases s <;> first | exact absurd ⟨_, rfl⟩ hkl | (simp only [mSs] at h; cases h)
      | cons x r =>
        have h' : (mS W.own M sc s x && mSs W.own M sc ss r) = true := by
          cases s <;> first | exact absurd ⟨_, rfl⟩ hkl | (simp only [mSs] at h; exact h)
        simp only [Bool.and_eq_true] at h'
        exact snd_scons (sndS G hk hfn hst hfr s h'.1) (sndSs G hk hfn hst hfr ss h'.2)
end
end
end Ev

/-! EvO: defs. A def of the text keeps the promise that its small syntax makes. -/
namespace Ev
open PySem PySem.Spec PyProof.Rows L2

/-! ### entry and end of a def -/
def pvOf (cs : List Cell) (vs : List V) (i : Nat) : Option V := match cs[i]? with
  | some (.par _) => vs[i]?
  | _ => none
section
variable {W : Wd} {ow : Ow} {H : Hp}
theorem argsRep_len : ∀ {i : Nat} {cs : List Cell} {vs : List V}, ArgsRep W ow H i cs vs → cs.length = vs.length
  | _, [], [], _ => rfl
  | _, [], _ :: _, h => h.elim
  | _, _ :: _, [], h => h.elim
  | _, _ :: _, _ :: _, h => by simp [argsRep_len h.2]
theorem argsRep_at : ∀ {i : Nat} {cs : List Cell} {vs : List V}, ArgsRep W ow H i cs vs → ∀ {j : Nat} {c : Cell}, cs[j]? = some c → ∃ v, vs[j]? = some v ∧ CellRep W ow H (i + j) c v
  | _, [], [], _, j, c, h => by simp at h
  | _, [], _ :: _, h, _, _, _ => h.elim
  | _, _ :: _, [], h, _, _, _ => h.elim
  | i, c0 :: cs, v0 :: vs, h, 0, c, e => by simp at e; subst e; exact ⟨v0, rfl, h.1⟩
  | i, c0 :: cs, v0 :: vs, h, j + 1, c, e => by
    obtain ⟨v, h1, h2⟩ := argsRep_at h.2 (j := j) (c := c) (by simpa using e)
    exact ⟨v, by simpa using h1, by rw [show i + (j + 1) = i + 1 + j by omega]; exact h2⟩
theorem startF_get {f : Fn} {cs : List Cell} {i : Nat} {c : Cell} (h : getC (startF f cs) i = some c) : cs[i]? = some c := by
  unfold getC startF at h
  by_cases hi : i < cs.length
  · rw [List.getElem?_append_left (by simpa using hi), List.getElem?_map] at h
    cases e : cs[i]? with
    | none => rw [e] at h; cases h
    | some c' => rw [e] at h; exact h
  · rw [List.getElem?_append_right (by simpa using hi), List.getElem?_replicate] at h
    split at h
    · next e => split at e <;> cases e <;> cases h
    · cases h
theorem startF_get' {f : Fn} {cs : List Cell} {i : Nat} {c : Cell} (h : cs[i]? = some c) : getC (startF f cs) i = some c := by
  unfold getC startF
  have hi : i < cs.length := by
    rcases Nat.lt_or_ge i cs.length with q | q
    · exact q
    · rw [List.getElem?_eq_none q] at h; cases h
  rw [List.getElem?_append_left (by simpa using hi), List.getElem?_map, h]
  rfl
theorem start_get {N : List Str} {vs : List V} {i : Nat} {v : V} (h : vs[i]? = some v) : (L2.start N vs)[i]? = some (some v) := by
  unfold L2.start
  have hi : i < vs.length := by
    rcases Nat.lt_or_ge i vs.length with q | q
    · exact q
    · rw [List.getElem?_eq_none q] at h; cases h
  rw [List.getElem?_append_left (by simpa using hi), List.getElem?_map, h]
  rfl
theorem rel_start {f : Fn} {cs : List Cell} {vs : List V} (h : ArgsRep W ow H 0 cs vs) : Rel W (pvOf cs vs) ow H (startF f cs) (L2.start f.N vs) := by
  have hl := argsRep_len h
  refine ⟨by simp [startF, L2.start, hl], fun i c hc => ?_, fun i v hv => ?_, fun i o hc => ?_⟩
  · obtain ⟨v, h1, h2⟩ := argsRep_at h (startF_get hc)
    exact ⟨v, start_get h1, by simpa using h2⟩
  · unfold pvOf at hv
    split at hv
    · next o e => exact ⟨o, startF_get' e, start_get hv⟩
    · cases hv
  · have e := startF_get hc
    obtain ⟨v, h1, _⟩ := argsRep_at h e
    exact ⟨v, by unfold pvOf; rw [e]; exact h1⟩
theorem ent_start {cs : List Cell} {vs : List V} (h : ArgsRep W ow H 0 cs vs) (e : EntryOk ow H cs) : Ent (pvOf cs vs) H ow H := fun p hp => by
  refine ⟨hp, ?_⟩
  rcases e p hp with q | q | ⟨i, q1, q2⟩
  · exact .inl q
  · exact .inr (.inl q)
  · refine .inr (.inr (.inr ⟨i, ?_⟩))
    cases hc : cs[i]? with
    | none => rw [hc] at q1; cases q1
    | some c =>
      rw [hc] at q1
      cases c with
      | par o =>
        obtain ⟨v, h1, _⟩ := argsRep_at h hc
        exact ⟨v, by unfold pvOf; rw [hc]; exact h1, q2⟩
      | _ => cases q1
theorem outs_end : ∀ {cs : List Cell} {vs : List V} {S : Fr} {os : List Ob} {i : Nat}, cs.length = vs.length → (∀ j v, pvOf cs vs j = some v → ∃ o, getC S j = some (.par o) ∧ ObRep W ow H (fun p => ow p = .sl (i + j)) o v) → outsOf cs S = some os → OutsRep W ow H i cs vs os
  | [], [], S, os, i, _, _, h => by simp [outsOf] at h; subst h; trivial
  | [], _ :: _, _, _, _, hl, _, _ => by simp at hl
  | _ :: _, [], _, _, _, hl, _, _ => by simp at hl
  | c :: cs, v :: vs, S, os, i, hl, hp, h => by
    have tl : ∀ (c0 : Option Cell) (S' : Fr), S = c0 :: S' → ∀ j u, pvOf cs vs j = some u → ∃ o, getC S' j = some (.par o) ∧ ObRep W ow H (fun p => ow p = .sl (i + 1 + j)) o u := fun c0 S' e j u hu => by
      obtain ⟨o, h1, h2⟩ := hp (j + 1) u (by simpa [pvOf] using hu)
      refine ⟨o, ?_, by rw [show i + 1 + j = i + (j + 1) by omega]; exact h2⟩
      rw [e] at h1
      simpa [getC] using h1
    cases c with
    | par o0 =>
      cases S with
      | nil => simp [outsOf] at h
      | cons c0 S =>
        cases c0 with
        | none => simp [outsOf] at h
        | some c0 =>
          cases c0 with
          | par o =>
            simp only [outsOf, Option.map_eq_some_iff] at h
            obtain ⟨os', h1, rfl⟩ := h
            refine ⟨?_, outs_end (by simpa using hl) (tl _ S rfl) h1⟩
            obtain ⟨o', h2, h3⟩ := hp 0 v (by simp [pvOf])
            simp [getC] at h2
            subst h2
            simpa using h3
          | _ => simp [outsOf] at h
    | val d =>
      cases S with
      | nil => simp [outsOf] at h
      | cons c0 S =>
        simp only [outsOf] at h
        have q : OutsRep W ow H (i + 1) cs vs os := outs_end (by simpa using hl) (tl _ S rfl) h
        cases os <;> exact q
    | own o => simp [outsOf] at h
    | exc _ _ => simp [outsOf] at h
theorem rel_outs {cs : List Cell} {vs : List V} {S : Fr} {σ : L2.St} {os : List Ob} (hl : cs.length = vs.length) (r : Rel W (pvOf cs vs) ow H S σ) (h : outsOf cs S = some os) : OutsRep W ow H 0 cs vs os := by
  refine outs_end hl (fun j v hv => ?_) h
  obtain ⟨o, h1, h2⟩ := r.par j v hv
  obtain ⟨u, h3, h4⟩ := r.cell j _ h1
  rw [h2] at h3
  cases h3
  exact ⟨o, h1, by rw [Nat.zero_add]; exact h4⟩
end

/-! ### one def -/
section
variable {W : Wd} {M : MC} {cl : Calls} {gl : Str → Option D} {k : Nat} {X : Cx} {sc : Scope}
theorem body_ok {f : Fn} {sts : List Stmt} {E : XK} (G : CxG W M cl gl k X sc (fun cls d _ H => E cls d H)) (hk : sc.kind = .function) (hfn : ∀ x, X.fn x = true) (hst : X.stack = X.env :: X.outer) (hfr : X.env.frame = some X.env.locals) (hm : mSs W.own M sc f.body sts = true) {ow : Ow} {H : Hp} {cs : List Cell} {vs : List V} {Q : VK}
    (ha : ArgsRep W ow H 0 cs vs) (hall : cs.all isArg = true) (he : EntryOk ow H cs) (hp : PostF W ow H cs vs (runFn cl gl f cs) Q E) : RSs X sts { nx := fun _ H' => Q .non H', rt := Q } (L2.start f.N vs) H := by
  have hl := argsRep_len ha
  unfold runFn at hp
  split at hp
  · refine sndSs G hk hfn hst hfr f.body hm (pvOf cs vs) H ow H (startF f cs) (L2.start f.N vs) _ (ent_start ha he) (rel_start ha) ?_
    cases e : exSs cl gl f.body (startF f cs) with
    | nx S =>
      rw [e] at hp
      simp only [endF] at hp
      split at hp
      · next os ho => exact fun σ' ow' H' st r => hp .non ow' H' st .non (rel_outs hl r ho)
      · exact False.elim hp
    | ret rc S =>
      rw [e] at hp
      simp only [endF] at hp
      split at hp
      · next os ho => exact fun v σ' ow' H' st r q => hp v ow' H' st q (rel_outs hl r ho)
      · exact False.elim hp
    | exc c fs S =>
      rw [e] at hp
      simp only [endF] at hp
      split at hp
      · next os ho => exact fun cls d σ' ow' H' st r q => hp cls d ow' H' st q (rel_outs hl r ho)
      · exact False.elim hp
    | brk S => rw [e] at hp; exact False.elim hp
    | cnt S => rw [e] at hp; exact False.elim hp
    | bad => rw [e] at hp; exact False.elim hp
  · exact False.elim hp
end
/-- the text's side of a def -/
structure FnB (own : List Str) (M : MC) (f : Fn) (d : He.DefD) : Prop where
  m : mSs own { M with N := f.N } d.scope f.body d.body = true
  s : FnScope f.N f.ps d.scope
  d0 : d.dfl = []
  k0 : d.kwd = []
  b : ∀ (kV doc pm : Value) (an : Option Addr) (cdv ct : Value) (us : List Value), us.length = f.ps.length → bindArgs (PySem.W.fnOf d.name d.qual d.params d.body d.scope .none kV doc pm an cdv ct) ⟨us, []⟩ = pure (f.ps.zip us)
def fnBB (own : List Str) (M : MC) (f : Fn) (d : He.DefD) : Bool := mSs own { M with N := f.N } d.scope f.body d.body && (d.scope.kind == .function) && !d.scope.isCoroutine && !d.scope.isGenerator && decide f.N.Nodup && decide (f.N.take f.ps.length = f.ps) &&
  (f.ps.all fun x => d.scope.names.lookup x == some .local || d.scope.names.lookup x == some .cell) && (d.scope.names.all fun y => y.2 != .free) && d.dfl.isEmpty && d.kwd.isEmpty
theorem fnB_of {own : List Str} {M : MC} {f : Fn} {d : He.DefD} (h : fnBB own M f d = true) (b : ∀ (kV doc pm : Value) (an : Option Addr) (cdv ct : Value) (us : List Value), us.length = f.ps.length → bindArgs (PySem.W.fnOf d.name d.qual d.params d.body d.scope .none kV doc pm an cdv ct) ⟨us, []⟩ = pure (f.ps.zip us)) : FnB own M f d := by
  unfold fnBB at h
  simp only [Bool.and_eq_true, decide_eq_true_eq, Bool.not_eq_true', List.all_eq_true, Bool.or_eq_true, beq_iff_eq, bne_iff_ne, List.isEmpty_iff] at h
  obtain ⟨⟨⟨⟨⟨⟨⟨⟨⟨h1, h2⟩, h3⟩, h4⟩, h5⟩, h6⟩, h7⟩, h8⟩, h9⟩, h10⟩ := h
  exact ⟨h1, ⟨h2, h3, h4, h5, h6, h7, h8⟩, h9, h10, b⟩
/-- a def of the text with its promise -/
def FnAtG (W : Wd) (mg : Str → Option Value) (base : Heap) (cl : Calls) (k : Nat) (fa : Addr) (f : Str) : Prop := ∃ fd ps, PySem.W.keepIn W.K (.ref fa) = true ∧ Binds W.K fd ps [] ∧ FnOk W.P W.w W.K mg base (L2.CX W.P W.w) k fa fd ps (spOf W cl f)
/-- what is known of the written part, the calls aside -/
structure PF (W : Wd) (M : MC) (gl : Str → Option D) (mg : Str → Option Value) (adr : Str → Addr) (Γ : List Fn) (pr : Prims) : Prop where
  free : ∀ x ∈ freeNames, mg x = none
  fn : ∀ f ∈ M.fns, mg f = some (.ref (adr f)) ∧ ((pr f).isSome = true ∨ (findFn Γ f).isSome = true)
  con : ∀ x ∈ M.cons, ∃ d v u, gl x = some d ∧ mg x = some u ∧ RelV v u ∧ ∀ ow H, Rep W ow H d v
  cls : ∀ c ∈ W.own, mg c = some (.ref (W.cad c)) ∧ C8.InsC W.K (W.cad c)
  kit : ∀ c ∈ biCls, ∀ d, isDic d = false → (∀ k fs, d = .ins k fs → k ∈ W.own) → PySem.W.kitOne W.K (tyV W d) (.type c.2) = some (isiD c.1 d)
  kitO : ∀ c ∈ W.own, ∀ d, isDic d = false → (∀ k fs, d = .ins k fs → k ∈ W.own) → PySem.W.kitOne W.K (tyV W d) (.ref (W.cad c)) = some (isiD c d)
  fld : ∀ q ∈ M.flds, q.1 ∈ W.own ∧ NoAttr W.K (W.cad q.1) q.2
  prop : ∀ q ∈ M.props, q.1 ∈ W.own ∧ (∃ p, PropOf W.K (W.cad q.1) q.2 p (adr (q.1 ++ "." ++ q.2))) ∧ ((pr (q.1 ++ "." ++ q.2)).isSome = true ∨ (findFn Γ (q.1 ++ "." ++ q.2)).isSome = true)
  made : ∀ c ∈ M.made, c ∈ W.own ∧ Mk W.K (W.cad c) (adr (c ++ ".__init__")) ∧ ((pr (c ++ ".__init__")).isSome = true ∨ (findFn Γ (c ++ ".__init__")).isSome = true)
  eq : ∀ c ∈ W.own, (pr (c ++ ".__eq__") = none ∧ findFn Γ (c ++ ".__eq__") = none) ∨ (((pr (c ++ ".__eq__")).isSome = true ∨ (findFn Γ (c ++ ".__eq__")).isSome = true) ∧ PySem.W.findIn W.K (.ref (W.cad c)) "__eq__" = some (some (.ref (adr (c ++ ".__eq__")))) ∧ PySem.W.isFn W.K (.ref (adr (c ++ ".__eq__"))) = true ∧
    ∀ d, isDic d = false → (∀ k fs, d = .ins k fs → k ∈ W.own) → PySem.W.notFirst W.K (W.cad c) (tyV W d) = true)
  dic : DicAll W
  exc : ∀ c ∈ M.excs, mg c = some (.ref (W.cad c)) ∧ ExcOk W.K (W.cad c) ∧ ∀ c' ∈ M.excs, PySem.W.exmOne W.K (.ref (W.cad c)) (.ref (W.cad c')) = some (decide (c = c'))
section
variable {W : Wd} {M : MC} {gl : Str → Option D} {mg : Str → Option Value} {base : Heap} {adr : Str → Addr} {Γ : List Fn} {pr : Prims}
theorem cxG_of (F : PF W M gl mg adr Γ pr) {n : Nat} (hat : ∀ f, ((pr f).isSome = true ∨ (findFn Γ f).isSome = true) → FnAtG W mg base (callN Γ pr gl n) (3 * n) (adr f) f) {N : List Str} (nd : N.Nodup) {qual : Str} {scope : Scope} {f : Addr} {cd : Value} {A : Around} {outer : List Env} {s : Shared} {H : Hp} {E : XK}
    (hr : Room (3 * n + 2) (A.deeper (envOfC qual scope s.heap.objs.size f cd))) : CxG W { M with N := N } (callN Γ pr gl n) gl (3 * n) (cxOf (L2.CX W.P W.w) W.P W.w W.K mg base N qual scope f cd A outer s H E) scope (fun cls d _ H => E cls d H) where
  prog := rfl
  w := rfl
  K := rfl
  N := rfl
  nd := nd
  sc := rfl
  calm := rfl
  room := hr
  tk := takes_of (E := E) rfl rfl rfl rfl
  pw := passes_of rfl
  free := F.free
  fn := fun f hf => ⟨adr f, (F.fn f hf).1, hat f (F.fn f hf).2⟩
  con := F.con
  cls := F.cls
  kit := F.kit
  kitO := F.kitO
  fld := F.fld
  prop := fun q hq => let ⟨h1, ⟨p, h2⟩, h3⟩ := F.prop q hq; ⟨h1, p, _, h2, hat _ h3⟩
  made := fun c hc => let ⟨h1, h2, h3⟩ := F.made c hc; ⟨h1, _, h2, hat _ h3⟩
  eq := fun c hc => by
    rcases F.eq c hc with ⟨h1, h2⟩ | ⟨h1, h2, h3, h4⟩
    · refine .inl fun as => ?_
      cases n with
      | zero => rfl
      | succ n => simp only [callN, h1, h2]
    · exact .inr ⟨_, h2, h3, hat _ h1, h4⟩
  dic := F.dic
  exc := F.exc
theorem fn_stepK (F : PF W M gl mg adr Γ pr) {n : Nat} (hat : ∀ f, ((pr f).isSome = true ∨ (findFn Γ f).isSome = true) → FnAtG W mg base (callN Γ pr gl n) (3 * n) (adr f) f) {f : Fn} {d : He.DefD} {fd : FuncData} (B : FnB W.own M f d) (hpr : pr f.name = none) (hf : findFn Γ f.name = some f)
    (D : FunD W.K d.name d.qual d.params d.body d.scope (d.dvs W.K) (d.kws W.K) (adr f.name) fd) : FnOk W.P W.w W.K mg base (L2.CX W.P W.w) (3 * (n + 1)) (adr f.name) fd f.ps (spOf W (callN Γ pr gl (n + 1)) f.name) := by
  have e1 : d.dvs W.K = [] := by unfold He.DefD.dvs; rw [B.d0]; rfl
  have e2 : d.kws W.K = [] := by unfold He.DefD.kws; rw [B.k0]; rfl
  rw [e1, e2] at D
  have ecl : ∀ as, callN Γ pr gl (n + 1) f.name as = runFn (callN Γ pr gl n) gl f as := fun as => by simp only [callN, hpr, hf]
  refine D.ok (k := 3 * n + 2) (N := f.N) B.s (fun vs H Q E h => ?_) (fun cdv A outer s H vs Q E hr h => ?_)
  · obtain ⟨ow, cs, h1, _, _, h4⟩ := h
    rw [ecl] at h4
    unfold runFn at h4
    split at h4
    · next hl => rw [← argsRep_len h1]; exact hl
    · exact False.elim h4
  · obtain ⟨ow, cs, h1, h2, h3, h4⟩ := h
    rw [ecl] at h4
    exact ⟨_, pss_RS, body_ok (cxG_of F hat B.s.nd hr) B.s.kind (fun _ => rfl) rfl rfl B.m h1 h2 h3 h4⟩
theorem fn_step (F : PF W M gl mg adr Γ pr) {n : Nat} (hat : ∀ f, ((pr f).isSome = true ∨ (findFn Γ f).isSome = true) → FnAtG W mg base (callN Γ pr gl n) (3 * n) (adr f) f) {f : Fn} {d : He.DefD} {fd : FuncData} (B : FnB W.own M f d) (hpr : pr f.name = none) (hf : findFn Γ f.name = some f)
    (D : FunD W.K d.name d.qual d.params d.body d.scope (d.dvs W.K) (d.kws W.K) (adr f.name) fd) : FnAtG W mg base (callN Γ pr gl (n + 1)) (3 * (n + 1)) (adr f.name) f.name := by
  refine ⟨fd, f.ps, D.kp, ?_, fn_stepK F hat B hpr hf D⟩
  have e1 : d.dvs W.K = [] := by unfold He.DefD.dvs; rw [B.d0]; rfl
  have e2 : d.kws W.K = [] := by unfold He.DefD.kws; rw [B.k0]; rfl
  rw [e1, e2] at D
  exact D.bindsN B.b
/-- every def keeps its promise, at every depth -/
theorem all_ok (F : PF W M gl mg adr Γ pr) (hpr : ∀ n f g, pr f = some g → FnAtG W mg base (fun _ => g) (3 * (n + 1)) (adr f) f)
    (hΓ : ∀ f ∈ Γ, ∃ d fd, FnB W.own M f d ∧ FunD W.K d.name d.qual d.params d.body d.scope (d.dvs W.K) (d.kws W.K) (adr f.name) fd)
    (h0 : ∀ f, ((pr f).isSome = true ∨ (findFn Γ f).isSome = true) → ∃ fd ps, PySem.W.keepIn W.K (.ref (adr f)) = true ∧ Binds W.K fd ps []) :
    ∀ (n : Nat) (f : Str), ((pr f).isSome = true ∨ (findFn Γ f).isSome = true) → FnAtG W mg base (callN Γ pr gl n) (3 * n) (adr f) f
  | 0, f, hf => by
    obtain ⟨fd, ps, h1, h2⟩ := h0 f hf
    refine ⟨fd, ps, h1, h2, fun vs H Q E h => ?_, fun A outer s H args us vs Q E _ _ _ _ h => ?_⟩
    · obtain ⟨_, _, _, _, _, h4⟩ := h; exact False.elim h4
    · obtain ⟨_, _, _, _, _, h4⟩ := h; exact False.elim h4
  | n + 1, f, hf => by
    cases hp : pr f with
    | some g =>
      obtain ⟨fd, ps, h1, h2, h3⟩ := hpr n f g hp
      refine ⟨fd, ps, h1, h2, h3.imp fun vs H Q E h => ?_⟩
      have e : ∀ as, callN Γ pr gl (n + 1) f as = g as := fun as => by simp only [callN, hp]
      obtain ⟨ow, cs, q1, q2, q3, q4⟩ := h
      rw [e] at q4
      exact ⟨ow, cs, q1, q2, q3, q4⟩
    | none =>
      rcases hf with hf | hf
      · rw [hp] at hf; cases hf
      · cases e : findFn Γ f with
        | none => rw [e] at hf; cases hf
        | some fn =>
          have hm : fn ∈ Γ := List.mem_of_find?_eq_some e
          have hn : fn.name = f := by
            have := List.find?_some e
            simpa using this
          subst hn
          obtain ⟨d, fd, B, D⟩ := hΓ fn hm
          exact fn_step F (all_ok F hpr hΓ h0 n) B hp e D
end
end Ev

/-! EvP: the law's own generator: _law_mix, _law_next. -/
namespace Ev
open PySem PySem.Spec PyProof.Rows L2

abbrev mixE (p1 p2 p3 p4 p5 p6 p7 p8 p9 p10 p11 p12 p13 p14 p15 p16 p17 p18 p19 p20 p21 p22 p23 p24 p25 p26 p27 p28 p29 p30 : Pos) (k1 k2 k3 k4 k5 : Nat) : List Stmt :=
  [.Assign [(.Name "_law_state" p1)] (.Name "_law_seed" p2) p3,
   .For (.Name "_law_cell" p4) (.Name "_law_script" p5) [.Assign [(.Name "_law_state" p6)] (.BinOp (.Call (.Name "int" p7) [(.BinOp (.BinOp (.BinOp (.Name "_law_state" p8) .Mult (.Constant (.int 48271) k1 p9) p10) .Add (.BinOp (.Call (.Name "int" p11) [(.Name "_law_cell" p12)] [] p13) .Mod (.Constant (.int 2147483629) k2 p14) p15) p16) .Add (.Constant (.int 1) k3 p17) p18)] [] p19) .Mod (.Constant (.int 2147483647) k4 p20) p21) p22] [] p23,
   .Return (some (.List [(.Name "_law_state" p24), (.Call (.Name "list" p25) [(.Name "_law_script" p26)] [] p27), (.Constant (.int 0) k5 p28)] p29)) p30]
abbrev nextE (p1 p2 p3 p4 p5 p6 p7 p8 p9 p10 p11 p12 p13 p14 p15 p16 p17 p18 p19 p20 p21 p22 p23 p24 p25 p26 p27 p28 p29 p30 p31 p32 p33 p34 p35 p36 p37 p38 p39 p40 p41 p42 p43 p44 p45 p46 p47 p48 p49 p50 p51 p52 p53 p54 p55 p56 p57 p58 p59 p60 p61 p62 p63 p64 p65 p66 p67 p68 p69 p70 p71 p72 p73 p74 p75 p76 p77 p78 p79 p80 p81 p82 p83 p84 p85 p86 p87 p88 p89 p90 p91 p92 p93 : Pos) (k1 k2 k3 k4 k5 k6 k7 k8 k9 k10 k11 k12 k13 k14 k15 k16 k17 k18 k19 k20 : Nat) : List Stmt :=
  [.Assign [(.Name "_law_cell" p1)] (.Subscript (.BinOp (.Subscript (.Name "_law_h" p2) (.Constant (.int 1) k1 p3) p4) .Add (.List [(.Constant (.int 0) k2 p5)] p6) p7) (.BinOp (.Call (.Name "int" p8) [(.Subscript (.Name "_law_h" p9) (.Constant (.int 2) k3 p10) p11)] [] p12) .Mod (.Call (.Name "max" p13) [(.Constant (.int 1) k4 p14), (.Call (.Name "len" p15) [(.Subscript (.Name "_law_h" p16) (.Constant (.int 1) k5 p17) p18)] [] p19)] [] p20) p21) p22) p23,
   .If (.Compare (.Name "_law_cell" p24) [.GtE] [(.BinOp (.Constant (.int 10) k6 p25) .Pow (.Constant (.int 18) k7 p26) p27)] p28) [.Assign [(.Name "_law_cells" p29)] (.Subscript (.Name "_law_h" p30) (.Constant (.int 1) k8 p31) p32) p33, .Assign [(.Subscript (.Name "_law_cells" p34) (.BinOp (.Call (.Name "int" p35) [(.Subscript (.Name "_law_h" p36) (.Constant (.int 2) k9 p37) p38)] [] p39) .Mod (.Call (.Name "len" p40) [(.Name "_law_cells" p41)] [] p42) p43) p44)] (.BinOp (.Name "_law_cell" p45) .FloorDiv (.Name "_law_bound" p46) p47) p48, .Return (some (.BinOp (.Call (.Name "int" p49) [(.Name "_law_cell" p50)] [] p51) .Mod (.Name "_law_bound" p52) p53)) p54] [] p55,
   .Assign [(.Subscript (.Name "_law_h" p56) (.Constant (.int 0) k10 p57) p58)] (.BinOp (.Call (.Name "int" p59) [(.BinOp (.BinOp (.BinOp (.Subscript (.Name "_law_h" p60) (.Constant (.int 0) k11 p61) p62) .Mult (.Constant (.int 48271) k12 p63) p64) .Add (.BinOp (.Name "_law_cell" p65) .Mult (.Constant (.int 69621) k13 p66) p67) p68) .Add (.Constant (.int 11) k14 p69) p70)] [] p71) .Mod (.Constant (.int 2147483647) k15 p72) p73) p74,
   .Assign [(.Subscript (.Name "_law_h" p75) (.Constant (.int 2) k16 p76) p77)] (.BinOp (.Subscript (.Name "_law_h" p78) (.Constant (.int 2) k17 p79) p80) .Add (.Constant (.int 1) k18 p81) p82) p83,
   .Return (some (.BinOp (.Call (.Name "int" p84) [(.BinOp (.Subscript (.Name "_law_h" p85) (.Constant (.int 0) k19 p86) p87) .FloorDiv (.Constant (.int 7) k20 p88) p89)] [] p90) .Mod (.Name "_law_bound" p91) p92)) p93]

/-! ### what they compute -/
def atC (cs : List Int) (k : Int) : Nat := (k % (if (cs.length : Int) > 1 then (cs.length : Int) else 1)).toNat
def cellC (cs : List Int) (k : Int) : Int := (cs ++ [0]).getD (atC cs k) 0
def bigC : Int := 1000000000000000000
/-- value, state, cells, place -/
def nextV (s : Int) (cs : List Int) (k b : Int) : Int × Int × List Int × Int :=
  if bigC ≤ cellC cs k then (cellC cs k % b, s, cs.set (atC cs k) (cellC cs k / b), k)
  else (((s * 48271 + cellC cs k * 69621 + 11) % 2147483647) / 7 % b, (s * 48271 + cellC cs k * 69621 + 11) % 2147483647, cs, k + 1)
def bndOk (b : Int) : Bool := decide (0 < b) && decide (b < 4611686018427387904)
def pNext : List Cell → FnRes
  | [.par (.rng s cs k), .val (.int b)] => if bndOk b && decide (cs.length ≤ 1000) then .ok (.val (.int (nextV s cs k b).1)) [.rng (nextV s cs k b).2.1 (nextV s cs k b).2.2.1 (nextV s cs k b).2.2.2] else .bad
  | _ => .bad
def mixV (s : Int) (ns : List Int) : Int := ns.foldl (fun s n => (s * 48271 + n % 2147483629 + 1) % 2147483647) s
def pMix : List Cell → FnRes
  | [.par (.scr ns), .val (.int s)] => .ok (.own (.rng (mixV s ns) ns 0)) [.scr ns]
  | _ => .bad

theorem pNext_inv {cs : List Cell} (h : pNext cs ≠ .bad) : ∃ s cl k b, cs = [.par (.rng s cl k), .val (.int b)] ∧ bndOk b = true ∧ cl.length ≤ 1000 := by
  revert h
  unfold pNext
  split
  · next s cl k b =>
    intro h
    split at h
    · next hz =>
      simp only [Bool.and_eq_true, decide_eq_true_eq] at hz
      exact ⟨s, cl, k, b, rfl, hz.1, hz.2⟩
    · exact absurd rfl h
  · exact fun h => absurd rfl h
theorem pNext_eq {s k b : Int} {cl : List Int} (h1 : bndOk b = true) (h2 : cl.length ≤ 1000) : pNext [.par (.rng s cl k), .val (.int b)] = .ok (.val (.int (nextV s cl k b).1)) [.rng (nextV s cl k b).2.1 (nextV s cl k b).2.2.1 (nextV s cl k b).2.2.2] := by
  simp only [pNext, h1, h2, decide_true, Bool.and_self, if_true]
theorem pMix_inv {cs : List Cell} (h : pMix cs ≠ .bad) : ∃ ns s, cs = [.par (.scr ns), .val (.int s)] := by
  revert h
  unfold pMix
  split
  · next ns s => exact fun _ => ⟨ns, s, rfl⟩
  · exact fun h => absurd rfl h
theorem pMix_eq {s : Int} {ns : List Int} : pMix [.par (.scr ns), .val (.int s)] = .ok (.own (.rng (mixV s ns) ns 0)) [.scr ns] := by simp only [pMix]
theorem postF_bad {W : Wd} {ow : Ow} {H : Hp} {cs : List Cell} {vs : List V} {r : FnRes} {Q : VK} {E : XK} (h : PostF W ow H cs vs r Q E) : r ≠ .bad := fun e => by rw [e] at h; exact h
theorem args2 {W : Wd} {ow : Ow} {H : Hp} {c d : Cell} {vs : List V} (h : ArgsRep W ow H 0 [c, d] vs) : ∃ v u, vs = [v, u] ∧ CellRep W ow H 0 c v ∧ CellRep W ow H 1 d u := by
  match vs, h with
  | [], h => exact h.elim
  | [_], h => exact h.2.elim
  | [v, u], h => exact ⟨v, u, rfl, h.1, h.2.1⟩
  | _ :: _ :: _ :: _, h => exact h.2.2.elim

section
variable {X : Cx} {σ : L2.St} {H : Hp} {Q : VK} {a b e : Expr} {p p1 pos : Pos}
theorem re_name {i : Nat} {x : Str} {v : V} (hN : X.N[i]? = some x) (hl : X.env.scope.names.lookup x = some .local) (hs : σ[i]? = some (some v)) (q : Q v H) (hd : (x == ("__debug__" : Str)) = false := by decide) (hcd : (x == ("__classdict__" : Str)) = false := by decide) : RE X (.Name x p) σ H Q :=
  RE.of (pe_var hN (.inl hl) hd hcd) ⟨v, hs, q⟩
theorem re_int {n : Int} {k : Nat} (q : Q (.int n) H) : RE X (.Constant (.int n) k p) σ H Q := RE.of pe_int q
theorem re_bin {op : Operator} {r : R2} (ho : OpR X (binaryOp op) r) (h : RE X a σ H fun x H1 => RE X b σ H1 fun y H2 => r x y H2 Q) : RE X (.BinOp a op b p) σ H Q := RE.of (pe_op ho pe_RE pe_RE) h
theorem re_ix (hb : plainS b = true) (h : RE X a σ H fun x H1 => RE X b σ H1 fun y H2 => rIx X.K x y H2 Q) : RE X (.Subscript a b p) σ H Q := RE.of (pe_ix ix_seq pe_RE pe_RE (plain_ix hb)) h
theorem re_ixc {n : Int} {k : Nat} (h : RE X a σ H fun x H1 => rIx X.K x (.int n) H1 Q) : RE X (.Subscript a (.Constant (.int n) k p1) p) σ H Q := re_ix rfl (RE.mono h fun _ _ z => re_int z)
theorem re_callI (hg : Gl X "int") (hm : X.mg "int" = none) (hs : noStar a = true) (h : RE X a σ H fun x H1 => ∃ i, x = .int i ∧ Q (.int i) H1) : RE X (.Call (.Name "int" p1) [a] [] p) σ H Q := by
  refine RE.of (pe_callTy (x := "int") call_int1 hg hm (by decide +kernel) (pa_cons pe_RE pa_nil (star_cons hs)) (he := star_cons hs) (hpl := rfl)) (RE.mono h ?_)
  rintro x H1 ⟨i, rfl, q⟩
  exact .inl ⟨i, rfl, q⟩
theorem re_callL (hg : Gl X "len") (hm : X.mg "len" = none) (hs : noStar a = true) (h : RE X a σ H fun x H1 => ∃ l xs, x = .ref l ∧ SqL X.K H1 l xs ∧ Q (.int xs.length) H1) : RE X (.Call (.Name "len" p1) [a] [] p) σ H Q := by
  refine RE.of (pe_callB (x := "len") call_len_seq hg hm (by decide +kernel) (pa_cons pe_RE pa_nil (star_cons hs)) (he := star_cons hs) (hpl := rfl)) (RE.mono h ?_)
  rintro x H1 ⟨l, xs, rfl, hl, q⟩
  exact ⟨l, xs, rfl, .inl hl, q⟩
theorem re_callM (hc : X.calm = true) (hg : Gl X "max") (hm : X.mg "max" = none) (hs : noStar a = true) (hs2 : noStar b = true) (h : RE X a σ H fun x H1 => RE X b σ H1 fun y H2 => ∃ i j, x = .int i ∧ y = .int j ∧ Q (.int (if j > i then j else i)) H2) : RE X (.Call (.Name "max" p1) [a, b] [] p) σ H Q := by
  refine RE.of (pe_callB (x := "max") (call_max2 hc) hg hm (by decide +kernel) (pa_cons pe_RE (pa_cons pe_RE pa_nil (star_cons hs2)) (star_cons hs)) (he := star_cons hs) (hpl := star_any (by simp [hs2]))) (RE.mono h ?_)
  intro x H1 q
  refine RE.mono q ?_
  rintro y H2 ⟨i, j, rfl, rfl, q⟩
  exact ⟨i, j, rfl, q⟩
theorem re_listC {n : Int} {k : Nat} (q : ∀ q, H q = none → Q (.ref q) (upd H q (.lst [.int n]))) : RE X (.List [.Constant (.int n) k p1] p) σ H Q :=
  RE.of (pe_lst (pa_cons pe_int pa_nil)) ⟨by show 1 ≤ sizeLine; decide, q⟩
end
theorem atC_ok (cs : List Int) (k : Int) : ((atC cs k : Nat) : Int) = k % (if (cs.length : Int) > 1 then (cs.length : Int) else 1) ∧ (cs ++ [(0 : Int)])[atC cs k]? = some (cellC cs k) ∧ atC cs k < cs.length + 1 := by
  have h0 : (0 : Int) < (if (cs.length : Int) > 1 then (cs.length : Int) else 1) := by split <;> omega
  have h1 := Int.emod_nonneg k (Int.ne_of_gt h0)
  have h2 := Int.emod_lt_of_pos k h0
  have e : ((atC cs k : Nat) : Int) = k % (if (cs.length : Int) > 1 then (cs.length : Int) else 1) := Int.toNat_of_nonneg h1
  have h3 : atC cs k < cs.length + 1 := by
    have h4 : ((atC cs k : Nat) : Int) < (cs.length : Int) + 1 := by
      rw [e]
      refine Int.lt_of_lt_of_le h2 ?_
      split <;> omega
    omega
  refine ⟨e, ?_, h3⟩
  unfold cellC
  rw [List.getD_eq_getElem?_getD, List.getElem?_eq_getElem (by simpa using h3)]
  rfl
theorem cell_big {cs : List Int} {k : Int} (h : bigC ≤ cellC cs k) : atC cs k < cs.length ∧ ((atC cs k : Nat) : Int) = k % (cs.length : Int) := by
  obtain ⟨e1, e2, e3⟩ := atC_ok cs k
  have h1 : atC cs k < cs.length := by
    rcases Nat.lt_or_ge (atC cs k) cs.length with q | q
    · exact q
    · have e : atC cs k = cs.length := by omega
      rw [e] at e2
      simp at e2
      rw [← e2] at h
      exact absurd h (by decide)
  refine ⟨h1, ?_⟩
  rw [e1]
  split
  · rfl
  · have e : cs.length = 1 := by omega
    rw [e]; rfl
section
variable {X : Cx} {H : Hp} {Q : VK} {a c : Addr} {s k b : Int} {cs : List Int} {p1 p2 p3 p4 p5 p6 p7 p8 p9 p10 p11 p12 p13 p14 p15 p16 p17 p18 p19 p20 p21 p22 p23 p24 p25 p26 p27 p28 p29 p30 p31 p32 p33 p34 p35 p36 p37 p38 p39 p40 p41 p42 p43 p44 p45 p46 p47 p48 p49 p50 p51 p52 p53 p54 p55 p56 p57 p58 p59 p60 p61 p62 p63 p64 p65 p66 p67 p68 p69 p70 p71 p72 p73 p74 p75 p76 p77 p78 p79 p80 p81 p82 p83 p84 p85 p86 p87 p88 p89 p90 p91 p92 p93 : Pos} {k1 k2 k3 k4 k5 k6 k7 k8 k9 k10 k11 k12 k13 k14 k15 k16 k17 k18 k19 k20 : Nat}
abbrev nextN : List Str := ["_law_h", "_law_bound", "_law_cell", "_law_cells"]
theorem next_body (hN : X.N = nextN) (hc : X.calm = true) (hl : ∀ x ∈ nextN, X.env.scope.names.lookup x = some .local) (hg : ∀ x ∈ (["int", "max", "len"] : List Str), Gl X x) (hm : ∀ x ∈ (["int", "max", "len"] : List Str), X.mg x = none)
    (hac : a ≠ c) (ha : H a = some (.lst [.int s, .ref c, .int k])) (hcc : H c = some (.lst (cs.map V.int))) (hb : 0 < b ∧ b < 4611686018427387904) (hz : cs.length ≤ 1000)
    (q : ∀ H', (∀ p, H p ≠ none → p ≠ a → p ≠ c → H' p = H p) → H' a = some (.lst [.int (nextV s cs k b).2.1, .ref c, .int (nextV s cs k b).2.2.2]) → H' c = some (.lst ((nextV s cs k b).2.2.1.map V.int)) → Q (.int (nextV s cs k b).1) H') {nx : L2.St → Hp → Prop} :
    RSs X (nextE p1 p2 p3 p4 p5 p6 p7 p8 p9 p10 p11 p12 p13 p14 p15 p16 p17 p18 p19 p20 p21 p22 p23 p24 p25 p26 p27 p28 p29 p30 p31 p32 p33 p34 p35 p36 p37 p38 p39 p40 p41 p42 p43 p44 p45 p46 p47 p48 p49 p50 p51 p52 p53 p54 p55 p56 p57 p58 p59 p60 p61 p62 p63 p64 p65 p66 p67 p68 p69 p70 p71 p72 p73 p74 p75 p76 p77 p78 p79 p80 p81 p82 p83 p84 p85 p86 p87 p88 p89 p90 p91 p92 p93 k1 k2 k3 k4 k5 k6 k7 k8 k9 k10 k11 k12 k13 k14 k15 k16 k17 k18 k19 k20) { nx := nx, rt := Q } (L2.start nextN [.ref a, .int b]) H := by
  have hnd : X.N.Nodup := by rw [hN]; decide
  have n0 : X.N[0]? = some ("_law_h" : Str) := by rw [hN]; rfl
  have n1 : X.N[1]? = some ("_law_bound" : Str) := by rw [hN]; rfl
  have n2 : X.N[2]? = some ("_law_cell" : Str) := by rw [hN]; rfl
  have n3 : X.N[3]? = some ("_law_cells" : Str) := by rw [hN]; rfl
  have l0 := hl "_law_h" (by decide)
  have l1 := hl "_law_bound" (by decide)
  have l2 := hl "_law_cell" (by decide)
  have l3 := hl "_law_cells" (by decide)
  have gI := hg "int" (by decide)
  have gM := hg "max" (by decide)
  have gL := hg "len" (by decide)
  have mI := hm "int" (by decide)
  have mM := hm "max" (by decide)
  have mL := hm "len" (by decide)
  -- h[j]
  have rd : ∀ {σ : L2.St} {H1 : Hp} {Q1 : VK} {s1 k1 : Int} {q1 q2 q3 : Pos} {kk : Nat} (j : Int) (v : V), σ[0]? = some (some (.ref a)) → H1 a = some (.lst [.int s1, .ref c, .int k1]) → atI [V.int s1, .ref c, .int k1] j = some v → Q1 v H1 → RE X (.Subscript (.Name "_law_h" q1) (.Constant (.int j) kk q2) q3) σ H1 Q1 := by
    intro σ H1 Q1 s1 k1 q1 q2 q3 kk j v h1 h2 h3 h4
    exact re_ixc (re_name n0 l0 h1 (.inl ⟨a, _, j, v, rfl, rfl, SqL.of h2, h3, h4⟩))
  obtain ⟨i1, i2, i3⟩ := atC_ok cs k
  have hzz : (1000 : Nat) + 1 ≤ sizeLine := by decide
  refine RSs.of (pss_cons ps_RS pss_RS) ?_
  refine RS.of (ps_set hnd n2 (.inl l2) pe_RE rfl (.inr l2)) ?_
  refine re_ix rfl (re_bin op_cat (rd 1 (.ref c) rfl ha rfl (re_listC fun p hp => ?_)))
  have hpc : c ≠ p := fun z => by rw [z] at hcc; rw [hcc] at hp; cases hp
  have hpa : a ≠ p := fun z => by rw [z] at ha; rw [ha] at hp; cases hp
  refine ⟨c, p, cs.map V.int, [.int 0], rfl, rfl, by rw [upd_ne hpc]; exact hcc, upd_same, by simp; omega, fun p2 hp2 => ?_⟩
  have hp2p : p ≠ p2 := fun z => by rw [← z, upd_same] at hp2; cases hp2
  have hpc2 : c ≠ p2 := fun z => by rw [← z, upd_ne hpc, hcc] at hp2; cases hp2
  have hpa2 : a ≠ p2 := fun z => by rw [← z, upd_ne hpa, ha] at hp2; cases hp2
  generalize hH1 : upd (upd H p (.lst [.int 0])) p2 (.lst (cs.map V.int ++ [.int 0])) = H1
  have a1 : H1 a = some (.lst [.int s, .ref c, .int k]) := by rw [← hH1, upd_ne hpa2, upd_ne hpa]; exact ha
  have c1 : H1 c = some (.lst (cs.map V.int)) := by rw [← hH1, upd_ne hpc2, upd_ne hpc]; exact hcc
  have g1 : ∀ q, H q ≠ none → H1 q = H q := fun q hq => by
    rw [← hH1]
    have e2 : q ≠ p := fun z => hq (z ▸ hp)
    have e1 : q ≠ p2 := fun z => by
      rw [← z, upd_ne e2] at hp2
      exact hq hp2
    rw [upd_ne e1, upd_ne e2]
  have s1 : SqL X.K H1 p2 (cs.map V.int ++ [.int 0]) := SqL.of (by rw [← hH1]; exact upd_same)
  refine re_bin op_mod (re_callI gI mI rfl (rd 2 (.int k) rfl a1 rfl ⟨k, rfl, re_callM hc gM mM rfl rfl (re_int (re_callL gL mL rfl (rd 1 (.ref c) rfl a1 rfl ⟨c, _, rfl, SqL.of c1, 1, _, rfl, rfl, ?_⟩)))⟩))
  have ln : (((cs.map V.int).length : Nat) : Int) = (cs.length : Int) := by simp
  rw [ln]
  refine ⟨k, _, rfl, rfl, by split <;> omega, ?_⟩
  refine .inl ⟨p2, _, _, .int (cellC cs k), rfl, rfl, s1, ?_, ?_⟩
  · rw [← i1]
    refine L2.atI_nat ?_
    have : cs.map V.int ++ [V.int 0] = (cs ++ [(0 : Int)]).map V.int := by simp
    rw [this, List.getElem?_map, i2]
    rfl
  show RSs X _ _ [some (.ref a), some (.int b), some (.int (cellC cs k)), none] H1
  generalize hσ : ([some (.ref a), some (.int b), some (.int (cellC cs k)), none] : L2.St) = σ
  have z0 : σ[0]? = some (some (.ref a)) := by rw [← hσ]; rfl
  have z1 : σ[1]? = some (some (.int b)) := by rw [← hσ]; rfl
  have z2 : σ[2]? = some (some (.int (cellC cs k))) := by rw [← hσ]; rfl
  refine RSs.of (pss_cons ps_RS pss_RS) ?_
  refine RS.of (ps_if (pt_cmp (pc_ge pe_RE pe_RE)) pss_RS pss_RS) ?_
  refine re_name n2 l2 z2 (re_bin op_pow (re_int (re_int ⟨10, 18, rfl, rfl, ⟨by decide, by decide, by decide⟩, ?_⟩)))
  refine ⟨_, _, rfl, rfl, _, rfl, ?_⟩
  have e18 : (10 : Int) ^ (18 : Int).toNat = bigC := by decide
  rw [e18]
  by_cases hbig : bigC ≤ cellC cs k
  · obtain ⟨b1, b2⟩ := cell_big hbig
    refine (if_pos (show decide (bigC ≤ cellC cs k) = true from decide_eq_true hbig)).mpr ?_
    refine RSs.of (pss_cons ps_RS pss_RS) ?_
    refine RS.of (ps_set hnd n3 (.inl l3) pe_RE rfl (.inr l3)) (rd 1 (.ref c) z0 a1 rfl ?_)
    have y0 : (σ.set 3 (some (.ref c)))[0]? = some (some (.ref a)) := by rw [← hσ]; rfl
    have y1 : (σ.set 3 (some (.ref c)))[1]? = some (some (.int b)) := by rw [← hσ]; rfl
    have y2 : (σ.set 3 (some (.ref c)))[2]? = some (some (.int (cellC cs k))) := by rw [← hσ]; rfl
    have y3 : (σ.set 3 (some (.ref c)))[3]? = some (some (.ref c)) := by rw [← hσ]; rfl
    refine RSs.of (pss_cons ps_RS pss_RS) ?_
    refine RS.of (ps_asg pe_RE (pg_sub pe_RE pe_RE set_list) sw_sub swp_sub) ?_
    refine re_bin op_fdivW (re_name n2 l2 y2 (re_name n1 l1 y1 ⟨_, _, rfl, rfl, wide_div (b := 64) hb.1 (by omega) (by decide) (by decide), ?_⟩))
    refine re_name n3 l3 y3 (re_bin op_mod (re_callI gI mI rfl (rd 2 (.int k) y0 a1 rfl ⟨k, rfl, re_callL gL mL rfl (re_name n3 l3 y3 ⟨c, _, rfl, SqL.of c1, k, _, rfl, rfl, by rw [ln]; omega, ?_⟩)⟩)))
    refine ⟨c, _, _, atC cs k, rfl, rfl, c1, ?_, ?_⟩
    · rw [ln, ← b2]
      unfold L2.ixN
      rw [if_pos (by omega), if_pos (by rw [ln]; omega)]
      simp
    refine RSs.of (pss_one ps_RS) ?_
    refine RS.of (ps_ret pe_RE) (re_bin op_mod (re_callI gI mI rfl (re_name n2 l2 y2 ⟨_, rfl, re_name n1 l1 y1 ⟨_, _, rfl, rfl, hb.1, ?_⟩⟩)))
    have ev : nextV s cs k b = (cellC cs k % b, s, cs.set (atC cs k) (cellC cs k / b), k) := if_pos hbig
    rw [ev] at q
    refine q _ (fun p' hp' e1 e2 => by rw [upd_ne e2]; exact g1 p' hp') (by rw [upd_ne hac]; exact a1) ?_
    rw [upd_same]
    simp
  · refine (if_neg (show ¬ decide (bigC ≤ cellC cs k) = true from fun z => hbig (of_decide_eq_true z))).mpr ?_
    refine RSs.of pss_nil ?_
    refine RSs.of (pss_cons ps_RS pss_RS) ?_
    refine RS.of (ps_asg pe_RE (pg_sub pe_RE pe_RE set_list) sw_sub swp_sub) ?_
    refine re_bin op_mod (re_callI gI mI rfl (re_bin op_add (re_bin op_add (re_bin op_mul (rd 0 (.int s) z0 a1 rfl (re_int ⟨_, _, rfl, rfl, .inr ⟨by decide, by decide⟩, ?_⟩))))))
    refine re_bin op_mul (re_name n2 l2 z2 (re_int ⟨_, _, rfl, rfl, .inr ⟨by decide, by decide⟩, ?_⟩))
    refine ⟨_, _, rfl, rfl, re_int ⟨_, _, rfl, rfl, ⟨_, rfl, re_int ⟨_, _, rfl, rfl, (show (0 : Int) < 2147483647 by decide), ?_⟩⟩⟩⟩
    refine re_name n0 l0 z0 (re_int ⟨a, _, _, 0, rfl, rfl, a1, rfl, ?_⟩)
    have ev : nextV s cs k b = (((s * 48271 + cellC cs k * 69621 + 11) % 2147483647) / 7 % b, (s * 48271 + cellC cs k * 69621 + 11) % 2147483647, cs, k + 1) := if_neg hbig
    rw [ev] at q
    simp only at q
    refine RSs.of (pss_cons ps_RS pss_RS) ?_
    refine RS.of (ps_asg pe_RE (pg_sub pe_RE pe_RE set_list) sw_sub swp_sub) ?_
    have a2 : upd H1 a (.lst ([V.int s, .ref c, .int k].set 0 (.int ((s * 48271 + cellC cs k * 69621 + 11) % 2147483647)))) a = some (.lst [.int ((s * 48271 + cellC cs k * 69621 + 11) % 2147483647), .ref c, .int k]) := upd_same
    refine re_bin op_add (rd 2 (.int k) z0 a2 rfl (re_int ⟨_, _, rfl, rfl, re_name n0 l0 z0 (re_int ⟨a, _, _, 2, rfl, rfl, a2, rfl, ?_⟩)⟩))
    refine RSs.of (pss_one ps_RS) ?_
    refine RS.of (ps_ret pe_RE) (re_bin op_mod (re_callI gI mI rfl (re_bin op_fdiv (rd 0 (.int ((s * 48271 + cellC cs k * 69621 + 11) % 2147483647)) z0 upd_same rfl (re_int ⟨_, _, rfl, rfl, ⟨by decide, by decide⟩, ⟨_, rfl, re_name n1 l1 z1 ⟨_, _, rfl, rfl, hb.1, ?_⟩⟩⟩)))))
    refine q _ (fun p' hp' e1 e2 => by rw [upd_ne e1, upd_ne e1]; exact g1 p' hp') upd_same ?_
    rw [upd_ne (Ne.symm hac), upd_ne (Ne.symm hac)]
    exact c1
end
section
variable {X : Cx} {H : Hp} {Q : VK} {a : Addr} {s : Int} {ns : List Int} {p1 p2 p3 p4 p5 p6 p7 p8 p9 p10 p11 p12 p13 p14 p15 p16 p17 p18 p19 p20 p21 p22 p23 p24 p25 p26 p27 p28 p29 p30 : Pos} {k1 k2 k3 k4 k5 : Nat}
abbrev mixN : List Str := ["_law_script", "_law_seed", "_law_state", "_law_cell"]
theorem mix_body (hN : X.N = mixN) (hc : X.calm = true) (hpw : PassesOwn (model X.prog X.w) X.A X.env X.xe) (hl : ∀ x ∈ mixN, X.env.scope.names.lookup x = some .local) (hg : ∀ x ∈ (["int", "list"] : List Str), Gl X x) (hm : ∀ x ∈ (["int", "list"] : List Str), X.mg x = none)
    (ha : SqL X.K H a (ns.map V.int))
    (q : ∀ c l, H c = none → upd H c (.lst (ns.map V.int)) l = none → Q (.ref l) (upd (upd H c (.lst (ns.map V.int))) l (.lst [.int (mixV s ns), .ref c, .int 0]))) {nx : L2.St → Hp → Prop} :
    RSs X (mixE p1 p2 p3 p4 p5 p6 p7 p8 p9 p10 p11 p12 p13 p14 p15 p16 p17 p18 p19 p20 p21 p22 p23 p24 p25 p26 p27 p28 p29 p30 k1 k2 k3 k4 k5) { nx := nx, rt := Q } (L2.start mixN [.ref a, .int s]) H := by
  have hnd : X.N.Nodup := by rw [hN]; decide
  have n0 : X.N[0]? = some ("_law_script" : Str) := by rw [hN]; rfl
  have n1 : X.N[1]? = some ("_law_seed" : Str) := by rw [hN]; rfl
  have n2 : X.N[2]? = some ("_law_state" : Str) := by rw [hN]; rfl
  have n3 : X.N[3]? = some ("_law_cell" : Str) := by rw [hN]; rfl
  have l0 := hl "_law_script" (by decide)
  have l1 := hl "_law_seed" (by decide)
  have l2 := hl "_law_state" (by decide)
  have l3 := hl "_law_cell" (by decide)
  have gI := hg "int" (by decide)
  have gL := hg "list" (by decide)
  have mI := hm "int" (by decide)
  have mL := hm "list" (by decide)
  refine RSs.of (pss_cons ps_RS pss_RS) ?_
  refine RS.of (ps_set hnd n2 (.inl l2) pe_RE rfl (.inr l2)) (re_name n1 l1 rfl ?_)
  refine RSs.of (pss_cons ps_RS pss_RS) ?_
  refine RS.of (ps_for hpw hc (pi_list pe_RE) (pg_name hnd n3 (.inl l3) (.inr l3)) pss_RS) (re_name n0 l0 rfl ⟨a, rfl, ⟨_, ha⟩, ?_⟩)
  refine ⟨fun i m σ' H' => H' = H ∧ m = ns.length - i ∧ i ≤ ns.length ∧ ∃ c, σ' = [some (.ref a), some (.int s), some (.int (mixV s (ns.take i))), c], ⟨ns.length, rfl, by simp, Nat.zero_le _, none, rfl⟩, ?_⟩
  rintro i m σ' H' ⟨rfl, rfl, hi, c, rfl⟩
  by_cases hlt : i < ns.length
  · right
    have hx : (ns.map V.int)[i]? = some (.int ns[i]) := by rw [List.getElem?_map, List.getElem?_eq_getElem hlt]; rfl
    refine ⟨⟨_, _, ha, hx⟩, fun σ' H1 => H1 = H' ∧ ∃ c, σ' = [some (.ref a), some (.int s), some (.int (mixV s (ns.take (i + 1)))), c], fun σ1 H1 ⟨e1, e2⟩ => ⟨ns.length - (i + 1), by omega, e1, rfl, hlt, e2⟩, ?_⟩
    rintro x H1 ⟨rfl, hy⟩
    have hxx := hy _ ha
    rw [hx] at hxx
    cases hxx
    refine RSs.of (pss_one ps_RS) ?_
    refine RS.of (ps_set hnd n2 (.inl l2) pe_RE rfl (.inr l2)) ?_
    refine re_bin op_mod (re_callI gI mI rfl (re_bin op_add (re_bin op_add (re_bin op_mul (re_name n2 l2 rfl (re_int ⟨_, _, rfl, rfl, .inr ⟨by decide, by decide⟩, ?_⟩))))))
    refine re_bin op_mod (re_callI gI mI rfl (re_name n3 l3 rfl ⟨_, rfl, re_int ⟨_, _, rfl, rfl, (show (0 : Int) < 2147483629 by decide), ?_⟩⟩))
    refine ⟨_, _, rfl, rfl, re_int ⟨_, _, rfl, rfl, ⟨_, rfl, re_int ⟨_, _, rfl, rfl, (show (0 : Int) < 2147483647 by decide), ?_⟩⟩⟩⟩
    refine ⟨rfl, some (.int ns[i]), ?_⟩
    have e : mixV s (ns.take (i + 1)) = (mixV s (ns.take i) * 48271 + ns[i] % 2147483629 + 1) % 2147483647 := by
      unfold mixV
      rw [List.take_succ_eq_append_getElem hlt, List.foldl_append]
      rfl
    rw [e]
    rfl
  · left
    have e : i = ns.length := by omega
    subst e
    refine ⟨⟨_, ha, by simp⟩, ?_⟩
    rw [List.take_length]
    refine RSs.of (pss_one ps_RS) ?_
    refine RS.of (ps_ret pe_RE) ?_
    refine RE.of (pe_lst (pa_cons pe_RE (pa_cons (pe_callTy (x := "list") call_list_of gL mL (by decide +kernel) (pa_cons pe_RE pa_nil)) (pa_cons pe_int pa_nil)))) ?_
    refine re_name n2 l2 rfl (re_name n0 l0 rfl ⟨a, _, rfl, .inl ha, fun c hc' => ⟨by show 3 ≤ sizeLine; decide, fun l hl' => q c l hc' hl'⟩⟩)
end
/-! ### as defs -/
def localB (sc : Scope) (ls gs : List Str) : Bool := ls.all (fun x => sc.names.lookup x == some .local) && gs.all (fun x => sc.names.lookup x == some .globalImplicit)
theorem localB_ok {sc : Scope} {ls gs : List Str} (h : localB sc ls gs = true) : (∀ x ∈ ls, sc.names.lookup x = some .local) ∧ ∀ x ∈ gs, sc.names.lookup x = some .globalImplicit := by
  unfold localB at h
  simp only [Bool.and_eq_true, List.all_eq_true, beq_iff_eq] at h
  exact h
section
variable {W : Wd} {mg : Str → Option Value} {base : Heap} {x qual : Str} {params : Arguments} {scope : Scope} {f : Addr} {fd : FuncData} {p1 p2 p3 p4 p5 p6 p7 p8 p9 p10 p11 p12 p13 p14 p15 p16 p17 p18 p19 p20 p21 p22 p23 p24 p25 p26 p27 p28 p29 p30 p31 p32 p33 p34 p35 p36 p37 p38 p39 p40 p41 p42 p43 p44 p45 p46 p47 p48 p49 p50 p51 p52 p53 p54 p55 p56 p57 p58 p59 p60 p61 p62 p63 p64 p65 p66 p67 p68 p69 p70 p71 p72 p73 p74 p75 p76 p77 p78 p79 p80 p81 p82 p83 p84 p85 p86 p87 p88 p89 p90 p91 p92 p93 : Pos} {k1 k2 k3 k4 k5 k6 k7 k8 k9 k10 k11 k12 k13 k14 k15 k16 k17 k18 k19 k20 : Nat}
theorem next_ok {g : Str} (F : FunD W.K x qual params (nextE p1 p2 p3 p4 p5 p6 p7 p8 p9 p10 p11 p12 p13 p14 p15 p16 p17 p18 p19 p20 p21 p22 p23 p24 p25 p26 p27 p28 p29 p30 p31 p32 p33 p34 p35 p36 p37 p38 p39 p40 p41 p42 p43 p44 p45 p46 p47 p48 p49 p50 p51 p52 p53 p54 p55 p56 p57 p58 p59 p60 p61 p62 p63 p64 p65 p66 p67 p68 p69 p70 p71 p72 p73 p74 p75 p76 p77 p78 p79 p80 p81 p82 p83 p84 p85 p86 p87 p88 p89 p90 p91 p92 p93 k1 k2 k3 k4 k5 k6 k7 k8 k9 k10 k11 k12 k13 k14 k15 k16 k17 k18 k19 k20) scope [] [] f fd) (S : FnScope nextN ["_law_h", "_law_bound"] scope) (hs : localB scope nextN ["int", "max", "len"] = true) (hm : ∀ y ∈ freeNames, mg y = none) (hb : Binds W.K fd ["_law_h", "_law_bound"] []) (n : Nat) :
    FnAtG W mg base (fun _ => pNext) (3 * (n + 1)) f g := by
  obtain ⟨h1, h2⟩ := localB_ok hs
  have key : ∀ (vs : List V) (H : Hp) (Q : VK) (E : XK), spOf W (fun _ => pNext) g vs H Q E → ∃ (a c : Addr) (s k b : Int) (cs : List Int), vs = [.ref a, .int b] ∧ a ≠ c ∧ H a = some (.lst [.int s, .ref c, .int k]) ∧ H c = some (.lst (cs.map V.int)) ∧ (0 < b ∧ b < 4611686018427387904) ∧ cs.length ≤ 1000 ∧
      ∀ H', (∀ p, H p ≠ none → p ≠ a → p ≠ c → H' p = H p) → H' a = some (.lst [.int (nextV s cs k b).2.1, .ref c, .int (nextV s cs k b).2.2.2]) → H' c = some (.lst ((nextV s cs k b).2.2.1.map V.int)) → Q (.int (nextV s cs k b).1) H' := by
    rintro vs H Q E ⟨ow, cs, ha, _, _, hp⟩
    obtain ⟨s, cl, k, b, rfl, hb1, hb2⟩ := pNext_inv (postF_bad hp)
    have hp : PostF W ow H _ vs (pNext [.par (.rng s cl k), .val (.int b)]) Q E := hp
    rw [pNext_eq hb1 hb2] at hp
    obtain ⟨v, u, rfl, hv, hu⟩ := args2 ha
    obtain ⟨a, c, rfl, hac, h1, h2, t1, t2⟩ := hv
    cases (show Rep W ow H (.int b) u from hu)
    simp only [bndOk, Bool.and_eq_true, decide_eq_true_eq] at hb1
    refine ⟨a, c, s, k, b, cl, rfl, hac, h1, h2, hb1, hb2, fun H' g1 g2 g3 => ?_⟩
    refine hp (.int _) ow H' (fun p hp' => ?_) (.int _) ⟨⟨a, c, rfl, hac, g2, g3, t1, t2⟩, trivial⟩
    refine ⟨?_, fun hn => ⟨g1 p hp' (fun z => hn 0 (z ▸ t1)) (fun z => hn 0 (z ▸ t2)), rfl⟩, fun i e => .inl e⟩
    by_cases e1 : p = a
    · rw [e1, g2]; simp
    · by_cases e2 : p = c
      · rw [e2, g3]; simp
      · rw [g1 p hp' e1 e2]; exact hp'
  refine ⟨fd, _, F.kp, hb, ?_⟩
  refine F.ok (k := 3 * n + 2) (N := nextN) S (fun vs H Q E h => ?_) (fun cdv A outer s H vs Q E hr h => ?_)
  · obtain ⟨a, c, s, k, b, cs, rfl, _⟩ := key vs H Q E h
    rfl
  · obtain ⟨a, c, s', k, b, cs, rfl, e1, e2, e3, e4, e5, e6⟩ := key vs H Q E h
    refine ⟨_, pss_RS, next_body (X := cxOf (L2.CX W.P W.w) W.P W.w W.K mg base nextN qual scope f cdv A outer s H E) rfl rfl h1 (fun y hy => h2 y hy) (fun y hy => hm y (by revert hy; revert y; decide)) e1 e2 e3 e4 e5 e6⟩
end
section
variable {W : Wd} {mg : Str → Option Value} {base : Heap} {x qual : Str} {params : Arguments} {scope : Scope} {f : Addr} {fd : FuncData} {p1 p2 p3 p4 p5 p6 p7 p8 p9 p10 p11 p12 p13 p14 p15 p16 p17 p18 p19 p20 p21 p22 p23 p24 p25 p26 p27 p28 p29 p30 : Pos} {k1 k2 k3 k4 k5 : Nat}
theorem mix_ok {g : Str} (F : FunD W.K x qual params (mixE p1 p2 p3 p4 p5 p6 p7 p8 p9 p10 p11 p12 p13 p14 p15 p16 p17 p18 p19 p20 p21 p22 p23 p24 p25 p26 p27 p28 p29 p30 k1 k2 k3 k4 k5) scope [] [] f fd) (S : FnScope mixN ["_law_script", "_law_seed"] scope) (hs : localB scope mixN ["int", "list"] = true) (hm : ∀ y ∈ freeNames, mg y = none) (hb : Binds W.K fd ["_law_script", "_law_seed"] []) (n : Nat) :
    FnAtG W mg base (fun _ => pMix) (3 * (n + 1)) f g := by
  obtain ⟨h1, h2⟩ := localB_ok hs
  have key : ∀ (vs : List V) (H : Hp) (Q : VK) (E : XK), spOf W (fun _ => pMix) g vs H Q E → ∃ (a : Addr) (s : Int) (ns : List Int), vs = [.ref a, .int s] ∧ SqL W.K H a (ns.map V.int) ∧
      ∀ c l, H c = none → upd H c (.lst (ns.map V.int)) l = none → Q (.ref l) (upd (upd H c (.lst (ns.map V.int))) l (.lst [.int (mixV s ns), .ref c, .int 0])) := by
    rintro vs H Q E ⟨ow, cs, ha, _, _, hp⟩
    obtain ⟨ns, s, rfl⟩ := pMix_inv (postF_bad hp)
    have hp : PostF W ow H _ vs (pMix [.par (.scr ns), .val (.int s)]) Q E := hp
    rw [pMix_eq] at hp
    obtain ⟨v, u, rfl, hv, hu⟩ := args2 ha
    obtain ⟨a, rfl, h1⟩ := hv
    cases (show Rep W ow H (.int s) u from hu)
    have hq : SqL W.K H a (ns.map V.int) := by
      rcases h1 with ⟨h1, _⟩ | h1
      · exact .inl h1
      · rcases h1 with h1 | h1
        · rcases h1 with h1 | ⟨o, h1⟩ <;> cases h1
        · exact .inr h1
    refine ⟨a, s, ns, rfl, hq, fun c l hc hl => ?_⟩
    have g1 := Grow.new (ow := ow) (o := .lst (ns.map V.int)) (t := .tm) hc
    have g2 := Grow.new (ow := fun q => if q = c then .tm else ow q) (o := .lst [.int (mixV s ns), .ref c, .int 0]) (t := .tm) hl
    have g := g1.trans g2
    have hcl : c ≠ l := fun z => by rw [← z, upd_same] at hl; cases hl
    have hl0 : H l = none := by rw [upd_ne (Ne.symm hcl)] at hl; exact hl
    refine hp (.ref l) _ _ g.step ⟨l, c, rfl, Ne.symm hcl, upd_same, by rw [upd_ne hcl, upd_same], ⟨if_pos rfl, hl0⟩, ⟨(if_neg hcl).trans (if_pos rfl), hc⟩⟩ ⟨?_, trivial⟩
    refine ⟨a, rfl, ?_⟩
    rcases h1 with ⟨h1, t1⟩ | h1
    · left
      have hne : H a ≠ none := by
        rcases h1 with h1 | ⟨o, h1⟩ <;> rw [h1] <;> simp
      obtain ⟨e1, e2⟩ := g a hne
      refine ⟨?_, e2.trans t1⟩
      unfold Rd
      rw [e1]
      exact h1
    · exact .inr h1
  refine ⟨fd, _, F.kp, hb, ?_⟩
  refine F.ok (k := 3 * n + 2) (N := mixN) S (fun vs H Q E h => ?_) (fun cdv A outer s H vs Q E hr h => ?_)
  · obtain ⟨a, s, ns, rfl, _⟩ := key vs H Q E h
    rfl
  · obtain ⟨a, s', ns, rfl, e1, e2⟩ := key vs H Q E h
    refine ⟨_, pss_RS, mix_body (X := cxOf (L2.CX W.P W.w) W.P W.w W.K mg base mixN qual scope f cdv A outer s H E) rfl rfl (passes_of rfl) h1 (fun y hy => h2 y hy) (fun y hy => hm y (by revert hy; revert y; decide)) e1 e2⟩
end
end Ev

/-! EvQ: dicts whose keys are tuples: the rules that CxG asks. -/
namespace Ev
open PySem PySem.Spec PyProof.Rows L2

section
variable {W : Wd} {X : Cx} {pins : List (Addr × Obj)} {σ : L2.St} {H : Hp} {s : Shared} {ow : Ow}
theorem dic_in (hP : X.prog = W.P) (hw : X.w = W.w) (hK : X.K = W.K) (hu : X.A.units + 100 < cLine) : DicIn0 X W := by
  intro ow H ks kvs k x y Q hk hx hy
  obtain ⟨a, o, es, rfl, ha, hsm, hd, hr⟩ := hy
  have hx' : ∃ p, x = .ref p := by
    cases (show Rep W ow H (.tup ks) x from hx)
    exact ⟨_, rfl⟩
  obtain ⟨p, rfl⟩ := hx'
  refine ⟨fun q => ⟨fun x' y' H' Q' => x' = .ref p ∧ y' = .ref a ∧ H' = H ∧ Q' (.bl (hasKey kvs (.tup k))) H, ?_, rfl, rfl, rfl, q⟩, fun q => ⟨fun x' y' H' Q' => x' = .ref p ∧ y' = .ref a ∧ H' = H ∧ Q' (.bl (!hasKey kvs (.tup k))) H, ?_, rfl, rfl, rfl, q⟩⟩
  · rintro pins s σ H' x' y' v u Q' I rx ry ⟨rfl, rfl, rfl, q⟩
    cases rx
    cases ry
    obtain ⟨hg, xs, hp, hm⟩ := dictOf hP hw hK I ha hd hr
    refine in_keyed (room_in1 hu) (keyIs hK I hx hk) hsm ⟨xs, hm, rfl⟩ ?_
    rw [(at_some hr hp).1]
    exact ⟨.bl _, H', I.kept fun b u e => e, rfl, q⟩
  · rintro pins s σ H' x' y' v u Q' I rx ry ⟨rfl, rfl, rfl, q⟩
    cases rx
    cases ry
    obtain ⟨hg, xs, hp, hm⟩ := dictOf hP hw hK I ha hd hr
    refine notIn_keyed (room_in1 hu) (keyIs hK I hx hk) hsm ⟨xs, hm, rfl⟩ ?_
    rw [(at_some hr hp).1]
    exact ⟨.bl _, H', I.kept fun b u e => e, rfl, q⟩
/-- two dicts, the second one empty -/
theorem same0 {prog : Program} {w : World} {A : Around} {E : Value → Shared → Prop} {nm : String} {a b : Addr} {o1 o2 : Obj} {d1 d2 : Array DictEntry} {e1 e2 : Nat} {Q : Bool → Shared → Prop} (ha : (a == sysModules) = false) (hb : (b == sysModules) = false) (g1 : s.heap.get? a = some o1) (q1 : o1.data = .dict d1 e1) (g2 : s.heap.get? b = some o2) (q2 : o2.data = .dict d2 e2) (z : d2.size = 0) (h : Q (decide (d1.size = 0)) s) :
    wpAny (model prog w) A (Builtin.Dict.samePairs nm a b) Q E s := by
  unfold Builtin.Dict.samePairs Builtin.Dict.showsAll
  rw [if_neg (by rw [ha]; simp), if_neg (by rw [hb]; simp)]
  refine wpAny_bind (wpAny_pure (wpAny_bind (wpAny_pure (wpAny_bind (wpAny_dictEntries g1 q1 ?_)))))
  dsimp only
  refine wpAny_bind (wpAny_dictEntries g2 q2 ?_)
  by_cases hz : d1.size = 0
  · rw [if_neg (by rw [hz, z]; simp)]
    refine wpAny_bind (wpAny_dictEpoch g1 q1 (wpAny_bind ?_))
    rw [Std.Legacy.Range.forIn_eq_forIn_range']
    simp only [Std.Legacy.Range.size, hz]
    refine wpAny_pure (wpAny_pure ?_)
    simpa [hz] using h
  · rw [if_pos (by rw [z]; simpa using hz)]
    refine wpAny_bind (wpAny_rule (wpAny_pure ?_))
    simpa [hz] using h
theorem eq0 {prog : Program} {w : World} {A : Around} {E : Value → Shared → Prop} {a b : Addr} {d1 d2 : Array DictEntry} {e1 e2 : Nat} {Q : Value → Shared → Prop} (ha : (a == sysModules) = false) (hb : (b == sysModules) = false) (D1 : s.heap.DictRaw a d1 e1) (D2 : s.heap.DictRaw b d2 e2) (hu : A.units < cLine) (z : d2.size = 0) (h : Q (.bool (decide (d1.size = 0))) s) :
    wpAny (model prog w) A (compareOp .Eq (.ref a) (.ref b)) Q E s := by
  obtain ⟨o1, g1, x1, q1⟩ := id D1
  obtain ⟨o2, g2, x2, q2⟩ := id D2
  refine wpAny_richCompare_same_room (op := .Eq) D1.typeIs D2.typeIs PySem.F.slot_dict_eq (wpAny_call_entry PySem.F.slot_dict_eq D1.typeIs PySem.F.entry_dict_eq ?_ (PySem.F.args_dict_eq_2 _ _)) hu
  show wpAny _ _ (Builtin.Dict.dictSlotArgs "__eq__" ⟨[.ref a, .ref b], []⟩ >>= _) _ _ _
  refine wpAny_bind ?_
  unfold Builtin.Dict.dictSlotArgs
  refine wpAny_bind (wpAny_notOrdered_dict D1.typeIs ?_)
  show wpAny _ _ (pure (Value.ref a, Value.ref b)) _ _ _
  refine wpAny_pure (wpAny_bind (wpAny_isInstance (T := "dict") D2.typeIs PySem.F.sub_dict_dict ?_))
  simp only [Bool.not_true, Bool.false_eq_true, if_false]
  refine wpAny_bind (wpAny_pure (wpAny_bind (wpAny_pure (wpAny_bind (same0 ha hb g1 q1 g2 q2 z (wpAny_pure ⟨_, rfl, ?_, ?_⟩))))))
  · exact fun y => nomatch y
  · simpa using h
theorem dic_eq0 (hP : X.prog = W.P) (hw : X.w = W.w) (hK : X.K = W.K) (hu : X.A.units + 100 < cLine) : DicEq0 X W := by
  intro ow H kvs x y Q hx hy q
  obtain ⟨a, o, es, rfl, ha, hsm, hd, hr⟩ := hx
  obtain ⟨b, o2, es2, rfl, hb, hsm2, hd2, hr2⟩ := hy
  cases hr2
  refine ⟨fun x' y' H' Q' => x' = .ref a ∧ y' = .ref b ∧ H' = H ∧ Q' (.bl kvs.isEmpty) H, ?_, rfl, rfl, rfl, q⟩
  rintro pins s σ H' x' y' v u Q' I rx ry ⟨rfl, rfl, rfl, q⟩
  cases rx
  cases ry
  obtain ⟨hz, hx, xs, hp, ds, ep, e1, e2, e3⟩ := hd
  obtain ⟨hz2, hx2, xs2, hp2, ds2, ep2, f1, f2, f3⟩ := hd2
  cases hp2
  have s1 : ds.size = kvs.length := by
    have l1 := congrArg List.length e2
    have l2 := Paired.length hp
    have l3 := repK_len hr
    simp at l1
    omega
  have s2 : ds2.size = 0 := by
    have l1 := congrArg List.length f2
    simpa using l1
  refine eq0 hsm hsm2 ⟨o, (I.hok a _ ha).1, hx, e1⟩ ⟨o2, (I.hok b _ hb).1, hx2, f1⟩ (by omega) s2 ?_
  have e : decide (ds.size = 0) = kvs.isEmpty := by rw [s1]; cases kvs <;> simp
  rw [e]
  exact ⟨.bl _, H', I.kept fun b u e => e, rfl, q⟩
theorem dic_get (hP : X.prog = W.P) (hw : X.w = W.w) (hK : X.K = W.K) (hu : X.A.units + 100 < cLine) : DicGet X W := by
  intro ow H ks kvs k d x y Q hk hf hy hx q
  obtain ⟨a, o, es, rfl, ha, hsm, hd, hr⟩ := hy
  have hx' : ∃ p, y = .ref p := by
    cases (show Rep W ow H (.tup ks) y from hx)
    exact ⟨_, rfl⟩
  obtain ⟨p, rfl⟩ := hx'
  refine ⟨fun x' y' H' Q' => x' = .ref a ∧ y' = .ref p ∧ H' = H ∧ ∀ v, Rep W ow H d v → Q' v H, ?_, rfl, rfl, rfl, q⟩
  rintro va sl pins s σ H' x' y' v u Q' I rx ry ⟨rfl, rfl, rfl, q⟩ hs
  cases rx
  cases ry
  obtain ⟨hg, xs, hp, hm⟩ := dictOf hP hw hK I ha hd hr
  obtain ⟨v, u, q1, q2, q3⟩ := (at_some hr hp).2 d hf
  exact subscriptTail_builtinR (x := u) hm.typeIs F.slot_dict_getitem.lookup (getItem_keyed (Q := fun r s' => r = u ∧ EP X pins σ Q' r s') (room_in1 hu) (keyIs hK I hx hk) ⟨xs, hm, rfl⟩ q3 ⟨rfl, v, H', I.kept fun b u e => e, q2, q v q1⟩) hs
/-! ### truth, length -/
theorem len_body {A : Around} {E : Value → Shared → Prop} {prog : Program} {w : World} {d : Addr} {es : Array DictEntry} {ep : Nat} {Q : Value → Shared → Prop} (hd : (d == sysModules) = false) (hm : s.heap.DictRaw d es ep) (hfit : (es.size : Int) < 2 ^ 63)
    (h : Q (.int es.size (s.toks + 1)) { s with toks := s.toks + 1 + 1 }) : wpAny (model prog w) A (Builtin.«len» ⟨[.ref d], []⟩) (fun fin s' => ∃ r, fin = .done (.ret r) ∧ Q r s') E s := by
  unfold Builtin.«len»
  refine wpAny_bind (m := oneArg "len" _) (wpAny_pure ?_)
  refine wpAny_bind (m := callSpecial? (.ref d) (Str.ofString "__len__")) (wpAny_callSpecial?_slot (name := Str.ofString "__len__") hm.typeIs F.slot_dict_len (call_len_raw hd hm ?_))
  show wpAny _ _ _ _ _ { s with toks := s.toks + 1 }
  refine wpAny_bind (wpAny_holding (wpAny_pure ?_))
  refine wpAny_bind (wpAny_letGo ?_)
  show wpAny _ _ (if ((es.size : Nat) : Int) < 0 then _ else _) _ _ _
  rw [if_neg (by omega)]
  show wpAny _ _ (if ((es.size : Nat) : Int) ≥ 2 ^ 63 then _ else _) _ _ _
  rw [if_neg (by omega)]
  exact wpAny_bind (wpAny_mkInt (wpAny_pure ⟨_, rfl, h⟩))
theorem truthy_raw {A : Around} {E : Value → Shared → Prop} {prog : Program} {w : World} {d : Addr} {es : Array DictEntry} {ep : Nat} {Q : Bool → Shared → Prop} (hd : (d == sysModules) = false) (hm : s.heap.DictRaw d es ep) (hfit : (es.size : Int) < 2 ^ 63)
    (h : Q ((es.size : Int) != 0) { s with toks := s.toks + 1 + 1 }) : wpAny (model prog w) A (truthy (.ref d)) Q E s := by
  have key : wpAny (model prog w) A (runValue (.builtin "len" ⟨[.ref d], []⟩)) (fun r s' => r = .int es.size (s.toks + 1) ∧ Q ((es.size : Int) != 0) s') E s := by
    refine wpAny_runValue (codeAny_builtin entry_len ?_)
    rw [Around.under_plainId plain_len _]
    exact wpAny_mono (len_body (Q := fun r s' => r = .int es.size (s.toks + 1) ∧ Q ((es.size : Int) != 0) s') hd hm hfit ⟨rfl, h⟩) (fun fin s' h' => by obtain ⟨r, rfl, hq⟩ := h'; exact hq) fun _ _ e => e
  unfold truthy
  refine wpAny_bind (wpAny_callSpecial?_none (name := Str.ofString "__bool__") hm.typeIs noBool_dict ?_)
  refine wpAny_bind (wpAny_specialOf (name := Str.ofString "__len__") hm.typeIs F.slot_dict_len.lookup ?_)
  exact wpAny_bind (wpAny_mono key (fun r s' h' => by obtain ⟨rfl, hq⟩ := h'; exact wpAny_pure hq) fun _ _ e => e)
theorem repK_at : ∀ {kvs : List (NestedKey × D)} {es : List (NestedKey × Addr × V)}, RepK W ow H kvs es → ∀ {i : Nat} {q : NestedKey × Addr × V}, es[i]? = some q → ∃ p, kvs[i]? = some p ∧ p.1 = q.1 ∧ Rep W ow H (ofKey q.1) (.ref q.2.1) ∧ Rep W ow H p.2 q.2.2
  | _, _, .nil, i, q, h => by simp at h
  | _, _, .cons r1 r2 r3 r4, 0, q, h => by simp at h; subst h; exact ⟨_, rfl, rfl, r1, r3⟩
  | _, _, .cons r1 r2 r3 r4, i + 1, q, h => by
    obtain ⟨p, h1, h2⟩ := repK_at r4 (i := i) (q := q) (by simpa using h)
    exact ⟨p, by simpa using h1, h2⟩
theorem dic_tru (hP : X.prog = W.P) (hw : X.w = W.w) (hK : X.K = W.K) : DicTru X W := by
  intro ow H kvs x Q hy q
  obtain ⟨a, o, es, rfl, ha, hsm, hd, hr⟩ := hy
  refine ⟨fun x' H' Q' => x' = .ref a ∧ H' = H ∧ Q' (!kvs.isEmpty) H, ?_, rfl, rfl, q⟩
  rintro pins s σ H' x' v Q' I rx ⟨rfl, rfl, q⟩
  cases rx
  obtain ⟨hg, xs, hp, hm⟩ := dictOf hP hw hK I ha hd hr
  obtain ⟨hz, hx, xs', hp', ds, ep, e1, e2, e3⟩ := hd
  have hl : ds.size = kvs.length := by
    have h1 := congrArg List.length e2
    have h2 := Paired.length hp'
    have h3 := repK_len hr
    simp at h1
    omega
  have hz' : ds.size ≤ sizeLine := by
    have h3 := repK_len hr
    omega
  refine truthy_raw hsm ⟨o, hg, hx, e1⟩ (by have := line63; omega) ?_
  have e : ((ds.size : Int) != 0) = !kvs.isEmpty := by rw [hl]; cases kvs <;> simp <;> omega
  rw [e]
  exact ⟨H', I.kept fun b u e => e, q⟩
/-! ### its keys, one by one -/
theorem paired_get {α β : Type} {r : α → β → Prop} : ∀ {xs : List α} {ys : List β}, Paired r xs ys → ∀ {i : Nat} {x : α}, xs[i]? = some x → ∃ y, ys[i]? = some y ∧ r x y
  | _, _, .nil, i, x, h => by simp at h
  | _, _, .cons a l, 0, x, h => by simp at h; subst h; exact ⟨_, rfl, a⟩
  | _, _, .cons a l, i + 1, x, h => by
    obtain ⟨y, h1, h2⟩ := paired_get l (i := i) (x := x) (by simpa using h)
    exact ⟨y, by simpa using h1, h2⟩
/-- the keys of the dict object o at d -/
def Itq (d : Addr) (o : Obj) (es : List (NestedKey × Addr × V)) : L2.It :=
  ⟨fun i H => H d = some (objAt d o) ∧ i < es.length, fun i H x H' => H' = H ∧ ∃ q, es[i]? = some q ∧ x = .ref q.2.1, fun i H => H d = some (objAt d o) ∧ es.length ≤ i⟩
theorem turn_q {P : Program} {w : World} {K : PySem.W.Frag} {tg : Expr} {d : Addr} {o : Obj} {es : List (NestedKey × Addr × V)} {xs : List (NestedKey × Addr × Value)} {ds : Array DictEntry} {ep : Nat} (it : Addr) (hod : o.data = .dict ds ep) (e2 : ds.toList = xs.map (entryOfKey (nestedKind P w)))
    (hp : Paired (fun (p : NestedKey × Addr × V) (q : NestedKey × Addr × Value) => p.1 = q.1 ∧ p.2.1 = q.2.1 ∧ RelV p.2.2 q.2.2) es xs) : Turn P w K tg (Itq d o es) [it] it (fun i h => h.IsKeyIter it d i es.length ep) where
  mem := by simp
  obj := fun i h st b hb => by
    obtain rfl : b = it := by simpa using hb
    obtain ⟨oi, e, c, dd⟩ := st
    exact ⟨oi, e, fun v z => by rw [dd] at z; cases z⟩
  keep := fun i h h' st k => st.at fun oi e => k it (by simp) oi e
  item := by
    intro X hP hw hK hc i pins s σ H E I hf st hg
    subst hP; subst hw; subst hK
    obtain ⟨hd, hi⟩ := hg
    obtain ⟨f0, f1, f2, f3, f4, f5⟩ := hf it (by simp)
    have hgd : s.heap.get? d = some o := (I.hok d _ hd).1
    have hl := Paired.length hp
    have hsz : ds.size = es.length := by have := congrArg List.length e2; simp at this; omega
    obtain ⟨q, hq⟩ : ∃ q, es[i]? = some q := ⟨es[i], List.getElem?_eq_getElem hi⟩
    obtain ⟨r, hr, h1, h2, h3⟩ := paired_get hp hq
    have hen : ds[i]? = some (entryOfKey (nestedKind X.prog X.w) r) := by rw [← Array.getElem?_toList, e2, List.getElem?_map, hr]; rfl
    refine next_key_item st hgd hod hsz hen fun h' st' sb => ?_
    have I1 : Inv X pins σ H { s with heap := h' } := I.turned (t' := s.toks) (fun b ob hb e => (sb.2 b hb).trans e) f0 f1 f3 f4 f5
    obtain ⟨oi, e, c, dd⟩ := id st'
    exact ⟨.ref r.2.1, rfl, go_of (s := { s with heap := h' }) e c dd (by decide) ⟨.ref q.2.1, H, I1, by rw [h2]; rfl, ⟨rfl, q, hq, rfl⟩, st', fun b hb => (hf b hb).1⟩⟩
  done := by
    intro X hP hw hK hc i pins s σ H E I hf st hg
    subst hP; subst hw; subst hK
    obtain ⟨hd, hi⟩ := hg
    obtain ⟨f0, f1, f2, f3, f4, f5⟩ := hf it (by simp)
    have hgd : s.heap.get? d = some o := (I.hok d _ hd).1
    have hl := Paired.length hp
    have hsz : ds.size = es.length := by have := congrArg List.length e2; simp at this; omega
    exact next_key_end (I.ok.hd hc) st hgd hod hsz hi fun h' eb => ⟨rfl, I.turned (t' := s.toks) (fun b ob hb e => eb b ob hb e) f0 f1 f3 f4 f5⟩
  self := fun A i s Q E st h => wpAny_pyIter_keyiter st h
theorem dic_walk (hP : X.prog = W.P) (hw : X.w = W.w) (hK : X.K = W.K) : DicWalk X W := by
  intro tg e σ H R h pins s I
  refine thn (h pins s I) fun u s1 ⟨x, H1, I1, rx, ow, kvs, hr, q⟩ => ?_
  cases hr with
  | @dic a o es _ ha hsm hfz hd hk =>
    obtain rfl : u = Value.ref a := rx
    obtain ⟨hg, xs0, hp0, hm⟩ := dictOf hP hw hK I1 ha hd hk
    obtain ⟨hz, hx, xs, hp, ds, ep, e1, e2, e3⟩ := hd
    have hl := Paired.length hp
    have hsz : ds.size = es.length := by have := congrArg List.length e2; simp at this; omega
    rw [← hP, ← hw] at e2
    refine iter_keys hsm hg hx e1 (pi_one (tk := s1.toks) I1 _ (turn_q _ e1 e2 hp) ⟨_, Heap.get?_push_size _ rfl, rfl, by rw [hsz]; rfl⟩ (q _ ?_))
    intro ow' H' kp i
    have ha' : H' a = some (objAt a o) := (kp a (by rw [ha]; simp) hfz).1.trans ha
    have hk' := RepK.keep kp hk
    refine ⟨fun d hd => ?_, fun hi => ⟨ha', by rw [← repK_len hk]; simp at hi; omega⟩⟩
    have hlt : i < es.length := by
      have := (List.getElem?_eq_some_iff.mp hd).1
      rw [← repK_len hk]
      simpa using this
    refine ⟨⟨ha', hlt⟩, ?_⟩
    rintro x H'' ⟨rfl, q, hq, rfl⟩
    obtain ⟨p, h1, h2, h3, h4⟩ := repK_at hk' hq
    rw [List.getElem?_map, h1] at hd
    cases hd
    exact ⟨ow', Grow.refl, by show Rep W ow' _ (ofKey p.1) _; rw [h2]; exact h3⟩
/-! ### {}, {k: v}, d[k] = v, d.get(k, x), list(d) -/
theorem dic_new (hP : X.prog = W.P) (hw : X.w = W.w) : DicNew X W := by
  intro pos σ H Q q pins s I
  refine wpAny_Dict_empty ⟨.ref s.heap.objs.size, _, I.laid (a := s.heap.objs.size) (o := objAt s.heap.objs.size dict0) (t' := s.toks) (fun _ _ q => Heap.get?_push_of_some _ q) (Nat.le_refl _) (ext_ok (Heap.get?_push_size _ rfl)), rfl, q _ (I.hok.fresh (Nat.le_refl _)) ?_ (obj0 _ _)⟩
  exact beq_eq_false_iff_ne.mpr (Ne.symm (Nat.ne_of_lt I.big))
theorem dic_one (hP : X.prog = W.P) (hw : X.w = W.w) (hK : X.K = W.K) (hu : X.A.units + 100 < cLine) : DicOne X W := by
  intro ke ve pos σ H Q q pins s I
  have hshape := zip_pairTrees [some ke] [ve] X.env pos rfl rfl
  have hlen : (pairTrees [some ke] [ve] X.env pos).length = 1 := pairTrees_length [some ke] [ve] X.env pos rfl rfl
  rw [arm_eval_Dict, hshape, dictDisplay_pairs _ (by intro z; rw [z] at hlen; cases hlen) (by rw [hlen]; decide)]
  have hn : H s.heap.objs.size = none := I.hok.fresh (Nat.le_refl _)
  have hs : (s.heap.objs.size == sysModules) = false := beq_eq_false_iff_ne.mpr (Ne.symm (Nat.ne_of_lt I.big))
  have I1 : Inv X pins σ (upd H s.heap.objs.size (objAt s.heap.objs.size dict0)) { s with heap := s.heap.push dict0 } := I.laid (a := s.heap.objs.size) (o := objAt s.heap.objs.size dict0) (t' := s.toks) (fun _ _ q => Heap.get?_push_of_some _ q) (Nat.le_refl _) (ext_ok (Heap.get?_push_size _ rfl))
  refine wpAny_bind (wpAny_standAt (wpAny_bind (wpAny_subDictH (knd := nestedKind X.prog X.w) (Q := fun d s' => wpAny (model X.prog X.w) X.A (pure (Value.ref d)) (EP X pins σ Q) X.xe s') (show X.A.units + 8 < cLine by omega) (by rw [hlen]; decide) ?_)))
  refine pairTrees_cons_walk (thn (q _ hn hs pins _ I1) fun u s2 hh => ?_)
  obtain ⟨x, H1, I2, rx, q1⟩ := hh
  refine thn (q1 pins s2 I2) fun uv s3 hh => pairTrees_nil_walk ?_
  obtain ⟨y, H2, I3, ry, hp, ow, ks, k, d, b, rfl, hk, hx, hv, htf, fin⟩ := hh
  obtain rfl : u = Value.ref b := rx
  have hg : s3.heap.get? s.heap.objs.size = some dict0 := (I3.hok _ _ hp).1
  refine ⟨[(.tup k, b, uv)], ⟨rfl, rfl, keyIs hK I3 hx.rd hk, trivial⟩, ⟨dict0, #[], 0, hg, ⟨rfl, rfl, rfl⟩, rfl, rfl, by simp, List.nodup_nil⟩, fun h' tk hm' hs' => wpAny_pure ?_⟩
  obtain ⟨o', ds, ep, g1, g2, g3, g4, g5, g6⟩ := hm'
  have hst : storedAllH ([] : List (NestedKey × Addr × Value)) [(.tup k, b, uv)] = [(.tup k, b, uv)] := by simp [storedAllH, storedH, atKey]
  rw [hst] at g4 g6
  refine ⟨.ref s.heap.objs.size, _, d_write I3 (by rw [hp]; exact True.intro) hs' ⟨o', g1⟩ (ext_ok g1), rfl, fin o' [(.tup k, b, y)] ?_ (.cons (key_repK hk hx) (kOf_ok hk).2 hv .nil)⟩
  exact ⟨by show 1 ≤ sizeLine; rw [sizeLine_eq]; omega, g2, [(.tup k, b, uv)], .cons ⟨rfl, rfl, ry⟩ .nil, ds, ep, g3, by rw [← hP, ← hw]; exact g4, g6⟩
theorem dic_set (hP : X.prog = W.P) (hw : X.w = W.w) (hK : X.K = W.K) (hu : X.A.units + 100 < cLine) : DicSet X W := by
  intro ow H ks kvs k d a b v Q hk hy hx hv hz q pins s σ u I ru
  obtain ⟨a', o, es, e0, ha, hsm, hd, hr⟩ := hy
  cases e0
  obtain ⟨hg, xs, hp, hm⟩ := dictOf hP hw hK I ha hd hr
  have hl1 := Paired.length hp
  have hl2 := repK_len hr
  refine wpAny_setItem_heap (hsz := by omega) (room_in1 hu) (keyIs hK I hx.rd hk) hm fun h' hm' hs => ?_
  obtain ⟨o', ds, ep, g1, g2, g3, g4, g5, g6⟩ := hm'
  have hc : (atKey xs (.tup k)).isSome = hasKey kvs (.tup k) := by
    rw [← (at_some hr hp (k := .tup k)).1, valueAt_pairsH, Option.isSome_map]
  have hst : storedH xs (.tup k) b u = if hasKey kvs (.tup k) then xs.map (putAt (.tup k) u) else xs ++ [(.tup k, b, u)] := by
    unfold storedH
    rw [hc]
  have RK : RepK W ow H (storeK kvs (.tup k) d) (storeE (hasKey kvs (.tup k)) es (.tup k) b v) := by
    unfold storeK storeE
    cases hasKey kvs (.tup k) with
    | true => exact repK_map hv hr
    | false => exact repK_app (key_repK hk hx) (kOf_ok hk).2 hv hr
  have PRs : Paired PR (storeE (hasKey kvs (.tup k)) es (.tup k) b v) (storedH xs (.tup k) b u) := by
    rw [hst]
    unfold storeE
    cases hasKey kvs (.tup k) with
    | true => exact pr_map ru hp
    | false => exact pr_app ⟨rfl, rfl, ru⟩ hp
  have hlen : (storeE (hasKey kvs (.tup k)) es (.tup k) b v).length ≤ sizeLine := by
    unfold storeE
    cases hasKey kvs (.tup k) with
    | true => simp; omega
    | false => simp; omega
  refine ⟨_, d_write I (by rw [ha]; exact True.intro) hs ⟨o', g1⟩ (ext_ok g1), q o' _ hsm ?_ RK⟩
  exact ⟨hlen, g2, _, PRs, ds, ep, g3, by rw [← hP, ← hw]; exact g4, g6⟩
theorem dic_go (hP : X.prog = W.P) (hw : X.w = W.w) (hK : X.K = W.K) (hu : X.A.units + 100 < cLine) : DicGo X W := by
  refine ⟨fun pins s σ H ow kvs x I hy => ?_, fun ow H ks kvs k a b x z Q hk hy hx hz q pins s σ u I ru => ?_⟩
  · obtain ⟨a, o, es, rfl, ha, hsm, hd, hr⟩ := hy
    obtain ⟨hg, xs, hp, hm⟩ := dictOf hP hw hK I ha hd hr
    refine ⟨a, rfl, hm.typeIs, fun b e => ?_⟩
    cases e
    exact ⟨o, hg, hd.2.1.2.1⟩
  · obtain ⟨a', o, es, e0, ha, hsm, hd, hr⟩ := hy
    cases e0
    obtain ⟨hg, xs, hp, hm⟩ := dictOf hP hw hK I ha hd hr
    refine getOr_keyed (room_in1 hu) (keyIs hK I hx.rd hk) hsm ⟨xs, hm, rfl⟩ ?_
    cases e : valK kvs (.tup k) with
    | some d =>
      obtain ⟨v, w, q1, q2, q3⟩ := (at_some hr hp (k := .tup k)).2 d e
      rw [q3]
      exact ⟨v, H, I.kept fun b u e => e, q2, q v (by rw [e]; exact q1)⟩
    | none =>
      have hn : hasKey kvs (.tup k) = false := by
        unfold valK at e
        simp only [Option.map_eq_none_iff, List.find?_eq_none] at e
        unfold hasKey
        rw [List.any_eq_false]
        exact fun p hp => by simpa using e p hp
      have h1 := (at_some hr hp (k := .tup k)).1
      rw [hn] at h1
      rw [Option.isSome_eq_false_iff, Option.isNone_iff_eq_none] at h1
      rw [h1]
      exact ⟨z, H, I.kept fun b u e => e, ru, q z (by rw [e]; exact hz)⟩
theorem rep_keys : ∀ {kvs : List (NestedKey × D)} {es : List (NestedKey × Addr × V)}, RepK W ow H kvs es → RepL W ow H (kvs.map fun p => ofKey p.1) (es.map fun q => V.ref q.2.1)
  | _, _, .nil => .nil
  | _, _, .cons r1 r2 r3 r4 => .cons r1 (rep_keys r4)
theorem vals_keys {P : Program} {w : World} : ∀ {es : List (NestedKey × Addr × V)} {xs : List (NestedKey × Addr × Value)}, Paired PR es xs → Vals (es.map fun q => V.ref q.2.1) (xs.map fun x => (entryOfKey (nestedKind P w) x).key)
  | _, _, .nil => .nil
  | _, _, .cons h l => .cons (by dsimp only; rw [h.2.1]; rfl) (vals_keys l)
theorem dic_len (hP : X.prog = W.P) (hw : X.w = W.w) (hK : X.K = W.K) : DicLen X W := by
  intro ow H kvs x Q hy q
  obtain ⟨a, o, es, rfl, ha, hsm, hd, hr⟩ := hy
  refine ⟨fun xs H' Q' => xs = [.ref a] ∧ H' = H ∧ Q' (.int ((kvs.length : Nat) : Int)) H, ?_, rfl, rfl, q⟩
  rintro pins s σ H' xs us Q' I rs ⟨rfl, rfl, q⟩
  obtain ⟨u, rfl, rx⟩ := vals1 rs
  cases rx
  obtain ⟨hg, xs, hp, hm⟩ := dictOf hP hw hK I ha hd hr
  have h2 := Paired.length hp
  have h3 := repK_len hr
  have hz := hd.1
  have hl : xs.length = kvs.length := by omega
  refine call_len_dictH hsm hm (by have := line63; omega) ?_
  rw [hl]
  exact ⟨.int ((kvs.length : Nat) : Int), H', I.tok _, ⟨_, rfl⟩, q⟩
theorem dic_lst0 (hP : X.prog = W.P) (hw : X.w = W.w) (hK : X.K = W.K) (hc : X.calm = true) : DicLst0 X W := by
  intro ow H kvs x Q hy q
  obtain ⟨a, o, es, rfl, ha, hsm, hd, hr⟩ := hy
  refine ⟨fun xs H' Q' => xs = [.ref a] ∧ H' = H ∧ ∀ p us, H p = none → RepL W ow H (kvs.map fun p => ofKey p.1) us → Q' (.ref p) (upd H p (.lst us)), ?_, rfl, rfl, q⟩
  rintro pins s σ H' xs us Q' I rs ⟨rfl, rfl, q⟩
  obtain ⟨u, rfl, rx⟩ := vals1 rs
  cases rx
  obtain ⟨hz, hx, ys, hp, ds, ep, e1, e2, e3⟩ := hd
  have hg : s.heap.get? a = some o := (I.hok a _ ha).1
  have hl1 := Paired.length hp
  have hsz : ds.size = es.length := by have := congrArg List.length e2; simp at this; omega
  refine PySem.W.kdl_call (KdlSrc.rawDict (prog := X.prog) (w := X.w) hsm) (I.ok.hd hc) ⟨o, hg, hx, e1⟩ (by omega) fun h' tk acc' c' kp e hit => ?_
  have hacc : acc'.toList = ys.map fun x => (entryOfKey (nestedKind W.P W.w) x).key := by
    refine List.ext_getElem? fun j => ?_
    rw [List.getElem?_map]
    cases ej : acc'.toList[j]? with
    | none =>
      have : acc'.size ≤ j := by simpa using ej
      have h1 := hit.1
      have : ys[j]? = none := List.getElem?_eq_none (by omega)
      rw [this]; rfl
    | some w' =>
      have ej' : acc'[j]? = some w' := by rw [← Array.getElem?_toList]; exact ej
      obtain ⟨hj, rfl⟩ := hit.2 j w' ej'
      have hd' : ds.toList[j]? = some ds[j] := by rw [Array.getElem?_toList]; exact Array.getElem?_eq_getElem hj
      rw [e2, List.getElem?_map] at hd'
      cases ey : ys[j]? with
      | none => rw [ey] at hd'; cases hd'
      | some y =>
        rw [ey] at hd'
        simp only [Option.map_some, Option.some.injEq] at hd' ⊢
        rw [hd']
  refine ⟨.ref s.heap.objs.size, _, I.laid (t' := tk) kp (Nat.le_refl _) (show ObjOk X.prog X.w _ h' _ (.lst (es.map fun q => V.ref q.2.1)) from ⟨by simp; omega, acc'.toList, c', ?_, by simpa using e⟩), rfl, q _ _ (I.hok.fresh (Nat.le_refl _)) (rep_keys hr)⟩
  rw [hacc]
  exact vals_keys hp
end
theorem dicAll (W : Wd) : DicAll W := fun X hP hw hK hc hu => ⟨⟨dic_in hP hw hK hu, dic_eq0 hP hw hK hu⟩, dic_tru hP hw hK, dic_get hP hw hK hu, dic_walk hP hw hK, ⟨dic_lst0 hP hw hK hc, dic_len hP hw hK⟩, dic_new hP hw, dic_one hP hw hK hu, dic_set hP hw hK hu, dic_go hP hw hK hu⟩
end Ev

/-! EvR: a law put together: what is looked at behind the top; every def keeps its promise. -/
namespace Ev
open PySem PySem.Spec PyProof.Rows L2

/-! ### binding of plain parameters -/
def simpPs (p : Arguments) (ps : List Str) : Bool := p.posonlyargs.isEmpty && decide (p.args.map (·.arg) = ps) && p.vararg.isNone && p.kwonlyargs.isEmpty && p.kwarg.isNone && decide ps.Nodup
theorem zip_lookup : ∀ {ps : List Str} {us : List Value}, ps.length = us.length → ps.Nodup → ∀ (base : List (Str × Value)), (∀ x ∈ ps, base.lookup x = (ps.zip us).lookup x) → ps.filterMap (fun n => (base.lookup n).map (n, ·)) = ps.zip us ∧ ∀ x ∈ ps, ((base.lookup x).isNone) = false
  | [], [], _, _, _, _ => ⟨rfl, fun x hx => by cases hx⟩
  | x :: ps, u :: us, hl, nd, base, hb => by
    have e0 : base.lookup x = some u := by rw [hb x List.mem_cons_self]; simp [List.lookup_cons]
    have nd' := List.nodup_cons.mp nd
    obtain ⟨h1, h2⟩ := zip_lookup (ps := ps) (us := us) (by simpa using hl) nd'.2 base (fun y hy => by
      rw [hb y (List.mem_cons_of_mem _ hy)]
      have ne : (y == x) = false := by
        cases q : y == x with
        | false => rfl
        | true => exact absurd (beq_iff_eq.mp q ▸ hy) nd'.1
      simp [List.lookup_cons, ne])
    refine ⟨by simp only [List.filterMap_cons, e0, Option.map_some, h1, List.zip_cons_cons], fun y hy => ?_⟩
    rcases List.mem_cons.mp hy with rfl | hy
    · rw [e0]; rfl
    · exact h2 y hy
theorem bind_simp {x qual : Str} {p : Arguments} {body : List Stmt} {sc : Scope} {ps : List Str} (h : simpPs p ps = true) (kV doc pm : Value) (an : Option Addr) (cdv ct : Value) (us : List Value) (hl : us.length = ps.length) :
    bindArgs (PySem.W.fnOf x qual p body sc .none kV doc pm an cdv ct) ⟨us, []⟩ = pure (ps.zip us) := by
  simp only [simpPs, Bool.and_eq_true, decide_eq_true_eq, List.isEmpty_iff, Option.isNone_iff_eq_none] at h
  obtain ⟨⟨⟨⟨⟨h1, h2⟩, h3⟩, h4⟩, h5⟩, h6⟩ := h
  obtain ⟨e1, e2⟩ := zip_lookup hl.symm h6 (ps.zip us) (fun _ _ => rfl)
  have e3 : ps.filter (fun n => ((ps.zip us).lookup n).isNone) = [] := by
    rw [List.filter_eq_nil_iff]
    intro y hy
    rw [e2 y hy]
    simp
  obtain ⟨po, ar, va, ko, kd, kw, df⟩ := p
  simp only at h1 h2 h3 h4 h5
  subst h1 h3 h4 h5
  unfold bindArgs PySem.W.fnOf
  simp [h2, hl, e3, e1, seqItems?]
  rfl

/-! ### where things stand -/
inductive Pl where
  | fn (x : Str) | me (c m : Str) | gt (c p : Str)
  deriving DecidableEq
def Pl.nm : Pl → Str
  | .fn x => x
  | .me c m => c ++ "." ++ m
  | .gt c p => c ++ "." ++ p
def getterAt (K : PySem.W.Frag) (a : Addr) : Addr := match PySem.W.recIn K a "property" with
  | some (.ref g :: _) => g
  | _ => 0
def Pl.ad (K : PySem.W.Frag) : Pl → Addr
  | .fn x => He.ga K x
  | .me c m => He.ma K (He.ga K c) m
  | .gt c p => getterAt K (He.ma K (He.ga K c) p)
/-- a constant of the module -/
inductive CV where
  | int (i : Int) | tup (xs : List Str)
def CV.d : CV → D
  | .int i => .int i
  | .tup xs => .tup (xs.map .str)
def CV.ok (K : PySem.W.Frag) (x : Str) : CV → Bool
  | .int i => (He.Fa.int x i).ok K
  | .tup xs => (He.Fa.glo x).ok K && He.tupB K x (xs.map .str)
structure Dfn where
  pl : Pl
  f : Fn
  d : He.DefD
/-- a law's text, as it is told -/
structure Lw where
  ds : List Dfn
  mix : He.DefD
  nxt : He.DefD
  own : List Str
  M : MC
  con : List (Str × CV)
def Lw.Γ (L : Lw) : List Fn := L.ds.map (·.f)
def Lw.gl (L : Lw) (x : Str) : Option D := (L.con.lookup x).map CV.d
def prL : Prims := fun f => if f = "_law_mix" then some pMix else if f = "_law_next" then some pNext else none
def Lw.pls (L : Lw) : List Pl := .fn "_law_mix" :: .fn "_law_next" :: L.ds.map (·.pl)
def Lw.adr (L : Lw) (K : PySem.W.Frag) (f : Str) : Addr := match L.pls.find? fun p => p.nm == f with
  | some p => p.ad K
  | none => 0
/-- the defs that are looked at -/
def Lw.dl (L : Lw) : List (Pl × He.DefD) := (.fn "_law_mix", L.mix) :: (.fn "_law_next", L.nxt) :: L.ds.map fun x => (x.pl, x.d)
def Lw.wd (L : Lw) (P : Program) (w : World) (K : PySem.W.Frag) : Wd := ⟨P, w, K, He.ga K, L.own⟩
def hasF (L : Lw) (f : Str) : Bool := (prL f).isSome || (findFn L.Γ f).isSome

/-! ### a def, looked at -/
def seenW (K : PySem.W.Frag) (a : Addr) : He.FnW := match K.lookup a with
  | some ob => (match ob.data with
    | .func fd => some (fd.name, fd.qualname, fd.params, fd.body, fd.scope, fd.globals, fd.closure, fd.builtins)
    | _ => none)
  | none => none
def seenB (K : PySem.W.Frag) (d : He.DefD) (a : Addr) : Bool := match K.lookup a with
  | some ob => (match ob.data with
    | .func fd => PySem.W.keepIn K (.ref a) && PySem.W.codeIn K fd.code d.qual && He.dflB K fd.defaults (d.dvs K) && He.kwdB K fd.kwdefaults (d.kws K)
    | _ => false)
  | none => false
theorem seen_ok {K : PySem.W.Frag} {d : He.DefD} {a : Addr} (e : seenW K a = d.val) (c : seenB K d a = true) : ∃ fd, FunD K d.name d.qual d.params d.body d.scope (d.dvs K) (d.kws K) a fd := by
  unfold seenW at e
  unfold seenB at c
  cases hk : K.lookup a with
  | none => rw [hk] at c; simp at c
  | some ob =>
    rw [hk] at e c
    simp only at e c
    obtain ⟨c1, c2, c3, c4⟩ := ob
    cases c3 with
    | func fd =>
      simp only [Bool.and_eq_true] at e c
      obtain ⟨⟨⟨q1, q2⟩, q3⟩, q4⟩ := c
      obtain ⟨g1, g2, g3, g4, g5, g6, g7, g8, g9, g10, g11, g12, g13, g14, g15⟩ := fd
      simp only [He.DefD.val, Option.some.injEq, Prod.mk.injEq] at e
      obtain ⟨z1, z2, z3, z4, z5, z6, z7, z8⟩ := e
      subst z1 z2 z3 z4 z5 z6 z7 z8
      exact ⟨_, ⟨c1, c2, g8, g9, g10, g11, g12, g13, g14, c4, rfl, hk, q2, He.dflB_ok q3, He.kwdB_ok q4⟩, q1⟩
    | _ => simp at c

/-! ### the facts of the written part, as one Bool -/
def tyReps (own : List Str) : List D := [.non, .bl true, .int 0, .str "", .tup [], .lst []] ++ own.map (.ins · [])
def tyK (K : PySem.W.Frag) : D → Value
  | .ins c _ => .ref (He.ga K c)
  | .non => .type "NoneType"
  | .bl _ => .type "bool"
  | .int _ => .type "int"
  | .str _ => .type "str"
  | .tup _ => .type "tuple"
  | .lst _ => .type "list"
  | .dic _ => .type "dict"
def clsB (K : PySem.W.Frag) (c : Str) : Bool := (He.Fa.glo c).ok K && (He.Fa.cls c).ok K && He.eqO (PySem.W.findIn K (.ref (He.ga K c)) "__class__") (some (some (.builtin "object.__class__"))) &&
  decide (PySem.W.specialIn K (.builtin "object.__class__") "__get__" = some (some (.builtin "getset_descriptor.__get__"))) && decide (PySem.W.takesIn K (.builtin "object.__class__") = some true) && decide (PySem.W.mroIn K (He.ga K c) (.type "object") = some true) &&
  decide (PySem.W.kitOne K (.ref (He.ga K c)) (.ref (He.ga K c)) = some true)
def propB (K : PySem.W.Frag) (c p : Str) : Bool := He.eqO (PySem.W.findIn K (.ref (He.ga K c)) p) (some (some (.ref (He.ma K (He.ga K c) p)))) &&
  decide (PySem.W.specialIn K (.ref (He.ma K (He.ga K c) p)) "__get__" = some (some (.builtin "property.__get__"))) && decide (PySem.W.takesIn K (.ref (He.ma K (He.ga K c) p)) = some true) &&
  (match PySem.W.recIn K (He.ma K (He.ga K c) p) "property" with
  | some (.ref _ :: _) => true
  | _ => false)
def eqB (L : Lw) (K : PySem.W.Frag) (c : Str) : Bool := (!hasF L (c ++ ".__eq__")) || (He.eqO (PySem.W.findIn K (.ref (He.ga K c)) "__eq__") (some (some (.ref (He.ma K (He.ga K c) "__eq__")))) && PySem.W.isFn K (.ref (He.ma K (He.ga K c) "__eq__")) && (tyReps L.own).all fun d => PySem.W.notFirst K (He.ga K c) (tyK K d))
def excB (K : PySem.W.Frag) (c : Str) : Bool := (He.Fa.glo c).ok K && PySem.W.excIn K (He.ga K c) [.type "ValueError", .type "Exception", .type "BaseException", .type "object"] "ValueError.__new__" && PySem.W.keepIn K (.ref (He.ga K c)) && decide (PySem.W.subIn K (.ref (He.ga K c)) (.type "BaseException") = some true) && decide (PySem.W.typeIn K (.ref (He.ga K c)) = some (.type "type"))
def Lw.chk (L : Lw) (K : PySem.W.Frag) : Bool :=
  (freeNames.all fun x => (He.Fa.free x).ok K) && (L.M.fns.all fun f => (He.Fa.glo f).ok K) && (L.con.all fun q => q.2.ok K q.1) && (L.own.all fun c => clsB K c) &&
  (biCls.all fun c => (tyReps L.own).all fun d => decide (PySem.W.kitOne K (tyK K d) (.type c.2) = some (isiD c.1 d))) &&
  (L.own.all fun c => (tyReps L.own).all fun d => decide (PySem.W.kitOne K (tyK K d) (.ref (He.ga K c)) = some (isiD c d))) &&
  (L.M.flds.all fun q => (He.Fa.noat q.1 q.2).ok K) && (L.M.props.all fun q => propB K q.1 q.2) && (L.M.made.all fun c => (He.Fa.mkr c).ok K) && (L.own.all fun c => eqB L K c) &&
  (L.M.excs.all fun c => excB K c && L.M.excs.all fun c' => decide (PySem.W.exmOne K (.ref (He.ga K c)) (.ref (He.ga K c')) = some (decide (c = c'))))
/-- what is told by the text alone -/
def Lw.stat (L : Lw) : Bool :=
  (L.pls.all fun p => decide (L.pls.find? (fun q => q.nm == p.nm) = some p)) && (L.ds.all fun x => (x.pl.nm == x.f.name) && fnBB L.own L.M x.f x.d && simpPs x.d.params x.f.ps) &&
  (L.M.fns.all fun f => hasF L f && L.pls.contains (.fn f)) && (L.M.cons.all fun x => (L.con.lookup x).isSome) &&
  (L.M.flds.all fun q => L.own.contains q.1) && (L.M.props.all fun q => L.own.contains q.1 && hasF L (q.1 ++ "." ++ q.2) && L.pls.contains (.gt q.1 q.2)) &&
  (L.M.made.all fun c => L.own.contains c && hasF L (c ++ ".__init__") && L.pls.contains (.me c "__init__") && decide (c ++ "." ++ "__init__" = c ++ ".__init__")) &&
  (L.own.all fun c => !hasF L (c ++ ".__eq__") || (L.pls.contains (.me c "__eq__") && decide (c ++ "." ++ "__eq__" = c ++ ".__eq__"))) &&
  L.mix.dfl.isEmpty && L.mix.kwd.isEmpty && L.nxt.dfl.isEmpty && L.nxt.kwd.isEmpty && simpPs L.mix.params ["_law_script", "_law_seed"] && simpPs L.nxt.params ["_law_h", "_law_bound"] &&
  L.pls.contains (.fn "law") && hasF L "law" && L.M.fns.contains "law" && (match L.ds.find? (fun x => x.f.name == ("law" : Str)) with
  | some x => decide (x.f.ps = (["_law_script"] : List Str))
  | none => false)

section
variable {L : Lw} {P : Program} {w : World} {K : PySem.W.Frag}
theorem adr_pl (hs : L.stat = true) {p : Pl} (h : p ∈ L.pls) : L.adr K p.nm = p.ad K := by
  unfold Lw.stat at hs
  simp only [Bool.and_eq_true] at hs
  have h1 := hs.1.1.1.1.1.1.1.1.1.1.1.1.1.1.1.1.1
  have h2 := List.all_eq_true.mp h1 p h
  have h3 := of_decide_eq_true h2
  unfold Lw.adr
  rw [h3]
theorem tyK_ty {d : D} (h : isDic d = false) (hi : ∀ k fs, d = .ins k fs → k ∈ L.own) : ∃ r ∈ tyReps L.own, tyV (L.wd P w K) d = tyK K r ∧ ∀ c, isiD c d = isiD c r := by
  unfold tyReps
  cases d with
  | non => exact ⟨.non, by simp, rfl, fun _ => rfl⟩
  | bl b => exact ⟨.bl true, by simp, rfl, fun _ => rfl⟩
  | int b => exact ⟨.int 0, by simp, rfl, fun _ => rfl⟩
  | str b => exact ⟨.str "", by simp, rfl, fun _ => rfl⟩
  | tup b => exact ⟨.tup [], by simp, rfl, fun _ => rfl⟩
  | lst b => exact ⟨.lst [], by simp, rfl, fun _ => rfl⟩
  | dic b => simp [isDic] at h
  | ins c fs => exact ⟨.ins c [], by simp [hi c fs rfl], rfl, fun _ => rfl⟩
theorem repStrs {W : Wd} {ow : Ow} {H : Hp} : ∀ {xs : List Str}, RepL W ow H (xs.map .str) (xs.map V.str)
  | [] => .nil
  | x :: xs => .cons (.str x) repStrs
theorem lookup_in {α : Type} : ∀ {l : List (Str × α)} {x : Str} {c : α}, l.lookup x = some c → (x, c) ∈ l
  | [], x, c, h => by cases h
  | (y, d) :: r, x, c, h => by
    rw [List.lookup_cons] at h
    split at h
    · next e => rw [eq_of_beq e]; cases h; exact List.mem_cons_self
    · exact List.mem_cons_of_mem _ (lookup_in h)
theorem con_ok {mg : Str → Option Value} {h : Heap} (X : K.In h) (G : h.Ns mainGlobals mg) {x : Str} {c : CV} (e : c.ok K x = true) : ∃ v u, mg x = some u ∧ RelV v u ∧ ∀ ow H, Rep (L.wd P w K) ow H c.d v := by
  cases c with
  | int i =>
    obtain ⟨t, ht⟩ := He.int_ok X G e
    exact ⟨.int i, _, ht, ⟨t, rfl⟩, fun ow H => .int i⟩
  | tup xs =>
    obtain ⟨e1, e2⟩ := He.ba (show ((He.Fa.glo x).ok K && He.tupB K x (xs.map .str)) = true from e)
    refine ⟨.ref (He.ga K x), _, He.glo_ok X G e1, rfl, fun ow H => ?_⟩
    have q := He.tupB_ok e2 noH
    refine .tup (vs := xs.map .str) (.inr ?_) ?_
    · have ev : (xs.map He.Dv.str).map (He.Dv.v K) = xs.map V.str := by simp [List.map_map, Function.comp_def, He.Dv.v]
      rw [ev] at q
      exact q
    · exact repStrs
/-- the defs looked at -/
def DefsOk (L : Lw) (K : PySem.W.Frag) : Prop := ∀ p ∈ L.dl, ∃ fd, FunD K p.2.name p.2.qual p.2.params p.2.body p.2.scope (p.2.dvs K) (p.2.kws K) (p.1.ad K) fd
theorem pf_of {mg : Str → Option Value} {h : Heap} (X : K.In h) (G : h.Ns mainGlobals mg) (hs : L.stat = true) (hc : L.chk K = true) : PF (L.wd P w K) L.M L.gl mg (L.adr K) L.Γ prL := by
  have hs0 := hs
  unfold Lw.stat at hs
  simp only [Bool.and_eq_true, List.all_eq_true, List.contains_iff_mem, decide_eq_true_eq, Bool.or_eq_true, Bool.not_eq_true'] at hs
  obtain ⟨⟨⟨⟨⟨⟨⟨⟨⟨⟨⟨⟨⟨⟨⟨⟨⟨s1, s2⟩, s3⟩, s4⟩, s5⟩, s6⟩, s7⟩, s8⟩, s9⟩, s10⟩, s11⟩, s12⟩, s13⟩, s14⟩, s15⟩, s16⟩, s17⟩, s18⟩ := hs
  unfold Lw.chk at hc
  simp only [Bool.and_eq_true, List.all_eq_true] at hc
  obtain ⟨⟨⟨⟨⟨⟨⟨⟨⟨⟨c1, c2⟩, c3⟩, c4⟩, c5⟩, c6⟩, c7⟩, c8⟩, c9⟩, c10⟩, c11⟩ := hc
  have hF : ∀ {f : Str}, hasF L f = true → ((prL f).isSome = true ∨ (findFn L.Γ f).isSome = true) := fun h => by
    unfold hasF at h
    simpa using h
  exact {
    free := fun x hx => He.free_ok X G (c1 x hx)
    fn := fun f hf => by
      refine ⟨?_, hF (s3 f hf).1⟩
      have e := He.glo_ok X G (c2 f hf)
      rw [e]
      have e2 : L.adr K (Pl.fn f).nm = (Pl.fn f).ad K := adr_pl hs0 (s3 f hf).2
      rw [show L.adr K f = He.ga K f from e2]
    con := fun x hx => by
      have e := s4 x hx
      cases q : L.con.lookup x with
      | none => rw [q] at e; cases e
      | some c =>
        have hm : (x, c) ∈ L.con := lookup_in q
        obtain ⟨v, u, h1, h2, h3⟩ := con_ok (L := L) (P := P) (w := w) X G (c3 _ hm)
        exact ⟨c.d, v, u, by unfold Lw.gl; rw [q]; rfl, h1, h2, h3⟩
    cls := fun c hcm => by
      have q := c4 c hcm
      unfold clsB at q
      simp only [Bool.and_eq_true, decide_eq_true_eq] at q
      obtain ⟨⟨⟨⟨⟨⟨q1, q2⟩, q3⟩, q4⟩, q5⟩, q6⟩, q7⟩ := q
      exact ⟨He.glo_ok X G q1, He.cls_ok q2, He.eqO_ok q3, q4, q5, q6, q7⟩
    kit := fun c hcm d hd hi => by
      obtain ⟨r, hr, e1, e2⟩ := tyK_ty (P := P) (w := w) (K := K) hd hi
      rw [e1, e2]
      exact of_decide_eq_true (c5 c hcm r hr)
    kitO := fun c hcm d hd hi => by
      obtain ⟨r, hr, e1, e2⟩ := tyK_ty (P := P) (w := w) (K := K) hd hi
      rw [e1, e2]
      exact of_decide_eq_true (c6 c hcm r hr)
    fld := fun q hq => ⟨s5 q hq, He.noat_ok (c7 q hq)⟩
    prop := fun q hq => by
      obtain ⟨⟨h1, h2⟩, h3⟩ := s6 q hq
      refine ⟨h1, ⟨He.ma K (He.ga K q.1) q.2, ?_⟩, hF h2⟩
      have e2 : L.adr K (Pl.gt q.1 q.2).nm = (Pl.gt q.1 q.2).ad K := adr_pl hs0 h3
      have z := c8 q hq
      unfold propB at z
      simp only [Bool.and_eq_true, decide_eq_true_eq] at z
      obtain ⟨⟨⟨z1, z2⟩, z3⟩, z4⟩ := z
      refine ⟨He.eqO_ok z1, z2, z3, ?_⟩
      rw [show L.adr K (q.1 ++ "." ++ q.2) = getterAt K (He.ma K (He.ga K q.1) q.2) from e2]
      unfold getterAt
      split at z4
      · next g rest e => exact ⟨rest, e⟩
      · cases z4
    made := fun c hcm => by
      obtain ⟨⟨⟨h1, h2⟩, h3⟩, h4⟩ := s7 c hcm
      have e2 : L.adr K (Pl.me c "__init__").nm = (Pl.me c "__init__").ad K := adr_pl hs0 h3
      refine ⟨h1, ?_, hF h2⟩
      have e3 : L.adr K (c ++ ".__init__") = He.ma K (He.ga K c) "__init__" := by
        rw [← h4]
        exact e2
      rw [e3]
      exact He.mkr_ok (c9 c hcm)
    eq := fun c hcm => by
      have z := c10 c hcm
      unfold eqB at z
      cases hh : hasF L (c ++ ".__eq__") with
      | false =>
        left
        unfold hasF at hh
        simpa using hh
      | true =>
        right
        rw [hh] at z
        simp only [Bool.not_true, Bool.false_or, Bool.and_eq_true, List.all_eq_true] at z
        obtain ⟨⟨z1, z2⟩, z3⟩ := z
        rcases s8 c hcm with q | ⟨q1, q2⟩
        · rw [hh] at q; cases q
        have e2 : L.adr K (Pl.me c "__eq__").nm = (Pl.me c "__eq__").ad K := adr_pl hs0 q1
        have e3 : L.adr K (c ++ ".__eq__") = He.ma K (He.ga K c) "__eq__" := by
          rw [← q2]
          exact e2
        rw [e3]
        refine ⟨hF hh, He.eqO_ok z1, z2, fun d hd hi => ?_⟩
        obtain ⟨r, hr, e1, _⟩ := tyK_ty (P := P) (w := w) (K := K) hd hi
        rw [e1]
        exact z3 r hr
    dic := dicAll _
    exc := fun c hcm => by
      have q := c11 c hcm
      unfold excB at q
      simp only [Bool.and_eq_true, decide_eq_true_eq, List.all_eq_true] at q
      obtain ⟨⟨⟨⟨⟨q1, q2⟩, q3⟩, q4⟩, q5⟩, q6⟩ := q
      exact ⟨He.glo_ok X G q1, ⟨q2, q3, q4, q5⟩, q6⟩ }
theorem all_keep {mg : Str → Option Value} {h base : Heap} (X : K.In h) (G : h.Ns mainGlobals mg) (hs : L.stat = true) (hc : L.chk K = true) (hd : DefsOk L K)
    (hmix : ∀ (n : Nat) (f : Addr) (fd : FuncData), FunD K L.mix.name L.mix.qual L.mix.params L.mix.body L.mix.scope [] [] f fd → (∀ y ∈ freeNames, mg y = none) → Binds K fd ["_law_script", "_law_seed"] [] → FnAtG (L.wd P w K) mg base (fun _ => pMix) (3 * (n + 1)) f "_law_mix")
    (hnxt : ∀ (n : Nat) (f : Addr) (fd : FuncData), FunD K L.nxt.name L.nxt.qual L.nxt.params L.nxt.body L.nxt.scope [] [] f fd → (∀ y ∈ freeNames, mg y = none) → Binds K fd ["_law_h", "_law_bound"] [] → FnAtG (L.wd P w K) mg base (fun _ => pNext) (3 * (n + 1)) f "_law_next") :
    ∀ (n : Nat) (f : Str), hasF L f = true → FnAtG (L.wd P w K) mg base (callN L.Γ prL L.gl n) (3 * n) (L.adr K f) f := by
  have F := pf_of (P := P) (w := w) X G hs hc
  have hs0 := hs
  unfold Lw.stat at hs
  simp only [Bool.and_eq_true, List.all_eq_true, List.contains_iff_mem, decide_eq_true_eq, Bool.or_eq_true, Bool.not_eq_true', List.isEmpty_iff] at hs
  obtain ⟨⟨⟨⟨⟨⟨⟨⟨⟨⟨⟨⟨⟨⟨⟨⟨⟨s1, s2⟩, s3⟩, s4⟩, s5⟩, s6⟩, s7⟩, s8⟩, s9⟩, s10⟩, s11⟩, s12⟩, s13⟩, s14⟩, s15⟩, s16⟩, s17⟩, s18⟩ := hs
  have am : L.adr K "_law_mix" = He.ga K "_law_mix" := adr_pl hs0 (p := .fn "_law_mix") (by simp [Lw.pls])
  have an : L.adr K "_law_next" = He.ga K "_law_next" := adr_pl hs0 (p := .fn "_law_next") (by simp [Lw.pls])
  obtain ⟨fm, Fm⟩ := hd (.fn "_law_mix", L.mix) (by simp [Lw.dl])
  obtain ⟨fn, Fn⟩ := hd (.fn "_law_next", L.nxt) (by simp [Lw.dl])
  simp only [He.DefD.dvs, He.DefD.kws, s9, s10, s11, s12, List.map_nil] at Fm Fn
  have bm : Binds K fm ["_law_script", "_law_seed"] [] := Fm.bindsN (bind_simp s13)
  have bn : Binds K fn ["_law_h", "_law_bound"] [] := Fn.bindsN (bind_simp s14)
  have hpr : ∀ f g, prL f = some g → (f = "_law_mix" ∧ g = pMix) ∨ (f = "_law_next" ∧ g = pNext) := fun f g h => by
    unfold prL at h
    split at h
    · next e => cases h; exact .inl ⟨e, rfl⟩
    · split at h
      · next e => cases h; exact .inr ⟨e, rfl⟩
      · cases h
  have hmem : ∀ f ∈ L.Γ, ∃ x ∈ L.ds, x.f = f := fun f hf => by
    unfold Lw.Γ at hf
    obtain ⟨x, h1, h2⟩ := List.mem_map.mp hf
    exact ⟨x, h1, h2⟩
  have hat : ∀ x ∈ L.ds, L.adr K x.f.name = x.pl.ad K := fun x hx => by
    have e := (s2 x hx).1.1
    rw [← eq_of_beq e]
    exact adr_pl hs0 (by simp [Lw.pls]; exact .inr (.inr ⟨x, hx, rfl⟩))
  have hfd : ∀ x ∈ L.ds, ∃ fd, FunD K x.d.name x.d.qual x.d.params x.d.body x.d.scope (x.d.dvs K) (x.d.kws K) (L.adr K x.f.name) fd := fun x hx => by
    rw [hat x hx]
    exact hd (x.pl, x.d) (by simp [Lw.dl]; exact .inr (.inr ⟨x, hx, rfl, rfl⟩))
  have hB : ∀ x ∈ L.ds, FnB L.own L.M x.f x.d := fun x hx => fnB_of (s2 x hx).1.2 (bind_simp (s2 x hx).2)
  intro n f hf
  refine all_ok F ?_ ?_ ?_ n f (by unfold hasF at hf; simpa using hf)
  · intro n f g hg
    rcases hpr f g hg with ⟨rfl, rfl⟩ | ⟨rfl, rfl⟩
    · rw [am]; exact hmix n _ fm Fm F.free bm
    · rw [an]; exact hnxt n _ fn Fn F.free bn
  · intro f hf
    obtain ⟨x, hx, rfl⟩ := hmem f hf
    obtain ⟨fd, D⟩ := hfd x hx
    exact ⟨x.d, fd, hB x hx, D⟩
  · intro f hf
    cases hp : prL f with
    | some g =>
      rcases hpr f g hp with ⟨rfl, rfl⟩ | ⟨rfl, rfl⟩
      · exact ⟨fm, _, by rw [am]; exact Fm.kp, bm⟩
      · exact ⟨fn, _, by rw [an]; exact Fn.kp, bn⟩
    | none =>
      rcases hf with hf | hf
      · rw [hp] at hf; cases hf
      · cases e : findFn L.Γ f with
        | none => rw [e] at hf; cases hf
        | some g =>
          have hm : g ∈ L.Γ := List.mem_of_find?_eq_some e
          have hn : g.name = f := by
            have := List.find?_some e
            simpa using this
          subst hn
          obtain ⟨x, hx, rfl⟩ := hmem g hm
          obtain ⟨fd, D⟩ := hfd x hx
          have B := hB x hx
          have e1 : x.d.dvs K = [] := by unfold He.DefD.dvs; rw [B.d0]; rfl
          have e2 : x.d.kws K = [] := by unfold He.DefD.kws; rw [B.k0]; rfl
          rw [e1, e2] at D
          exact ⟨fd, x.f.ps, D.kp, D.bindsN B.b⟩
/-- the law's own promise at a script -/
theorem law_sp {cl : Calls} {H : Hp} {a : Addr} {ns : List Int} (hS : SqL K H a (ns.map V.int)) (h : ∃ os, cl "law" [.par (.scr ns)] = .ok (.val (.bl true)) os) : spOf (L.wd P w K) cl "law" [.ref a] H (fun v _ => v = .bl true) fun _ _ _ => False := by
  obtain ⟨os, e⟩ := h
  refine ⟨fun _ => .sl 0, [.par (.scr ns)], ⟨⟨a, rfl, ?_⟩, trivial⟩, rfl, fun p _ => .inr (.inr ⟨0, rfl, rfl⟩), ?_⟩
  · rcases hS with r | r
    · exact .inl ⟨r, rfl⟩
    · exact .inr (.inr r)
  · rw [e]
    intro v ow' H' _ q _
    cases (show Rep (L.wd P w K) ow' H' (.bl true) v from q)
    rfl
end

/-! ### the look behind the top -/
abbrev AlL : Type := Bool × List He.FnW
def Lw.obs (L : Lw) (n : Nat) (g : Addr → Option Obj) : AlL := (L.chk (He.frG g (He.asD g n)) && L.dl.all fun p => seenB (He.frG g (He.asD g n)) p.2 (p.1.ad (He.frG g (He.asD g n))), L.dl.map fun p => seenW (He.frG g (He.asD g n)) (p.1.ad (He.frG g (He.asD g n))))
def Lw.vals (L : Lw) : AlL := (true, L.dl.map fun p => p.2.val)
theorem seen_all {L : Lw} {K : PySem.W.Frag} : ∀ {l : List (Pl × He.DefD)}, (l.all fun p => seenB K p.2 (p.1.ad K)) = true → (l.map fun p => seenW K (p.1.ad K)) = l.map (fun p => p.2.val) → ∀ p ∈ l, ∃ fd, FunD K p.2.name p.2.qual p.2.params p.2.body p.2.scope (p.2.dvs K) (p.2.kws K) (p.1.ad K) fd
  | [], _, _, p, hp => by cases hp
  | x :: l, h1, h2, p, hp => by
    simp only [List.all_cons, Bool.and_eq_true] at h1
    simp only [List.map_cons, List.cons.injEq] at h2
    rcases List.mem_cons.mp hp with rfl | hp
    · exact seen_ok h2.1 h1.1
    · exact seen_all (L := L) h1.2 h2.2 p hp
theorem obs_says {L : Lw} {n : Nat} {g : Addr → Option Obj} (e : L.obs n g = L.vals) : L.chk (He.frG g (He.asD g n)) = true ∧ DefsOk L (He.frG g (He.asD g n)) := by
  have e1 := congrArg (fun z : AlL => z.1) e
  have e2 := congrArg (fun z : AlL => z.2) e
  simp only [Lw.obs, Lw.vals, Bool.and_eq_true] at e1 e2
  exact ⟨e1.1, seen_all (L := L) e1.2 e2⟩
def Lw.hook (L : Lw) (n : Nat) : PySem.W.Hook where
  α := AlL
  obs := fun s => L.obs n s.heap.get?
  val := fun _ => L.vals
  says := fun _ h => ∃ K : PySem.W.Frag, K.In h ∧ L.chk K = true ∧ DefsOk L K
  of := fun _ s e => ⟨_, He.frG_in, obs_says e⟩
  keeps := fun _ _ _ ⟨K, h1, h2⟩ k => ⟨K, PySem.W.Frag.In.keeps h1 k, h2⟩
def Lw.ob (L : Lw) (n : Nat) (s : PySem.W.SharedT) : AlL := L.obs n (HandSHeadRun.getT s)
theorem Lw.ob_eq (L : Lw) (n : Nat) (s : PySem.W.SharedT) : L.ob n s = (L.hook n).obs s.abs := by
  have e : HandSHeadRun.getT s = s.abs.heap.get? := funext (HandSHeadRun.getT_eq s)
  show L.obs n (HandSHeadRun.getT s) = L.obs n s.abs.heap.get?
  rw [e]
/-- what may be let out, in whatever world -/
def CXw (P : Program) : CXT := fun outer H s E u s' => ∃ w : World, L2.CX P w outer H s E u s'
theorem fnOk_cxw {P : Program} {w : World} {K : PySem.W.Frag} {mg : Str → Option Value} {base : Heap} {k : Nat} {f : Addr} {fd : FuncData} {ps : List Str} {sp : Sp} (F : FnOk P w K mg base (L2.CX P w) k f fd ps sp) : FnOk P w K mg base (CXw P) k f fd ps sp :=
  ⟨F.len, fun A outer s H args us vs Q E hr he hb hv hs => codeAny_mono (F.run A outer s H args us vs Q E hr he hb hv hs) fun r s' q => by
    cases r with
    | error e => exact ⟨w, q⟩
    | ok fl => cases fl <;> exact q⟩
theorem cxw_no {P : Program} (H : Hp) (s : Shared) (e : Value) (s' : Shared) (z : CXw P [] H s (fun _ _ _ => False) e s') : False := by
  obtain ⟨w, a, B, H', cls, d, _, _, _, _, _, _, _, q⟩ := z
  exact q
/-- what the end of the walk asks -/
theorem law_facts {L : Lw} {l : PySem.W.OpenLaw} {N0 : Nat} (hs : L.stat = true)
    (hmix : ∀ (W : Wd) (mg : Str → Option Value) (base : Heap) (n : Nat) (f : Addr) (fd : FuncData), FunD W.K L.mix.name L.mix.qual L.mix.params L.mix.body L.mix.scope [] [] f fd → (∀ y ∈ freeNames, mg y = none) → Binds W.K fd ["_law_script", "_law_seed"] [] → FnAtG W mg base (fun _ => pMix) (3 * (n + 1)) f "_law_mix")
    (hnxt : ∀ (W : Wd) (mg : Str → Option Value) (base : Heap) (n : Nat) (f : Addr) (fd : FuncData), FunD W.K L.nxt.name L.nxt.qual L.nxt.params L.nxt.body L.nxt.scope [] [] f fd → (∀ y ∈ freeNames, mg y = none) → Binds W.K fd ["_law_h", "_law_bound"] [] → FnAtG W mg base (fun _ => pNext) (3 * (n + 1)) f "_law_next")
    (law : ∀ ns : List Int, ns.length ≤ 63 → ∃ os, callN L.Γ prL L.gl (N0 + 1) "law" [.par (.scr ns)] = .ok (.val (.bl true)) os)
    (w : World) (mg : Str → Option Value) (fa : Addr) (h : Heap) (Y : (L.hook 5).says w h) (G : h.Ns mainGlobals mg) (hmg : mg ("law" : Str) = some (.ref fa)) :
    ∃ (K : PySem.W.Frag) (fd : FuncData) (sp : Sp), K.In h ∧ (∀ (s : Shared) (u : Value), BindsTo s fd ⟨[u], []⟩ [("_law_script", u)]) ∧
      (∀ (H : Hp) (a : Addr) (ns : List Int), ns.length ≤ 63 → Only H → SqL K H a (ns.map V.int) → sp [.ref a] H (fun v _ => v = .bl true) fun _ _ _ => False) ∧
      ∀ base : Heap, K.In base → base.Ns mainGlobals mg → FnOk l.prog w K mg base (CXw l.prog) (3 * (N0 + 1)) fa fd ["_law_script"] sp := by
  obtain ⟨K, X, hc, hd⟩ := Y
  have hs0 := hs
  have F := pf_of (P := l.prog) (w := w) X G hs hc
  unfold Lw.stat at hs
  simp only [Bool.and_eq_true, List.all_eq_true, List.contains_iff_mem, decide_eq_true_eq, Bool.or_eq_true, Bool.not_eq_true', List.isEmpty_iff] at hs
  obtain ⟨⟨⟨⟨⟨⟨⟨⟨⟨⟨⟨⟨⟨⟨⟨⟨⟨s1, s2⟩, s3⟩, s4⟩, s5⟩, s6⟩, s7⟩, s8⟩, s9⟩, s10⟩, s11⟩, s12⟩, s13⟩, s14⟩, s15⟩, s16⟩, s17⟩, s18⟩ := hs
  split at s18
  case h_2 => cases s18
  next x hx =>
  have hps := of_decide_eq_true s18
  have hxm : x ∈ L.ds := List.mem_of_find?_eq_some hx
  have hxn : x.f.name = "law" := by
    have := List.find?_some hx
    simpa using this
  have hpl : L.adr K "law" = x.pl.ad K := by
    have e := (s2 x hxm).1.1
    rw [← hxn, ← eq_of_beq e]
    exact adr_pl hs0 (by simp [Lw.pls]; exact .inr (.inr ⟨x, hxm, rfl⟩))
  have hfa : fa = L.adr K "law" := by
    have e := (F.fn "law" s17).1
    rw [hmg] at e
    cases e
    rfl
  obtain ⟨fd, D⟩ := hd (x.pl, x.d) (by simp [Lw.dl]; exact .inr (.inr ⟨x, hxm, rfl, rfl⟩))
  have B := fnB_of (s2 x hxm).1.2 (bind_simp (s2 x hxm).2)
  have e1 : x.d.dvs K = [] := by unfold He.DefD.dvs; rw [B.d0]; rfl
  have e2 : x.d.kws K = [] := by unfold He.DefD.kws; rw [B.k0]; rfl
  have e1' : x.d.dvs (L.wd l.prog w K).K = [] := e1
  have e2' : x.d.kws (L.wd l.prog w K).K = [] := e2
  simp only [e1, e2, ← hpl, ← hfa] at D
  have b := FunD.bindsA (ps := x.f.ps) D B.b
  rw [hps] at b
  refine ⟨K, fd, spOf (L.wd l.prog w K) (callN L.Γ prL L.gl (N0 + 1)) "law", X, fun s u => b s [u] rfl, fun H a ns hl _ hS => law_sp hS (law ns hl), fun base Xb Gb => ?_⟩
  have hf : findFn L.Γ "law" = some x.f := by
    unfold findFn Lw.Γ
    rw [List.find?_map, show ((fun g : Fn => g.name == "law") ∘ fun y : Dfn => y.f) = fun y => y.f.name == ("law" : Str) from rfl, hx]
    rfl
  have hpr : prL "law" = none := by decide
  have k := fn_stepK (W := L.wd l.prog w K) (base := base) F (n := N0) (fun f hf => all_keep (P := l.prog) (w := w) (base := base) X G hs0 hc hd (fun n f fd => hmix (L.wd l.prog w K) mg base n f fd) (fun n f fd => hnxt (L.wd l.prog w K) mg base n f fd) N0 f (by unfold hasF; simpa using hf)) B (by rw [hxn]; exact hpr) (by rw [hxn]; exact hf) (fd := fd) (by rw [e1', e2', hxn, ← hfa]; exact D)
  rw [hxn, hps, ← hfa] at k
  exact fnOk_cxw k
end Ev

/-! EvS: the evaluator's equations, told so that simp walks them in order. -/
namespace Ev
open PySem L2

/-! ### order of evaluation: what depends on a function hides it from simp -/
structure Wp {α : Type} (a : α) : Type where
def seqF (x : Fl) (f : Fr → Fl) (_ : Wp f := {}) : Fl := match x with
  | .nx S => f S
  | .brk S => .brk S
  | .cnt S => .cnt S
  | .ret r S => .ret r S
  | .exc c fs S => .exc c fs S
  | .bad => .bad
def bdO {α : Type} (x : Out α) (f : α → Fr → Fl) (_ : Wp f := {}) : Fl := Fl.bindO x f
def Out.bd {α β : Type} (x : Out α) (f : α → Fr → Out β) (_ : Wp f := {}) : Out β := Out.bind x f
theorem bd_ext {α β : Type} {x : Out α} {f g : α → Fr → Out β} {w : Wp g} (h : ∀ a S, f a S = g a S) : Out.bind x f = Out.bd x g w := by
  rw [show f = g from funext fun a => funext fun S => h a S]
  rfl
section
variable {α β : Type} {S : Fr} {f : Fr → Fl} {r : RC} {c : Str} {fs : List (Str × D)} {a : α} {g : α → Fr → Fl} {h : α → Fr → Out β} {w : Wp f} {w1 : Wp g} {w2 : Wp h}
@[simp] theorem seq_nx : seqF (.nx S) f w = f S := by cases w; rfl
@[simp] theorem seq_brk : seqF (.brk S) f w = .brk S := by cases w; rfl
@[simp] theorem seq_cnt : seqF (.cnt S) f w = .cnt S := by cases w; rfl
@[simp] theorem seq_ret : seqF (.ret r S) f w = .ret r S := by cases w; rfl
@[simp] theorem seq_exc : seqF (.exc c fs S) f w = .exc c fs S := by cases w; rfl
@[simp] theorem seq_bad : seqF .bad f w = .bad := by cases w; rfl
@[simp] theorem bindO_ok : bdO (.ok a S) g w1 = g a S := by cases w1; rfl
@[simp] theorem bindO_exc : bdO (.exc c fs S) g w1 = .exc c fs S := by cases w1; rfl
@[simp] theorem bindO_bad : bdO .bad g w1 = .bad := by cases w1; rfl
@[simp] theorem bind_ok : Out.bd (.ok a S) h w2 = h a S := by cases w2; rfl
@[simp] theorem bind_exc : Out.bd (.exc c fs S) h w2 = .exc c fs S := by cases w2; rfl
@[simp] theorem bind_bad : Out.bd .bad h w2 = .bad := by cases w2; rfl
end

/-! ### slots -/
section
variable {c : Option Cell} {S : Fr} {i : Nat} {o : Ob} {d : D}
@[simp] theorem getC_nil : getC [] i = none := rfl
@[simp] theorem getC_zero : getC (c :: S) 0 = c := rfl
@[simp] theorem getC_succ : getC (c :: S) (i + 1) = getC S i := rfl
@[simp] theorem setC_zero {x : Option Cell} : setC (c :: S) 0 x = x :: S := rfl
@[simp] theorem setC_succ {x : Option Cell} : setC (c :: S) (i + 1) x = c :: setC S i x := rfl
def putX : Option Cell → Fr → Nat → Cell → Option Fr
  | some (.par _), _, _, _ => none
  | _, S, i, c => some (setC S i (some c))
@[simp] theorem putC_eq {x : Cell} : putC S i x = putX (getC S i) S i x := by
  unfold putC putX
  split <;> rename_i h <;> first | rw [h] | (split <;> first | rfl | (rename_i h2; simp_all))
@[simp] theorem putX_none {x : Cell} : putX none S i x = some (setC S i (some x)) := rfl
@[simp] theorem putX_val {x : Cell} : putX (some (.val d)) S i x = some (setC S i (some x)) := rfl
@[simp] theorem putX_own {x : Cell} : putX (some (.own o)) S i x = some (setC S i (some x)) := rfl
def killX : Option Cell → Fr → Nat → Fr
  | some (.par _), S, _ => S
  | _, S, i => setC S i none
@[simp] theorem kill1_eq : kill1 S i = killX (getC S i) S i := by
  unfold kill1 killX
  split <;> rename_i h <;> first | rw [h] | (split <;> first | rfl | (rename_i h2; simp_all))
@[simp] theorem killX_none : killX none S i = setC S i none := rfl
@[simp] theorem killX_val : killX (some (.val d)) S i = setC S i none := rfl
@[simp] theorem killX_own : killX (some (.own o)) S i = setC S i none := rfl
@[simp] theorem killX_par : killX (some (.par o)) S i = S := rfl
@[simp] theorem killS_nil : killS S [] = S := rfl
@[simp] theorem killS_cons {is : List Nat} : killS S (i :: is) = killS (kill1 S i) is := rfl
def obX : Option Cell → Option Ob
  | some (.own o) => some o
  | some (.par o) => some o
  | _ => none
@[simp] theorem getO_eq : getO S i = obX (getC S i) := rfl
@[simp] theorem obX_none : obX none = none := rfl
@[simp] theorem obX_val : obX (some (.val d)) = none := rfl
@[simp] theorem obX_own : obX (some (.own o)) = some o := rfl
@[simp] theorem obX_par : obX (some (.par o)) = some o := rfl
def putOX : Option Cell → Fr → Nat → Ob → Fr
  | some (.par _), S, i, o => setC S i (some (.par o))
  | _, S, i, o => setC S i (some (.own o))
@[simp] theorem putO_eq : putO S i o = putOX (getC S i) S i o := by
  unfold putO putOX
  split <;> rename_i h <;> first | rw [h] | (split <;> first | rfl | (rename_i h2; simp_all))
@[simp] theorem putOX_own {o' : Ob} : putOX (some (.own o')) S i o = setC S i (some (.own o)) := rfl
@[simp] theorem putOX_par {o' : Ob} : putOX (some (.par o')) S i o = setC S i (some (.par o)) := rfl
@[simp] theorem obFz_lst {xs : List D} : obFz (.lst xs) = some (.lst xs) := rfl
@[simp] theorem obFz_dic {kvs : List (NestedKey × D)} : obFz (.dic kvs) = some (.dic kvs) := rfl
@[simp] theorem obFz_ins {c : Str} {fs : List (Str × FV)} : obFz (.ins c fs) = (fvsOf fs).map (.ins c ·) := rfl
@[simp] theorem fvsOf_nil : fvsOf [] = some [] := rfl
@[simp] theorem fvsOf_v {f : Str} {r : List (Str × FV)} : fvsOf ((f, .v d) :: r) = (fvsOf r).map ((f, d) :: ·) := rfl
@[simp] theorem cont_val : cont S (.val d) = some d := rfl
@[simp] theorem cont_tmp : cont S (.tmp o) = obFz o := rfl
@[simp] theorem cont_bor : cont S (.bor i) = (obX (getC S i)).bind obFz := rfl
def frzO : Option D → Fr → Nat → Out D
  | some d, S, i => .ok d (setC S i (some (.val d)))
  | none, _, _ => .bad
@[simp] theorem frzO_some : frzO (some d) S i = .ok d (setC S i (some (.val d))) := rfl
def frzX : Option Cell → Fr → Nat → Out D
  | some (.val d), S, _ => .ok d S
  | some (.own o), S, i => frzO (obFz o) S i
  | _, _, _ => .bad
@[simp] theorem frz_eq : frz S i = frzX (getC S i) S i := by
  unfold frz frzX frzO
  rcases getC S i with _ | (d | o | o | _) <;> try rfl
  dsimp only
  cases h : obFz o <;> rfl
@[simp] theorem frzX_val : frzX (some (.val d)) S i = .ok d S := rfl
@[simp] theorem frzX_own : frzX (some (.own o)) S i = frzO (obFz o) S i := rfl
def escO : Option D → Fr → Out D
  | some d, S => .ok d S
  | none, _ => .bad
@[simp] theorem escO_some : escO (some d) S = .ok d S := rfl
@[simp] theorem esc_val : esc (.val d) S = .ok d S := rfl
@[simp] theorem esc_tmp : esc (.tmp o) S = escO (obFz o) S := by
  unfold esc escO
  dsimp only
  cases h : obFz o <;> rfl
@[simp] theorem esc_bor : esc (.bor i) S = frz S i := rfl
def refX : Option Cell → Fr → Nat → Out R
  | some (.own _), S, i => .ok (.bor i) S
  | some (.par _), S, i => .ok (.bor i) S
  | some (.val d), S, _ => .ok (.val d) S
  | _, _, _ => .bad
@[simp] theorem refX_val : refX (some (.val d)) S i = .ok (.val d) S := rfl
@[simp] theorem refX_own : refX (some (.own o)) S i = .ok (.bor i) S := rfl
@[simp] theorem refX_par : refX (some (.par o)) S i = .ok (.bor i) S := rfl
end

/-! ### expressions -/
def optR {α β : Type} (o : Option α) (S : Fr) (k : α → Fr → Out β) (_ : Wp k := {}) : Out β := match o with
  | some a => k a S
  | none => .bad
@[simp] theorem optR_some {α β : Type} {a : α} {S : Fr} {k : α → Fr → Out β} {w : Wp k} : optR (some a) S k w = k a S := by cases w; rfl
@[simp] theorem optR_none {α β : Type} {S : Fr} {k : α → Fr → Out β} {w : Wp k} : optR none S k w = .bad := by cases w; rfl
def optF {α : Type} (o : Option α) (k : α → Fl) (_ : Wp k := {}) : Fl := match o with
  | some a => k a
  | none => .bad
@[simp] theorem optF_some {α : Type} {a : α} {k : α → Fl} {w : Wp k} : optF (some a) k w = k a := by cases w; rfl
@[simp] theorem optF_none {α : Type} {k : α → Fl} {w : Wp k} : optF none k w = .bad := by cases w; rfl
def boolOf : D → Option Bool
  | .bl b => some b
  | _ => none
@[simp] theorem boolOf_bl {b : Bool} : boolOf (.bl b) = some b := rfl
def intOf : R → Option Int
  | .val (.int i) => some i
  | _ => none
@[simp] theorem intOf_int {i : Int} : intOf (.val (.int i)) = some i := rfl
def dInt : D → Option Int
  | .int i => some i
  | _ => none
@[simp] theorem dInt_int {i : Int} : dInt (.int i) = some i := rfl
def fldOf (c f : Str) : D → Option D
  | .ins k fs => if k = c then fs.lookup f else none
  | _ => none
@[simp] theorem fldOf_ins {c f : Str} {fs : List (Str × D)} : fldOf c f (.ins c fs) = fs.lookup f := by simp [fldOf]
def insOf (c : Str) : D → Option (List (Str × D))
  | .ins k fs => if k = c then some fs else none
  | _ => none
@[simp] theorem insOf_ins {c : Str} {fs : List (Str × D)} : insOf c (.ins c fs) = some fs := by simp [insOf]
def lcBody (cl : Calls) (gl : Str → Option D) (elt : E) (c : Ot) (S : Fr) : Out (Option D) :=
  (evOt cl gl c S).bd fun k S => if k then (evE cl gl elt S).bd fun x S => (esc x S).bd fun d S => .ok (some d) S else .ok none S
section
variable {cl : Calls} {gl : Str → Option D} {S : Fr} {i : Nat} {d : D} {a b c : E} {es : Es} {t : T} {x f p : Str} {op q : COp} {e : E}
@[simp] theorem evE_var : evE cl gl (.var i) S = (frz S i).bd fun d S => .ok (.val d) S := by rw [evE] <;> rfl
@[simp] theorem evE_ref : evE cl gl (.ref i) S = refX (getC S i) S i := by
  rw [evE]
  rcases getC S i with _ | (d | o | o | _) <;> rfl
@[simp] theorem evE_con : evE cl gl (.con d) S = .ok (.val d) S := by rw [evE] <;> rfl
@[simp] theorem evE_glo : evE cl gl (.glo x) S = optR (gl x) S fun d S => .ok (.val d) S := by
  rw [evE]
  cases gl x <;> rfl
@[simp] theorem evE_tup : evE cl gl (.tup es) S = (evEs cl gl es S).bd fun ds S => if lineOk ds.length then .ok (.val (.tup ds)) S else .bad := by rw [evE] <;> rfl
@[simp] theorem evE_lst : evE cl gl (.lst es) S = (evEs cl gl es S).bd fun ds S => if lineOk ds.length then .ok (.tmp (.lst ds)) S else .bad := by rw [evE] <;> rfl
@[simp] theorem evE_bin {op : BOp} : evE cl gl (.bin op a b) S = (evE cl gl a S).bd fun x S => (evE cl gl b S).bd fun y S => optR (cont S x) S fun d S => optR (cont S y) S fun e S => optR (binD op d e) S fun r S => .ok r S := by
  rw [evE]
  refine bd_ext fun x S => ?_
  refine bd_ext fun y S => ?_
  rcases cont S x with _ | d
  · rfl
  · simp only [optR_some]
    rcases cont S y with _ | e
    · rfl
    · simp only [optR_some]
      cases binD op d e <;> rfl
@[simp] theorem evE_neg : evE cl gl (.neg a) S = (evE cl gl a S).bd fun x S => optR (cont S x) S fun d S => optR (negD d) S fun r S => .ok r S := by
  rw [evE]
  refine bd_ext fun x S => ?_
  rcases cont S x with _ | d
  · rfl
  · simp only [optR_some]
    cases negD d <;> rfl
@[simp] theorem evE_not : evE cl gl (.not a) S = (evE cl gl a S).bd fun x S => optR ((cont S x).bind boolOf) S fun b S => .ok (.val (.bl (!b))) S := by
  rw [evE]
  refine bd_ext fun x S => ?_
  rcases cont S x with _ | d
  · rfl
  · cases d <;> rfl
@[simp] theorem evE_cmp : evE cl gl (.cmp op a b) S = (evE cl gl a S).bd fun x S => (evE cl gl b S).bd fun y S => (cmpR cl op x y S).bd fun b S => .ok (.val (.bl b)) S := by rw [evE] <;> rfl
def chainR (p q : COp) (x y : R) (S : Fr) (k : Fr → Out R) : Out Bool := optR (intOf x) S fun i S => optR (intOf y) S fun j S => optR (intCmp p i j) S fun t S => if t then (k S).bd fun z S => optR (intOf z) S fun l S => optR (intCmp q j l) S fun t S => .ok t S else .ok false S
theorem chain_aux {β : Type} {p q : COp} {x y : R} {S : Fr} {k : Fr → Out R} {g : Bool → β} : (match x, y with
    | .val (.int i), .val (.int j) => (match intCmp p i j with
      | some true => (k S).bind fun z S => (match z with
        | .val (.int l) => (match intCmp q j l with
          | some t => .ok (g t) S
          | none => .bad)
        | _ => .bad)
      | some false => .ok (g false) S
      | none => .bad)
    | _, _ => .bad : Out β) = (chainR p q x y S k).bd fun t S => .ok (g t) S := by
  unfold chainR
  rcases x with (_ | _ | _ | _ | _ | _ | _ | _) | _ | _ <;> try rfl
  rcases y with (_ | _ | _ | _ | _ | _ | _ | _) | _ | _ <;> try rfl
  simp only [intOf_int, optR_some]
  split
  · next h =>
    rw [h]
    simp only [optR_some, if_true]
    cases k S with
    | ok z S =>
      simp only [bind_ok]
      rcases z with (_ | _ | _ | _ | _ | _ | _ | _) | _ | _ <;> try rfl
      simp only [intOf_int, optR_some]
      show (match intCmp q _ _ with
        | some t => Out.ok (g t) _
        | none => .bad) = _
      split <;> next h => rw [h]; rfl
    | exc => rfl
    | bad => rfl
  · next h => rw [h]; rfl
  · next h => rw [h]; rfl
@[simp] theorem evE_chain {p q : COp} : evE cl gl (.chain p q a b c) S = (evE cl gl a S).bd fun x S => (evE cl gl b S).bd fun y S => (chainR p q x y S (evE cl gl c)).bd fun t S => .ok (.val (.bl t)) S := by
  rw [evE]
  refine bd_ext fun x S => ?_
  refine bd_ext fun y S => ?_
  exact chain_aux (g := fun t => R.val (.bl t))
@[simp] theorem evE_and : evE cl gl (.and es) S = evAnd cl gl es S := by rw [evE] <;> rfl
@[simp] theorem evE_or : evE cl gl (.or es) S = evOr cl gl es S := by rw [evE] <;> rfl
@[simp] theorem evE_ite : evE cl gl (.ite t a b) S = (evT cl gl t S).bd fun k S => if k then evE cl gl a S else evE cl gl b S := by rw [evE] <;> rfl
@[simp] theorem evE_call : evE cl gl (.call f es) S = (evAs cl gl es S).bd fun as S => callR cl f as S := by rw [evE] <;> rfl
@[simp] theorem evE_new : evE cl gl (.new f es) S = (evEs cl gl es S).bd fun ds S => newR cl f ds S := by rw [evE] <;> rfl
@[simp] theorem evE_prop : evE cl gl (.prop x p a) S = (evE cl gl a S).bd fun y S => (esc y S).bd fun d S => optR (insOf x d) S fun fs S => noExc (callR cl (x ++ "." ++ p) [.v (.ins x fs)] S) := by
  rw [evE]
  refine bd_ext fun y S => ?_
  refine bd_ext fun d S => ?_
  cases d with
  | ins k fs =>
    simp only [insOf]
    split
    · next h => subst h; rfl
    · rfl
  | _ => rfl
@[simp] theorem evE_fld : evE cl gl (.fld x a f) S = (evE cl gl a S).bd fun y S => optR ((cont S y).bind (fldOf x f)) S fun d S => .ok (.val d) S := by
  rw [evE]
  refine bd_ext fun y S => ?_
  rcases cont S y with _ | d
  · rfl
  · cases d with
    | ins k fs =>
      simp only [Option.bind_some, fldOf]
      split
      · cases fs.lookup f <;> rfl
      · rfl
    | _ => rfl
@[simp] theorem evE_bi {b : BI} : evE cl gl (.bi b es) S = (evRs cl gl es S).bd fun rs S => optR (rs.mapM (cont S)) S fun ds S => optR (biD b ds) S fun r S => .ok r S := by
  rw [evE]
  refine bd_ext fun rs S => ?_
  rcases rs.mapM (cont S) with _ | ds
  · rfl
  · simp only [optR_some]
    cases biD b ds <;> rfl
@[simp] theorem evE_isi : evE cl gl (.isi a x) S = (evE cl gl a S).bd fun y S => optR (cont S y) S fun d S => if isDic d then .bad else .ok (.val (.bl (isiD x d))) S := by
  rw [evE]
  refine bd_ext fun y S => ?_
  rcases cont S y with _ | d <;> rfl
@[simp] theorem evE_sub : evE cl gl (.sub a b) S = (evE cl gl a S).bd fun x S => (evE cl gl b S).bd fun y S => optR (cont S x) S fun d S => optR (cont S y) S fun e S => optR (subD d e) S fun r S => .ok (.val r) S := by
  rw [evE]
  refine bd_ext fun x S => ?_
  refine bd_ext fun y S => ?_
  rcases cont S x with _ | d
  · rfl
  · simp only [optR_some]
    rcases cont S y with _ | e
    · rfl
    · simp only [optR_some]
      cases subD d e <;> rfl
@[simp] theorem evE_sli {lo hi : Oe} : evE cl gl (.sli a lo hi) S = (evE cl gl a S).bd fun x S => (evO cl gl lo S).bd fun l S => (evO cl gl hi S).bd fun h S => optR (cont S x) S fun d S => optR (sliD d l h) S fun r S => .ok r S := by
  rw [evE]
  refine bd_ext fun x S => ?_
  refine bd_ext fun l S => ?_
  refine bd_ext fun h S => ?_
  rcases cont S x with _ | d
  · rfl
  · simp only [optR_some]
    cases sliD d l h <;> rfl
@[simp] theorem evE_lc {tg : Tg} {it : It} {c : Ot} : evE cl gl (.lc e tg it c) S = (evI cl gl it S).bd fun ds S => if noOwn S (slotsT tg) && lineOk ds.length then
      (lcLoop tg (lcBody cl gl e c) ds [] (killS S (slotsT tg))).bd fun xs S1 => .ok (.tmp (.lst xs)) (restore S S1 (slotsT tg)) else .bad := by
  rw [evE]
  rfl
def lc2Body (cl : Calls) (gl : Str → Option D) (elt : E) (tg1 : Tg) (it1 : It) (acc : List D) (S : Fr) : Out (List D) :=
  (evI cl gl it1 S).bd fun ds1 S => if decide (acc.length + ds1.length ≤ sizeLine) then lcLoop tg1 (lcBody cl gl elt .none) ds1 acc (killS S (slotsT tg1)) else .bad
theorem lcBody_none : lcBody cl gl e .none = fun S => (evE cl gl e S).bind fun x S => (esc x S).bind fun d S => .ok (some d) S := by
  funext S
  unfold lcBody
  rw [evOt]
  rfl
@[simp] theorem evE_lc2 {tg tg1 : Tg} {it it1 : It} : evE cl gl (.lc2 e tg it tg1 it1) S = (evI cl gl it S).bd fun ds S => if noOwn S (slotsT tg ++ slotsT tg1) then
      (lc2Loop tg (slotsT tg ++ slotsT tg1) (lc2Body cl gl e tg1 it1) ds [] (killS S (slotsT tg ++ slotsT tg1))).bd fun xs S1 => .ok (.tmp (.lst xs)) (restore S S1 (slotsT tg ++ slotsT tg1)) else .bad := by
  rw [evE]
  unfold lc2Body
  rw [lcBody_none]
  rfl
@[simp] theorem evE_minN : evE cl gl (.minN es) S = (evRs cl gl es S).bd fun rs S => optR (rs.mapM (cont S)) S fun ds S => optR (minNR ds) S fun d S => .ok (.val d) S := by
  rw [evE]
  refine bd_ext fun rs S => ?_
  rcases rs.mapM (cont S) with _ | ds
  · rfl
  · simp only [optR_some]
    cases minNR ds <;> rfl
@[simp] theorem minNR_nil : minNR [.lst []] = some .non := rfl
@[simp] theorem minNR_cons {y : D} {ys : List D} : minNR [.lst (y :: ys)] = minLD (y :: ys) := rfl
@[simp] theorem evE_dic0 : evE cl gl .dic0 S = .ok (.tmp (.dic [])) S := by rw [evE]
@[simp] theorem evE_dic1 : evE cl gl (.dic1 a b) S = (evE cl gl a S).bd fun x S => (esc x S).bd fun k S => (evE cl gl b S).bd fun y S => (esc y S).bd fun d S => oneR k d S := by rw [evE] <;> rfl
@[simp] theorem oneR_tup {ks : List D} : oneR (.tup ks) d S = optR (kOf ks) S fun k S => .ok (.tmp (.dic [(.tup k, d)])) S := by
  unfold oneR
  dsimp only
  cases kOf ks <;> rfl
def dcBody (cl : Calls) (gl : Str → Option D) (a b : E) (S : Fr) : Out (NestedKey × D) := (evE cl gl a S).bd fun x S => (esc x S).bd fun k S => (evE cl gl b S).bd fun y S => (esc y S).bd fun d S => pairR k d S
@[simp] theorem pairR_tup {ks : List D} : pairR (.tup ks) d S = optR (kOf ks) S fun k S => .ok (.tup k, d) S := by
  unfold pairR
  dsimp only
  cases kOf ks <;> rfl
@[simp] theorem evE_dc {tg : Tg} {it : It} : evE cl gl (.dc a b tg it) S = (evI cl gl it S).bd fun ds S => if noOwn S (slotsT tg) && lineOk ds.length then
      (dcLoop tg (dcBody cl gl a b) ds [] (killS S (slotsT tg))).bd fun kvs S1 => .ok (.tmp (.dic kvs)) (restore S S1 (slotsT tg)) else .bad := by
  rw [evE]
  rfl
@[simp] theorem isDicO_dic {kvs : List (NestedKey × D)} : isDicO (some (.dic kvs)) = true := rfl
def pickR (cl : Calls) (fs : List Str) (d : D) (S : Fr) : Out R := match d with
  | .int j => (match pickF fs j with
    | some f => callR cl f [] S
    | none => .bad)
  | _ => .bad
def tupRR (d : D) (S : Fr) : Out R := match d with
  | .int j => if decide (0 ≤ j) && decide (j ≤ 1000) then .ok (.val (.tup (rngD 0 j))) S else .bad
  | _ => .bad
@[simp] theorem evE_itl {o : E} : evE cl gl (.itl o) S = (evE cl gl o S).bd fun z S => itlR (cont S z) S := by rw [evE] <;> rfl
@[simp] theorem evE_idx {o : E} : evE cl gl (.idx o a) S = (evE cl gl o S).bd fun z S => if isLstO (cont S z) then (evE cl gl a S).bd fun y S => idxR (cont S z) (cont S y) S else .bad := by rw [evE] <;> rfl
@[simp] theorem isLstO_lst {xs : List D} : isLstO (some (.lst xs)) = true := rfl
@[simp] theorem idxR_some {d e : D} : idxR (some d) (some e) S = optR (idxD d e) S fun j S => .ok (.val (.int (j : Int))) S := by
  unfold idxR
  dsimp only
  cases idxD d e <;> rfl
def holdR (cl : Calls) (gl : Str → Option D) (a : E) (i : Nat) (S : Fr) : Option Cell → Out R
  | some (.own (.dic kvs)) => thawR i (evE cl gl a (setC S i (some (.val (.dic kvs)))))
  | _ => .bad
@[simp] theorem evE_hold : evE cl gl (.hold i a) S = holdR cl gl a i S (getC S i) := by
  rw [evE]
  generalize getC S i = c
  unfold holdR
  cases c with
  | none => rfl
  | some c =>
    cases c with
    | own o => cases o <;> rfl
    | _ => rfl
@[simp] theorem holdR_dic {kvs : List (NestedKey × D)} : holdR cl gl a i S (some (.own (.dic kvs))) = thawR i (evE cl gl a (setC S i (some (.val (.dic kvs))))) := rfl
@[simp] theorem evE_dicL : evE cl gl (.dicL a) S = (evE cl gl a S).bd fun z S => dicLR (cont S z) S := by rw [evE] <;> rfl
@[simp] theorem dicLR_lst {ds : List D} : dicLR (some (.lst ds)) S = optR (foldP [] ds) S fun kvs S => if decide (ds.length ≤ sizeLine) then .ok (.tmp (.dic kvs)) S else .bad := by
  unfold dicLR
  dsimp only
  cases foldP [] ds <;> rfl
@[simp] theorem itlR_dic {kvs : List (NestedKey × D)} : itlR (some (.dic kvs)) S = .ok (.tmp (.lst (kvs.map itD))) S := rfl
@[simp] theorem evE_pick {fs : List Str} : evE cl gl (.pick fs a) S = (evE cl gl a S).bd fun z S => optR (cont S z) S fun d S => pickR cl fs d S := by
  rw [evE]
  refine bd_ext fun y S => ?_
  rcases cont S y with _ | d
  · rfl
  · cases d <;> rfl
@[simp] theorem evE_tupR : evE cl gl (.tupR a) S = (evE cl gl a S).bd fun z S => optR (cont S z) S fun d S => tupRR d S := by
  rw [evE]
  refine bd_ext fun y S => ?_
  rcases cont S y with _ | d
  · rfl
  · cases d <;> rfl
@[simp] theorem tupRR_int {j : Int} : tupRR (.int j) S = if decide (0 ≤ j) && decide (j ≤ 1000) then .ok (.val (.tup (rngD 0 j))) S else .bad := rfl
@[simp] theorem pickR_int {fs : List Str} {j : Int} : pickR cl fs (.int j) S = optR (pickF fs j) S fun f S => callR cl f [] S := by
  unfold pickR
  dsimp only
  cases pickF fs j <;> rfl
@[simp] theorem evE_get {o : E} : evE cl gl (.get o a b) S = (evE cl gl o S).bd fun z S => if isDicO (cont S z) then (evE cl gl a S).bd fun x S => (esc x S).bd fun k S => (evE cl gl b S).bd fun y S => (esc y S).bd fun d S => getR (cont S z) k d S else .bad := by rw [evE] <;> rfl
@[simp] theorem getR_dic {kvs : List (NestedKey × D)} {ks : List D} : getR (some (.dic kvs)) (.tup ks) d S = optR (kOf ks) S fun k S => .ok (.val ((valK kvs (.tup k)).getD d)) S := by
  unfold getR
  dsimp only
  cases kOf ks <;> rfl
@[simp] theorem evT_e : evT cl gl (.e a) S = (evE cl gl a S).bd fun x S => optR (cont S x) S fun d S => if truOk d then .ok (truD d) S else .bad := by
  rw [evT]
  refine bd_ext fun y S => ?_
  rcases cont S y with _ | d <;> rfl
@[simp] theorem evT_cmp : evT cl gl (.cmp op a b) S = (evE cl gl a S).bd fun x S => (evE cl gl b S).bd fun y S => cmpR cl op x y S := by rw [evT] <;> rfl
theorem bind_id {x : Out Bool} : (x.bd fun t S => .ok t S) = x := by cases x <;> rfl
@[simp] theorem evT_chain {p q : COp} : evT cl gl (.chain p q a b c) S = (evE cl gl a S).bd fun x S => (evE cl gl b S).bd fun y S => chainR p q x y S (evE cl gl c) := by
  rw [evT]
  refine bd_ext fun x S => ?_
  refine bd_ext fun y S => ?_
  exact (chain_aux (g := fun t => t)).trans bind_id
def intO (d : Option D) : Option Int := match d with
  | some (.int i) => some i
  | _ => none
@[simp] theorem intO_some {i : Int} : intO (some (.int i)) = some i := rfl
@[simp] theorem evT_inR {neg : Bool} : evT cl gl (.inR neg a b) S = (evE cl gl a S).bd fun x S => optR (intO (cont S x)) S fun i S => (evE cl gl b S).bd fun y S => optR (intO (cont S y)) S fun n S => .ok (inRg neg i n) S := by
  rw [evT]
  refine bd_ext fun x S => ?_
  rcases cont S x with _ | d
  · rfl
  · cases d
    case int i =>
      rw [intO_some, optR_some]
      refine bd_ext fun y S => ?_
      rcases cont S y with _ | e
      · rfl
      · cases e <;> rfl
    all_goals rfl
@[simp] theorem evT_not : evT cl gl (.not t) S = (evT cl gl t S).bd fun b S => .ok (!b) S := by rw [evT] <;> rfl
@[simp] theorem evT_and {ts : Ts} : evT cl gl (.and ts) S = evAndT cl gl ts S := by rw [evT] <;> rfl
@[simp] theorem evT_or {ts : Ts} : evT cl gl (.or ts) S = evOrT cl gl ts S := by rw [evT] <;> rfl
@[simp] theorem evAndT_nil : evAndT cl gl .nil S = .ok true S := by rw [evAndT] <;> rfl
@[simp] theorem evAndT_cons {ts : Ts} : evAndT cl gl (.cons t ts) S = (evT cl gl t S).bd fun b S => if b then evAndT cl gl ts S else .ok false S := by rw [evAndT] <;> rfl
@[simp] theorem evOrT_nil : evOrT cl gl .nil S = .ok false S := by rw [evOrT] <;> rfl
@[simp] theorem evOrT_cons {ts : Ts} : evOrT cl gl (.cons t ts) S = (evT cl gl t S).bd fun b S => if b then .ok true S else evOrT cl gl ts S := by rw [evOrT] <;> rfl
@[simp] theorem evAnd_one : evAnd cl gl (.cons e .nil) S = evE cl gl e S := by rw [evAnd] <;> rfl
@[simp] theorem evAnd_cons {e' : E} : evAnd cl gl (.cons e (.cons e' es)) S = (evE cl gl e S).bd fun x S => optR ((cont S x).bind boolOf) S fun b S => if b then evAnd cl gl (.cons e' es) S else .ok (.val (.bl false)) S := by
  rw [evAnd]
  · refine bd_ext fun x S => ?_
    rcases cont S x with _ | d
    · rfl
    · cases d with
      | bl b => cases b <;> rfl
      | _ => rfl
  · intro h; cases h
@[simp] theorem evOr_one : evOr cl gl (.cons e .nil) S = evE cl gl e S := by rw [evOr] <;> rfl
@[simp] theorem evOr_cons {e' : E} : evOr cl gl (.cons e (.cons e' es)) S = (evE cl gl e S).bd fun x S => optR ((cont S x).bind boolOf) S fun b S => if b then .ok (.val (.bl true)) S else evOr cl gl (.cons e' es) S := by
  rw [evOr]
  · refine bd_ext fun x S => ?_
    rcases cont S x with _ | d
    · rfl
    · cases d with
      | bl b => cases b <;> rfl
      | _ => rfl
  · intro h; cases h
@[simp] theorem evEs_nil : evEs cl gl .nil S = .ok [] S := by rw [evEs] <;> rfl
@[simp] theorem evEs_cons : evEs cl gl (.cons e es) S = (evE cl gl e S).bd fun x S => (esc x S).bd fun d S => (evEs cl gl es S).bd fun ds S => .ok (d :: ds) S := by rw [evEs] <;> rfl
@[simp] theorem evRs_nil : evRs cl gl .nil S = .ok [] S := by rw [evRs] <;> rfl
@[simp] theorem evRs_cons : evRs cl gl (.cons e es) S = (evE cl gl e S).bd fun x S => (evRs cl gl es S).bd fun rs S => .ok (x :: rs) S := by rw [evRs] <;> rfl
def argX : R → Fr → Out Arg
  | .bor i, S => .ok (.r i) S
  | .val d, S => .ok (.v d) S
  | .tmp o, S => (escO (obFz o) S).bd fun d S => .ok (.v d) S
@[simp] theorem argX_bor : argX (.bor i) S = .ok (.r i) S := rfl
@[simp] theorem argX_val : argX (.val d) S = .ok (.v d) S := rfl
@[simp] theorem argX_tmp {o : Ob} : argX (.tmp o) S = (escO (obFz o) S).bd fun d S => .ok (.v d) S := rfl
@[simp] theorem evAs_nil : evAs cl gl .nil S = .ok [] S := by rw [evAs] <;> rfl
@[simp] theorem evAs_cons : evAs cl gl (.cons e es) S = (evE cl gl e S).bd fun x S => (argX x S).bd fun a S => (evAs cl gl es S).bd fun as S => .ok (a :: as) S := by
  rw [evAs]
  refine bd_ext fun x S => ?_
  cases x with
  | tmp o =>
    simp only [argX_tmp, esc_tmp]
    cases obFz o <;> rfl
  | _ => rfl
@[simp] theorem evO_none : evO cl gl .none S = .ok none S := by rw [evO] <;> rfl
@[simp] theorem evO_some : evO cl gl (.some e) S = (evE cl gl e S).bd fun x S => optR ((cont S x).bind dInt) S fun i S => .ok (some i) S := by
  rw [evO]
  refine bd_ext fun x S => ?_
  rcases cont S x with _ | d
  · rfl
  · cases d <;> rfl
@[simp] theorem evOt_none : evOt cl gl .none S = .ok true S := by rw [evOt] <;> rfl
@[simp] theorem evOt_some : evOt cl gl (.some t) S = evT cl gl t S := by rw [evOt] <;> rfl
@[simp] theorem evI_seq : evI cl gl (.seq e) S = (evE cl gl e S).bd fun x S => (esc x S).bd fun d S => optR (itemsD d) S fun ds S => .ok ds S := by
  rw [evI]
  refine bd_ext fun x S => ?_
  refine bd_ext fun d S => ?_
  cases itemsD d <;> rfl
def rngX : List D → Option (List D)
  | [.int j] => if bigI j then some (rngD 0 j) else none
  | [.int i, .int j] => if bigI i && bigI j then some (rngD i j) else none
  | [.int i, .int j, .int c] => if decide (c = -1) && bigI i && bigI j then some (rngDn i j) else none
  | _ => none
@[simp] theorem rngX_one {j : Int} : rngX [.int j] = if bigI j then some (rngD 0 j) else none := rfl
@[simp] theorem rngX_dn {i j c : Int} : rngX [.int i, .int j, .int c] = if decide (c = -1) && bigI i && bigI j then some (rngDn i j) else none := rfl
@[simp] theorem rngX_two {i j : Int} : rngX [.int i, .int j] = if bigI i && bigI j then some (rngD i j) else none := rfl
@[simp] theorem evI_rng : evI cl gl (.rng es) S = (evEs cl gl es S).bd fun ds S => optR (rngX ds) S fun ds S => .ok ds S := by
  rw [evI]
  refine bd_ext fun ds S => ?_
  unfold rngX
  split <;> first | (split <;> simp_all; done) | (simp only [rngX]; split <;> simp_all; done) | (simp_all; done)
def enmX : List D → Option (List D)
  | [.lst xs] => some (enumFrom 0 xs)
  | [.tup xs] => some (enumFrom 0 xs)
  | _ => none
@[simp] theorem enmX_lst {xs : List D} : enmX [.lst xs] = some (enumFrom 0 xs) := rfl
@[simp] theorem enmX_tup {xs : List D} : enmX [.tup xs] = some (enumFrom 0 xs) := rfl
@[simp] theorem evI_enm : evI cl gl (.enm es) S = (evEs cl gl es S).bd fun ds S => optR (enmX ds) S fun ds S => .ok ds S := by
  rw [evI]
  refine bd_ext fun ds S => ?_
  unfold enmX
  split <;> first | rfl | (split <;> simp_all; done) | (simp_all; done)
def zipX : List D → Option (List D)
  | [.lst xs, .lst ys] => some (zipD xs ys)
  | [.tup xs, .tup ys] => some (zipD xs ys)
  | _ => none
@[simp] theorem zipX_lst {xs ys : List D} : zipX [.lst xs, .lst ys] = some (zipD xs ys) := rfl
@[simp] theorem zipX_tup {xs ys : List D} : zipX [.tup xs, .tup ys] = some (zipD xs ys) := rfl
@[simp] theorem evI_zip : evI cl gl (.zip es) S = (evEs cl gl es S).bd fun ds S => optR (zipX ds) S fun ds S => .ok ds S := by
  rw [evI]
  refine bd_ext fun ds S => ?_
  unfold zipX
  split <;> first | rfl | (split <;> simp_all; done) | (simp_all; done)
@[simp] theorem evI_rev : evI cl gl (.rev e) S = (evE cl gl e S).bd fun x S => optR (intOf x) S fun j S => if bigI j then .ok (rngD 0 j).reverse S else .bad := by
  rw [evI]
  refine bd_ext fun x S => ?_
  rcases x with (_ | _ | _ | _ | _ | _ | _ | _) | _ | _ <;> rfl
end

/-! ### comparisons, calls -/
def insEq (cl : Calls) (d e : D) (S : Fr) : Out Bool := match d with
    | .ins c fs => (noExc (callR cl (c ++ ".__eq__") [.v (.ins c fs), .v e] S)).bd fun r S => (match r with
      | .val (.bl b) => .ok b S
      | _ => .bad)
    | _ => .bad
def cmpX (cl : Calls) (op : COp) (cx : Option D) (x y : R) (S : Fr) : Out Bool := match op, cx with
  | .eq, some (.ins c fs) => (esc y S).bd fun e S => (esc x S).bd fun d S => if isDic e then .bad else insEq cl d e S
  | op, some d => optR (cont S y) S fun e S => optR (cmpD op d e) S fun b S => .ok b S
  | _, none => .bad
section
variable {cl : Calls} {gl : Str → Option D} {S : Fr} {i : Nat} {d : D} {x y : R} {op : COp} {c f : Str} {fs : List (Str × D)}
theorem cmp_aux {d0 : D} : ∀ (z : Option D), (match z with
      | some e => (match cmpD op d0 e with
        | some b => Out.ok b S
        | none => .bad)
      | none => .bad) = optR z S fun e S => optR (cmpD op d0 e) S fun b S => .ok b S := by
  intro z
  cases z with
  | none => rfl
  | some e => simp only [optR_some]; cases cmpD op d0 e <;> rfl
@[simp] theorem cmpR_eq : cmpR cl op x y S = cmpX cl op (cont S x) x y S := by
  unfold cmpR cmpX
  rcases cont S x with _ | d
  · cases op <;> rfl
  cases d with
  | ins c fs =>
    cases op with
    | eq =>
      refine bd_ext fun e S => bd_ext fun d S => ?_
      unfold insEq
      split
      · rfl
      · cases d <;> rfl
    | _ => (rcases cont S y with _ | e <;> first | rfl | (simp only [optR_some]; generalize cmpD _ _ e = q; cases q <;> rfl))
  | _ => cases op <;> (rcases cont S y with _ | e <;> first | rfl | (simp only [optR_some]; generalize cmpD _ _ e = q; cases q <;> rfl))
theorem cmpX_non {d : D} (h : ∀ c fs, d ≠ .ins c fs) : cmpX cl op (some d) x y S = optR (cont S y) S fun e S => optR (cmpD op d e) S fun b S => .ok b S := by
  unfold cmpX
  split
  · next q => cases q; exact absurd rfl (h _ _)
  · next q => cases q; rfl
  · next q => cases q
@[simp] theorem cmpX_int {j : Int} : cmpX cl op (some (.int j)) x y S = optR (cont S y) S fun e S => optR (cmpD op (.int j) e) S fun b S => .ok b S := cmpX_non (by intros; simp)
@[simp] theorem cmpX_tup {xs : List D} : cmpX cl op (some (.tup xs)) x y S = optR (cont S y) S fun e S => optR (cmpD op (.tup xs) e) S fun b S => .ok b S := cmpX_non (by intros; simp)
@[simp] theorem cmpX_lst {xs : List D} : cmpX cl op (some (.lst xs)) x y S = optR (cont S y) S fun e S => optR (cmpD op (.lst xs) e) S fun b S => .ok b S := cmpX_non (by intros; simp)
@[simp] theorem cmpX_str {z : Str} : cmpX cl op (some (.str z)) x y S = optR (cont S y) S fun e S => optR (cmpD op (.str z) e) S fun b S => .ok b S := cmpX_non (by intros; simp)
@[simp] theorem cmpX_bl {b : Bool} : cmpX cl op (some (.bl b)) x y S = optR (cont S y) S fun e S => optR (cmpD op (.bl b) e) S fun b S => .ok b S := cmpX_non (by intros; simp)
@[simp] theorem cmpX_none : cmpX cl op (some .non) x y S = optR (cont S y) S fun e S => optR (cmpD op .non e) S fun b S => .ok b S := cmpX_non (by intros; simp)
@[simp] theorem cmpX_dic {kvs : List (NestedKey × D)} : cmpX cl op (some (.dic kvs)) x y S = optR (cont S y) S fun e S => optR (cmpD op (.dic kvs) e) S fun b S => .ok b S := cmpX_non (by intros; simp)
@[simp] theorem cmpX_ins : cmpX cl .eq (some (.ins c fs)) x y S = (esc y S).bd fun e S => (esc x S).bd fun d S => if isDic e then .bad else insEq cl d e S := rfl
def blR : R → Option Bool
  | .val (.bl b) => some b
  | _ => none
@[simp] theorem blR_bl {b : Bool} : blR (.val (.bl b)) = some b := rfl
@[simp] theorem insEq_ins {e : D} : insEq cl (.ins c fs) e S = (noExc (callR cl (c ++ ".__eq__") [.v (.ins c fs), .v e] S)).bd fun r S => optR (blR r) S fun b S => .ok b S := by
  unfold insEq
  refine bd_ext (w := {}) fun r S => ?_
  rcases r with (_ | _ | _ | _ | _ | _ | _ | _) | _ | _ <;> rfl
@[simp] theorem noExc_ok {α : Type} {a : α} : noExc (.ok a S) = .ok a S := rfl
@[simp] theorem argC_v : argC S (.v d) = some (.val d) := rfl
@[simp] theorem argC_r : argC S (.r i) = (obX (getC S i)).map .par := rfl
@[simp] theorem argCs_nil : argCs S [] = some [] := rfl
@[simp] theorem argCs_cons {a : Arg} {as : List Arg} : argCs S (a :: as) = (argC S a).bind fun c => (argCs S as).bind fun cs => some (c :: cs) := by
  rw [argCs]
  rcases argC S a with _ | c
  · rfl
  · rcases argCs S as with _ | cs <;> rfl
@[simp] theorem refsOf_nil : refsOf [] = [] := rfl
@[simp] theorem refsOf_v {as : List Arg} : refsOf (.v d :: as) = refsOf as := rfl
@[simp] theorem refsOf_r {as : List Arg} : refsOf (.r i :: as) = i :: refsOf as := rfl
@[simp] theorem back_nil {os : List Ob} : back S [] os = S := by
  cases os <;> rfl
@[simp] theorem back_cons {is : List Nat} {o : Ob} {os : List Ob} : back S (i :: is) (o :: os) = back (putO S i o) is os := rfl
@[simp] theorem rcR_val : rcR (.val d) = .val d := rfl
@[simp] theorem rcR_own {o : Ob} : rcR (.own o) = .tmp o := rfl
def retR : FnRes → Fr → List Nat → Out R
  | .ok r outs, S, is => .ok (rcR r) (back S is outs)
  | .exc c fs outs, S, is => .exc c fs (back S is outs)
  | .bad, _, _ => .bad
@[simp] theorem retR_ok {r : RC} {os : List Ob} {is : List Nat} : retR (.ok r os) S is = .ok (rcR r) (back S is os) := rfl
@[simp] theorem retR_exc {os : List Ob} {is : List Nat} : retR (.exc c fs os) S is = .exc c fs (back S is os) := rfl
@[simp] theorem callR_eq {as : List Arg} : callR cl f as S = optR (argCs S as) S fun cs S => if (refsOf as).Nodup then retR (cl f cs) S (refsOf as) else .bad := by
  unfold callR
  rcases argCs S as with _ | cs
  · rfl
  · simp only [optR_some]
    split
    · unfold retR
      cases cl f cs <;> rfl
    · rfl
def newX : FnRes → Fr → Out R
  | .ok (.val .non) [o], S => .ok (.tmp o) S
  | .exc c fs _, S => .exc c fs S
  | _, _ => .bad
@[simp] theorem newX_ok {o : Ob} : newX (.ok (.val .non) [o]) S = .ok (.tmp o) S := rfl
@[simp] theorem newX_exc {os : List Ob} : newX (.exc c fs os) S = .exc c fs S := rfl
@[simp] theorem newR_eq {as : List D} : newR cl c as S = newX (cl (c ++ ".__init__") (.par (.ins c []) :: as.map .val)) S := by
  unfold newR
  generalize cl (c ++ ".__init__") (.par (.ins c []) :: as.map .val) = r
  rcases r with ⟨(_ | _ | _ | _ | _ | _ | _ | _) | _, _ | ⟨o, _ | _⟩⟩ | _ | _ <;> rfl
/-! ### targets, statements -/
@[simp] theorem bindT_one : bindT (.one i) d S = putC S i (.val d) := rfl
@[simp] theorem bindT_manyL {is : List Nat} {xs : List D} : bindT (.many is) (.lst xs) S = if xs.length = is.length then putVs S is xs else none := rfl
@[simp] theorem bindT_many {is : List Nat} {xs : List D} : bindT (.many is) (.tup xs) S = if xs.length = is.length then putVs S is xs else none := rfl
@[simp] theorem putVs_nil {xs : List D} : putVs S [] xs = some S := by
  cases xs <;> rfl
@[simp] theorem putVs_cons {is : List Nat} {xs : List D} : putVs S (i :: is) (d :: xs) = (putC S i (.val d)).bind fun S => putVs S is xs := rfl
@[simp] theorem slotsT_one : slotsT (.one i) = [i] := rfl
@[simp] theorem slotsT_many {is : List Nat} : slotsT (.many is) = is := rfl
@[simp] theorem restore_nil {S0 : Fr} : restore S0 S [] = S := rfl
@[simp] theorem restore_cons {S0 : Fr} {is : List Nat} : restore S0 S (i :: is) = restore S0 (setC S i (getC S0 i)) is := rfl
def freeC : Option Cell → Bool
  | none => true
  | some (.val _) => true
  | _ => false
@[simp] theorem freeC_none : freeC none = true := rfl
@[simp] theorem freeC_val : freeC (some (.val d)) = true := rfl
@[simp] theorem noOwn_eq {is : List Nat} : noOwn S is = is.all fun i => freeC (getC S i) := by
  unfold noOwn freeC
  congr
@[simp] theorem asgR_true {r : R} : asgR true r S = (esc r S).bd fun d S => .ok (.val d) S := by
  cases r <;> rfl
@[simp] theorem asgR_val : asgR false (.val d) S = .ok (.val d) S := rfl
@[simp] theorem asgR_tmp {o : Ob} : asgR false (.tmp o) S = .ok (.own o) S := rfl
@[simp] theorem parR_nil : parR cl gl [] .nil S = .ok [] S := rfl
@[simp] theorem parR_cons {z : Bool} {zs : List Bool} {e : E} {es : Es} : parR cl gl (z :: zs) (.cons e es) S = (evE cl gl e S).bd fun x S => (asgR z x S).bd fun c S => (parR cl gl zs es S).bd fun cs S => .ok (c :: cs) S := rfl
@[simp] theorem putCs_nil {cs : List Cell} : putCs S [] cs = some S := by
  cases cs <;> rfl
@[simp] theorem putCs_cons {is : List Nat} {c : Cell} {cs : List Cell} : putCs S (i :: is) (c :: cs) = (putC S i c).bind fun S => putCs S is cs := rfl
@[simp] theorem nxO_some : nxO (some S) = .nx S := rfl
@[simp] theorem exSs_nil : exSs cl gl .nil S = .nx S := by rw [exSs]
@[simp] theorem exSs_cons {s : St} {ss : Ss} : exSs cl gl (.cons s ss) S = seqF (exS cl gl s S) (exSs cl gl ss) {} := by
  rw [exSs]
  cases exS cl gl s S <;> rfl
variable {e k : E} {z : Bool}
theorem bdO_ext {α : Type} {x : Out α} {f g : α → Fr → Fl} {w : Wp g} (h : ∀ a S, f a S = g a S) : Fl.bindO x f = bdO x g w := by
  rw [show f = g from funext fun a => funext fun S => h a S]
  rfl
@[simp] theorem exS_asg : exS cl gl (.asg z i e) S = bdO (evE cl gl e S) fun x S => bdO (asgR z x S) fun c S => nxO (putC S i c) := by rw [exS] <;> rfl
@[simp] theorem exS_unp {is : List Nat} : exS cl gl (.unp is e) S = bdO (evE cl gl e S) fun x S => bdO (esc x S) fun d S => optF (bindT (.many is) d S) fun S => .nx S := by
  rw [exS]
  refine bdO_ext fun x S => bdO_ext fun d S => ?_
  cases bindT (.many is) d S <;> rfl
@[simp] theorem exS_par {zs : List Bool} {is : List Nat} {es : Es} : exS cl gl (.par zs is es) S = bdO (parR cl gl zs es S) fun cs S => if cs.length = is.length ∧ is.Nodup then nxO (putCs S is cs) else .bad := by rw [exS] <;> rfl
def lstOf : Option Ob → Option (List D)
  | some (.lst xs) => some xs
  | _ => none
@[simp] theorem lstOf_lst {xs : List D} : lstOf (some (.lst xs)) = some xs := rfl
@[simp] theorem exS_app : exS cl gl (.app i e) S = optF (lstOf (obX (getC S i))) fun _ => bdO (evE cl gl e S) fun x S => bdO (esc x S) fun d S => optF (lstOf (obX (getC S i))) fun xs => if decide (xs.length < sizeLine) then .nx (putO S i (.lst (xs ++ [d]))) else .bad := by
  rw [exS, getO_eq]
  rcases obX (getC S i) with _ | (_ | _ | _ | _ | _) <;> try rfl
  refine bdO_ext (w := {}) fun x S => bdO_ext (w := {}) fun d S => ?_
  rw [getO_eq]
  rcases obX (getC S i) with _ | (_ | _ | _ | _ | _) <;> rfl
@[simp] theorem exS_six : exS cl gl (.six i k e) S = optF (obX (getC S i)) fun _ => bdO (evE cl gl e S) fun x S => bdO (esc x S) fun d S => bdO (evE cl gl k S) fun y S => bdO (esc y S) fun k S => optF (obX (getC S i)) fun o => optF (setIx o k d) fun o => .nx (putO S i o) := by
  rw [exS, getO_eq]
  rcases obX (getC S i) with _ | o
  · rfl
  refine bdO_ext (w := {}) fun x S => bdO_ext (w := {}) fun d S => bdO_ext (w := {}) fun y S => bdO_ext (w := {}) fun k S => ?_
  rw [getO_eq]
  rcases obX (getC S i) with _ | o
  · rfl
  · simp only [optF_some]
    cases setIx o k d <;> rfl
@[simp] theorem exS_del : exS cl gl (.del i k) S = optF (obX (getC S i)) fun _ => bdO (evE cl gl k S) fun y S => bdO (esc y S) fun k S => optF (obX (getC S i)) fun o => optF (delIx o k) fun o => .nx (putO S i o) := by
  rw [exS, getO_eq]
  rcases obX (getC S i) with _ | o
  · rfl
  refine bdO_ext (w := {}) fun y S => bdO_ext (w := {}) fun k S => ?_
  rw [getO_eq]
  rcases obX (getC S i) with _ | o
  · rfl
  · simp only [optF_some]
    cases delIx o k <;> rfl
def insOb (c : Str) : Option Ob → Option (List (Str × FV))
  | some (.ins c' fs) => if c' = c ∧ fs.length < 900 then some fs else none
  | _ => none
@[simp] theorem insOb_ins {fs : List (Str × FV)} : insOb c (some (.ins c fs)) = if fs.length < 900 then some fs else none := by simp [insOb]
@[simp] theorem exS_atr : exS cl gl (.atr c i f e) S = bdO (evE cl gl e S) fun x S => bdO (esc x S) fun d S => optF (insOb c (obX (getC S i))) fun fs => .nx (putO S i (.ins c (setFld fs f d))) := by
  rw [exS]
  refine bdO_ext fun x S => bdO_ext fun d S => ?_
  rw [getO_eq]
  rcases obX (getC S i) with _ | (_ | _ | ⟨c', fs⟩ | _ | _) <;> try rfl
  simp only [insOb]
  split
  · next h => rw [h.1]; rfl
  · rfl
def intC : Option Cell → Option Int
  | some (.val (.int a)) => some a
  | _ => none
@[simp] theorem intC_int {a : Int} : intC (some (.val (.int a))) = some a := rfl
def augD : BOp → Int → Int → Option Int
  | .add, a, b => some (a + b)
  | .sub, a, b => some (a - b)
  | _, _, _ => none
@[simp] theorem augD_add {a b : Int} : augD .add a b = some (a + b) := rfl
@[simp] theorem augD_sub {a b : Int} : augD .sub a b = some (a - b) := rfl
@[simp] theorem exS_aug {op : BOp} : exS cl gl (.aug op i e) S = optF (intC (getC S i)) fun _ => bdO (evE cl gl e S) fun x S => optF (intC (getC S i)) fun a => optF ((cont S x).bind dInt) fun b => optF (augD op a b) fun j => nxO (putC S i (.val (.int j))) := by
  rw [exS]
  rcases getC S i with _ | ((_ | _ | _ | _ | _ | _ | _ | _) | _ | _ | _) <;> try rfl
  refine bdO_ext (w := {}) fun x S => ?_
  rcases h : getC S i with _ | ((_ | _ | _ | _ | _ | _ | _ | _) | _ | _ | _) <;> try rfl
  rcases cont S x with _ | (_ | _ | _ | _ | _ | _ | _ | _) <;> try rfl
  cases op <;> rfl
@[simp] theorem exS_ife {t : T} {a b : Ss} : exS cl gl (.ife t a b) S = bdO (evT cl gl t S) fun k S => if k then exSs cl gl a S else exSs cl gl b S := by rw [exS] <;> rfl
@[simp] theorem exS_whl {n : Nat} {t : T} {kl : List Nat} {b : Ss} : exS cl gl (.whl n t kl b) S = whlLoop kl (evT cl gl t) (exSs cl gl b) n S := by rw [exS] <;> rfl
@[simp] theorem exS_fr {tg : Tg} {it : It} {kl : List Nat} {b : Ss} : exS cl gl (.fr tg it kl b) S = bdO (evI cl gl it S) fun ds S => forLoop tg kl (exSs cl gl b) ds S := by rw [exS] <;> rfl
def retB : Option Cell → Fr → Nat → Fl
  | some (.own o), S, i => .ret (.own o) (setC S i none)
  | _, _, _ => .bad
def retX : Bool → R → Fr → Fl
  | true, x, S => bdO (esc x S) fun d S => .ret (.val d) S
  | false, .val d, S => .ret (.val d) S
  | false, .tmp o, S => .ret (.own o) S
  | false, .bor i, S => retB (getC S i) S i
@[simp] theorem retB_own {o : Ob} : retB (some (.own o)) S i = .ret (.own o) (setC S i none) := rfl
@[simp] theorem retX_true : retX true x S = bdO (esc x S) fun d S => .ret (.val d) S := by
  cases x <;> rfl
@[simp] theorem retX_val : retX false (.val d) S = .ret (.val d) S := rfl
@[simp] theorem retX_tmp {o : Ob} : retX false (.tmp o) S = .ret (.own o) S := rfl
@[simp] theorem retX_bor : retX false (.bor i) S = retB (getC S i) S i := rfl
@[simp] theorem exS_ret : exS cl gl (.ret z e) S = bdO (evE cl gl e S) fun x S => retX z x S := by
  rw [exS]
  refine bdO_ext fun x S => ?_
  cases z
  · cases x with
    | bor i =>
      simp only [retX_bor]
      unfold retB
      rcases getC S i with _ | (_ | _ | _ | _) <;> rfl
    | _ => rfl
  · cases x <;> rfl
@[simp] theorem exS_retN : exS cl gl .retN S = .ret (.val .non) S := by rw [exS]
@[simp] theorem exS_rse {fs : List Str} {es : Es} : exS cl gl (.rse c fs es) S = rseR c fs es S := by rw [exS]
@[simp] theorem rseR_nil : rseR c [] .nil S = .exc c [] S := rfl
@[simp] theorem exS_tr {ok : List Str} {b : Ss} {hs : List (Str × D)} : exS cl gl (.tr ok b hs) S = catchR ok hs (exSs cl gl b S) := by rw [exS]
@[simp] theorem catchR_nx {ok : List Str} {hs : List (Str × D)} : catchR ok hs (.nx S) = .nx S := rfl
@[simp] theorem catchR_ret {ok : List Str} {hs : List (Str × D)} {r : RC} : catchR ok hs (.ret r S) = .ret r S := rfl
def catchH (o : Option D) (c : Str) (fs : List (Str × D)) (S : Fr) : Fl := match o with
  | some d => .ret (.val d) S
  | none => .exc c fs S
@[simp] theorem catchH_some : catchH (some d) c fs S = .ret (.val d) S := rfl
@[simp] theorem catchH_none : catchH none c fs S = .exc c fs S := rfl
@[simp] theorem catchR_exc {ok : List Str} {hs : List (Str × D)} : catchR ok hs (.exc c fs S) = if ok.contains c then catchH (findH c hs) c fs S else .bad := by
  unfold catchR catchH
  first
    | (dsimp only; done)
    | (dsimp only
       split
       · cases findH c hs <;> rfl
       · rfl)
@[simp] theorem findH_same {hs : List (Str × D)} : findH c ((c, d) :: hs) = some d := by simp [findH]
@[simp] theorem findH_nil : findH c [] = none := rfl
@[simp] theorem exS_exp : exS cl gl (.exp e) S = bdO (evE cl gl e S) fun _ S => .nx S := by rw [exS] <;> rfl
@[simp] theorem exS_pas : exS cl gl .pas S = .nx S := by rw [exS]
@[simp] theorem exS_brk : exS cl gl .brk S = .brk S := by rw [exS]
@[simp] theorem exS_kill {is : List Nat} : exS cl gl (.kill is) S = .nx (killS S is) := by rw [exS]
/-! ### functions -/
@[simp] theorem outsOf_nil : outsOf [] S = some [] := rfl
@[simp] theorem outsOf_par {o o' : Ob} {as : List Cell} : outsOf (.par o :: as) (some (.par o') :: S) = (outsOf as S).map (o' :: ·) := rfl
@[simp] theorem outsOf_val {as : List Cell} {c : Option Cell} : outsOf (.val d :: as) (c :: S) = outsOf as S := rfl
def endO : Option (List Ob) → (List Ob → FnRes) → FnRes
  | some os, k => k os
  | none, _ => .bad
@[simp] theorem endO_some {os : List Ob} {k : List Ob → FnRes} : endO (some os) k = k os := rfl
@[simp] theorem endF_eq {as : List Cell} {k : List Ob → FnRes} : endF as S k = endO (outsOf as S) k := by
  unfold endF endO
  cases outsOf as S <;> rfl
def endR (as : List Cell) : Fl → FnRes
  | .nx S => endF as S (.ok (.val .non))
  | .ret r S => endF as S (.ok r)
  | .exc c fs S => endF as S (.exc c fs)
  | _ => .bad
@[simp] theorem endR_nx {as : List Cell} : endR as (.nx S) = endF as S (.ok (.val .non)) := rfl
@[simp] theorem endR_ret {as : List Cell} {r : RC} : endR as (.ret r S) = endF as S (.ok r) := rfl
@[simp] theorem endR_exc {as : List Cell} : endR as (.exc c fs S) = endF as S (.exc c fs) := rfl
@[simp] theorem runFn_eq {g : Fn} {as : List Cell} : runFn cl gl g as = if as.length = g.ps.length then endR as (exSs cl gl g.body (startF g as)) else .bad := by
  unfold runFn endR
  split
  · cases exSs cl gl g.body (startF g as) <;> rfl
  · rfl
end

/-! ### operators -/
section
variable {i j : Int} {d e : D} {xs ys : List D} {b : Bool}
@[simp] theorem line_ok {n : Nat} (h : n ≤ 16777216) : lineOk n = true := by
  unfold lineOk sizeLine
  simpa using h
@[simp] theorem sizeLine_eq : sizeLine = 16777216 := rfl
@[simp] theorem binD_add : binD .add (.int i) (.int j) = some (.val (.int (i + j))) := rfl
@[simp] theorem binD_addT : binD .add (.tup xs) (.tup ys) = if lineOk (xs.length + ys.length) then some (.val (.tup (xs ++ ys))) else none := rfl
@[simp] theorem binD_addL : binD .add (.lst xs) (.lst ys) = if lineOk (xs.length + ys.length) then some (.tmp (.lst (xs ++ ys))) else none := rfl
@[simp] theorem binD_sub : binD .sub (.int i) (.int j) = some (.val (.int (i - j))) := rfl
@[simp] theorem binD_mul : binD .mul (.int i) (.int j) = if smallI i || smallI j || (wideI i && wideI j) then some (.val (.int (i * j))) else none := rfl
@[simp] theorem binD_mulT : binD .mul (.tup xs) (.int j) = if decide (1 ≤ j) && decide (j ≤ 1000) && decide (xs.length ≤ 1000) && !xs.isEmpty then some (.val (.tup (List.replicate j.toNat xs).flatten)) else if decide (j = 0) && !xs.isEmpty then some (.val (.tup [])) else none := rfl
@[simp] theorem binD_mulL : binD .mul (.lst xs) (.int j) = if decide (0 ≤ j) && decide (j ≤ 1000) && lineOk (xs.length * j.toNat) then some (.tmp (.lst (List.replicate j.toNat xs).flatten)) else none := rfl
@[simp] theorem binD_fdiv (h1 : 0 < j) (h2 : j < 18446744073709551616) : binD .fdiv (.int i) (.int j) = some (.val (.int (i / j))) := by
  have h3 : j < 2 ^ 128 := by omega
  unfold binD
  simp only [h1, h3, decide_true, Bool.and_self, if_true]
theorem binD_fdivW (h1 : 0 < j) (h3 : j < 2 ^ 128) : binD .fdiv (.int i) (.int j) = some (.val (.int (i / j))) := by
  unfold binD
  simp only [h1, h3, decide_true, Bool.and_self, if_true]
@[simp] theorem binD_mod (h1 : 0 < j) : binD .mod (.int i) (.int j) = some (.val (.int (i % j))) := by
  unfold binD
  simp only [h1, decide_true, if_true]
@[simp] theorem binD_pow : binD .pow (.int i) (.int j) = if decide (0 ≤ j) && decide (j ≤ 1000) && smallI i then some (.val (.int (i ^ j.toNat))) else none := rfl
@[simp] theorem negD_int : negD (.int i) = some (.val (.int (-i))) := rfl
@[simp] theorem cmpD_eqI : cmpD .eq (.int i) e = pyEq (.int i) e := by cases e <;> rfl
@[simp] theorem cmpD_eqT : cmpD .eq (.tup xs) e = pyEq (.tup xs) e := by cases e <;> rfl
@[simp] theorem cmpD_eqL : cmpD .eq (.lst xs) e = pyEq (.lst xs) e := by cases e <;> rfl
@[simp] theorem cmpD_eqB : cmpD .eq (.bl b) e = pyEq (.bl b) e := by cases e <;> rfl
@[simp] theorem cmpD_eqN : cmpD .eq .non e = pyEq .non e := by cases e <;> rfl
@[simp] theorem cmpD_eqS {x : Str} : cmpD .eq (.str x) e = pyEq (.str x) e := by cases e <;> rfl
@[simp] theorem cmpD_eq0 {kvs : List (NestedKey × D)} : cmpD .eq (.dic kvs) (.dic []) = some kvs.isEmpty := rfl
@[simp] theorem cmpD_ne : cmpD .ne d e = (pyEq d e).map (!·) := by cases d <;> cases e <;> rfl
@[simp] theorem cmpD_lt : cmpD .lt (.int i) (.int j) = some (decide (i < j)) := rfl
@[simp] theorem cmpD_le : cmpD .le (.int i) (.int j) = some (decide (i ≤ j)) := rfl
@[simp] theorem cmpD_gt : cmpD .gt (.int i) (.int j) = some (decide (j < i)) := rfl
@[simp] theorem cmpD_ge : cmpD .ge (.int i) (.int j) = some (decide (j ≤ i)) := rfl
@[simp] theorem cmpD_ltT : cmpD .lt (.tup xs) (.tup ys) = pyLt (.tup xs) (.tup ys) := rfl
@[simp] theorem cmpD_geT : cmpD .ge (.tup xs) (.tup ys) = (pyLt (.tup xs) (.tup ys)).map (!·) := rfl
@[simp] theorem cmpD_inL : cmpD .isin d (.lst xs) = pyIn d xs := by cases d <;> rfl
@[simp] theorem cmpD_inT : cmpD .isin d (.tup xs) = pyIn d xs := by cases d <;> rfl
@[simp] theorem cmpD_niL : cmpD .notin d (.lst xs) = (pyIn d xs).map (!·) := by cases d <;> rfl
@[simp] theorem cmpD_niT : cmpD .notin d (.tup xs) = (pyIn d xs).map (!·) := by cases d <;> rfl
@[simp] theorem cmpD_is : cmpD .is d .non = some (isNon d) := by cases d <;> rfl
@[simp] theorem cmpD_isnot : cmpD .isnot d .non = some (!isNon d) := by cases d <;> rfl
@[simp] theorem isNon_non : isNon .non = true := rfl
@[simp] theorem isNon_int : isNon (.int i) = false := rfl
@[simp] theorem isNon_tup : isNon (.tup xs) = false := rfl
@[simp] theorem isNon_lst : isNon (.lst xs) = false := rfl
@[simp] theorem intCmp_lt : intCmp .lt i j = some (decide (i < j)) := rfl
@[simp] theorem intCmp_le : intCmp .le i j = some (decide (i ≤ j)) := rfl
@[simp] theorem intCmp_gt : intCmp .gt i j = some (decide (j < i)) := rfl
@[simp] theorem intCmp_ge : intCmp .ge i j = some (decide (j ≤ i)) := rfl
@[simp] theorem biD_abs : biD .abs [.int i] = some (.val (.int (if i < 0 then -i else i))) := rfl
@[simp] theorem biD_int : biD .int [.int i] = some (.val (.int i)) := rfl
@[simp] theorem biD_intB : biD .int [.bl b] = some (.val (.int (if b then 1 else 0))) := rfl
@[simp] theorem biD_lenL : biD .len [.lst xs] = some (.val (.int xs.length)) := rfl
@[simp] theorem biD_lenD {kvs : List (NestedKey × D)} : biD .len [.dic kvs] = some (.val (.int kvs.length)) := rfl
@[simp] theorem biD_lenT : biD .len [.tup xs] = some (.val (.int xs.length)) := rfl
@[simp] theorem biD_listL : biD .list [.lst xs] = some (.tmp (.lst xs)) := rfl
@[simp] theorem biD_listT : biD .list [.tup xs] = some (.tmp (.lst xs)) := rfl
@[simp] theorem biD_tupL : biD .tuple [.lst xs] = some (.val (.tup xs)) := rfl
@[simp] theorem biD_tupT : biD .tuple [.tup xs] = some (.val (.tup xs)) := rfl
@[simp] theorem biD_max2 : biD .max [.int i, .int j] = some (.val (.int (if i < j then j else i))) := rfl
@[simp] theorem biD_min2 : biD .min [.int i, .int j] = some (.val (.int (if j < i then j else i))) := rfl
def maxX : Option (List Int) → Option R
  | some (n :: ns) => some (.val (.int (maxL n ns)))
  | _ => none
def minX : Option (List Int) → Option R
  | some (n :: ns) => some (.val (.int (minL n ns)))
  | _ => none
@[simp] theorem maxX_cons {n : Int} {ns : List Int} : maxX (some (n :: ns)) = some (.val (.int (maxL n ns))) := rfl
@[simp] theorem minX_cons {n : Int} {ns : List Int} : minX (some (n :: ns)) = some (.val (.int (minL n ns))) := rfl
@[simp] theorem biD_max : biD .max [.lst xs] = maxX (asInts xs) := by
  simp only [biD]
  rcases asInts xs with _ | (_ | _) <;> rfl
@[simp] theorem biD_min : biD .min [.lst xs] = if (asInts xs).isSome = true then minX (asInts xs) else (minLD xs).map .val := by
  simp only [biD]
  cases h : asInts xs with
  | none => rfl
  | some l =>
    cases l with
    | nil =>
      cases xs with
      | nil => rfl
      | cons x r =>
        cases x <;> simp only [asInts] at h <;> try (cases h)
        simp only [Option.map_eq_some_iff] at h
        obtain ⟨_, _, h⟩ := h
        cases h
    | cons n ns => rfl
@[simp] theorem biD_minT : biD .min [.tup xs, .tup ys] = (minLD [.tup xs, .tup ys]).map .val := rfl
@[simp] theorem biD_sorted : biD .sorted [.lst xs] = (sortD xs).map fun ys => .tmp (.lst ys) := rfl
@[simp] theorem asInts_tup {zs : List D} {r : List D} : asInts (.tup zs :: r) = none := rfl
@[simp] theorem biD_sumT : biD .sum [.tup xs] = (asInts xs).map fun ns => .val (.int ns.sum) := rfl
@[simp] theorem biD_sum : biD .sum [.lst xs] = (asInts xs).map fun ns => .val (.int ns.sum) := rfl
@[simp] theorem asInts_nil : asInts [] = some [] := rfl
@[simp] theorem asInts_cons {r : List D} : asInts (.int i :: r) = (asInts r).map (i :: ·) := rfl
@[simp] theorem asInts_map {ns : List Int} : asInts (ns.map .int) = some ns := by
  induction ns with
  | nil => rfl
  | cons n ns ih => simp [ih]
@[simp] theorem isDic_int : isDic (.int i) = false := rfl
@[simp] theorem isDic_tup : isDic (.tup xs) = false := rfl
@[simp] theorem isDic_lst : isDic (.lst xs) = false := rfl
@[simp] theorem isDic_non : isDic .non = false := rfl
@[simp] theorem isDic_bl : isDic (.bl b) = false := rfl
@[simp] theorem isDic_str {x : Str} : isDic (.str x) = false := rfl
@[simp] theorem isDic_ins {c : Str} {fs : List (Str × D)} : isDic (.ins c fs) = false := rfl
@[simp] theorem truD_bl : truD (.bl b) = b := rfl
@[simp] theorem truD_int : truD (.int i) = (i != 0) := rfl
@[simp] theorem truD_tup : truD (.tup xs) = !xs.isEmpty := rfl
@[simp] theorem truD_lst : truD (.lst xs) = !xs.isEmpty := rfl
@[simp] theorem truD_non : truD .non = false := rfl
@[simp] theorem truOk_bl : truOk (.bl b) = true := rfl
@[simp] theorem truOk_int : truOk (.int i) = true := rfl
@[simp] theorem truOk_tup : truOk (.tup xs) = true := rfl
@[simp] theorem truOk_lst : truOk (.lst xs) = true := rfl
@[simp] theorem truOk_non : truOk .non = true := rfl
@[simp] theorem subD_lst : subD (.lst xs) (.int i) = atD xs i := rfl
@[simp] theorem subD_tup : subD (.tup xs) (.int i) = atD xs i := rfl
theorem atD_nat {n : Nat} : atD xs (n : Int) = xs[n]? := by
  unfold atD L2.atI L2.ixN
  by_cases h : n < xs.length
  · rw [if_pos (by omega), if_pos (by omega)]; rfl
  · rw [if_pos (by omega), if_neg (by omega), List.getElem?_eq_none (by omega)]; rfl
@[simp] theorem atD_0 {x : D} : atD (x :: xs) 0 = some x := (atD_nat (n := 0)).trans rfl
@[simp] theorem atD_1 {x y : D} : atD (x :: y :: xs) 1 = some y := (atD_nat (n := 1)).trans rfl
@[simp] theorem atD_2 {x y z : D} : atD (x :: y :: z :: xs) 2 = some z := (atD_nat (n := 2)).trans rfl
@[simp] theorem atD_cast {n : Nat} : atD xs (n : Int) = xs[n]? := atD_nat
@[simp] theorem itemsD_lst : itemsD (.lst xs) = some xs := rfl
@[simp] theorem itemsD_tup : itemsD (.tup xs) = some xs := rfl
@[simp] theorem sliD_lst {lo hi : Option Int} : sliD (.lst xs) lo hi = some (.tmp (.lst (cutD xs lo hi))) := rfl
@[simp] theorem sliD_tup {lo hi : Option Int} : sliD (.tup xs) lo hi = some (.val (.tup (cutD xs lo hi))) := rfl
@[simp] theorem setIx_lst : setIx (.lst xs) (.int i) d = (L2.ixN xs.length i).map fun j => .lst (xs.set j d) := rfl
@[simp] theorem setIx_dic {kvs : List (NestedKey × D)} : setIx (.dic kvs) (.tup xs) d = (kOf xs).bind fun k => if kvs.length < sizeLine then some (.dic (storeK kvs (.tup k) d)) else none := rfl
@[simp] theorem biD_listD {kvs : List (NestedKey × D)} : biD .list [.dic kvs] = some (.tmp (.lst (kvs.map fun p => ofKey p.1))) := rfl
@[simp] theorem cmpD_inD {kvs : List (NestedKey × D)} : cmpD .isin (.tup xs) (.dic kvs) = (kOf xs).map fun k => hasKey kvs (.tup k) := rfl
@[simp] theorem cmpD_niD {kvs : List (NestedKey × D)} : cmpD .notin (.tup xs) (.dic kvs) = (kOf xs).map fun k => !hasKey kvs (.tup k) := rfl
@[simp] theorem subD_dic {kvs : List (NestedKey × D)} : subD (.dic kvs) (.tup xs) = (kOf xs).bind fun k => valK kvs (.tup k) := rfl
@[simp] theorem itemsD_dic {kvs : List (NestedKey × D)} : itemsD (.dic kvs) = some (kvs.map fun p => ofKey p.1) := rfl
@[simp] theorem truD_dic {kvs : List (NestedKey × D)} : truD (.dic kvs) = !kvs.isEmpty := rfl
@[simp] theorem truOk_dic {kvs : List (NestedKey × D)} : truOk (.dic kvs) = true := rfl
theorem rng0 {n : Nat} : rngD 0 (n : Int) = (List.range n).map fun (k : Nat) => D.int (k : Int) := by
  unfold rngD
  simp
@[simp] theorem bigI_in (h1 : -4611686018427387904 ≤ i) (h2 : i < 4611686018427387904) : bigI i = true := by
  unfold bigI
  simp only [Bool.and_eq_true, decide_eq_true_eq]
  omega
@[simp] theorem smallI_in (h1 : -18446744073709551616 < i) (h2 : i < 18446744073709551616) : smallI i = true := by
  unfold smallI
  simp only [Bool.and_eq_true, decide_eq_true_eq]
  omega
end
@[simp] theorem isi_int_non : isiD "int" (.non) = false := rfl
@[simp] theorem isi_int_bl (b : Bool) : isiD "int" (.bl b) = true := rfl
@[simp] theorem isi_int_int (i : Int) : isiD "int" (.int i) = true := rfl
@[simp] theorem isi_int_str (x : Str) : isiD "int" (.str x) = false := rfl
@[simp] theorem isi_int_tup (xs : List D) : isiD "int" (.tup xs) = false := rfl
@[simp] theorem isi_int_lst (xs : List D) : isiD "int" (.lst xs) = false := rfl
@[simp] theorem isi_int_ins (fs : List (Str × D)) : isiD "int" (.ins "Month" fs) = false := (by decide +kernel : (("int" : Str) == "Month") = false)
@[simp] theorem isi_bool_non : isiD "bool" (.non) = false := rfl
@[simp] theorem isi_bool_bl (b : Bool) : isiD "bool" (.bl b) = true := rfl
@[simp] theorem isi_bool_int (i : Int) : isiD "bool" (.int i) = false := rfl
@[simp] theorem isi_bool_str (x : Str) : isiD "bool" (.str x) = false := rfl
@[simp] theorem isi_bool_tup (xs : List D) : isiD "bool" (.tup xs) = false := rfl
@[simp] theorem isi_bool_lst (xs : List D) : isiD "bool" (.lst xs) = false := rfl
@[simp] theorem isi_bool_ins (fs : List (Str × D)) : isiD "bool" (.ins "Month" fs) = false := (by decide +kernel : (("bool" : Str) == "Month") = false)
@[simp] theorem isi_str_non : isiD "str" (.non) = false := rfl
@[simp] theorem isi_str_bl (b : Bool) : isiD "str" (.bl b) = false := rfl
@[simp] theorem isi_str_int (i : Int) : isiD "str" (.int i) = false := rfl
@[simp] theorem isi_str_str (x : Str) : isiD "str" (.str x) = true := rfl
@[simp] theorem isi_str_tup (xs : List D) : isiD "str" (.tup xs) = false := rfl
@[simp] theorem isi_str_lst (xs : List D) : isiD "str" (.lst xs) = false := rfl
@[simp] theorem isi_str_ins (fs : List (Str × D)) : isiD "str" (.ins "Month" fs) = false := (by decide +kernel : (("str" : Str) == "Month") = false)
@[simp] theorem isi_tuple_non : isiD "tuple" (.non) = false := rfl
@[simp] theorem isi_tuple_bl (b : Bool) : isiD "tuple" (.bl b) = false := rfl
@[simp] theorem isi_tuple_int (i : Int) : isiD "tuple" (.int i) = false := rfl
@[simp] theorem isi_tuple_str (x : Str) : isiD "tuple" (.str x) = false := rfl
@[simp] theorem isi_tuple_tup (xs : List D) : isiD "tuple" (.tup xs) = true := rfl
@[simp] theorem isi_tuple_lst (xs : List D) : isiD "tuple" (.lst xs) = false := rfl
@[simp] theorem isi_tuple_ins (fs : List (Str × D)) : isiD "tuple" (.ins "Month" fs) = false := (by decide +kernel : (("tuple" : Str) == "Month") = false)
@[simp] theorem isi_list_non : isiD "list" (.non) = false := rfl
@[simp] theorem isi_list_bl (b : Bool) : isiD "list" (.bl b) = false := rfl
@[simp] theorem isi_list_int (i : Int) : isiD "list" (.int i) = false := rfl
@[simp] theorem isi_list_str (x : Str) : isiD "list" (.str x) = false := rfl
@[simp] theorem isi_list_tup (xs : List D) : isiD "list" (.tup xs) = false := rfl
@[simp] theorem isi_list_lst (xs : List D) : isiD "list" (.lst xs) = true := rfl
@[simp] theorem isi_list_ins (fs : List (Str × D)) : isiD "list" (.ins "Month" fs) = false := (by decide +kernel : (("list" : Str) == "Month") = false)
@[simp] theorem isi_Month_non : isiD "Month" (.non) = false := rfl
@[simp] theorem isi_Month_bl (b : Bool) : isiD "Month" (.bl b) = false := rfl
@[simp] theorem isi_Month_int (i : Int) : isiD "Month" (.int i) = false := rfl
@[simp] theorem isi_Month_str (x : Str) : isiD "Month" (.str x) = false := rfl
@[simp] theorem isi_Month_tup (xs : List D) : isiD "Month" (.tup xs) = false := rfl
@[simp] theorem isi_Month_lst (xs : List D) : isiD "Month" (.lst xs) = false := rfl
@[simp] theorem isi_Month_ins (fs : List (Str × D)) : isiD "Month" (.ins "Month" fs) = true := (by decide +kernel : (("Month" : Str) == "Month") = true)
end Ev

/-! EvT: plain data compared; loops. -/
namespace Ev
open PySem L2

/-! ### plain data: no truth values, no dicts, no instances; at most n deep -/
def plN : Nat → D → Bool
  | _, .non => true
  | _, .int _ => true
  | _, .str x => PyData.canLay0 (.str x)
  | n + 1, .tup xs => xs.all (plN n)
  | n + 1, .lst xs => xs.all (plN n)
  | _, _ => false
@[simp] theorem plN_non {n : Nat} : plN n .non = true := by cases n <;> rfl
@[simp] theorem plN_int {n : Nat} {i : Int} : plN n (.int i) = true := by cases n <;> rfl
@[simp] theorem plN_str {n : Nat} {x : Str} : plN n (.str x) = PyData.canLay0 (.str x) := by cases n <;> rfl
@[simp] theorem plN_tup {n : Nat} {xs : List D} : plN (n + 1) (.tup xs) = xs.all (plN n) := by rw [plN]
@[simp] theorem plN_lst {n : Nat} {xs : List D} : plN (n + 1) (.lst xs) = xs.all (plN n) := by rw [plN]
noncomputable def eqD (a b : D) : Bool := @decide (a = b) (Classical.propDecidable _)
@[simp] theorem eqD_true {a b : D} : (eqD a b = true) = (a = b) := by
  unfold eqD
  simp
@[simp] theorem eqD_false {a b : D} : (eqD a b = false) = ¬ (a = b) := by
  unfold eqD
  simp
@[simp] theorem eqD_self {a : D} : eqD a a = true := by simp
theorem eqD_comm {a b : D} : eqD a b = eqD b a := by
  cases h : eqD b a
  · simp at h ⊢; exact fun z => h z.symm
  · simp at h ⊢; exact h.symm
theorem toPDs_len : ∀ {xs : List D} {ps : List PyData}, toPDs xs = some ps → ps.length = xs.length
  | [], ps, h => by simp only [toPDs, Option.some.injEq] at h; subst h; rfl
  | x :: xs, ps, h => by
    simp only [toPDs] at h
    split at h
    · next p qs h1 h2 => cases h; simp [toPDs_len h2]
    · cases h
/-- what plain data is told as -/
theorem pl_pd : ∀ (n : Nat) (d : D), plN n d = true → ∃ p, toPD d = some p ∧ p.canLay0 = true ∧ p.depth ≤ n + 1
  | n, .non, _ => ⟨.none, rfl, rfl, by simp [PyData.depth]⟩
  | n, .int i, _ => ⟨.int i, rfl, rfl, by simp [PyData.depth]⟩
  | n, .str x, h => ⟨.str x, rfl, by rw [plN_str] at h; exact h, by simp [PyData.depth]⟩
  | 0, .tup xs, h => by cases h
  | 0, .lst xs, h => by cases h
  | n + 1, .tup xs, h => by
    obtain ⟨ps, h1, h2, h3⟩ := go n xs h
    exact ⟨.tuple ps, by simp only [toPD, h1]; rfl, by simp only [PyData.canLay0]; exact h2, by simp only [PyData.depth]; omega⟩
  | n + 1, .lst xs, h => by
    obtain ⟨ps, h1, h2, h3⟩ := go n xs h
    exact ⟨.list ps, by simp only [toPD, h1]; rfl, by simp only [PyData.canLay0]; exact h2, by simp only [PyData.depth]; omega⟩
  | 0, .bl _, h => by cases h
  | _ + 1, .bl _, h => by cases h
  | 0, .dic _, h => by cases h
  | _ + 1, .dic _, h => by cases h
  | 0, .ins _ _, h => by cases h
  | _ + 1, .ins _ _, h => by cases h
where
  go (n : Nat) : ∀ (xs : List D), xs.all (plN n) = true → ∃ ps, toPDs xs = some ps ∧ PyData.canLayAll0 ps = true ∧ PyData.depthAll ps ≤ n + 1
  | [], _ => ⟨[], rfl, rfl, by simp [PyData.depthAll]⟩
  | x :: xs, h => by
    simp only [List.all_cons, Bool.and_eq_true] at h
    obtain ⟨p, h1, h2, h3⟩ := pl_pd n x h.1
    obtain ⟨ps, h4, h5, h6⟩ := go n xs h.2
    exact ⟨p :: ps, by simp only [toPDs, h1, h4], by simp only [PyData.canLayAll0, h2, h5, Bool.and_self], by simp only [PyData.depthAll]; omega⟩
theorem pl_eqv : ∀ (n : Nat) (m : Nat) (a b : D) (p q : PyData), plN n a = true → plN m b = true → toPD a = some p → toPD b = some q → PyData.eqv p q = eqD a b
  | n, m, a, b, p, q, ha, hb, hp, hq => by
    cases a with
    | non => cases hp; cases b <;> simp only [toPD, Option.some.injEq, Option.map_eq_some_iff, reduceCtorEq] at hq <;> first | (subst hq; simp [PyData.eqv, eqD]) | (obtain ⟨_, _, rfl⟩ := hq; simp [PyData.eqv, eqD])
    | bl _ => cases n <;> cases ha
    | dic _ => cases n <;> cases ha
    | ins _ _ => cases n <;> cases ha
    | int i =>
      cases hp
      cases b with
      | bl _ => cases m <;> cases hb
      | int j =>
        cases hq
        simp only [PyData.eqv]
        cases h : eqD (.int i) (.int j)
        · simp at h; simpa using h
        · simp at h; simpa using h
      | _ => simp only [toPD, Option.some.injEq, Option.map_eq_some_iff, reduceCtorEq] at hq <;> first | (subst hq; simp [PyData.eqv, eqD]) | (obtain ⟨_, _, rfl⟩ := hq; simp [PyData.eqv, eqD])
    | str i =>
      cases hp
      cases b with
      | str j =>
        cases hq
        simp only [PyData.eqv]
        cases h : eqD (.str i) (.str j)
        · simp at h; simpa using h
        · simp at h; simpa using h
      | _ => simp only [toPD, Option.some.injEq, Option.map_eq_some_iff, reduceCtorEq] at hq <;> first | (subst hq; simp [PyData.eqv, eqD]) | (obtain ⟨_, _, rfl⟩ := hq; simp [PyData.eqv, eqD])
    | tup xs =>
      cases n with
      | zero => cases ha
      | succ n =>
      simp only [toPD, Option.map_eq_some_iff] at hp
      obtain ⟨ps, hp, rfl⟩ := hp
      cases b with
      | tup ys =>
        cases m with
        | zero => cases hb
        | succ m =>
        simp only [toPD, Option.map_eq_some_iff] at hq
        obtain ⟨qs, hq, rfl⟩ := hq
        simp only [PyData.eqv]
        have := go n m xs ys ps qs ha hb hp hq
        rw [Bool.eq_iff_iff, this, eqD_true]
        simp
      | _ => simp only [toPD, Option.some.injEq, Option.map_eq_some_iff, reduceCtorEq] at hq <;> first | (subst hq; simp [PyData.eqv, eqD]) | (obtain ⟨_, _, rfl⟩ := hq; simp [PyData.eqv, eqD])
    | lst xs =>
      cases n with
      | zero => cases ha
      | succ n =>
      simp only [toPD, Option.map_eq_some_iff] at hp
      obtain ⟨ps, hp, rfl⟩ := hp
      cases b with
      | lst ys =>
        cases m with
        | zero => cases hb
        | succ m =>
        simp only [toPD, Option.map_eq_some_iff] at hq
        obtain ⟨qs, hq, rfl⟩ := hq
        simp only [PyData.eqv]
        have := go n m xs ys ps qs ha hb hp hq
        rw [Bool.eq_iff_iff, this, eqD_true]
        simp
      | _ => simp only [toPD, Option.some.injEq, Option.map_eq_some_iff, reduceCtorEq] at hq <;> first | (subst hq; simp [PyData.eqv, eqD]) | (obtain ⟨_, _, rfl⟩ := hq; simp [PyData.eqv, eqD])
where
  go (n m : Nat) : ∀ (xs ys : List D) (ps qs : List PyData), xs.all (plN n) = true → ys.all (plN m) = true → toPDs xs = some ps → toPDs ys = some qs → (PyData.eqvAll ps qs = true ↔ xs = ys)
  | [], [], ps, qs, _, _, hp, hq => by cases hp; cases hq; simp [PyData.eqvAll]
  | [], y :: ys, ps, qs, _, _, hp, hq => by
    cases hp
    have := toPDs_len hq
    cases qs with
    | nil => simp at this
    | cons => simp [PyData.eqvAll]
  | x :: xs, [], ps, qs, _, _, hp, hq => by
    cases hq
    have := toPDs_len hp
    cases ps with
    | nil => simp at this
    | cons => simp [PyData.eqvAll]
  | x :: xs, y :: ys, ps, qs, ha, hb, hp, hq => by
    simp only [List.all_cons, Bool.and_eq_true] at ha hb
    simp only [toPDs] at hp hq
    split at hp
    · next p ps' h1 h2 =>
      cases hp
      split at hq
      · next q qs' h3 h4 =>
        cases hq
        simp only [PyData.eqvAll, Bool.and_eq_true, pl_eqv n m x y p q ha.1 hb.1 h1 h3, go n m xs ys ps' qs' ha.2 hb.2 h2 h4, eqD_true, List.cons.injEq]
      · cases hq
    · cases hp
theorem pl_eq {n m : Nat} {a b : D} (ha : plN n a = true) (hb : plN m b = true) (hn : n ≤ 60) (hm : m ≤ 60) : pyEq a b = some (eqD a b) := by
  obtain ⟨p, h1, h2, h3⟩ := pl_pd n a ha
  obtain ⟨q, h4, h5, h6⟩ := pl_pd m b hb
  unfold pyEq
  simp only [h1, h4, SeqAt.shaped, h2, h5, Bool.true_and, Bool.and_eq_true, decide_eq_true_eq]
  rw [if_pos ⟨by omega, by omega⟩, pl_eqv n m a b p q ha hb h1 h4]
@[simp] theorem pyEq_pl {a b : D} (ha : plN 9 a = true) (hb : plN 9 b = true) : pyEq a b = some (eqD a b) := pl_eq ha hb (by decide) (by decide)
@[simp] theorem pyEq_bl {a b : Bool} : pyEq (.bl a) (.bl b) = some (a == b) := by
  cases a <;> cases b <;> decide
theorem pl_in {n m : Nat} {a : D} {xs : List D} (ha : plN n a = true) (hb : xs.all (plN m) = true) (hn : n ≤ 60) (hm : m ≤ 60) : pyIn a xs = some (xs.any fun z => eqD z a) := by
  obtain ⟨p, h1, h2, h3⟩ := pl_pd n a ha
  obtain ⟨qs, h4, h5, h6⟩ := pl_pd.go m xs hb
  unfold pyIn
  have hd : (PyData.list qs).depth ≤ 64 := by simp only [PyData.depth]; omega
  have hl : (PyData.list qs).canLay0 = true := by simp only [PyData.canLay0]; exact h5
  simp only [h1, h4, SeqAt.shaped, h2, hl, Bool.true_and, Bool.and_eq_true, decide_eq_true_eq]
  rw [if_pos ⟨by omega, hd⟩]
  congr 1
  clear h5 h6 hd hl
  induction xs generalizing qs with
  | nil => cases h4; rfl
  | cons x xs ih =>
    simp only [List.all_cons, Bool.and_eq_true] at hb
    simp only [toPDs] at h4
    split at h4
    · next q qs' e1 e2 =>
      cases h4
      simp only [List.any_cons, pl_eqv m n x a q p hb.1 ha e1 h1, ih hb.2 qs' e2]
    · cases h4
@[simp] theorem pyIn_pl {a : D} {xs : List D} (ha : plN 9 a = true) (hb : xs.all (plN 9) = true) : pyIn a xs = some (xs.any fun z => eqD z a) := pl_in ha hb (by decide) (by decide)

@[simp] theorem asInts_mapf {α : Type} {f : α → Int} {xs : List α} : asInts (xs.map fun x => .int (f x)) = some (xs.map f) := by
  induction xs with
  | nil => rfl
  | cons x xs ih => simp [ih]
/-! ### loops -/
section
variable {α β : Type}
section
variable {tg : Tg} {kl : List Nat} {f : Fr → Fl} {d : D} {r : List D} {S S1 S2 : Fr}
theorem for_nil : forLoop tg kl f [] S = .nx (killS S kl) := by rw [forLoop]
theorem for_nx (h1 : bindT tg d S = some S1) (h2 : f S1 = .nx S2) : forLoop tg kl f (d :: r) S = forLoop tg kl f r (killS S2 kl) := by
  simp only [forLoop, h1, h2]
theorem for_cnt (h1 : bindT tg d S = some S1) (h2 : f S1 = .cnt S2) : forLoop tg kl f (d :: r) S = forLoop tg kl f r (killS S2 kl) := by
  simp only [forLoop, h1, h2]
theorem for_brk (h1 : bindT tg d S = some S1) (h2 : f S1 = .brk S2) : forLoop tg kl f (d :: r) S = .nx (killS S2 kl) := by
  simp only [forLoop, h1, h2]
theorem for_ret {v : RC} (h1 : bindT tg d S = some S1) (h2 : f S1 = .ret v S2) : forLoop tg kl f (d :: r) S = .ret v S2 := by
  simp only [forLoop, h1, h2]
theorem for_exc {c : Str} {fs : List (Str × D)} (h1 : bindT tg d S = some S1) (h2 : f S1 = .exc c fs S2) : forLoop tg kl f (d :: r) S = .exc c fs S2 := by
  simp only [forLoop, h1, h2]
variable {g : Fr → Out (Option D)} {acc : List D} {x : D}
theorem lc_nil : lcLoop tg g [] acc S = .ok acc S := by rw [lcLoop]
theorem lc_some (h1 : bindT tg d S = some S1) (h2 : g S1 = .ok (some x) S2) : lcLoop tg g (d :: r) acc S = lcLoop tg g r (acc ++ [x]) (killS S2 (slotsT tg)) := by
  simp only [lcLoop, h1, h2]
theorem lc_none (h1 : bindT tg d S = some S1) (h2 : g S1 = .ok none S2) : lcLoop tg g (d :: r) acc S = lcLoop tg g r acc (killS S2 (slotsT tg)) := by
  simp only [lcLoop, h1, h2]
end
section
variable {kl : List Nat} {t : Fr → Out Bool} {f : Fr → Fl} {n : Nat} {S S1 S2 : Fr}
theorem whl_end (h : t S = .ok false S1) : whlLoop kl t f (n + 1) S = .nx (killS S1 kl) := by
  simp [whlLoop, h, Fl.bindO]
theorem whl_nx (h : t S = .ok true S1) (h2 : f S1 = .nx S2) : whlLoop kl t f (n + 1) S = whlLoop kl t f n (killS S2 kl) := by
  simp [whlLoop, h, h2, Fl.bindO]
theorem whl_ret {v : RC} (h : t S = .ok true S1) (h2 : f S1 = .ret v S2) : whlLoop kl t f (n + 1) S = .ret v S2 := by
  simp [whlLoop, h, h2, Fl.bindO]
theorem whl_brk (h : t S = .ok true S1) (h2 : f S1 = .brk S2) : whlLoop kl t f (n + 1) S = .nx (killS S2 kl) := by
  simp [whlLoop, h, h2, Fl.bindO]
end
/-- a loop by an invariant over what is left -/
theorem for_inv {tg : Tg} {kl : List Nat} {f : Fr → Fl} (I : List D → Fr → Prop) (Q : Fl → Prop)
    (hn : ∀ S, I [] S → Q (.nx (killS S kl)))
    (hs : ∀ d r S, I (d :: r) S → ∃ S1, bindT tg d S = some S1 ∧ ((∃ S2, (f S1 = .nx S2 ∨ f S1 = .cnt S2) ∧ I r (killS S2 kl)) ∨ (∃ S2, f S1 = .brk S2 ∧ Q (.nx (killS S2 kl))) ∨ (∃ v S2, f S1 = .ret v S2 ∧ Q (.ret v S2)) ∨ (∃ c fs S2, f S1 = .exc c fs S2 ∧ Q (.exc c fs S2)))) :
    ∀ (ds : List D) (S : Fr), I ds S → Q (forLoop tg kl f ds S)
  | [], S, h => hn S h
  | d :: r, S, h => by
    obtain ⟨S1, h1, h2⟩ := hs d r S h
    unfold forLoop
    rw [h1]
    dsimp only
    rcases h2 with ⟨S2, e | e, hI⟩ | ⟨S2, e, hQ⟩ | ⟨v, S2, e, hQ⟩ | ⟨c, fs, S2, e, hQ⟩
    · rw [e]; exact for_inv I Q hn hs r _ hI
    · rw [e]; exact for_inv I Q hn hs r _ hI
    · rw [e]; exact hQ
    · rw [e]; exact hQ
    · rw [e]; exact hQ
/-- a loop that goes through, as a fold -/
theorem for_fold {tg : Tg} {kl : List Nat} {f : Fr → Fl} (g : β → D) (st : α → Fr) (step : α → β → α) (I : α → List β → Prop) 
    (hk : ∀ a, killS (st a) kl = st a)
    (hs : ∀ a x r, I a (x :: r) → I (step a x) r ∧ ∃ S1, bindT tg (g x) (st a) = some S1 ∧ ∃ S2, (f S1 = .nx S2 ∨ f S1 = .cnt S2) ∧ killS S2 kl = st (step a x)) :
    ∀ (xs : List β) (a : α), I a xs → forLoop tg kl f (xs.map g) (st a) = .nx (st (xs.foldl step a))
  | [], a, _ => by simp only [List.map_nil, forLoop, hk, List.foldl_nil]
  | x :: xs, a, h => by
    obtain ⟨h1, S1, h2, S2, h3, h4⟩ := hs a x xs h
    have ih := for_fold g st step I hk hs xs (step a x) h1
    simp only [List.map_cons, forLoop, h2, List.foldl_cons]
    rcases h3 with e | e <;> rw [e] <;> dsimp only <;> rw [h4, ih]
/-- a comprehension by an invariant -/
theorem lc_inv {tg : Tg} {f : Fr → Out (Option D)} (I : List D → List D → Fr → Prop)
    (hs : ∀ d r acc S, I (d :: r) acc S → ∃ S1 o S2, bindT tg d S = some S1 ∧ f S1 = .ok o S2 ∧ I r (acc ++ o.toList) (killS S2 (slotsT tg))) :
    ∀ (ds : List D) (acc : List D) (S : Fr), I ds acc S → ∃ out S', lcLoop tg f ds acc S = .ok out S' ∧ I [] out S'
  | [], acc, S, h => ⟨acc, S, rfl, h⟩
  | d :: r, acc, S, h => by
    obtain ⟨S1, o, S2, h1, h2, h3⟩ := hs d r acc S h
    obtain ⟨out, S', h4, h5⟩ := lc_inv I hs r _ _ h3
    refine ⟨out, S', ?_, h5⟩
    unfold lcLoop
    rw [h1]
    dsimp only
    rw [h2]
    cases o with
    | none => simpa using h4
    | some x => simpa using h4
/-- a comprehension that leaves the slots as they are -/
theorem lc_map {tg : Tg} {f : Fr → Out (Option D)} (g : β → D) (o : β → Option D) (S : Fr) (hs : ∀ x, ∃ S1 S2, bindT tg (g x) S = some S1 ∧ f S1 = .ok (o x) S2 ∧ killS S2 (slotsT tg) = S) :
    ∀ (xs : List β) (acc : List D), lcLoop tg f (xs.map g) acc S = .ok (acc ++ xs.filterMap o) S
  | [], acc => by simp [lcLoop]
  | x :: xs, acc => by
    obtain ⟨S1, S2, h1, h2, h3⟩ := hs x
    simp only [List.map_cons, lcLoop, h1, h2]
    cases e : o x with
    | none =>
      dsimp only
      rw [h3, lc_map g o S hs xs]
      simp [e]
    | some z =>
      dsimp only
      rw [h3, lc_map g o S hs xs]
      simp [e]
theorem lc_mapM {tg : Tg} {f : Fr → Out (Option D)} (g : β → D) (o : β → Option D) (S : Fr) :
    ∀ (xs : List β) (acc : List D), (∀ x ∈ xs, ∃ S1 S2, bindT tg (g x) S = some S1 ∧ f S1 = .ok (o x) S2 ∧ killS S2 (slotsT tg) = S) → lcLoop tg f (xs.map g) acc S = .ok (acc ++ xs.filterMap o) S
  | [], acc, _ => by simp [lcLoop]
  | x :: xs, acc, hs => by
    obtain ⟨S1, S2, h1, h2, h3⟩ := hs x List.mem_cons_self
    have ih := fun acc => lc_mapM g o S xs acc fun y hy => hs y (List.mem_cons_of_mem _ hy)
    simp only [List.map_cons, lcLoop, h1, h2]
    cases e : o x with
    | none =>
      dsimp only
      rw [h3, ih]
      simp [e]
    | some z =>
      dsimp only
      rw [h3, ih]
      simp [e]
end
end Ev

/-! EvU: dicts whose keys are tuples of ints, as lists of pairs. -/
namespace Ev
open PySem L2
abbrev kI (k : List Int) : NestedKey := .tup (k.map .num)
section
variable {β : Type} {g : β → D}
def dcI (g : β → D) (m : List (List Int × β)) : List (NestedKey × D) := m.map fun p => (kI p.1, g p.2)
def aHas (m : List (List Int × β)) (k : List Int) : Bool := m.any fun p => decide (p.1 = k)
def aGet (m : List (List Int × β)) (k : List Int) : Option β := (m.find? fun p => decide (p.1 = k)).map (·.2)
def aPut (m : List (List Int × β)) (k : List Int) (v : β) : List (List Int × β) := if aHas m k then m.map fun p => if decide (p.1 = k) then (p.1, v) else p else m ++ [(k, v)]
theorem toKeys_int : ∀ (k : List Int), toKeys (k.map .int) = some (k.map .num)
  | [] => rfl
  | x :: k => by simp only [List.map_cons, toKeys, toKey, toKeys_int k]
theorem depth_num : ∀ (k : List Int), NestedKey.depthAll (k.map .num) ≤ 1
  | [] => by simp [NestedKey.depthAll]
  | x :: k => by
    have := depth_num k
    simp only [List.map_cons, NestedKey.depthAll, NestedKey.depth]
    omega
@[simp] theorem kOf_int {k : List Int} : kOf (k.map .int) = some (k.map .num) := by
  unfold kOf
  rw [toKeys_int]
  simp only [Option.bind_some]
  rw [if_pos]
  have := depth_num k
  simp only [NestedKey.depth]
  omega
theorem ofKeys_num : ∀ (k : List Int), ofKeys (k.map .num) = k.map .int
  | [] => rfl
  | x :: k => by simp only [List.map_cons, ofKeys, ofKey, ofKeys_num k]
@[simp] theorem ofKey_kI {k : List Int} : ofKey (kI k) = .tup (k.map .int) := by
  simp only [ofKey, ofKeys_num]
theorem num_inj {a b : List Int} (h : a.map NestedKey.num = b.map .num) : a = b := by
  have : ∀ x y : Int, NestedKey.num x = .num y → x = y := fun x y z => by cases z; rfl
  exact (List.map_inj_right this).mp h
theorem kI_eq {a b : List Int} : (kI a = kI b) = (a = b) := propext ⟨fun h => num_inj (by simpa using h), fun h => by rw [h]⟩
@[simp] theorem dcI_nil : dcI g [] = [] := rfl
@[simp] theorem dcI_one {k : List Int} {v : β} : dcI g [(k, v)] = [(kI k, g v)] := rfl
@[simp] theorem dcI_len {m : List (List Int × β)} : (dcI g m).length = m.length := by simp [dcI]
@[simp] theorem dcI_empty {m : List (List Int × β)} : (dcI g m).isEmpty = m.isEmpty := by cases m <;> rfl
@[simp] theorem dcI_keys {m : List (List Int × β)} : (dcI g m).map (fun p => ofKey p.1) = m.map fun p => D.tup (p.1.map .int) := by
  unfold dcI
  rw [List.map_map]
  exact List.map_congr_left fun p _ => ofKey_kI
@[simp] theorem has_dcI {m : List (List Int × β)} {k : List Int} : hasKey (dcI g m) (.tup (k.map .num)) = aHas m k := by
  unfold hasKey aHas dcI
  rw [List.any_map]
  congr 1
  funext p
  simp only [Function.comp]
  exact decide_eq_decide.mpr (by rw [show (NestedKey.tup (k.map .num)) = kI k from rfl, kI_eq])
@[simp] theorem val_dcI {m : List (List Int × β)} {k : List Int} : valK (dcI g m) (.tup (k.map .num)) = (aGet m k).map g := by
  unfold valK aGet dcI
  induction m with
  | nil => rfl
  | cons p m ih =>
    simp only [List.map_cons, List.find?_cons]
    by_cases h : p.1 = k
    · subst h; simp
    · have h' : ¬ (kI p.1 = NestedKey.tup (k.map .num)) := by
        rw [show (NestedKey.tup (k.map .num)) = kI k from rfl, kI_eq]; exact h
      simp only [h, h', decide_false]
      exact ih
@[simp] theorem put_dcI {m : List (List Int × β)} {k : List Int} {v : β} : storeK (dcI g m) (.tup (k.map .num)) (g v) = dcI g (aPut m k v) := by
  unfold storeK aPut
  rw [has_dcI]
  cases aHas m k with
  | false => simp [dcI]
  | true =>
    simp only [if_true, dcI, List.map_map]
    apply List.map_congr_left
    intro p _
    simp only [Function.comp]
    by_cases h : p.1 = k
    · subst h; simp
    · have h' : ¬ (kI p.1 = NestedKey.tup (k.map .num)) := by
        rw [show (NestedKey.tup (k.map .num)) = kI k from rfl, kI_eq]; exact h
      simp [h, h']
theorem has_get {m : List (List Int × β)} {k : List Int} : aHas m k = (aGet m k).isSome := by
  unfold aHas aGet
  induction m with
  | nil => rfl
  | cons p m ih =>
    simp only [List.any_cons, List.find?_cons]
    by_cases h : p.1 = k
    · simp [h]
    · simp [h, ih]
theorem get_put {m : List (List Int × β)} {k j : List Int} {v : β} : aGet (aPut m k v) j = if j = k then some v else aGet m j := by
  unfold aPut
  cases hh : aHas m k with
  | false =>
    simp only [Bool.false_eq_true, if_false]
    unfold aGet
    rw [List.find?_append]
    by_cases hj : j = k
    · subst hj
      have : (m.find? fun p => decide (p.1 = j)) = none := by
        rw [List.find?_eq_none]
        intro p hp
        unfold aHas at hh
        rw [List.any_eq_false] at hh
        exact hh p hp
      simp [this]
    · have : ¬ k = j := fun z => hj z.symm
      simp [hj, this]
  | true =>
    simp only [if_true]
    unfold aGet aHas at *
    induction m with
    | nil => simp at hh
    | cons p m ih =>
      simp only [List.map_cons, List.find?_cons]
      by_cases hp : p.1 = k
      · by_cases hj : j = k
        · subst hj; simp [hp]
        · have h1 : ¬ k = j := fun z => hj z.symm
          have h2 : ¬ p.1 = j := by rw [hp]; exact h1
          simp only [hp, decide_true, if_true, h1, decide_false, hj, if_false]
          clear ih hh
          induction m with
          | nil => rfl
          | cons q m ih =>
            simp only [List.map_cons, List.find?_cons]
            by_cases hq : q.1 = k
            · have h3 : ¬ q.1 = j := by rw [hq]; exact h1
              simp only [hq, decide_true, if_true, h1, decide_false]
              exact ih
            · simp only [hq, decide_false, Bool.false_eq_true, if_false]
              by_cases h4 : q.1 = j
              · simp [h4]
              · simp only [h4, decide_false]
                exact ih
      · have hh' : (m.any fun p => decide (p.1 = k)) = true := by simpa [hp] using hh
        simp only [hp, decide_false, Bool.false_eq_true, if_false]
        by_cases hj : p.1 = j
        · have : ¬ j = k := fun z => hp (hj.trans z)
          simp [hj, this]
        · simp only [hj, decide_false]
          exact ih hh'
theorem put_len {m : List (List Int × β)} {k : List Int} {v : β} : (aPut m k v).length ≤ m.length + 1 := by
  unfold aPut
  split <;> simp
/-- the keys stand once each -/
def aNd (m : List (List Int × β)) : Prop := (m.map (·.1)).Nodup
theorem put_keys {m : List (List Int × β)} {k : List Int} {v : β} : (aPut m k v).map (·.1) = if aHas m k then m.map (·.1) else m.map (·.1) ++ [k] := by
  unfold aPut
  cases aHas m k with
  | false => simp
  | true =>
    simp only [if_true, List.map_map]
    apply List.map_congr_left
    intro p _
    simp only [Function.comp]
    split <;> rfl
theorem has_mem {m : List (List Int × β)} {k : List Int} : aHas m k = true ↔ k ∈ m.map (·.1) := by
  unfold aHas
  simp only [List.any_eq_true, decide_eq_true_eq, List.mem_map]
theorem put_nd {m : List (List Int × β)} {k : List Int} {v : β} (h : aNd m) : aNd (aPut m k v) := by
  unfold aNd
  rw [put_keys]
  cases hh : aHas m k with
  | true => simp only [if_true]; exact h
  | false =>
    simp only [Bool.false_eq_true, if_false]
    rw [List.nodup_append]
    refine ⟨h, by simp, fun a ha b hb => ?_⟩
    simp only [List.mem_singleton] at hb
    subst hb
    intro z
    subst z
    have := has_mem.mpr ha
    rw [hh] at this
    cases this
theorem get_mem {m : List (List Int × β)} {k : List Int} {v : β} (h : aGet m k = some v) : (k, v) ∈ m := by
  unfold aGet at h
  simp only [Option.map_eq_some_iff] at h
  obtain ⟨p, h1, rfl⟩ := h
  have h2 := List.find?_some h1
  have h3 := List.mem_of_find?_eq_some h1
  simp only [decide_eq_true_eq] at h2
  subst h2
  exact h3
theorem mem_get {m : List (List Int × β)} {k : List Int} {v : β} (hn : aNd m) (h : (k, v) ∈ m) : aGet m k = some v := by
  unfold aGet
  unfold aNd at hn
  induction m with
  | nil => cases h
  | cons p m ih =>
    simp only [List.map_cons, List.nodup_cons] at hn
    rcases List.mem_cons.mp h with rfl | h
    · simp
    · have : ¬ p.1 = k := fun z => hn.1 (z ▸ List.mem_map.mpr ⟨_, h, rfl⟩)
      simp only [List.find?_cons, this, decide_false]
      exact ih hn.2 h
end
end Ev

/-! EvV: the run's equation out of several. -/
namespace Ev
open PySem PySem.W PySem.Calls PySem.Spec PyProof.Rows L2

abbrev KT (s : PySem.W.SharedT) : PySem.W.Frag := He.frG (HandSHeadRun.getT s) (He.asD (HandSHeadRun.getT s) 5)
theorem map_two {α β γ : Type} {o : Option α} {f : α → β} {g : α → γ} {b : β} {c : γ} (h1 : o.map f = some b) (h2 : o.map g = some c) : o.map (fun s => (f s, g s)) = some (b, c) := by
  cases o with
  | none => cases h1
  | some a =>
    simp only [Option.map_some, Option.some.injEq] at h1 h2 ⊢
    rw [h1, h2]
theorem ob_of {L : Lw} {o : Option PySem.W.SharedT} (h1 : o.map (fun s => L.chk (KT s)) = some true) (h2 : o.map (fun s => L.dl.all fun p => seenB (KT s) p.2 (p.1.ad (KT s))) = some true) (h3 : o.map (fun s => L.dl.map fun p => seenW (KT s) (p.1.ad (KT s))) = some (L.dl.map fun p => p.2.val)) : o.map (fun s => L.ob 5 s) = some L.vals := by
  cases o with
  | none => cases h1
  | some a =>
    simp only [Option.map_some, Option.some.injEq] at h1 h2 h3 ⊢
    show (L.chk (KT a) && L.dl.all fun p => seenB (KT a) p.2 (p.1.ad (KT a)), L.dl.map fun p => seenW (KT a) (p.1.ad (KT a))) = _
    rw [h1, h2, h3]
    rfl
theorem run_of {r : PySem.W.OpenRow} {q : Program} {L : Lw} {M : Nat} {loose : List PySem.Str} {w : World}
    (h1 : ∀ os : OsState, (HandSHeadRun.endF (HandSHeadRun.stepQ (HandSHeadRun.denQ HandSHeadRun.tabQ) r.prog w) M r.prog w os).map (fun s => (HandSHeadRun.looksF r.prog (boot_heap w.params) s.abs, HandSHeadRun.seenQ q loose (importedModules r.prog.main.body) (fun s => PySem.W.xlAt q [] s && PySem.W.recOk r.toRowW.records s) s.abs)) = some (true, PySem.W.openGood q loose))
    (h2 : ∀ os : OsState, (HandSHeadRun.endF (HandSHeadRun.stepQ (HandSHeadRun.denQ HandSHeadRun.tabQ) r.prog w) M r.prog w os).map (fun s => L.ob 5 s) = some L.vals) : HandSHeadRun.RunEq r q (L.hook 5) (L.ob 5) M loose w := by
  intro os
  have a := h1 os
  have b := h2 os
  generalize HandSHeadRun.endF (HandSHeadRun.stepQ (HandSHeadRun.denQ HandSHeadRun.tabQ) r.prog w) M r.prog w os = o at *
  cases o with
  | none => cases a
  | some s =>
    simp only [Option.map_some, Option.some.injEq, Prod.mk.injEq] at a b ⊢
    rw [a.1, a.2, b]
    exact ⟨rfl, rfl⟩
end Ev


namespace Law
open PySem PySem.Spec PyProof.Rows L2 Ev
def f_is_integer : Fn := ⟨"is_integer", ["value"], ["value"], (.cons (.ret false (.and (.cons (.isi (.ref 0) "int") (.cons (.not (.isi (.ref 0) "bool")) .nil)))) .nil)⟩
def f_common_L1 : Ss := (.cons (.par [true, true] [0, 1] (.cons (.var 1) (.cons (.bin .mod (.ref 0) (.ref 1)) .nil))) .nil)
def f_common_T1 : T := (.e (.ref 1))
def f_common : Fn := ⟨"common", ["one", "other"], ["one", "other"], (.cons (.par [true, true] [0, 1] (.cons (.bi .abs (.cons (.ref 0) .nil)) (.cons (.bi .abs (.cons (.ref 1) .nil)) .nil))) (.cons (.whl 4096 f_common_T1 [] f_common_L1) (.cons (.ret false (.var 0)) .nil)))⟩
def f_fraction : Fn := ⟨"fraction", ["number", "parts"], ["number", "parts", "part"], (.cons (.asg true 2 (.call "common" (.cons (.var 0) (.cons (.var 1) .nil)))) (.cons (.ret false (.tup (.cons (.bin .fdiv (.ref 0) (.ref 2)) (.cons (.bin .fdiv (.ref 1) (.ref 2)) .nil)))) .nil))⟩
def f_is_fraction : Fn := ⟨"is_fraction", ["value"], ["value", "number", "parts"], (.cons (.ife (.or (.cons (.not (.e (.isi (.ref 0) "tuple"))) (.cons (.cmp .ne (.bi .len (.cons (.ref 0) .nil)) (.con (.int 2))) .nil))) (.cons (.ret false (.con (.bl false))) .nil) .nil) (.cons (.unp [1, 2] (.var 0)) (.cons (.ife (.or (.cons (.not (.e (.call "is_integer" (.cons (.var 1) .nil)))) (.cons (.not (.e (.call "is_integer" (.cons (.var 2) .nil)))) .nil))) (.cons (.ret false (.con (.bl false))) .nil) .nil) (.cons (.ret false (.and (.cons (.cmp .ge (.ref 2) (.con (.int 1))) (.cons (.cmp .eq (.call "common" (.cons (.var 1) (.cons (.var 2) .nil))) (.con (.int 1))) .nil)))) .nil))))⟩
def f_whole_debts_C1 : E := (.bin .mul (.ref 4) (.bin .fdiv (.ref 1) (.ref 5)))
def f_whole_debts_L1 : Ss := (.cons (.ife (.not (.e (.call "is_fraction" (.cons (.var 2) .nil)))) (.cons (.rse "BadDebts" [] .nil) .nil) .nil) (.cons (.asg true 1 (.bin .fdiv (.bin .mul (.ref 1) (.sub (.ref 2) (.con (.int 1)))) (.call "common" (.cons (.var 1) (.cons (.sub (.ref 2) (.con (.int 1))) .nil))))) .nil))
def f_whole_debts : Fn := ⟨"whole_debts", ["value"], ["value", "parts", "one", "found", "number", "own"], (.cons (.ife (.or (.cons (.not (.e (.isi (.ref 0) "tuple"))) (.cons (.not (.chain .le .le (.con (.int 1)) (.bi .len (.cons (.ref 0) .nil)) (.glo "MOST_DEBTS"))) .nil))) (.cons (.rse "BadDebts" [] .nil) .nil) .nil) (.cons (.asg true 1 (.con (.int 1))) (.cons (.fr (.one 2) (.seq (.var 0)) [2] f_whole_debts_L1) (.cons (.asg true 3 (.lc f_whole_debts_C1 (.many [4, 5]) (.seq (.var 0)) .none)) (.cons (.ife (.cmp .ne (.bi .sum (.cons (.ref 3) .nil)) (.con (.int 0))) (.cons (.rse "BadDebts" [] .nil) .nil) .nil) (.cons (.ret false (.tup (.cons (.var 3) (.cons (.var 1) .nil)))) .nil))))))⟩
def f_parted_C1 : E := (.sub (.ref 0) (.ref 10))
def f_parted_D2 : Ot := (.some (.cmp .notin (.ref 10) (.ref 6)))
def f_parted_C2 : E := (.var 10)
def f_parted_D3 : Ot := (.some (.e (.bin .band (.bin .shr (.ref 5) (.ref 8)) (.con (.int 1)))))
def f_parted_C3 : E := (.var 9)
def f_parted_L1 : Ss := (.cons (.asg true 6 (.bin .add (.lst (.cons (.var 3) .nil)) (.lc f_parted_C3 (.many [8, 9]) (.enm (.cons (.var 4) .nil)) f_parted_D3))) (.cons (.ife (.and (.cons (.cmp .lt (.bi .len (.cons (.ref 6) .nil)) (.bi .len (.cons (.ref 1) .nil))) (.cons (.cmp .eq (.bi .sum (.cons (.lc f_parted_C1 (.one 10) (.seq (.var 6)) .none) .nil)) (.con (.int 0))) .nil))) (.cons (.asg true 7 (.call "parted" (.cons (.var 0) (.cons (.lc f_parted_C2 (.one 10) (.seq (.var 1)) f_parted_D2) .nil)))) (.cons (.ife (.cmp .gt (.bin .add (.bi .len (.cons (.ref 7) .nil)) (.con (.int 1))) (.bi .len (.cons (.ref 2) .nil))) (.cons (.asg true 2 (.bin .add (.lst (.cons (.var 6) .nil)) (.ref 7))) .nil) .nil) (.cons (.kill [7]) .nil))) .nil) .nil))
def f_parted : Fn := ⟨"parted", ["owed", "left"], ["owed", "left", "best", "first", "others", "mask", "part", "rest", "place", "other", "index"], (.cons (.ife (.not (.e (.ref 1))) (.cons (.ret false (.lst .nil)) .nil) .nil) (.cons (.asg true 2 (.lst (.cons (.var 1) .nil))) (.cons (.asg true 3 (.sub (.ref 1) (.con (.int 0)))) (.cons (.asg true 4 (.sli (.ref 1) (.some (.con (.int 1))) .none)) (.cons (.fr (.one 5) (.rng (.cons (.bin .shl (.con (.int 1)) (.bi .len (.cons (.ref 4) .nil))) .nil)) [5, 6, 7] f_parted_L1) (.cons (.ret false (.var 2)) .nil))))))⟩
def f_transfers_of_D1 : Ot := (.some (.cmp .ne (.sub (.ref 11) (.con (.int 0))) (.con (.int 0))))
def f_transfers_of_C1 : E := (.var 11)
def f_transfers_of_L1 : Ss := (.cons (.asg true 2 (.bi .sorted (.cons (.ref 2) .nil))) (.cons (.unp [7, 8] (.sub (.ref 2) (.con (.int 0)))) (.cons (.unp [9, 10] (.sub (.ref 2) (.neg (.con (.int 1))))) (.cons (.asg true 4 (.bi .min (.cons (.ref 9) (.cons (.neg (.ref 7)) .nil)))) (.cons (.app 3 (.tup (.cons (.var 10) (.cons (.var 8) (.cons (.var 4) .nil))))) (.cons (.asg true 5 (.lst (.cons (.tup (.cons (.bin .sub (.ref 9) (.ref 4)) (.cons (.var 10) .nil))) (.cons (.tup (.cons (.bin .add (.ref 7) (.ref 4)) (.cons (.var 8) .nil))) .nil)))) (.cons (.asg true 2 (.lc f_transfers_of_C1 (.one 11) (.seq (.bin .add (.sli (.ref 2) (.some (.con (.int 1))) (.some (.neg (.con (.int 1))))) (.ref 5))) f_transfers_of_D1)) .nil)))))))
def f_transfers_of_T1 : T := (.cmp .gt (.bi .len (.cons (.ref 2) .nil)) (.con (.int 1)))
def f_transfers_of_C2 : E := (.tup (.cons (.sub (.ref 0) (.ref 6)) (.cons (.var 6) .nil)))
def f_transfers_of : Fn := ⟨"transfers_of", ["owed", "part"], ["owed", "part", "left", "found", "some", "rest", "index", "low", "taker", "high", "giver", "one"], (.cons (.asg true 2 (.lc f_transfers_of_C2 (.one 6) (.seq (.var 1)) .none)) (.cons (.asg false 3 (.lst .nil)) (.cons (.whl 4096 f_transfers_of_T1 [4, 5, 7, 8, 9, 10] f_transfers_of_L1) (.cons (.ret false (.ref 3)) .nil))))⟩
def f_settled_L2 : Ss := (.cons (.app 1 (.tup (.cons (.var 5) (.cons (.var 6) (.cons (.call "fraction" (.cons (.var 7) (.cons (.var 4) .nil))) .nil))))) .nil)
def f_settled_L1 : Ss := (.cons (.fr (.many [5, 6, 7]) (.seq (.call "transfers_of" (.cons (.var 3) (.cons (.var 2) .nil)))) [5, 6, 7] f_settled_L2) .nil)
def f_settled_D1 : Ot := (.some (.cmp .ne (.sub (.ref 3) (.ref 8)) (.con (.int 0))))
def f_settled_C1 : E := (.var 8)
def f_settled : Fn := ⟨"settled", ["debts"], ["debts", "found", "part", "owed", "parts", "giver", "taker", "some", "index"], (.cons (.unp [3, 4] (.call "whole_debts" (.cons (.var 0) .nil))) (.cons (.asg false 1 (.lst .nil)) (.cons (.fr (.one 2) (.seq (.call "parted" (.cons (.var 3) (.cons (.lc f_settled_C1 (.one 8) (.rng (.cons (.bi .len (.cons (.ref 3) .nil)) .nil)) f_settled_D1) .nil)))) [2, 5, 6, 7] f_settled_L1) (.cons (.ret false (.bi .tuple (.cons (.ref 1) .nil))) .nil))))⟩
def f__law_common_L1 : Ss := (.cons (.par [true, true] [0, 1] (.cons (.var 1) (.cons (.bin .sub (.ref 0) (.bin .mul (.bin .fdiv (.ref 0) (.ref 1)) (.ref 1))) .nil))) .nil)
def f__law_common_T1 : T := (.cmp .ne (.ref 1) (.con (.int 0)))
def f__law_common : Fn := ⟨"_law_common", ["_law_one", "_law_other"], ["_law_one", "_law_other"], (.cons (.par [true, true] [0, 1] (.cons (.bi .abs (.cons (.ref 0) .nil)) (.cons (.bi .abs (.cons (.ref 1) .nil)) .nil))) (.cons (.whl 4096 f__law_common_T1 [] f__law_common_L1) (.cons (.ret false (.var 0)) .nil)))⟩
def f__law_fraction : Fn := ⟨"_law_fraction", ["_law_number", "_law_parts"], ["_law_number", "_law_parts", "_law_part"], (.cons (.asg true 2 (.call "_law_common" (.cons (.var 0) (.cons (.var 1) .nil)))) (.cons (.ret false (.tup (.cons (.bin .fdiv (.ref 0) (.ref 2)) (.cons (.bin .fdiv (.ref 1) (.ref 2)) .nil)))) .nil))⟩
def f__law_plus : Fn := ⟨"_law_plus", ["_law_one", "_law_other"], ["_law_one", "_law_other"], (.cons (.ret false (.call "_law_fraction" (.cons (.bin .add (.bin .mul (.sub (.ref 0) (.con (.int 0))) (.sub (.ref 1) (.con (.int 1)))) (.bin .mul (.sub (.ref 1) (.con (.int 0))) (.sub (.ref 0) (.con (.int 1))))) (.cons (.bin .mul (.sub (.ref 0) (.con (.int 1))) (.sub (.ref 1) (.con (.int 1)))) .nil)))) .nil)⟩
def f__law_most_L2 : Ss := (.cons (.ife (.cmp .eq (.bin .sub (.bin .fdiv (.ref 7) (.ref 10)) (.bin .mul (.bin .fdiv (.bin .fdiv (.ref 7) (.ref 10)) (.con (.int 2))) (.con (.int 2)))) (.con (.int 1))) (.cons (.asg true 9 (.bi .max (.cons (.ref 9) (.cons (.sub (.ref 3) (.bin .sub (.ref 7) (.ref 10))) .nil)))) .nil) .nil) (.cons (.asg true 10 (.bin .mul (.ref 10) (.con (.int 2)))) .nil))
def f__law_most_L1 : Ss := (.cons (.unp [9, 10] (.tup (.cons (.con (.int 0)) (.cons (.con (.int 1)) .nil)))) (.cons (.fr (.one 6) (.rng (.cons (.var 2) .nil)) [6] f__law_most_L2) (.cons (.six 3 (.var 7) (.bin .add (.ref 9) (.bi .int (.cons (.cmp .eq (.sub (.ref 4) (.ref 7)) (.con (.int 0))) .nil)))) .nil)))
def f__law_most_L4 : Ss := (.cons (.six 4 (.bin .add (.ref 7) (.ref 5)) (.bin .add (.sub (.ref 4) (.ref 7)) (.sub (.ref 1) (.ref 6)))) .nil)
def f__law_most_L3 : Ss := (.cons (.fr (.one 7) (.rng (.cons (.var 5) .nil)) [7] f__law_most_L4) (.cons (.asg true 5 (.bin .mul (.ref 5) (.con (.int 2)))) .nil))
def f__law_most_D1 : Ot := (.some (.cmp .ne (.ref 8) (.con (.int 0))))
def f__law_most_C1 : E := (.var 8)
def f__law_most : Fn := ⟨"_law_most", ["_law_owed"], ["_law_owed", "_law_rows", "_law_many", "_law_best", "_law_sums", "_law_size", "_law_k", "_law_mask", "_law_x", "_law_found", "_law_bit"], (.cons (.asg true 1 (.lc f__law_most_C1 (.one 8) (.seq (.var 0)) f__law_most_D1)) (.cons (.asg true 2 (.bi .len (.cons (.ref 1) .nil))) (.cons (.asg false 3 (.bin .mul (.lst (.cons (.con (.int 0)) .nil)) (.con (.int 64)))) (.cons (.asg false 4 (.bin .mul (.lst (.cons (.con (.int 0)) .nil)) (.con (.int 64)))) (.cons (.asg true 5 (.con (.int 1))) (.cons (.fr (.one 6) (.rng (.cons (.var 2) .nil)) [6, 7] f__law_most_L3) (.cons (.fr (.one 7) (.rng (.cons (.con (.int 1)) (.cons (.var 5) .nil))) [6, 7, 9, 10] f__law_most_L1) (.cons (.ret false (.bin .sub (.ref 2) (.sub (.ref 3) (.bin .sub (.ref 5) (.con (.int 1)))))) .nil))))))))⟩
def f__law_refused : Fn := ⟨"_law_refused", ["_law_value"], ["_law_value"], (.cons (.tr ["BadDebts"] (.cons (.exp (.call "settled" (.cons (.var 0) .nil))) .nil) [("BadDebts", (.bl true))]) (.cons (.ret false (.con (.bl false))) .nil))⟩
def f_law_S12 : Ss := (.cons (.ret false (.call "_law_refused" (.cons (.sub (.ref 8) (.call "_law_next" (.cons (.ref 1) (.cons (.con (.int 8)) .nil)))) .nil))) .nil)
def f_law_S11 : Ss := (.cons (.asg true 8 (.lst (.cons (.tup .nil) (.cons (.bi .list (.cons (.ref 4) .nil)) (.cons (.bin .add (.ref 4) (.tup (.cons (.tup (.cons (.con (.int 1)) (.cons (.con (.int 1)) .nil))) .nil))) (.cons (.bin .add (.ref 4) (.tup (.cons (.tup (.cons (.con (.int 0)) (.cons (.con (.int 2)) .nil))) .nil))) (.cons (.bin .mul (.tup (.cons (.tup (.cons (.con (.int 0)) (.cons (.con (.int 1)) .nil))) .nil)) (.con (.int 7))) (.cons (.con .non) (.cons (.tup (.cons (.tup (.cons (.con (.bl true)) (.cons (.con (.int 1)) .nil))) (.cons (.tup (.cons (.neg (.con (.int 1))) (.cons (.con (.int 1)) .nil))) .nil))) (.cons (.tup (.cons (.tup (.cons (.con (.int 0)) (.cons (.con (.int 0)) .nil))) .nil)) .nil)))))))))) f_law_S12)
def f_law_S10 : Ss := (.cons (.ife (.cmp .ne (.ref 6) (.bin .mul (.lst (.cons (.tup (.cons (.con (.int 0)) (.cons (.con (.int 1)) .nil))) .nil)) (.bi .len (.cons (.ref 4) .nil)))) (.cons (.ret false (.con (.bl false))) .nil) .nil) f_law_S11)
def f_law_L1 : Ss := (.cons (.ife (.or (.cons (.not (.e (.isi (.ref 7) "tuple"))) (.cons (.cmp .ne (.bi .len (.cons (.ref 7) .nil)) (.con (.int 3))) .nil))) (.cons (.ret false (.con (.bl false))) .nil) .nil) (.cons (.unp [10, 11, 12] (.var 7)) (.cons (.ife (.or (.cons (.e (.isi (.ref 10) "bool")) (.cons (.e (.isi (.ref 11) "bool")) (.cons (.cmp .eq (.ref 10) (.ref 11)) .nil)))) (.cons (.ret false (.con (.bl false))) .nil) .nil) (.cons (.ife (.or (.cons (.inR true (.ref 10) (.bi .len (.cons (.ref 6) .nil))) (.cons (.inR true (.ref 11) (.bi .len (.cons (.ref 6) .nil))) .nil))) (.cons (.ret false (.con (.bl false))) .nil) .nil) (.cons (.ife (.or (.cons (.not (.e (.isi (.ref 12) "tuple"))) (.cons (.cmp .le (.sub (.ref 12) (.con (.int 0))) (.con (.int 0))) (.cons (.cmp .ne (.ref 12) (.call "_law_fraction" (.cons (.sub (.ref 12) (.con (.int 0))) (.cons (.sub (.ref 12) (.con (.int 1))) .nil)))) .nil)))) (.cons (.ret false (.con (.bl false))) .nil) .nil) (.cons (.six 6 (.var 10) (.call "_law_plus" (.cons (.sub (.ref 6) (.ref 10)) (.cons (.tup (.cons (.neg (.sub (.ref 12) (.con (.int 0)))) (.cons (.sub (.ref 12) (.con (.int 1))) .nil))) .nil)))) (.cons (.six 6 (.var 11) (.call "_law_plus" (.cons (.sub (.ref 6) (.ref 11)) (.cons (.var 12) .nil)))) .nil)))))))
def f_law_S9 : Ss := (.cons (.fr (.one 7) (.seq (.var 5)) [7, 10, 11, 12] f_law_L1) f_law_S10)
def f_law_S8 : Ss := (.cons (.asg false 6 (.bi .list (.cons (.ref 4) .nil))) f_law_S9)
def f_law_S7 : Ss := (.cons (.ife (.or (.cons (.not (.e (.isi (.ref 5) "tuple"))) (.cons (.cmp .ne (.bi .len (.cons (.ref 5) .nil)) (.call "_law_most" (.cons (.var 3) .nil))) .nil))) (.cons (.ret false (.con (.bl false))) .nil) .nil) f_law_S8)
def f_law_S6 : Ss := (.cons (.asg true 5 (.call "settled" (.cons (.var 4) .nil))) f_law_S7)
def f_law_C1 : E := (.call "_law_fraction" (.cons (.var 13) (.cons (.var 2) .nil)))
def f_law_S5 : Ss := (.cons (.asg true 4 (.bi .tuple (.cons (.lc f_law_C1 (.one 13) (.seq (.var 3)) .none) .nil))) f_law_S6)
def f_law_S4 : Ss := (.cons (.app 3 (.neg (.bi .sum (.cons (.ref 3) .nil)))) f_law_S5)
def f_law_S3 : Ss := (.cons (.ife (.and (.cons (.cmp .ne (.ref 3) (.lst .nil)) (.cons (.cmp .eq (.call "_law_next" (.cons (.ref 1) (.cons (.con (.int 2)) .nil))) (.con (.int 0))) .nil))) (.cons (.six 3 (.neg (.con (.int 1))) (.neg (.sub (.ref 3) (.con (.int 0))))) .nil) .nil) f_law_S4)
def f_law_C2 : E := (.bin .mul (.bin .sub (.call "_law_next" (.cons (.ref 1) (.cons (.con (.int 9)) .nil))) (.con (.int 4))) (.sub (.lst (.cons (.con (.int 1)) (.cons (.con (.int 1)) (.cons (.con (.int 7)) .nil)))) (.call "_law_next" (.cons (.ref 1) (.cons (.con (.int 3)) .nil)))))
def f_law_S2 : Ss := (.cons (.asg false 3 (.lc f_law_C2 (.one 9) (.rng (.cons (.call "_law_next" (.cons (.ref 1) (.cons (.con (.int 6)) .nil))) .nil)) .none)) f_law_S3)
def f_law_S1 : Ss := (.cons (.asg true 2 (.sub (.lst (.cons (.con (.int 1)) (.cons (.con (.int 2)) (.cons (.con (.int 6)) (.cons (.con (.int 60)) (.cons (.bin .pow (.con (.int 10)) (.con (.int 12))) .nil)))))) (.call "_law_next" (.cons (.ref 1) (.cons (.con (.int 5)) .nil))))) f_law_S2)
def f_law_S0 : Ss := (.cons (.asg false 1 (.call "_law_mix" (.cons (.ref 0) (.cons (.con (.int 11)) .nil)))) f_law_S1)
def f_law : Fn := ⟨"law", ["_law_script"], ["_law_script", "_law_h", "_law_parts", "_law_owed", "_law_given", "_law_told", "_law_left", "_law_one", "_law_bad", "_law_k", "_law_giver", "_law_taker", "_law_part", "_law_x"], f_law_S0⟩
def gl0 : List (Str × CV) := [("MOST_DEBTS", .int 6)]
def Γ : List Fn := [f_is_integer, f_common, f_fraction, f_is_fraction, f_whole_debts, f_parted, f_transfers_of, f_settled, f__law_common, f__law_fraction, f__law_plus, f__law_most, f__law_refused, f_law]
def top (i : Nat) : Stmt := PySem.Challenge.pw_carpooldebts_k11_whole_debts_settled.main.body.getD i (.Pass ⟨0, 0, 0, 0⟩)
def clsBody (s : Stmt) : List Stmt := match s with
  | .ClassDef _ _ _ b _ _ _ _ _ _ _ => b
  | _ => []
def met (i j : Nat) : Stmt := (clsBody (top i)).getD j (.Pass ⟨0, 0, 0, 0⟩)
def own : List Str := []
def M0 : MC := ⟨[], ((["is_integer", "common", "fraction", "is_fraction", "whole_debts", "parted", "transfers_of", "settled", "_law_mix", "_law_next", "_law_common", "_law_fraction", "_law_plus", "_law_most", "_law_refused", "law"] : List Str)), ["MOST_DEBTS"], [], [], [], ["BadDebts"]⟩
def dMix : He.DefD := ⟨("_law_mix", none), "_law_mix", "_law_mix", defArgs (top 15), defBody (top 15), defScope (top 15), [], []⟩
def dNxt : He.DefD := ⟨("_law_next", none), "_law_next", "_law_next", defArgs (top 16), defBody (top 16), defScope (top 16), [], []⟩
def ds : List Dfn := [⟨.fn "is_integer", f_is_integer, ⟨("is_integer", none), "is_integer", "is_integer", defArgs (top 4), defBody (top 4), defScope (top 4), [], []⟩⟩,
  ⟨.fn "common", f_common, ⟨("common", none), "common", "common", defArgs (top 5), defBody (top 5), defScope (top 5), [], []⟩⟩,
  ⟨.fn "fraction", f_fraction, ⟨("fraction", none), "fraction", "fraction", defArgs (top 6), defBody (top 6), defScope (top 6), [], []⟩⟩,
  ⟨.fn "is_fraction", f_is_fraction, ⟨("is_fraction", none), "is_fraction", "is_fraction", defArgs (top 9), defBody (top 9), defScope (top 9), [], []⟩⟩,
  ⟨.fn "whole_debts", f_whole_debts, ⟨("whole_debts", none), "whole_debts", "whole_debts", defArgs (top 10), defBody (top 10), defScope (top 10), [], []⟩⟩,
  ⟨.fn "parted", f_parted, ⟨("parted", none), "parted", "parted", defArgs (top 11), defBody (top 11), defScope (top 11), [], []⟩⟩,
  ⟨.fn "transfers_of", f_transfers_of, ⟨("transfers_of", none), "transfers_of", "transfers_of", defArgs (top 12), defBody (top 12), defScope (top 12), [], []⟩⟩,
  ⟨.fn "settled", f_settled, ⟨("settled", none), "settled", "settled", defArgs (top 13), defBody (top 13), defScope (top 13), [], []⟩⟩,
  ⟨.fn "_law_common", f__law_common, ⟨("_law_common", none), "_law_common", "_law_common", defArgs (top 17), defBody (top 17), defScope (top 17), [], []⟩⟩,
  ⟨.fn "_law_fraction", f__law_fraction, ⟨("_law_fraction", none), "_law_fraction", "_law_fraction", defArgs (top 18), defBody (top 18), defScope (top 18), [], []⟩⟩,
  ⟨.fn "_law_plus", f__law_plus, ⟨("_law_plus", none), "_law_plus", "_law_plus", defArgs (top 19), defBody (top 19), defScope (top 19), [], []⟩⟩,
  ⟨.fn "_law_most", f__law_most, ⟨("_law_most", none), "_law_most", "_law_most", defArgs (top 20), defBody (top 20), defScope (top 20), [], []⟩⟩,
  ⟨.fn "_law_refused", f__law_refused, ⟨("_law_refused", none), "_law_refused", "_law_refused", defArgs (top 21), defBody (top 21), defScope (top 21), [], []⟩⟩,
  ⟨.fn "law", f_law, ⟨("law", none), "law", "law", defArgs (top 22), defBody (top 22), defScope (top 22), [], []⟩⟩]
def L : Lw := ⟨ds, dMix, dNxt, own, M0, gl0⟩
theorem stat : L.stat = true := by decide +kernel

namespace Hd
def nm0 : List PySem.Str := ["DebtError", "BadDebts", "is_integer", "common", "fraction", "MOST_DEBTS", "is_fraction", "whole_debts", "parted", "transfers_of", "settled", "_law_mix", "_law_next", "_law_common", "_law_fraction", "_law_plus", "_law_most", "_law_refused"]
def nms : List PySem.Str := nm0
abbrev R : PySem.W.OpenRow := PySem.W.OpenLaw.row PySem.Challenge.rw_carpooldebts_k11_whole_debts_settled
section
open PySem.W PySem.Calls
theorem runA (w : World) : ∀ os : OsState, (HandSHeadRun.endF (HandSHeadRun.stepQ (HandSHeadRun.denQ HandSHeadRun.tabQ) R.prog w) 6000 R.prog w os).map (fun s => (HandSHeadRun.looksF R.prog (boot_heap w.params) s.abs, HandSHeadRun.seenQ (PySem.W.view R.prog [22]) nms (importedModules R.prog.main.body) (fun s => xlAt (PySem.W.view R.prog [22]) [] s && recOk R.toRowW.records s) s.abs)) = some (true, openGood (PySem.W.view R.prog [22]) nms) := by
  intro os
  kernel_rfl
end
theorem runB (w : World) : ∀ os : OsState, (HandSHeadRun.endF (HandSHeadRun.stepQ (HandSHeadRun.denQ HandSHeadRun.tabQ) R.prog w) 6000 R.prog w os).map (fun s => L.chk (KT s)) = some true := by
  intro os
  kernel_rfl
theorem runC (w : World) : ∀ os : OsState, (HandSHeadRun.endF (HandSHeadRun.stepQ (HandSHeadRun.denQ HandSHeadRun.tabQ) R.prog w) 6000 R.prog w os).map (fun s => L.dl.all fun p => seenB (KT s) p.2 (p.1.ad (KT s))) = some true := by
  intro os
  kernel_rfl
theorem runD (w : World) : ∀ os : OsState, (HandSHeadRun.endF (HandSHeadRun.stepQ (HandSHeadRun.denQ HandSHeadRun.tabQ) R.prog w) 6000 R.prog w os).map (fun s => L.dl.map fun p => seenW (KT s) (p.1.ad (KT s))) = some (L.dl.map fun p => p.2.val) := by
  intro os
  kernel_rfl
theorem run (w : World) : HandSHeadRun.RunEq R (PySem.W.view R.prog [22]) (L.hook 5) (L.ob 5) 6000 nms w := run_of (runA w) fun os => ob_of (runB w os) (runC w os) (runD w os)
end Hd

abbrev CL (n : Nat) : Calls := callN L.Γ prL L.gl n
theorem call_is_integer (n : Nat) (as : List Cell) : CL (n + 1) "is_integer" as = runFn (CL n) L.gl f_is_integer as := by rfl
theorem call_common (n : Nat) (as : List Cell) : CL (n + 1) "common" as = runFn (CL n) L.gl f_common as := by rfl
theorem call_fraction (n : Nat) (as : List Cell) : CL (n + 1) "fraction" as = runFn (CL n) L.gl f_fraction as := by rfl
theorem call_is_fraction (n : Nat) (as : List Cell) : CL (n + 1) "is_fraction" as = runFn (CL n) L.gl f_is_fraction as := by rfl
theorem call_whole_debts (n : Nat) (as : List Cell) : CL (n + 1) "whole_debts" as = runFn (CL n) L.gl f_whole_debts as := by rfl
theorem call_parted (n : Nat) (as : List Cell) : CL (n + 1) "parted" as = runFn (CL n) L.gl f_parted as := by rfl
theorem call_transfers_of (n : Nat) (as : List Cell) : CL (n + 1) "transfers_of" as = runFn (CL n) L.gl f_transfers_of as := by rfl
theorem call_settled (n : Nat) (as : List Cell) : CL (n + 1) "settled" as = runFn (CL n) L.gl f_settled as := by rfl
theorem call__law_common (n : Nat) (as : List Cell) : CL (n + 1) "_law_common" as = runFn (CL n) L.gl f__law_common as := by rfl
theorem call__law_fraction (n : Nat) (as : List Cell) : CL (n + 1) "_law_fraction" as = runFn (CL n) L.gl f__law_fraction as := by rfl
theorem call__law_plus (n : Nat) (as : List Cell) : CL (n + 1) "_law_plus" as = runFn (CL n) L.gl f__law_plus as := by rfl
theorem call__law_most (n : Nat) (as : List Cell) : CL (n + 1) "_law_most" as = runFn (CL n) L.gl f__law_most as := by rfl
theorem call__law_refused (n : Nat) (as : List Cell) : CL (n + 1) "_law_refused" as = runFn (CL n) L.gl f__law_refused as := by rfl
theorem call_law (n : Nat) (as : List Cell) : CL (n + 1) "law" as = runFn (CL n) L.gl f_law as := by rfl
theorem call_mix (n : Nat) (as : List Cell) : CL (n + 1) "_law_mix" as = pMix as := by rfl
theorem call_next (n : Nat) (as : List Cell) : CL (n + 1) "_law_next" as = pNext as := by rfl
@[simp] theorem gl_MOST_DEBTS : L.gl "MOST_DEBTS" = some (.int 6) := by rfl

@[simp] theorem startF_eq {g : Fn} {as : List Cell} : startF g as = as.map some ++ List.replicate (g.N.length - as.length) none := rfl
def isI : D → Bool
  | .int _ => true
  | _ => false
@[simp] theorem isI_int {i : Int} : isI (.int i) = true := rfl
@[simp] theorem isI_tup {xs : List D} : isI (.tup xs) = false := rfl
theorem sp_is_integer {n : Nat} {d : D} (h : isDic d = false) (hi : ∀ c fs, d = .ins c fs → c = "Month") : CL (n + 1) "is_integer" [.val d] = .ok (.val (.bl (isI d))) [] := by
  rw [call_is_integer]
  cases d with
  | ins c fs => obtain rfl := hi c fs rfl; simp [f_is_integer, isI]
  | dic => cases h
  | _ => simp [f_is_integer, isI]
@[simp] theorem sp_int_int {n : Nat} {i : Int} : CL (n + 1) "is_integer" [.val (.int i)] = .ok (.val (.bl true)) [] := sp_is_integer rfl (by intros; contradiction)
@[simp] theorem chainR_ints {p q : COp} {i j : Int} {S : Fr} {k : Fr → Out R} : chainR p q (.val (.int i)) (.val (.int j)) S k = optR (intCmp p i j) S fun t S => if t then (k S).bd fun z S => optR (intOf z) S fun l S => optR (intCmp q j l) S fun t S => .ok t S else .ok false S := rfl
/-! ### what months are made of -/
abbrev gD (g : List Int) : D := .tup (g.map .int)
abbrev dayD (d : Int × List Int) : D := .tup [.int d.1, gD d.2]
abbrev barD (b : Int × Int) : D := .tup [.int b.1, .int b.2]
abbrev daysD (ds : List (Int × List Int)) : D := .tup (ds.map dayD)
abbrev barsD (bs : List (Int × Int)) : D := .tup (bs.map barD)
abbrev heldD (p : Int) (ds : List (Int × List Int)) (bs : List (Int × Int)) : D := .tup [.int p, daysD ds, barsD bs]
abbrev monD (p : Int) (ds : List (Int × List Int)) (bs : List (Int × Int)) : D := .ins "Month" [("held", heldD p ds bs)]
def grpFrom : Int → List Int → Int → Bool
  | _, [], _ => true
  | b, x :: r, p => decide (b + 1 ≤ x ∧ x ≤ p - 1) && grpFrom x r p
def grp (g : List Int) (p : Int) : Bool := !g.isEmpty && grpFrom (-1) g p
def dayB (d : Int × List Int) (p : Int) : Bool := decide (1 ≤ d.1 ∧ d.1 ≤ 2) && grp d.2 p && decide (d.1 ≤ d.2.length)
theorem any_eqD {β : Type} (g : β → D) (hg : ∀ a b, g a = g b → a = b) (a : β) (xs : List β) {inst : Decidable (a ∈ xs)} : ((xs.map g).any fun z => eqD z (g a)) = decide (a ∈ xs) := by
  rw [Bool.eq_iff_iff]
  simp only [List.any_eq_true, List.mem_map, eqD_true, decide_eq_true_eq]
  constructor
  · rintro ⟨z, ⟨x, hx, rfl⟩, e⟩
    exact hg _ _ e ▸ hx
  · exact fun h => ⟨_, ⟨a, h, rfl⟩, rfl⟩
theorem gD_inj : ∀ a b : List Int, gD a = gD b → a = b := fun a b h => by
  simp only [D.tup.injEq] at h
  exact List.map_inj_right (fun x y z => by simpa using z) |>.mp h
@[simp] theorem gD_eq {a b : List Int} : (D.tup (a.map .int) = D.tup (b.map .int)) = (a = b) := propext ⟨gD_inj a b, fun h => by rw [h]⟩
@[simp] theorem mapI_eq {a b : List Int} : (a.map D.int = b.map .int) = (a = b) := propext ⟨fun h => gD_inj a b (by rw [gD, gD, h]), fun h => by rw [h]⟩
theorem barD_inj : ∀ a b : Int × Int, barD a = barD b → a = b := fun a b h => by
  simp only [D.tup.injEq, List.cons.injEq, D.int.injEq, and_true] at h
  exact Prod.ext h.1 h.2
theorem dayD_inj : ∀ a b : Int × List Int, dayD a = dayD b → a = b := fun a b h => by
  simp only [D.tup.injEq, List.cons.injEq, D.int.injEq, and_true, mapI_eq] at h
  exact Prod.ext h.1 h.2
@[simp] theorem all_int {n : Nat} {xs : List Int} : (xs.map D.int).all (plN n) = true := by simp
@[simp] theorem all_grp {n : Nat} {xs : List (List Int)} : (xs.map gD).all (plN (n + 1)) = true := by simp
@[simp] theorem all_bar {n : Nat} {xs : List (Int × Int)} : (xs.map barD).all (plN (n + 1)) = true := by simp
@[simp] theorem all_day {n : Nat} {xs : List (Int × List Int)} : (xs.map dayD).all (plN (n + 2)) = true := by simp
@[simp high] theorem pyIn_int {a : Int} {xs : List Int} : pyIn (.int a) (xs.map .int) = some (decide (a ∈ xs)) := by
  rw [pyIn_pl (by simp) (by simp), any_eqD D.int (fun a b h => by simpa using h)]
@[simp high] theorem pyIn_bar {a b : Int} {xs : List (Int × Int)} : pyIn (.tup [.int a, .int b]) (xs.map barD) = some (decide ((a, b) ∈ xs)) := by
  rw [pyIn_pl (by simp) all_bar]
  exact congrArg some (any_eqD barD barD_inj (a, b) xs)
@[simp high] theorem pyIn_grp {a : List Int} {xs : List (List Int)} : pyIn (.tup (a.map .int)) (xs.map gD) = some (decide (a ∈ xs)) := by
  rw [pyIn_pl (by simp) all_grp]
  exact congrArg some (any_eqD gD gD_inj a xs)
theorem plH {p : Int} {ds : List (Int × List Int)} {bs : List (Int × Int)} : plN 9 (heldD p ds bs) = true := by simp
def barB (b : Int × Int) (ds : List (Int × List Int)) : Bool := decide (0 ≤ b.1) && (match ds[b.1.toNat]? with
  | some d => decide (b.2 ∈ d.2)
  | none => false)
structure MonOk (p : Int) (ds : List (Int × List Int)) (bs : List (Int × Int)) : Prop where
  p1 : 1 ≤ p
  p5 : p ≤ 5
  d10 : ds.length ≤ 10
  day : ∀ d ∈ ds, dayB d p = true
  b20 : bs.length ≤ 20
  bar : ∀ b ∈ bs, barB b ds = true
/-! ### who can drive; choices -/
def ableL (g : List Int) (k : Int) (bs : List (Int × Int)) : List Int := g.filter fun x => !decide ((k, x) ∈ bs)
theorem fm_ite {α β : Type} (p : α → Bool) (f : α → β) (xs : List α) : (xs.filterMap fun x => if p x then some (f x) else none) = (xs.filter p).map f := by
  induction xs with
  | nil => rfl
  | cons x xs ih => cases h : p x <;> simp [h, ih]
theorem fm_some {α β : Type} (f : α → β) (xs : List α) : (xs.filterMap fun x => some (f x)) = xs.map f := by simp
def pairsL (l : List Int) : List (List Int) := l.flatMap fun a => (l.filter fun b => decide (a < b)).map fun b => [a, b]
def chs (c : Int) (l : List Int) : List (List Int) := if c = 1 then l.map (fun a => [a]) else pairsL l
theorem ableL_len {g : List Int} {k : Int} {bs : List (Int × Int)} : (ableL g k bs).length ≤ g.length := List.length_filter_le _ _
def chsOk (p : Int) (bs : List (Int × Int)) : Nat → List (Int × List Int) → List (List Int) → Bool
  | _, [], [] => true
  | k, d :: ds, g :: gs => grp g p && decide (g ∈ chs d.1 (ableL d.2 k bs)) && chsOk p bs (k + 1) ds gs
  | _, _, _ => false
theorem chsOk_len {p : Int} {bs : List (Int × Int)} : ∀ {k : Nat} {ds : List (Int × List Int)} {gs : List (List Int)}, chsOk p bs k ds gs = true → gs.length = ds.length
  | _, [], [], _ => rfl
  | _, [], _ :: _, h => by cases h
  | _, _ :: _, [], h => by cases h
  | k, d :: ds, g :: gs, h => by
    simp only [chsOk, Bool.and_eq_true] at h
    simp [chsOk_len h.2]
/-! ### debts -/
def bhd (sh : Int) (ab g : List Int) : Nat → List Int → List Int
  | _, [] => []
  | k, x :: r => (x + sh * (if (k : Int) ∈ ab then 1 else 0) - 60 * (if (k : Int) ∈ g then 1 else 0)) :: bhd sh ab g (k + 1) r
def bhdL (old : List Int) (d : Int × List Int) (g : List Int) : List Int := bhd (60 * d.1 / d.2.length) d.2 g 0 old
@[simp] theorem bhd_len {sh : Int} {ab g : List Int} : ∀ {k : Nat} {old : List Int}, (bhd sh ab g k old).length = old.length
  | _, [] => rfl
  | k, x :: r => by simp [bhd, bhd_len (k := k + 1) (old := r)]
@[simp] theorem bhdL_len {old : List Int} {d : Int × List Int} {g : List Int} : (bhdL old d g).length = old.length := bhd_len
def zeros (p : Int) : List Int := List.replicate p.toNat 0
theorem zerosM {p : Int} : (zeros p).map D.int = List.replicate p.toNat (D.int 0) := by simp [zeros]
@[simp] theorem zeros_len {p : Int} : (zeros p).length = p.toNat := by simp [zeros]
theorem bhd_at {sh : Int} {ab g : List Int} : ∀ (old : List Int) (k : Nat), bhd sh ab g k old = (List.range old.length).map fun i => old.getD i 0 + (if ((k + i : Nat) : Int) ∈ ab then sh else 0) - (if ((k + i : Nat) : Int) ∈ g then 60 else 0)
  | [], k => rfl
  | x :: r, k => by
    rw [bhd, bhd_at r (k + 1), List.length_cons, List.range_succ_eq_map, List.map_cons, List.map_map]
    congr 1
    · simp only [List.getD_cons_zero, Nat.add_zero]
      split <;> split <;> omega
    · apply List.map_congr_left
      intro i _
      simp only [Function.comp, List.getD_cons_succ, Nat.succ_eq_add_one]
      rw [show k + 1 + i = k + (i + 1) by omega]

theorem common_L {n : Nat} : ∀ (fuel a b : Nat), b < fuel → whlLoop [] (evT (CL n) L.gl f_common_T1) (exSs (CL n) L.gl f_common_L1) fuel [some (.val (.int a)), some (.val (.int b))] = .nx [some (.val (.int (Nat.gcd a b : Nat))), some (.val (.int 0))]
  | 0, a, b, h => absurd h (Nat.not_lt_zero _)
  | f + 1, a, b, h => by
    by_cases hb : b = 0
    · subst hb
      simp [whlLoop, f_common_T1, Fl.bindO]
    · have h0 : (0 : Int) < b := by omega
      have t : evT (CL n) L.gl f_common_T1 [some (.val (.int a)), some (.val (.int b))] = .ok true [some (.val (.int a)), some (.val (.int b))] := by
        have : (b : Int) ≠ 0 := by omega
        simp [f_common_T1, hb]
      have s : exSs (CL n) L.gl f_common_L1 [some (.val (.int a)), some (.val (.int b))] = .nx [some (.val (.int b)), some (.val (.int (a % b : Nat)))] := by
        have h0' : 0 < b := by omega
        simp [f_common_L1, h0, h0']
      have ih := common_L (n := n) f b (a % b) (by have := Nat.mod_lt a (Nat.pos_of_ne_zero hb); omega)
      simp only [whlLoop, t, Fl.bindO, if_true, s, killS_nil]
      rw [ih, Nat.gcd_comm b, ← Nat.gcd_rec, Nat.gcd_comm]
theorem abs_eq (i : Int) : (if i < 0 then -i else i) = (i.natAbs : Int) := by
  split <;> omega
@[simp] theorem sp_common {n : Nat} {a b : Int} (h : b.natAbs < 4000) : CL (n + 1) "common" [.val (.int a), .val (.int b)] = .ok (.val (.int (Int.gcd a b))) [] := by
  rw [call_common]
  have e := common_L (n := n) 4096 a.natAbs b.natAbs (by omega)
  simp [f_common, abs_eq, e, Int.gcd]
def frc (a b : Int) : Int × Int := (a / Int.gcd a b, b / Int.gcd a b)
abbrev frD (q : Int × Int) : D := .tup [.int q.1, .int q.2]
theorem gcd_pos60 (a : Int) : (0 : Int) < Int.gcd a 60 := by
  have : 0 < Int.gcd a 60 := Int.gcd_pos_of_ne_zero_right _ (by decide)
  omega
theorem gcd_le60 (a : Int) : (Int.gcd a 60 : Int) ≤ 60 := by
  have : Int.gcd a 60 ∣ 60 := by
    have := Int.gcd_dvd_right a 60
    exact Int.natCast_dvd_natCast.mp this
  have := Nat.le_of_dvd (by decide) this
  omega
@[simp] theorem sp_fraction {n : Nat} {a : Int} : CL (n + 2) "fraction" [.val (.int a), .val (.int 60)] = .ok (.val (frD (frc a 60))) [] := by
  rw [call_fraction]
  have h1 := gcd_pos60 a
  have h2 := gcd_le60 a
  have h3 : (Int.gcd a 60 : Int) < 18446744073709551616 := by omega
  simp [f_fraction, h1, h3, frc]
abbrev rowD (r : List Int) : D := .tup (r.map fun x => frD (frc x 60))
def rowsL : List Int → List (Int × List Int) → List (List Int) → List (List Int)
  | old, d :: ds, g :: gs => bhdL old d g :: rowsL (bhdL old d g) ds gs
  | _, _, _ => []
theorem rowsL_len : ∀ {old : List Int} {ds : List (Int × List Int)} {gs : List (List Int)}, ∀ r ∈ rowsL old ds gs, r.length = old.length
  | old, [], _, r, h => by simp [rowsL] at h
  | old, _ :: _, [], r, h => by simp [rowsL] at h
  | old, d :: ds, g :: gs, r, h => by
    simp only [rowsL, List.mem_cons] at h
    rcases h with rfl | h
    · simp
    · have := rowsL_len r h
      simpa using this
theorem rowsL_many : ∀ {old : List Int} {ds : List (Int × List Int)} {gs : List (List Int)}, (rowsL old ds gs).length ≤ ds.length
  | old, [], _ => by simp [rowsL]
  | old, _ :: _, [] => by simp [rowsL]
  | old, d :: ds, g :: gs => by
    have := rowsL_many (old := bhdL old d g) (ds := ds) (gs := gs)
    simp [rowsL]; omega
def mx (ns : List Int) : Int := maxL (ns.headD 0) ns.tail
theorem maxX_ne {ns : List Int} (h : ns ≠ []) : maxX (some ns) = some (.val (.int (mx ns))) := by
  cases ns with
  | nil => exact absurd rfl h
  | cons n ns => rfl
def distL (r : List Int) : Int := mx (r.map fun x => (x.natAbs : Int))
def farL (rs : List (List Int)) : Int := mx (0 :: rs.map distL)
/-! ### the law's own drawings -/
def RngOk (o : Ob) : Prop := ∃ s cs k, o = .rng s cs k ∧ cs.length ≤ 1000
theorem sp_next {n : Nat} {b : Int} {o : Ob} (h : RngOk o) (hb : 0 < b) (hb2 : b < 4611686018427387904) : ∃ (v : Nat) (o' : Ob), CL (n + 1) "_law_next" [.par o, .val (.int b)] = .ok (.val (.int v)) [o'] ∧ (v : Int) < b ∧ RngOk o' := by
  obtain ⟨s, cs, k, rfl, hc⟩ := h
  have hbo : bndOk b = true := by simp [bndOk, hb, hb2]
  have hv : 0 ≤ (nextV s cs k b).1 ∧ (nextV s cs k b).1 < b := by
    unfold nextV
    split
    · exact ⟨Int.emod_nonneg _ (by omega), Int.emod_lt_of_pos _ hb⟩
    · exact ⟨Int.emod_nonneg _ (by omega), Int.emod_lt_of_pos _ hb⟩
  obtain ⟨v, hv'⟩ := Int.eq_ofNat_of_zero_le hv.1
  refine ⟨v, .rng (nextV s cs k b).2.1 (nextV s cs k b).2.2.1 (nextV s cs k b).2.2.2, ?_, by omega, ⟨_, _, _, rfl, ?_⟩⟩
  · rw [call_next, pNext_eq hbo hc, hv']
  · unfold nextV
    split
    · simpa using hc
    · exact hc
theorem grpFrom_iff {p : Int} : ∀ {g : List Int} {b : Int}, grpFrom b g p = true ↔ g.Pairwise (· < ·) ∧ ∀ x ∈ g, b < x ∧ x < p
  | [], b => by simp [grpFrom]
  | x :: r, b => by
    simp only [grpFrom, Bool.and_eq_true, decide_eq_true_eq, grpFrom_iff (g := r), List.pairwise_cons, List.mem_cons, forall_eq_or_imp]
    constructor
    · rintro ⟨h1, h2, h3⟩
      exact ⟨⟨fun a ha => (h3 a ha).1, h2⟩, by omega, fun a ha => ⟨by have := (h3 a ha).1; omega, (h3 a ha).2⟩⟩
    · rintro ⟨⟨h1, h2⟩, h3, h4⟩
      exact ⟨by omega, h2, fun a ha => ⟨h1 a ha, (h4 a ha).2⟩⟩
theorem grp_iff {p : Int} {g : List Int} : grp g p = true ↔ g ≠ [] ∧ g.Pairwise (· < ·) ∧ ∀ x ∈ g, 0 ≤ x ∧ x < p := by
  unfold grp
  rw [Bool.and_eq_true, grpFrom_iff]
  constructor
  · rintro ⟨h1, h2, h3⟩
    exact ⟨by simpa using h1, h2, fun x hx => ⟨by have := (h3 x hx).1; omega, (h3 x hx).2⟩⟩
  · rintro ⟨h1, h2, h3⟩
    exact ⟨by simpa using h1, h2, fun x hx => ⟨by have := (h3 x hx).1; omega, (h3 x hx).2⟩⟩
theorem asc_len : ∀ {g : List Int} {b p : Int}, g.Pairwise (· < ·) → (∀ x ∈ g, b ≤ x ∧ x < p) → b ≤ p → (g.length : Int) ≤ p - b
  | [], b, p, _, _, h => by simp; omega
  | x :: r, b, p, h1, h2, h => by
    have hx := h2 x List.mem_cons_self
    have := asc_len (b := x + 1) (p := p) (List.pairwise_cons.mp h1).2 (fun y hy => ⟨by have := (List.pairwise_cons.mp h1).1 y hy; omega, (h2 y (List.mem_cons_of_mem _ hy)).2⟩) (by omega)
    simp only [List.length_cons]
    omega
theorem grp_len {p : Int} {g : List Int} (h : grp g p = true) (hp : 0 ≤ p) : (g.length : Int) ≤ p := by
  have h' := grp_iff.mp h
  have := asc_len h'.2.1 h'.2.2 hp
  omega
theorem dayB_len {d : Int × List Int} {p : Int} (h : dayB d p = true) (hp : 0 ≤ p) : 0 < d.2.length ∧ (d.2.length : Int) ≤ p := by
  simp only [dayB, Bool.and_eq_true, decide_eq_true_eq] at h
  refine ⟨List.length_pos_iff.mpr (grp_iff.mp h.1.2).1, grp_len h.1.2 hp⟩
abbrev mD (p : Int) (ds : List (Int × List Int)) (bs : List (Int × Int)) : D := .lst [.int p, daysD ds, barsD bs]
theorem chs_grp {p c : Int} {l g : List Int} (hl : ∀ x ∈ l, 0 ≤ x ∧ x < p) (h : g ∈ chs c l) : grp g p = true := by
  rw [grp_iff]
  unfold chs at h
  split at h
  · simp only [List.mem_map] at h
    obtain ⟨a, ha, rfl⟩ := h
    exact ⟨by simp, by simp, by simpa using hl a ha⟩
  · simp only [pairsL, List.mem_flatMap, List.mem_map, List.mem_filter, decide_eq_true_eq] at h
    obtain ⟨a, ha, b, ⟨hb, hab⟩, rfl⟩ := h
    refine ⟨by simp, by simpa using hab, ?_⟩
    intro x hx
    simp only [List.mem_cons, List.not_mem_nil, or_false] at hx
    rcases hx with rfl | rfl
    · exact hl _ ha
    · exact hl _ hb
theorem chsOk_snoc {p : Int} {bs : List (Int × Int)} : ∀ {ds : List (Int × List Int)} {gs : List (List Int)} {k : Nat} {d : Int × List Int} {g : List Int}, chsOk p bs k ds gs = true → grp g p = true → g ∈ chs d.1 (ableL d.2 ((k + ds.length : Nat) : Int) bs) → chsOk p bs k (ds ++ [d]) (gs ++ [g]) = true
  | [], [], k, d, g, _, h1, h2 => by simpa [chsOk, h1] using h2
  | [], _ :: _, _, _, _, h, _, _ => by cases h
  | _ :: _, [], _, _, _, h, _, _ => by cases h
  | e :: ds, f :: gs, k, d, g, h, h1, h2 => by
    simp only [chsOk, Bool.and_eq_true, List.cons_append] at h ⊢
    refine ⟨h.1, chsOk_snoc h.2 h1 ?_⟩
    rw [show k + 1 + ds.length = k + (e :: ds).length by simp; omega]
    exact h2
abbrev cV (c : Option D) : Option Cell := c.map .val
@[simp] theorem cV_none : cV none = none := rfl
@[simp] theorem cV_some {d : D} : cV (some d) = some (.val d) := rfl

def Ret (x : Fl) : Prop := ∃ o T, x = .ret (.val (.bl true)) (some (.par o) :: T)
@[simp] theorem Ret_ret {o : Ob} {T : Fr} : Ret (.ret (.val (.bl true)) (some (.par o) :: T)) := ⟨o, T, rfl⟩
theorem mon_cut {p : Int} {ds : List (Int × List Int)} {bs : List (Int × Int)} (hm : MonOk p ds bs) (m : Nat) : MonOk p (ds.take m) (bs.filter fun b => decide (b.1 < m)) := by
  refine ⟨hm.p1, hm.p5, ?_, fun d hd => hm.day d (List.mem_of_mem_take hd), ?_, ?_⟩
  · have := hm.d10
    rw [List.length_take]
    omega
  · exact Nat.le_trans (List.length_filter_le _ _) hm.b20
  · intro b hb
    obtain ⟨h1, h2⟩ := List.mem_filter.mp hb
    have h3 := hm.bar b h1
    simp only [decide_eq_true_eq] at h2
    simp only [barB, Bool.and_eq_true, decide_eq_true_eq] at h3 ⊢
    refine ⟨h3.1, ?_⟩
    have h4 : b.1.toNat < m := by omega
    rw [List.getElem?_take, if_pos h4]
    exact h3.2
theorem cut_take {β : Type} {g : β → D} {xs : List β} (m : Nat) : Ev.cutD (xs.map g) none (some (m : Int)) = (xs.take m).map g := by
  unfold Ev.cutD
  rw [HT.sIx_none, HT.sIx_nat, List.drop_zero, Nat.sub_zero, List.map_take]
  rw [List.take_eq_take_iff]
  simp
def N0 : Nat := 20

/-! ### sorted rows (orders taken over from dpo.txt by mksrt.py) -/
structure Od {V : Type} (lt : V → V → Bool) : Prop where
  irr : ∀ a, lt a a = false
  tr : ∀ a b c, lt a b = true → lt b c = true → lt a c = true
  tot : ∀ a b, lt a b = true ∨ a = b ∨ lt b a = true
theorem Od.asym {V : Type} {lt : V → V → Bool} (O : Od lt) {a b : V} (h : lt a b = true) : lt b a = false := by
  cases e : lt b a with
  | false => rfl
  | true => have := O.tr a b a h e; rw [O.irr] at this; cases this
theorem Od.letr {V : Type} {lt : V → V → Bool} (O : Od lt) {a b c : V} (h1 : lt b a = false) (h2 : lt c b = false) : lt c a = false := by
  cases e : lt c a with
  | false => rfl
  | true =>
    rcases O.tot a b with h | h | h
    · have := O.tr c a b e h; rw [h2] at this; cases this
    · rw [← h] at h2; rw [h2] at e; cases e
    · rw [h1] at h; cases h
theorem Od.eq {V : Type} {lt : V → V → Bool} (O : Od lt) {a b : V} (h1 : lt a b = false) (h2 : lt b a = false) : a = b := by
  rcases O.tot a b with h | h | h
  · rw [h1] at h; cases h
  · exact h
  · rw [h2] at h; cases h
def lexL {V : Type} [DecidableEq V] (lt : V → V → Bool) : List V → List V → Bool
  | [], [] => false
  | [], _ :: _ => true
  | _ :: _, [] => false
  | x :: xs, y :: ys => if x = y then lexL lt xs ys else lt x y
theorem lexL_od {V : Type} [DecidableEq V] {lt : V → V → Bool} (O : Od lt) : Od (lexL lt) where
  irr := by
    intro a
    induction a with
    | nil => rfl
    | cons x a ih => simp only [lexL, if_pos]; exact ih
  tr := by
    intro a
    induction a with
    | nil =>
      intro b c h1 h2
      cases b with
      | nil => cases h1
      | cons y b =>
        cases c with
        | nil => cases h2
        | cons z c => rfl
    | cons x a ih =>
      intro b c h1 h2
      cases b with
      | nil => cases h1
      | cons y b =>
        cases c with
        | nil => cases h2
        | cons z c =>
          simp only [lexL] at h1 h2 ⊢
          by_cases e1 : x = y
          · subst e1
            rw [if_pos rfl] at h1
            by_cases e2 : x = z
            · rw [if_pos e2] at h2 ⊢
              exact ih b c h1 h2
            · rw [if_neg e2] at h2 ⊢
              exact h2
          · rw [if_neg e1] at h1
            by_cases e2 : y = z
            · subst e2
              rw [if_neg e1]
              exact h1
            · rw [if_neg e2] at h2
              have h3 := O.tr x y z h1 h2
              have e3 : x ≠ z := by
                intro z'
                rw [z', O.irr] at h3
                cases h3
              rw [if_neg e3]
              exact h3
  tot := by
    intro a
    induction a with
    | nil => intro b; cases b <;> simp [lexL]
    | cons x a ih =>
      intro b
      cases b with
      | nil => simp [lexL]
      | cons y b =>
        simp only [lexL]
        by_cases e : x = y
        · subst e
          rw [if_pos rfl, if_pos rfl]
          rcases ih b with h | h | h
          · exact .inl h
          · exact .inr (.inl (by rw [h]))
          · exact .inr (.inr h)
        · rw [if_neg e, if_neg (Ne.symm e)]
          rcases O.tot x y with h | h | h
          · exact .inl h
          · exact absurd h e
          · exact .inr (.inr h)
theorem int_od : Od (fun (a b : Int) => decide (a < b)) := ⟨by simp, by intro a b c h1 h2; simp at *; omega, by intro a b; simp; omega⟩
def iLt : List Int → List Int → Bool := lexL fun a b => decide (a < b)
theorem iLt_od : Od iLt := lexL_od int_od
abbrev tI (g : List Int) : PySem.W.Tup Int := ⟨g⟩
theorem listLt_I : ∀ (a b : List Int), PySem.W.listLt a b = iLt a b
  | [], [] => rfl
  | [], _ :: _ => rfl
  | _ :: _, [] => rfl
  | x :: a, y :: b => by
    unfold iLt
    simp only [PySem.W.listLt, lexL]
    have := listLt_I a b
    unfold iLt at this
    rw [this]
    rfl
theorem enc_g {g : List Int} : toPD (.tup (g.map .int)) = some (PySem.W.Datum.toD (tI g)) := by
  have : ∀ (k : List Int), toPDs (k.map .int) = some (k.map .int) := by
    intro k
    induction k with
    | nil => rfl
    | cons x k ih => simp only [List.map_cons, toPDs, toPD, ih]
  simp only [toPD, this, Option.map_some]
  rfl
theorem cmpAll_of {α β : Type} [DecidableEq α] [PySem.W.DatumOrd α] {f : β → D} {k : β → α} (he : ∀ b, toPD (f b) = some (PySem.W.Datum.toD (k b))) (ht : ∀ b, isTup (f b) = true) (hp : ∀ b, plN 50 (f b) = true) (xs : List β) : cmpAll (xs.map f) = true := by
  have h1 : toPDs (xs.map f) = some (xs.map fun b => PySem.W.Datum.toD (k b)) := by
    induction xs with
    | nil => rfl
    | cons x xs ih => simp only [List.map_cons, toPDs, he, ih]
  have h2 : (xs.map f).all (plN 50) = true := by simp [hp]
  obtain ⟨ps, e1, e2, e3⟩ := pl_pd.go 50 _ h2
  rw [h1] at e1
  injection e1 with e1
  unfold cmpAll
  rw [h1]
  simp only [Bool.and_eq_true, decide_eq_true_eq, List.all_eq_true]
  refine ⟨fun d hd => ?_, ⟨by rw [e1]; exact e2, by rw [e1]; omega⟩, fun p hp' q hq => ?_⟩
  · obtain ⟨b, _, rfl⟩ := List.mem_map.mp hd
    exact ht b
  · obtain ⟨b, _, rfl⟩ := List.mem_map.mp hp'
    obtain ⟨c, _, rfl⟩ := List.mem_map.mp hq
    exact PySem.W.DatumOrd.alike (k b) (k c)
def gLe (a b : List Int) : Bool := !iLt b a
theorem ltB_g {a b : List Int} : ltB (gD a) (gD b) = iLt a b := by
  unfold ltB encP
  rw [enc_g, enc_g]
  simp only [Option.getD_some]
  rw [PySem.W.DatumOrd.lt_eq]
  exact listLt_I a b
theorem leB_g {a b : List Int} : leB (gD a) (gD b) = gLe a b := by
  have h : leB (gD a) (gD b) = !ltB (gD b) (gD a) := rfl
  rw [h, ltB_g]
  rfl
def srtG (l : List (List Int)) : List (List Int) := l.mergeSort gLe
theorem sortD_g {l : List (List Int)} (hl : l.length ≤ 16777216) (hn : ∀ g ∈ l, g ≠ []) : sortD (l.map gD) = some ((srtG l).map gD) := by
  unfold sortD
  have h := cmpAll_of (f := gD) (k := tI) (fun _ => enc_g) (fun _ => rfl) (fun v => by simp) l
  have h2 : (l.map gD).all neTup = true := by
    rw [List.all_eq_true]
    intro d hd
    obtain ⟨g, hg, rfl⟩ := List.mem_map.mp hd
    cases g with
    | nil => exact absurd rfl (hn [] hg)
    | cons x g => rfl
  rw [h, h2]
  have h3 : decide ((l.map gD).length ≤ sizeLine) = true := by rw [List.length_map, Ev.sizeLine_eq]; simpa using hl
  rw [h3]
  simp only [Bool.and_self, Bool.true_or, if_true]
  congr 1
  unfold srtG
  rw [List.map_mergeSort (r := gLe) (s := leB) (f := gD)]
  intro a _ b _
  exact leB_g.symm
theorem srtG_perm {l m : List (List Int)} (h : l.Perm m) : srtG l = srtG m := by
  have tr : ∀ a b c : List Int, gLe a b = true → gLe b c = true → gLe a c = true := fun a b c h1 h2 => by
    unfold gLe at *
    simp only [Bool.not_eq_true'] at *
    exact iLt_od.letr h1 h2
  have tot : ∀ a b : List Int, (gLe a b || gLe b a) = true := fun a b => by
    unfold gLe
    rcases iLt_od.tot a b with h | h | h
    · rw [iLt_od.asym h]; rfl
    · rw [h, iLt_od.irr]; rfl
    · rw [iLt_od.asym h]; simp
  refine List.Perm.eq_of_pairwise (le := fun a b => gLe a b = true) (fun a b _ _ h1 h2 => ?_) (List.pairwise_mergeSort tr tot l) (List.pairwise_mergeSort tr tot m) ?_
  · unfold gLe at h1 h2
    simp only [Bool.not_eq_true'] at h1 h2
    exact iLt_od.eq h2 h1
  · exact (List.mergeSort_perm l gLe).trans (h.trans (List.mergeSort_perm m gLe).symm)

/-! parts that add up to 0 -/
def sumW (w : List Int) (p : List Nat) : Int := (p.map fun i => w.getD i 0).sum
theorem sumW_nil {w : List Int} : sumW w [] = 0 := rfl
theorem sumW_cons {w : List Int} {x : Nat} {p : List Nat} : sumW w (x :: p) = w.getD x 0 + sumW w p := by simp [sumW]
theorem sumW_append {w : List Int} {p q : List Nat} : sumW w (p ++ q) = sumW w p + sumW w q := by simp [sumW]
theorem sumW_perm {w : List Int} {p q : List Nat} (h : p.Perm q) : sumW w p = sumW w q := by
  induction h with
  | nil => rfl
  | cons x _ ih => rw [sumW_cons, sumW_cons, ih]
  | swap x y l => simp only [sumW_cons]; omega
  | trans _ _ a b => exact a.trans b
structure Pts (w : List Int) (l : List Nat) (qs : List (List Nat)) : Prop where
  perm : qs.flatten.Perm l
  ne : ∀ q ∈ qs, q ≠ []
  zero : ∀ q ∈ qs, sumW w q = 0
theorem sub_perm {α : Type} {s l : List α} (h : s.Sublist l) : ∃ r, l.Perm (s ++ r) := by
  induction h with
  | slnil => exact ⟨[], .nil⟩
  | cons a _ ih => obtain ⟨r, p⟩ := ih; exact ⟨a :: r, (p.cons a).trans List.perm_middle.symm⟩
  | cons_cons a _ ih => obtain ⟨r, p⟩ := ih; exact ⟨r, p.cons a⟩
def pickH (m : Nat) : List α → List α
  | [] => []
  | x :: r => if m % 2 = 1 then x :: pickH (m / 2) r else pickH (m / 2) r
theorem pickH_map {f : α → β} {l : List α} : ∀ {m : Nat}, pickH m (l.map f) = (pickH m l).map f := by
  induction l with
  | nil => intro m; rfl
  | cons x r ih =>
    intro m
    simp only [List.map_cons, pickH]
    split <;> simp [ih]
theorem pickH_sub {l : List α} : ∀ {m : Nat}, (pickH m l).Sublist l := by
  induction l with
  | nil => intro m; exact .slnil
  | cons x r ih =>
    intro m
    simp only [pickH]
    split
    · exact ih.cons_cons x
    · exact ih.cons x
theorem pickH_zero {l : List α} : pickH 0 l = [] := by
  induction l with
  | nil => rfl
  | cons x r ih => simp [pickH, ih]
theorem pickH_full {l : List α} : pickH (2 ^ l.length - 1) l = l := by
  induction l with
  | nil => rfl
  | cons x r ih =>
    have h : 0 < 2 ^ r.length := Nat.pow_pos (by omega)
    have e1 : (2 ^ (x :: r).length - 1) % 2 = 1 := by rw [List.length_cons, Nat.pow_succ]; omega
    have e2 : (2 ^ (x :: r).length - 1) / 2 = 2 ^ r.length - 1 := by rw [List.length_cons, Nat.pow_succ]; omega
    simp only [pickH]
    rw [if_pos e1, e2, ih]
theorem pickH_mask {P : α → Bool} {l : List α} : ∃ m, m < 2 ^ l.length ∧ pickH m l = l.filter P := by
  induction l with
  | nil => exact ⟨0, by simp, rfl⟩
  | cons x r ih =>
    obtain ⟨m, h1, h2⟩ := ih
    cases hp : P x with
    | true =>
      refine ⟨2 * m + 1, by rw [List.length_cons, Nat.pow_succ]; omega, ?_⟩
      simp only [pickH]
      rw [if_pos (by omega), show (2 * m + 1) / 2 = m by omega, h2, List.filter_cons_of_pos hp]
    | false =>
      refine ⟨2 * m, by rw [List.length_cons, Nat.pow_succ]; omega, ?_⟩
      simp only [pickH]
      rw [if_neg (by omega), show (2 * m) / 2 = m by omega, h2, List.filter_cons_of_neg (by simp [hp])]
theorem pickH_bit {l : List α} : ∀ {m k : Nat} {x : α}, (m / 2 ^ k) % 2 = 1 → l[k]? = some x → (pickH m l).Perm (x :: pickH (m - 2 ^ k) l) := by
  induction l with
  | nil => intro m k x _ h; simp at h
  | cons y r ih =>
    intro m k x hb hx
    cases k with
    | zero =>
      simp at hx hb
      subst hx
      simp only [pickH, Nat.pow_zero]
      rw [if_pos hb, if_neg (by omega), show (m - 1) / 2 = m / 2 by omega]
    | succ k =>
      simp at hx
      have e1 : (m / 2 / 2 ^ k) % 2 = 1 := by rw [Nat.div_div_eq_div_mul, Nat.mul_comm, ← Nat.pow_succ]; exact hb
      have hp : 0 < 2 ^ k := Nat.pow_pos (by omega)
      have e2 : 2 ^ (k + 1) = 2 * 2 ^ k := by rw [Nat.pow_succ]; omega
      have hle : 2 ^ (k + 1) ≤ m := by
        rcases Nat.lt_or_ge m (2 ^ (k + 1)) with h | h
        · rw [Nat.div_eq_of_lt h] at hb; omega
        · exact h
      have e3 : (m - 2 ^ (k + 1)) / 2 = m / 2 - 2 ^ k := by rw [e2]; omega
      have e4 : (m - 2 ^ (k + 1)) % 2 = m % 2 := by rw [e2] at hle ⊢; omega
      have := ih e1 hx
      simp only [pickH]
      rw [e4, e3]
      split
      · exact (this.cons y).trans (.swap x y _)
      · exact this
theorem pickH_mem {l : List α} : ∀ {m : Nat} {x : α}, x ∈ pickH m l → ∃ k, k < l.length ∧ (m / 2 ^ k) % 2 = 1 ∧ l[k]? = some x := by
  induction l with
  | nil => intro m x h; simp [pickH] at h
  | cons y r ih =>
    intro m x h
    have go : x ∈ pickH (m / 2) r → ∃ k, k < (y :: r).length ∧ (m / 2 ^ k) % 2 = 1 ∧ (y :: r)[k]? = some x := fun h => by
      obtain ⟨k, h1, h2, h3⟩ := ih h
      refine ⟨k + 1, by simp; omega, ?_, by simpa using h3⟩
      rw [Nat.pow_succ, Nat.mul_comm, ← Nat.div_div_eq_div_mul]; exact h2
    simp only [pickH] at h
    split at h
    · next hm =>
      rcases List.mem_cons.mp h with rfl | h
      · exact ⟨0, by simp, by simpa using hm, rfl⟩
      · exact go h
    · exact go h
theorem pickH_ne {l : List α} : ∀ {m : Nat}, 0 < m → m < 2 ^ l.length → pickH m l ≠ [] := by
  induction l with
  | nil => intro m h1 h2; simp at h2; omega
  | cons y r ih =>
    intro m h1 h2
    simp only [pickH]
    split
    · simp
    · rw [List.length_cons, Nat.pow_succ] at h2
      exact ih (by omega) (by omega)
/-! the law's table -/
def mxb (B : Nat → Nat) (m : Nat) (ks : List Nat) (f : Nat) : Nat := ks.foldl (fun f k => if (m / 2 ^ k) % 2 = 1 then max f (B (m - 2 ^ k)) else f) f
theorem mxb_ge0 {B : Nat → Nat} {m : Nat} : ∀ {ks : List Nat} {f : Nat}, f ≤ mxb B m ks f
  | [], f => Nat.le_refl _
  | k :: ks, f => by
    simp only [mxb, List.foldl_cons]
    refine Nat.le_trans ?_ (mxb_ge0 (ks := ks))
    split <;> omega
theorem mxb_ge {B : Nat → Nat} {m k : Nat} (hb : (m / 2 ^ k) % 2 = 1) : ∀ {ks : List Nat} {f : Nat}, k ∈ ks → B (m - 2 ^ k) ≤ mxb B m ks f
  | [], f, h => by simp at h
  | j :: ks, f, h => by
    simp only [mxb, List.foldl_cons]
    rcases List.mem_cons.mp h with rfl | h
    · rw [if_pos hb]
      exact Nat.le_trans (by omega) (mxb_ge0 (ks := ks))
    · exact mxb_ge hb h
theorem mxb_is {B : Nat → Nat} {m : Nat} : ∀ {ks : List Nat} {f : Nat}, mxb B m ks f = f ∨ ∃ k ∈ ks, (m / 2 ^ k) % 2 = 1 ∧ mxb B m ks f = B (m - 2 ^ k)
  | [], f => .inl rfl
  | j :: ks, f => by
    have e : mxb B m (j :: ks) f = mxb B m ks (if (m / 2 ^ j) % 2 = 1 then max f (B (m - 2 ^ j)) else f) := rfl
    rw [e]
    rcases mxb_is (B := B) (m := m) (ks := ks) (f := if (m / 2 ^ j) % 2 = 1 then max f (B (m - 2 ^ j)) else f) with h | ⟨k, hk, h1, h2⟩
    · rw [h]
      split
      · next hb =>
        rcases Nat.le_total f (B (m - 2 ^ j)) with hl | hl
        · exact .inr ⟨j, List.mem_cons_self, hb, by omega⟩
        · exact .inl (by omega)
      · exact .inl rfl
    · exact .inr ⟨k, List.mem_cons_of_mem _ hk, h1, h2⟩
def TabB (w : List Int) (l : List Nat) (B : Nat → Nat) : Prop := B 0 = 0 ∧ ∀ m, 0 < m → m < 2 ^ l.length → B m = mxb B m (List.range l.length) 0 + (if sumW w (pickH m l) = 0 then 1 else 0)
theorem bit_le {m k : Nat} (hb : (m / 2 ^ k) % 2 = 1) : 2 ^ k ≤ m := by
  rcases Nat.lt_or_ge m (2 ^ k) with h | h
  · rw [Nat.div_eq_of_lt h] at hb; omega
  · exact h
theorem tab_ge {w : List Int} {l : List Nat} {B : Nat → Nat} (T : TabB w l B) : ∀ (n : Nat) (m : Nat) (qs : List (List Nat)) (r : List Nat), m < 2 ^ l.length → (qs.flatten ++ r).length = n → (∀ q ∈ qs, q ≠ []) → (∀ q ∈ qs, sumW w q = 0) → (qs.flatten ++ r).Perm (pickH m l) → qs.length ≤ B m
  | 0, m, qs, r, hm, hn, h1, h2, hp => by
    cases qs with
    | nil => simp
    | cons q qs =>
      have := h1 q List.mem_cons_self
      cases q with
      | nil => exact absurd rfl this
      | cons a b => simp at hn
  | n + 1, m, qs, r, hm, hn, h1, h2, hp => by
    have hm0 : 0 < m := by
      rcases Nat.eq_zero_or_pos m with h | h
      · subst h
        rw [pickH_zero] at hp
        rw [hp.length_eq] at hn
        simp at hn
      · exact h
    have e := T.2 m hm0 hm
    rcases List.eq_nil_or_concat r with hr | ⟨r', x, hr⟩
    · subst hr
      rw [List.append_nil] at hp hn
      rcases List.eq_nil_or_concat qs with hq | ⟨qs', q, hq⟩
      · subst hq; simp
      · subst hq
        rcases List.eq_nil_or_concat q with hq | ⟨q', x, hq⟩
        · exact absurd hq (h1 q (by simp))
        · subst hq
          have e0 : (qs'.concat (q'.concat x)).flatten = (qs'.flatten ++ q') ++ [x] := by simp
          rw [e0] at hp hn
          have hx : x ∈ pickH m l := hp.subset (by simp)
          obtain ⟨k, k1, k2, k3⟩ := pickH_mem hx
          have hp2 : (qs'.flatten ++ q').Perm (pickH (m - 2 ^ k) l) := by
            have h3 : (x :: (qs'.flatten ++ q')).Perm (x :: pickH (m - 2 ^ k) l) := ((List.perm_append_singleton x _).symm.trans hp).trans (pickH_bit k2 k3)
            exact (List.perm_cons x).mp h3
          have ih := tab_ge T n (m - 2 ^ k) qs' q' (Nat.lt_of_le_of_lt (Nat.sub_le _ _) hm) (by simp only [List.length_append, List.length_singleton] at hn ⊢; omega) (fun q hq => h1 q (by simp [hq])) (fun q hq => h2 q (by simp [hq])) hp2
          have h4 := mxb_ge (B := B) (m := m) k2 (ks := List.range l.length) (f := 0) (List.mem_range.mpr k1)
          have hz : sumW w (pickH m l) = 0 := by
            rw [← sumW_perm hp, List.append_assoc, sumW_append]
            have z1 : sumW w (q' ++ [x]) = 0 := h2 _ (by simp)
            have z2 : ∀ ps : List (List Nat), (∀ q ∈ ps, sumW w q = 0) → sumW w ps.flatten = 0 := fun ps => by
              induction ps with
              | nil => intro _; rfl
              | cons a b ih => intro h; rw [List.flatten_cons, sumW_append, h a (by simp), ih fun q hq => h q (by simp [hq])]; rfl
            rw [z1, z2 qs' fun q hq => h2 q (by simp [hq])]; rfl
          rw [if_pos hz] at e
          simp only [List.concat_eq_append, List.length_append, List.length_singleton]
          omega
    · subst hr
      have e0 : qs.flatten ++ r'.concat x = (qs.flatten ++ r') ++ [x] := by simp
      rw [e0] at hp hn
      have hx : x ∈ pickH m l := hp.subset (by simp)
      obtain ⟨k, k1, k2, k3⟩ := pickH_mem hx
      have hp2 : (qs.flatten ++ r').Perm (pickH (m - 2 ^ k) l) := by
        have h3 : (x :: (qs.flatten ++ r')).Perm (x :: pickH (m - 2 ^ k) l) := ((List.perm_append_singleton x _).symm.trans hp).trans (pickH_bit k2 k3)
        exact (List.perm_cons x).mp h3
      have ih := tab_ge T n (m - 2 ^ k) qs r' (Nat.lt_of_le_of_lt (Nat.sub_le _ _) hm) (by simp only [List.length_append, List.length_singleton] at hn ⊢; omega) h1 h2 hp2
      have h4 := mxb_ge (B := B) (m := m) k2 (ks := List.range l.length) (f := 0) (List.mem_range.mpr k1)
      omega
theorem tab_le {w : List Int} {l : List Nat} {B : Nat → Nat} (T : TabB w l B) : ∀ (n : Nat) (m : Nat), (pickH m l).length = n → m < 2 ^ l.length → ∃ (qs : List (List Nat)) (r : List Nat), (∀ q ∈ qs, q ≠ []) ∧ (∀ q ∈ qs, sumW w q = 0) ∧ (qs.flatten ++ r).Perm (pickH m l) ∧ qs.length = B m ∧ (sumW w (pickH m l) = 0 → r = [])
  | 0, m, hn, hm => by
    have hm0 : m = 0 := by
      rcases Nat.eq_zero_or_pos m with h | h
      · exact h
      · exact absurd (List.length_eq_zero_iff.mp hn) (pickH_ne h hm)
    subst hm0
    exact ⟨[], [], by simp, by simp, by rw [pickH_zero]; exact .nil, by rw [T.1]; rfl, fun _ => rfl⟩
  | n + 1, m, hn, hm => by
    have hm0 : 0 < m := by
      rcases Nat.eq_zero_or_pos m with h | h
      · subst h; rw [pickH_zero] at hn; simp at hn
      · exact h
    have e := T.2 m hm0 hm
    have hk : ∃ k, k < l.length ∧ (m / 2 ^ k) % 2 = 1 ∧ mxb B m (List.range l.length) 0 = B (m - 2 ^ k) := by
      rcases mxb_is (B := B) (m := m) (ks := List.range l.length) (f := 0) with h | ⟨k, h1, h2, h3⟩
      · have hne := pickH_ne hm0 hm
        obtain ⟨x, r, hxr⟩ := List.exists_cons_of_ne_nil hne
        obtain ⟨k, k1, k2, k3⟩ := pickH_mem (l := l) (m := m) (x := x) (by rw [hxr]; simp)
        have h4 := mxb_ge (B := B) (m := m) k2 (ks := List.range l.length) (f := 0) (List.mem_range.mpr k1)
        exact ⟨k, k1, k2, by omega⟩
      · exact ⟨k, List.mem_range.mp h1, h2, h3⟩
    obtain ⟨k, k1, k2, k3⟩ := hk
    have hp := pickH_bit (l := l) (m := m) (x := l[k]) k2 (List.getElem?_eq_getElem k1)
    have hl : (pickH (m - 2 ^ k) l).length = n := by
      have := hp.length_eq
      simp only [List.length_cons] at this
      omega
    have hb := bit_le k2
    obtain ⟨qs, r, i1, i2, i3, i4, i5⟩ := tab_le T n (m - 2 ^ k) hl (Nat.lt_of_le_of_lt (Nat.sub_le _ _) hm)
    have hp3 : ((qs.flatten ++ r) ++ [l[k]]).Perm (pickH m l) := ((List.perm_append_singleton _ _).trans (i3.cons _)).trans hp.symm
    by_cases hz : sumW w (pickH m l) = 0
    · rw [if_pos hz] at e
      refine ⟨qs ++ [r ++ [l[k]]], [], fun q hq => ?_, fun q hq => ?_, ?_, ?_, fun _ => rfl⟩
      · rcases List.mem_append.mp hq with hq | hq
        · exact i1 q hq
        · rw [List.mem_singleton] at hq; subst hq; simp
      · rcases List.mem_append.mp hq with hq | hq
        · exact i2 q hq
        · rw [List.mem_singleton] at hq; subst hq
          have z2 : ∀ ps : List (List Nat), (∀ q ∈ ps, sumW w q = 0) → sumW w ps.flatten = 0 := fun ps => by
            induction ps with
            | nil => intro _; rfl
            | cons a b ih => intro h; rw [List.flatten_cons, sumW_append, h a (by simp), ih fun q hq => h q (by simp [hq])]; rfl
          have := sumW_perm (w := w) hp3
          rw [hz, List.append_assoc, sumW_append, z2 qs i2] at this
          omega
      · simpa [List.append_assoc] using hp3
      · rw [List.length_append, List.length_singleton, i4, e, k3]
    · rw [if_neg hz] at e
      refine ⟨qs, r ++ [l[k]], i1, i2, by rw [← List.append_assoc]; exact hp3, by rw [i4, e, k3]; rfl, fun h => absurd h hz⟩
/-! the program's parting -/
def ptd (w : List Int) : Nat → List Nat → List (List Nat)
  | 0, _ => []
  | _ + 1, [] => []
  | n + 1, x :: r => (List.range (2 ^ r.length)).foldl (fun best m =>
      if (x :: pickH m r).length < (x :: r).length ∧ sumW w (x :: pickH m r) = 0 then
        (if best.length < (ptd w n ((x :: r).filter fun i => !(x :: pickH m r).contains i)).length + 1 then (x :: pickH m r) :: ptd w n ((x :: r).filter fun i => !(x :: pickH m r).contains i) else best)
      else best) [x :: r]
theorem fold_best {α β : Type} {f : α → β → α} {len : α → Nat} {I : α → Prop} (hI : ∀ b m, I b → I (f b m)) (mono : ∀ b m, len b ≤ len (f b m)) : ∀ (ms : List β) (b : α), I b → I (ms.foldl f b) ∧ len b ≤ len (ms.foldl f b) ∧ ∀ m ∈ ms, ∀ c, (∀ b, c ≤ len (f b m)) → c ≤ len (ms.foldl f b)
  | [], b, h => ⟨h, Nat.le_refl _, by simp⟩
  | m :: ms, b, h => by
    obtain ⟨h1, h2, h3⟩ := fold_best hI mono ms (f b m) (hI b m h)
    refine ⟨h1, Nat.le_trans (mono b m) h2, fun m' hm' c hc => ?_⟩
    rcases List.mem_cons.mp hm' with rfl | hm'
    · exact Nat.le_trans (hc b) h2
    · exact h3 m' hm' c hc
theorem Pts.len {w : List Int} {l : List Nat} {qs : List (List Nat)} (h : Pts w l qs) (e : l = []) : qs = [] := by
  subst e
  cases qs with
  | nil => rfl
  | cons q qs =>
    have := h.perm.eq_nil
    simp at this
    exact absurd this.1 (h.ne q List.mem_cons_self)
theorem Pts.sum {w : List Int} {l : List Nat} {qs : List (List Nat)} (h : Pts w l qs) : sumW w l = 0 := by
  rw [← sumW_perm h.perm]
  have z2 : ∀ ps : List (List Nat), (∀ q ∈ ps, sumW w q = 0) → sumW w ps.flatten = 0 := fun ps => by
    induction ps with
    | nil => intro _; rfl
    | cons a b ih => intro h; rw [List.flatten_cons, sumW_append, h a (by simp), ih fun q hq => h q (by simp [hq])]; rfl
  exact z2 qs h.zero
theorem out_perm {l p : List Nat} (hn : l.Nodup) (hs : p.Sublist l) : (p ++ l.filter fun i => !p.contains i).Perm l := by
  obtain ⟨r, hr⟩ := sub_perm hs
  have hnd : (p ++ r).Nodup := hr.nodup_iff.mp hn
  have e : (l.filter fun i => !p.contains i).Perm r := by
    refine (hr.filter _).trans ?_
    rw [List.filter_append]
    have e1 : (p.filter fun i => !p.contains i) = [] := by
      rw [List.filter_eq_nil_iff]; intro a ha; simp [ha]
    have e2 : (r.filter fun i => !p.contains i) = r := by
      rw [List.filter_eq_self]
      intro a ha
      have : a ∉ p := fun h => (List.nodup_append.mp hnd).2.2 a h a ha rfl
      simp [this]
    rw [e1, e2]; exact .refl _
  exact (e.append_left p).trans hr.symm
theorem ptd_ok {w : List Int} : ∀ (n : Nat) (l : List Nat), l.length ≤ n → l.Nodup → sumW w l = 0 → Pts w l (ptd w n l) ∧ ∀ qs, Pts w l qs → qs.length ≤ (ptd w n l).length
  | 0, l, hl, _, _ => by
    have : l = [] := List.length_eq_zero_iff.mp (by omega)
    subst this
    refine ⟨⟨.nil, by simp [ptd], by simp [ptd]⟩, fun qs h => ?_⟩
    rw [h.len rfl]; simp
  | n + 1, [], _, _, _ => by
    refine ⟨⟨.nil, by simp [ptd], by simp [ptd]⟩, fun qs h => ?_⟩
    rw [h.len rfl]; simp
  | n + 1, x :: r, hl, hn, hz => by
    have key : ∀ m, sumW w (x :: pickH m r) = 0 → Pts w (x :: r) ((x :: pickH m r) :: ptd w n ((x :: r).filter fun i => !(x :: pickH m r).contains i)) ∧
        ∀ qs, Pts w ((x :: r).filter fun i => !(x :: pickH m r).contains i) qs → qs.length ≤ (ptd w n ((x :: r).filter fun i => !(x :: pickH m r).contains i)).length := fun m hm => by
      have hp := out_perm hn ((pickH_sub (m := m) (l := r)).cons_cons x)
      have hlen := hp.length_eq
      have hz2 := sumW_perm (w := w) hp
      rw [sumW_append, hz, hm] at hz2
      simp only [List.length_append, List.length_cons] at hlen hl
      obtain ⟨i1, i2⟩ := ptd_ok (w := w) n ((x :: r).filter fun i => !(x :: pickH m r).contains i) (by omega) (hn.filter _) (by omega)
      refine ⟨⟨?_, fun q hq => ?_, fun q hq => ?_⟩, i2⟩
      · rw [List.flatten_cons]; exact (i1.perm.append_left _).trans hp
      · rcases List.mem_cons.mp hq with rfl | hq
        · simp
        · exact i1.ne q hq
      · rcases List.mem_cons.mp hq with rfl | hq
        · exact hm
        · exact i1.zero q hq
    unfold ptd
    obtain ⟨h1, h2, h3⟩ := fold_best (f := fun (best : List (List Nat)) (m : Nat) => if (x :: pickH m r).length < (x :: r).length ∧ sumW w (x :: pickH m r) = 0 then
        (if best.length < (ptd w n ((x :: r).filter fun i => !(x :: pickH m r).contains i)).length + 1 then (x :: pickH m r) :: ptd w n ((x :: r).filter fun i => !(x :: pickH m r).contains i) else best)
      else best) (len := List.length) (I := Pts w (x :: r)) (fun b m hb => by
        split
        · next h =>
          split
          · exact (key m h.2).1
          · exact hb
        · exact hb) (fun b m => by
        split
        · split
          · next h => rw [List.length_cons]; omega
          · exact Nat.le_refl _
        · exact Nat.le_refl _) (List.range (2 ^ r.length)) [x :: r] ⟨by simp, by simp, by simpa using hz⟩
    refine ⟨h1, fun qs hq => ?_⟩
    rcases Nat.lt_or_ge qs.length 2 with hs | hs
    · exact Nat.le_trans (by simp only [List.length_singleton]; omega) h2
    · have hx : x ∈ qs.flatten := hq.perm.symm.subset List.mem_cons_self
      obtain ⟨q, hq1, hq2⟩ := List.mem_flatten.mp hx
      obtain ⟨s, t, rfl⟩ := List.append_of_mem hq1
      have hp2 : (q ++ (s ++ t).flatten).Perm (x :: r) := by
        refine List.Perm.trans ?_ hq.perm
        simp only [List.flatten_append, List.flatten_cons]
        rw [← List.append_assoc, ← List.append_assoc]
        exact (List.perm_append_comm).append_right _
      have hnd : (q ++ (s ++ t).flatten).Nodup := hp2.nodup_iff.mpr hn
      have hqn : q.Nodup := (List.nodup_append.mp hnd).1
      obtain ⟨m, hm1, hm2⟩ := pickH_mask (P := fun i => q.contains i) (l := r)
      have hxr : x ∉ r := (List.nodup_cons.mp hn).1
      have hpq : (x :: pickH m r).Perm q := by
        rw [hm2]
        refine (List.perm_ext_iff_of_nodup ?_ hqn).mpr fun a => ?_
        · exact List.nodup_cons.mpr ⟨fun h => hxr (List.mem_filter.mp h).1, (List.nodup_cons.mp hn).2.filter _⟩
        · constructor
          · intro h
            rcases List.mem_cons.mp h with rfl | h
            · exact hq2
            · simpa using (List.mem_filter.mp h).2
          · intro h
            have : a ∈ x :: r := hp2.subset (by simp [h])
            rcases List.mem_cons.mp this with rfl | h2
            · exact List.mem_cons_self
            · exact List.mem_cons_of_mem _ (List.mem_filter.mpr ⟨h2, by simpa using h⟩)
      have hz2 : sumW w (x :: pickH m r) = 0 := by rw [sumW_perm hpq]; exact hq.zero q hq1
      have hp3 := out_perm hn ((pickH_sub (m := m) (l := r)).cons_cons x)
      have hrest : Pts w ((x :: r).filter fun i => !(x :: pickH m r).contains i) (s ++ t) := by
        refine ⟨?_, fun a ha => hq.ne a ?_, fun a ha => hq.zero a ?_⟩
        · have : (q ++ (s ++ t).flatten).Perm (q ++ (x :: r).filter fun i => !(x :: pickH m r).contains i) := hp2.trans (hp3.symm.trans (hpq.append_right _))
          exact (List.perm_append_left_iff _).mp this
        · simp only [List.mem_append] at ha; simp only [List.mem_append, List.mem_cons]; rcases ha with h | h <;> simp [h]
        · simp only [List.mem_append] at ha; simp only [List.mem_append, List.mem_cons]; rcases ha with h | h <;> simp [h]
      have hlt : (x :: pickH m r).length < (x :: r).length := by
        have h4 := hp3.length_eq
        rw [List.length_append] at h4
        have h5 : (s ++ t).flatten ≠ [] := by
          intro h0
          have : s ++ t = [] := by
            cases hst : s ++ t with
            | nil => rfl
            | cons a b =>
              rw [hst] at h0
              simp at h0
              exact absurd h0.1 (hq.ne a (by
                have : a ∈ s ++ t := by rw [hst]; simp
                simp only [List.mem_append] at this; simp only [List.mem_append, List.mem_cons]; rcases this with h | h <;> simp [h]))
          rw [List.append_eq_nil_iff] at this
          rw [this.1, this.2] at hs
          simp at hs
        have h6 := hrest.perm.length_eq
        have h7 : 0 < (s ++ t).flatten.length := List.length_pos_iff.mpr h5
        omega
      refine h3 m (List.mem_range.mpr hm1) _ fun b => ?_
      have h8 := (key m hz2).2 _ hrest
      rw [if_pos ⟨hlt, hz2⟩]
      simp only [List.length_append, List.length_cons] at h8 ⊢
      split
      · simp only [List.length_cons]; omega
      · omega
/-! parts that cannot be parted -/
def Atom (vs : List Int) : Prop := vs.sum = 0 ∧ ∀ s, s.Sublist vs → s ≠ [] → s.length < vs.length → s.sum ≠ 0
theorem sub_of_map {α β : Type} {f : α → β} {l : List α} : ∀ {s : List β}, s.Sublist (l.map f) → ∃ t : List α, t.Sublist l ∧ s = t.map f := by
  intro s h
  obtain ⟨t, h1, h2⟩ := List.sublist_map_iff.mp h
  exact ⟨t, h1, h2⟩
theorem atom_of {w : List Int} {l : List Nat} {qs : List (List Nat)} (h : Pts w l qs) (hm : ∀ ps, Pts w l ps → ps.length ≤ qs.length) {q : List Nat} (hq : q ∈ qs) : Atom (q.map fun i => w.getD i 0) := by
  refine ⟨h.zero q hq, fun s hs hne hlt hz => ?_⟩
  obtain ⟨t, ht, rfl⟩ := sub_of_map hs
  obtain ⟨u, hu⟩ := sub_perm ht
  obtain ⟨a, b, rfl⟩ := List.append_of_mem hq
  have hzt : sumW w t = 0 := hz
  have hzu : sumW w u = 0 := by
    have h8 := sumW_perm (w := w) hu
    have h9 := h.zero q hq
    rw [sumW_append, hzt] at h8
    omega
  have hne2 : u ≠ [] := by
    rintro rfl
    have := hu.length_eq
    simp only [List.length_append, List.length_map, List.length_nil] at this hlt
    omega
  have hp : Pts w l (t :: u :: (a ++ b)) := by
    refine ⟨?_, fun x hx => ?_, fun x hx => ?_⟩
    · refine List.Perm.trans ?_ h.perm
      simp only [List.flatten_cons, List.flatten_append]
      rw [← List.append_assoc]
      refine (hu.symm.append_right _).trans ?_
      rw [← List.append_assoc, ← List.append_assoc]
      exact (List.perm_append_comm).append_right _
    · simp only [List.mem_cons, List.mem_append] at hx
      rcases hx with rfl | rfl | hx | hx
      · intro h0; subst h0; exact hne rfl
      · exact hne2
      · exact h.ne x (by simp [hx])
      · exact h.ne x (by simp [hx])
    · simp only [List.mem_cons, List.mem_append] at hx
      rcases hx with rfl | rfl | hx | hx
      · exact hzt
      · exact hzu
      · exact h.zero x (by simp [hx])
      · exact h.zero x (by simp [hx])
  have := hm _ hp
  simp only [List.length_cons, List.length_append] at this
  omega
/-! transfers -/
def leP (a b : Int × Nat) : Bool := decide (a.1 < b.1) || (decide (a.1 = b.1) && decide (a.2 ≤ b.2))
theorem leP_trans {a b c : Int × Nat} (h1 : leP a b = true) (h2 : leP b c = true) : leP a c = true := by
  simp only [leP, Bool.or_eq_true, Bool.and_eq_true, decide_eq_true_eq] at *
  omega
theorem leP_total {a b : Int × Nat} : (leP a b || leP b a) = true := by
  simp only [leP, Bool.or_eq_true, Bool.and_eq_true, decide_eq_true_eq] at *
  omega
theorem leP_le {a b : Int × Nat} (h : leP a b = true) : a.1 ≤ b.1 := by
  simp only [leP, Bool.or_eq_true, Bool.and_eq_true, decide_eq_true_eq] at h
  omega
def someT (s : List (Int × Nat)) : Int := min (s.getD (s.length - 1) (0, 0)).1 (-(s.getD 0 (0, 0)).1)
def trT (s : List (Int × Nat)) : Nat × Nat × Int := ((s.getD (s.length - 1) (0, 0)).2, (s.getD 0 (0, 0)).2, someT s)
def nxT (s : List (Int × Nat)) : List (Int × Nat) := ((s.drop 1).take (s.length - 2) ++ [((s.getD (s.length - 1) (0, 0)).1 - someT s, (s.getD (s.length - 1) (0, 0)).2), ((s.getD 0 (0, 0)).1 + someT s, (s.getD 0 (0, 0)).2)]).filter fun p => decide (p.1 ≠ 0)
def trf : Nat → List (Int × Nat) → List (Nat × Nat × Int)
  | 0, _ => []
  | n + 1, l => if 1 < l.length then trT (l.mergeSort leP) :: trf n (nxT (l.mergeSort leP)) else []
def appT (c : List Int) (t : Nat × Nat × Int) : List Int := (c.set t.1 (c.getD t.1 0 - t.2.2)).set t.2.1 ((c.set t.1 (c.getD t.1 0 - t.2.2)).getD t.2.1 0 + t.2.2)
def Bd (M : Int) (c : List Int) : Prop := ∀ i, -M ≤ c.getD i 0 ∧ c.getD i 0 ≤ M
def RunT (M : Int) : List Int → List (Nat × Nat × Int) → Prop
  | c, [] => Bd M c
  | c, t :: ts => Bd M c ∧ t.1 < c.length ∧ t.2.1 < c.length ∧ t.1 ≠ t.2.1 ∧ 0 < t.2.2 ∧ t.2.2 ≤ M ∧ RunT M (appT c t) ts
theorem RunT.app {M : Int} : ∀ {ts us : List (Nat × Nat × Int)} {c : List Int}, RunT M c ts → RunT M (ts.foldl appT c) us → RunT M c (ts ++ us)
  | [], _, _, _, h => h
  | _ :: _, _, _, ⟨h1, h2, h3, h4, h5, h6, h7⟩, h => ⟨h1, h2, h3, h4, h5, h6, h7.app h⟩
theorem Atom.perm {a b : List Int} (h : a.Perm b) (A : Atom a) : Atom b := by
  have sp : ∀ {a b : List Int}, a.Perm b → a.sum = b.sum := fun h => by
    induction h with
    | nil => rfl
    | cons x _ ih => rw [List.sum_cons, List.sum_cons, ih]
    | swap x y l => simp only [List.sum_cons]; omega
    | trans _ _ a b => exact a.trans b
  refine ⟨by rw [← sp h]; exact A.1, fun s hs hne hlt hz => ?_⟩
  obtain ⟨t, h1, h2⟩ := List.exists_perm_sublist hs h.symm
  refine A.2 t h2 ?_ ?_ ?_
  · rintro rfl; exact hne (h1.symm.eq_nil)
  · rw [h1.length_eq, h.length_eq]; exact hlt
  · rw [sp h1]; exact hz
theorem Atom.ne0 {a : List Int} (A : Atom a) (h : 2 ≤ a.length) {x : Int} (hx : x ∈ a) : x ≠ 0 := by
  intro h0
  refine A.2 [x] (List.singleton_sublist.mpr hx) (by simp) (by simp; omega) ?_
  simp [h0]
theorem ends_of {α : Type} {s : List α} (h : 2 ≤ s.length) : ∃ a m b, s = a :: (m ++ [b]) := by
  cases s with
  | nil => simp at h
  | cons a r =>
    rcases List.eq_nil_or_concat r with hr | ⟨m, b, hr⟩
    · subst hr; simp at h
    · exact ⟨a, m, b, by rw [hr]; simp⟩
theorem getD_set {c : List Int} {i j : Nat} {x : Int} (h : i < c.length) : (c.set i x).getD j 0 = if j = i then x else c.getD j 0 := by
  simp only [List.getD_eq_getElem?_getD, List.getElem?_set]
  by_cases e : i = j
  · subst e; simp [h]
  · rw [if_neg e, if_neg (fun q => e q.symm)]
theorem appT_get {c : List Int} {t : Nat × Nat × Int} (h1 : t.1 < c.length) (h2 : t.2.1 < c.length) (hne : t.1 ≠ t.2.1) (j : Nat) : (appT c t).getD j 0 = if j = t.1 then c.getD t.1 0 - t.2.2 else if j = t.2.1 then c.getD t.2.1 0 + t.2.2 else c.getD j 0 := by
  unfold appT
  rw [getD_set (by rw [List.length_set]; exact h2), getD_set h1, getD_set h1]
  rw [if_neg hne.symm]
  by_cases e : j = t.1
  · rw [if_pos e, if_neg (by omega), if_pos e]
  · rw [if_neg e, if_neg e]
theorem appT_len {c : List Int} {t : Nat × Nat × Int} : (appT c t).length = c.length := by simp [appT]
theorem sum_pos_neg : ∀ {l : List Int}, (∀ x ∈ l, 0 ≤ x) → 0 ≤ l.sum
  | [], _ => by simp
  | x :: r, h => by
    have := sum_pos_neg (l := r) fun y hy => h y (List.mem_cons_of_mem _ hy)
    have := h x List.mem_cons_self
    rw [List.sum_cons]; omega
theorem trf_ok {M : Int} : ∀ (n : Nat) (l : List (Int × Nat)) (c : List Int), l.length ≤ n → Atom (l.map (·.1)) → l.length ≠ 1 → (l.map (·.2)).Nodup → (∀ p ∈ l, p.2 < c.length ∧ c.getD p.2 0 = p.1) → Bd M c →
    (trf n l).length = l.length - 1 ∧ RunT M c (trf n l) ∧ ((trf n l).foldl appT c).length = c.length ∧ ∀ i, ((trf n l).foldl appT c).getD i 0 = if i ∈ l.map (·.2) then 0 else c.getD i 0
  | 0, l, c, hl, A, h1, hn, hc, hb => by
    have : l = [] := List.length_eq_zero_iff.mp (by omega)
    subst this
    exact ⟨rfl, hb, rfl, fun i => by simp [trf]⟩
  | n + 1, l, c, hl, A, h1, hn, hc, hb => by
    by_cases h2 : 1 < l.length
    · simp only [trf]
      rw [if_pos h2]
      have hp : (l.mergeSort leP).Perm l := List.mergeSort_perm l leP
      have hs : (l.mergeSort leP).Pairwise fun a b => leP a b = true := List.pairwise_mergeSort (le := leP) (fun a b c => leP_trans) (fun a b => leP_total) l
      obtain ⟨lo, m, hi, e⟩ := ends_of (s := l.mergeSort leP) (by rw [hp.length_eq]; omega)
      rw [e] at hp hs ⊢
      have A2 : Atom ((lo :: (m ++ [hi])).map (·.1)) := A.perm (hp.map _).symm
      have hn2 : ((lo :: (m ++ [hi])).map (·.2)).Nodup := (hp.map _).nodup_iff.mpr hn
      have hc2 : ∀ p ∈ lo :: (m ++ [hi]), p.2 < c.length ∧ c.getD p.2 0 = p.1 := fun p h => hc p (hp.subset h)
      have hlen : (lo :: (m ++ [hi])).length = m.length + 2 := by simp
      have ll : l.length = m.length + 2 := by rw [← hp.length_eq, hlen]
      have g0 : (lo :: (m ++ [hi])).getD 0 (0, 0) = lo := rfl
      have g1 : (lo :: (m ++ [hi])).getD ((lo :: (m ++ [hi])).length - 1) (0, 0) = hi := by rw [hlen]; simp [List.getElem?_append_right]
      have g2 : (((lo :: (m ++ [hi])).drop 1).take ((lo :: (m ++ [hi])).length - 2)) = m := by rw [hlen]; simp
      have hne : ∀ p ∈ lo :: (m ++ [hi]), p.1 ≠ 0 := fun p h => A2.ne0 (by simp) (List.mem_map_of_mem h)
      have hge : ∀ p ∈ lo :: (m ++ [hi]), lo.1 ≤ p.1 := fun p h => by
        rcases List.mem_cons.mp h with rfl | h
        · omega
        · exact leP_le ((List.pairwise_cons.mp hs).1 p h)
      have hle : ∀ p ∈ lo :: (m ++ [hi]), p.1 ≤ hi.1 := fun p h => by
        have hs2 : (lo :: m ++ [hi]).Pairwise fun a b => leP a b = true := hs
        rw [List.pairwise_append] at hs2
        have h' : p ∈ lo :: m ++ [hi] := h
        rcases List.mem_append.mp h' with h | h
        · exact leP_le (hs2.2.2 p h hi (by simp))
        · rw [List.mem_singleton] at h; subst h; omega
      have hlo : lo.1 < 0 := by
        rcases Int.lt_or_le lo.1 0 with h | h
        · exact h
        · have h0 := hne lo (by simp)
          have h3 := sum_pos_neg (l := (m ++ [hi]).map (·.1)) fun x hx => by
            obtain ⟨p, hp, rfl⟩ := List.mem_map.mp hx
            have := hge p (List.mem_cons_of_mem _ hp)
            omega
          have h4 := A2.1
          rw [List.map_cons, List.sum_cons] at h4
          omega
      have hhi : 0 < hi.1 := by
        rcases Int.lt_or_le 0 hi.1 with h | h
        · exact h
        · have h3 := sum_pos_neg (l := (m ++ [hi]).map (fun p => -p.1)) fun x hx => by
            obtain ⟨p, hp, rfl⟩ := List.mem_map.mp hx
            have := hle p (List.mem_cons_of_mem _ hp)
            omega
          have h4 := A2.1
          have h5 : ∀ l : List (Int × Nat), (l.map fun p => -p.1).sum = -(l.map (·.1)).sum := fun l => by
            induction l with
            | nil => rfl
            | cons a b ih => simp only [List.map_cons, List.sum_cons, ih]; omega
          rw [h5] at h3
          rw [List.map_cons, List.sum_cons] at h4
          omega
      have hs0 : someT (lo :: (m ++ [hi])) = min hi.1 (-lo.1) := by unfold someT; rw [g0, g1]
      have ht : trT (lo :: (m ++ [hi])) = (hi.2, lo.2, min hi.1 (-lo.1)) := by unfold trT; rw [g0, g1, hs0]
      have hx : nxT (lo :: (m ++ [hi])) = (m ++ [(hi.1 - min hi.1 (-lo.1), hi.2), (lo.1 + min hi.1 (-lo.1), lo.2)]).filter fun p => decide (p.1 ≠ 0) := by unfold nxT; rw [g0, g1, g2, hs0]
      have hm : m.filter (fun p => decide (p.1 ≠ 0)) = m := by
        rw [List.filter_eq_self]
        intro p h
        simpa using hne p (by simp [h])
      rw [List.filter_append, hm] at hx
      have nd := List.nodup_cons.mp (show (lo.2 :: (m ++ [hi]).map (·.2)).Nodup from hn2)
      have ne1 : hi.2 ≠ lo.2 := fun h => nd.1 (by simp [h])
      have chi := hc2 hi (by simp)
      have clo := hc2 lo (by simp)
      have app := appT_get (c := c) (t := (hi.2, lo.2, min hi.1 (-lo.1))) chi.1 clo.1 ne1
      simp only [chi.2, clo.2] at app
      have hb2 : Bd M (appT c (hi.2, lo.2, min hi.1 (-lo.1))) := fun j => by
        rw [app j]
        have b1 := hb hi.2
        have b2 := hb lo.2
        rw [chi.2] at b1
        rw [clo.2] at b2
        have b3 := hb j
        split
        · omega
        · split
          · omega
          · exact b3
      have bM := hb hi.2
      rw [chi.2] at bM
      have nd2 : (m.map (·.2)).Nodup ∧ hi.2 ∉ m.map (·.2) ∧ lo.2 ∉ m.map (·.2) := by
        have q := nd.2
        rw [List.map_append, List.nodup_append] at q
        refine ⟨q.1, fun h => q.2.2 _ h hi.2 (by simp) rfl, fun h => nd.1 (by simp only [List.map_append, List.mem_append]; exact .inl h)⟩
      have cm : ∀ p ∈ m, p.2 < (appT c (hi.2, lo.2, min hi.1 (-lo.1))).length ∧ (appT c (hi.2, lo.2, min hi.1 (-lo.1))).getD p.2 0 = p.1 := fun p hp => by
        have q := hc2 p (by simp [hp])
        refine ⟨by rw [appT_len]; exact q.1, ?_⟩
        have m1 : p.2 ≠ hi.2 := fun h => nd2.2.1 (h ▸ List.mem_map_of_mem hp)
        have m2 : p.2 ≠ lo.2 := fun h => nd2.2.2 (h ▸ List.mem_map_of_mem hp)
        rw [app, if_neg m1, if_neg m2]
        exact q.2
      have mem : ∀ i, i ∈ l.map (·.2) ↔ i = hi.2 ∨ i = lo.2 ∨ i ∈ m.map (·.2) := fun i => by
        rw [← (hp.map (·.2)).mem_iff]
        simp only [List.map_cons, List.map_append, List.mem_cons, List.mem_append, List.map_nil, List.not_mem_nil, or_false]
        constructor
        · rintro (h | h | h)
          · exact .inr (.inl h)
          · exact .inr (.inr h)
          · exact .inl h
        · rintro (h | h | h)
          · exact .inr (.inr h)
          · exact .inl h
          · exact .inr (.inl h)
      have fin : ∀ (z : Int × Nat) (hz : nxT (lo :: (m ++ [hi])) = m ++ [z]) (h1 : z.1 = lo.1 + hi.1) (h2 : (z.2 = hi.2 ∧ lo.1 + min hi.1 (-lo.1) = 0) ∨ (z.2 = lo.2 ∧ hi.1 - min hi.1 (-lo.1) = 0)) (hm0 : m ≠ []),
          (trT (lo :: (m ++ [hi])) :: trf n (nxT (lo :: (m ++ [hi])))).length = l.length - 1 ∧ RunT M c (trT (lo :: (m ++ [hi])) :: trf n (nxT (lo :: (m ++ [hi])))) ∧ ((trT (lo :: (m ++ [hi])) :: trf n (nxT (lo :: (m ++ [hi])))).foldl appT c).length = c.length ∧ ∀ i, ((trT (lo :: (m ++ [hi])) :: trf n (nxT (lo :: (m ++ [hi])))).foldl appT c).getD i 0 = if i ∈ l.map (·.2) then 0 else c.getD i 0 := fun z hz z1 z2 hm0 => by
        have ml : 0 < m.length := List.length_pos_iff.mpr hm0
        have A3 : Atom ((m ++ [z]).map (·.1)) := by
          refine ⟨?_, fun s hs hne2 hlt hz0 => ?_⟩
          · have := A2.1
            simp only [List.map_cons, List.map_append, List.sum_cons, List.sum_append, List.map_nil, List.sum_nil] at this ⊢
            omega
          · rw [List.map_append] at hs
            obtain ⟨s1, s2, rfl, hs1, hs2⟩ := List.sublist_append_iff.mp hs
            simp only [List.map_cons, List.map_nil] at hs2
            rcases List.sublist_cons_iff.mp hs2 with h | ⟨r, rfl, h⟩
            · have : s2 = [] := List.sublist_nil.mp h
              subst this
              rw [List.append_nil] at hne2 hlt hz0
              refine A2.2 s1 ?_ hne2 ?_ hz0
              · rw [List.map_cons, List.map_append]
                exact (hs1.trans (List.sublist_append_left _ _)).cons _
              · have := hs1.length_le
                simp only [List.length_map, List.length_cons, List.length_append] at this ⊢
                omega
            · have : r = [] := List.sublist_nil.mp h
              subst this
              refine A2.2 (lo.1 :: (s1 ++ [hi.1])) ?_ (by simp) ?_ ?_
              · rw [List.map_cons, List.map_append]
                exact (hs1.append (List.Sublist.refl _)).cons_cons _
              · simp only [List.length_map, List.length_cons, List.length_append, List.length_nil] at hlt ⊢
                omega
              · simp only [List.sum_cons, List.sum_append, List.sum_nil] at hz0 ⊢
                omega
        have hzc : z.2 < (appT c (hi.2, lo.2, min hi.1 (-lo.1))).length ∧ (appT c (hi.2, lo.2, min hi.1 (-lo.1))).getD z.2 0 = z.1 := by
          rw [appT_len, app]
          rcases z2 with ⟨q, q2⟩ | ⟨q, q2⟩
          · rw [q, if_pos rfl]; exact ⟨chi.1, by omega⟩
          · rw [q, if_neg ne1.symm, if_pos rfl]; exact ⟨clo.1, by omega⟩
        obtain ⟨i1, i2, i3, i4⟩ := trf_ok (M := M) n (m ++ [z]) (appT c (hi.2, lo.2, min hi.1 (-lo.1))) (by simp only [List.length_append, List.length_singleton]; omega) A3 (by simp only [List.length_append, List.length_singleton]; omega) (by
          rw [List.map_append, List.nodup_append]
          refine ⟨nd2.1, by simp, fun a ha b hb => ?_⟩
          simp only [List.map_cons, List.map_nil, List.mem_singleton] at hb
          subst hb
          rintro rfl
          rcases z2 with ⟨q, _⟩ | ⟨q, _⟩
          · exact nd2.2.1 (q ▸ ha)
          · exact nd2.2.2 (q ▸ ha)) (fun p hp => by
          rcases List.mem_append.mp hp with hp | hp
          · exact cm p hp
          · rw [List.mem_singleton] at hp; subst hp; exact hzc) hb2
        rw [hz, ht]
        refine ⟨?_, ⟨hb, chi.1, clo.1, ne1, by dsimp only; omega, by dsimp only; omega, i2⟩, ?_, fun i => ?_⟩
        · rw [List.length_cons, i1, List.length_append, List.length_singleton]; omega
        · rw [List.foldl_cons, i3, appT_len]
        · rw [List.foldl_cons, i4 i, app i]
          simp only [List.map_append, List.mem_append, List.map_cons, List.map_nil, List.mem_singleton, mem i]
          by_cases a1 : i = hi.2
          · rw [if_pos a1, if_pos (show i = hi.2 ∨ i = lo.2 ∨ i ∈ m.map (·.2) from .inl a1)]
            split
            · rfl
            · next h =>
              rcases z2 with ⟨q, q2⟩ | ⟨q, q2⟩
              · exact absurd (.inr (a1.trans q.symm)) h
              · exact q2
          · rw [if_neg a1]
            by_cases a2 : i = lo.2
            · rw [if_pos a2, if_pos (show i = hi.2 ∨ i = lo.2 ∨ i ∈ m.map (·.2) from .inr (.inl a2))]
              split
              · rfl
              · next h =>
                rcases z2 with ⟨q, q2⟩ | ⟨q, q2⟩
                · exact q2
                · exact absurd (.inr (a2.trans q.symm)) h
            · rw [if_neg a2]
              by_cases a3 : i ∈ m.map (·.2)
              · rw [if_pos (show i ∈ m.map (·.2) ∨ i = z.2 from .inl a3), if_pos (show i = hi.2 ∨ i = lo.2 ∨ i ∈ m.map (·.2) from .inr (.inr a3))]
              · rw [if_neg, if_neg]
                · rintro (h | h | h)
                  · exact a1 h
                  · exact a2 h
                  · exact a3 h
                · rintro (h | h)
                  · exact a3 h
                  · rcases z2 with ⟨q, q2⟩ | ⟨q, q2⟩
                    · exact a1 (h.trans q)
                    · exact a2 (h.trans q)
      by_cases hm0 : m = []
      · subst hm0
        have hsum := A2.1
        simp only [List.nil_append, List.map_cons, List.map_nil, List.sum_cons, List.sum_nil] at hsum
        have e1 : hi.1 - min hi.1 (-lo.1) = 0 := by omega
        have e2 : lo.1 + min hi.1 (-lo.1) = 0 := by omega
        have hz : nxT (lo :: ([] ++ [hi])) = [] := by
          rw [hx]; simp [e1, e2]
        have hf : trf n [] = [] := by cases n <;> simp [trf]
        rw [hz, ht, hf]
        simp only [List.length_nil] at ll
        refine ⟨by simp only [List.length_singleton]; omega, ⟨hb, chi.1, clo.1, ne1, by dsimp only; omega, by dsimp only; omega, hb2⟩, appT_len, fun i => ?_⟩
        simp only [List.foldl_cons, List.foldl_nil]
        rw [app i]
        simp only [mem i, List.map_nil, List.not_mem_nil, or_false]
        by_cases a1 : i = hi.2
        · rw [if_pos a1, if_pos (.inl a1)]; exact e1
        · rw [if_neg a1]
          by_cases a2 : i = lo.2
          · rw [if_pos a2, if_pos (.inr a2)]; exact e2
          · rw [if_neg a2, if_neg]
            rintro (h | h)
            · exact a1 h
            · exact a2 h
      · have hne3 : lo.1 + hi.1 ≠ 0 := by
          have q := A2.2 [lo.1, hi.1] (by
            rw [List.map_cons, List.map_append]
            exact ((List.nil_sublist _).append (List.Sublist.refl [hi.1])).cons_cons _) (by simp) (by
            have := List.length_pos_iff.mpr hm0
            simp only [List.length_map, List.length_cons, List.length_append, List.length_nil]; omega)
          simpa using q
        rcases Int.lt_or_le 0 (lo.1 + hi.1) with h | h
        · have e0 : min hi.1 (-lo.1) = -lo.1 := by omega
          refine fin (hi.1 + lo.1, hi.2) ?_ (by dsimp only; omega) (.inl ⟨rfl, by omega⟩) hm0
          rw [hx, e0]
          have e1 : hi.1 - -lo.1 = hi.1 + lo.1 := by omega
          have e2 : lo.1 + -lo.1 = 0 := by omega
          have e3 : hi.1 + lo.1 ≠ 0 := by omega
          rw [e1, e2]
          simp [e3]
        · have e0 : min hi.1 (-lo.1) = hi.1 := by omega
          refine fin (lo.1 + hi.1, lo.2) ?_ rfl (.inr ⟨rfl, by omega⟩) hm0
          rw [hx, e0]
          have e1 : hi.1 - hi.1 = 0 := by omega
          rw [e1]
          simp [hne3]
    · have : l = [] := List.length_eq_zero_iff.mp (by omega)
      subst this
      exact ⟨by simp [trf], by simp only [trf]; exact hb, by simp [trf], fun i => by simp [trf]⟩

/-! ### common parts, fractions -/
theorem gcd_steps {β : Type} {B : Nat} (W : Nat → Nat → Nat → β) (nx : Nat → β) (h0 : ∀ f a, W (f + 1) a 0 = nx a) (hs : ∀ f a b, a < B → b < B → b ≠ 0 → W (f + 1) a b = W f b (a % b)) : ∀ (k f a b : Nat), a < B → b < B → b < 2 ^ k → 2 * k + 1 ≤ f → W f a b = nx (Nat.gcd a b)
  | 0, f, a, b, ha, hb, hk, hf => by
    have : b = 0 := by simp at hk; omega
    subst this
    obtain ⟨f', rfl⟩ : ∃ f', f = f' + 1 := ⟨f - 1, by omega⟩
    rw [h0, Nat.gcd_zero_right]
  | k + 1, f, a, b, ha, hb, hk, hf => by
    obtain ⟨f', rfl⟩ : ∃ f', f = f' + 2 := ⟨f - 2, by omega⟩
    by_cases e : b = 0
    · subst e; rw [h0, Nat.gcd_zero_right]
    · rw [hs _ _ _ ha hb e]
      have hr : a % b < b := Nat.mod_lt _ (by omega)
      by_cases e2 : a % b = 0
      · rw [e2, h0]
        rw [Nat.gcd_comm, Nat.gcd_rec, e2, Nat.gcd_zero_left]
      · rw [hs _ _ _ hb (by omega) e2]
        have hr2 : b % (a % b) < a % b := Nat.mod_lt _ (by omega)
        have h2 : b % (a % b) < 2 ^ k := by
          have hd := Nat.div_add_mod b (a % b)
          have hq : 1 ≤ b / (a % b) := Nat.div_pos (by omega) (by omega)
          have : a % b * 1 ≤ a % b * (b / (a % b)) := Nat.mul_le_mul_left _ hq
          rw [Nat.pow_succ] at hk
          omega
        rw [gcd_steps W nx h0 hs k f' (a % b) (b % (a % b)) (by omega) (by omega) h2 (by omega)]
        rw [Nat.gcd_comm (a % b), ← Nat.gcd_rec (a % b) b, ← Nat.gcd_rec b a, Nat.gcd_comm]
theorem common_0 {n f a : Nat} : whlLoop [] (evT (CL n) L.gl f_common_T1) (exSs (CL n) L.gl f_common_L1) (f + 1) [some (.val (.int a)), some (.val (.int (0 : Nat)))] = .nx [some (.val (.int a)), some (.val (.int 0))] := by
  simp [whlLoop, f_common_T1, Fl.bindO]
theorem common_S {n f a b : Nat} (hb : b ≠ 0) : whlLoop [] (evT (CL n) L.gl f_common_T1) (exSs (CL n) L.gl f_common_L1) (f + 1) [some (.val (.int a)), some (.val (.int b))] = whlLoop [] (evT (CL n) L.gl f_common_T1) (exSs (CL n) L.gl f_common_L1) f [some (.val (.int b)), some (.val (.int (a % b : Nat)))] := by
  have h0 : (0 : Int) < b := by omega
  have h0' : 0 < b := by omega
  have t : evT (CL n) L.gl f_common_T1 [some (.val (.int a)), some (.val (.int b))] = .ok true [some (.val (.int a)), some (.val (.int b))] := by
    simp [f_common_T1, hb]
  have s : exSs (CL n) L.gl f_common_L1 [some (.val (.int a)), some (.val (.int b))] = .nx [some (.val (.int b)), some (.val (.int (a % b : Nat)))] := by
    simp [f_common_L1, h0, h0']
  simp only [whlLoop, t, Fl.bindO, if_true, s, killS_nil]
theorem abs_wide (i : Int) : (if i < 0 then -i else i) = (i.natAbs : Int) := by
  split <;> omega
theorem sp_commonW {n : Nat} {a b : Int} (h : b.natAbs < 2 ^ 128) : CL (n + 1) "common" [.val (.int a), .val (.int b)] = .ok (.val (.int (Int.gcd a b))) [] := by
  rw [call_common]
  have e : whlLoop [] (evT (CL n) L.gl f_common_T1) (exSs (CL n) L.gl f_common_L1) 4096 [some (.val (.int (a.natAbs : Nat))), some (.val (.int (b.natAbs : Nat)))] = .nx [some (.val (.int (Nat.gcd a.natAbs b.natAbs : Nat))), some (.val (.int 0))] :=
    gcd_steps (B := max (a.natAbs + 1) (b.natAbs + 1)) (fun f a b => whlLoop [] (evT (CL n) L.gl f_common_T1) (exSs (CL n) L.gl f_common_L1) f [some (.val (.int (a : Nat))), some (.val (.int (b : Nat)))]) (fun g => .nx [some (.val (.int (g : Nat))), some (.val (.int 0))]) (fun f a => common_0) (fun f a b _ _ hb => common_S hb) 128 4096 a.natAbs b.natAbs (by omega) (by omega) h (by omega)
  simp [f_common, abs_wide, e, Int.gcd]
theorem gcd_posR {a b : Int} (hb : 0 < b) : (0 : Int) < Int.gcd a b := by
  have : 0 < Int.gcd a b := Int.gcd_pos_of_ne_zero_right _ (by omega)
  omega
theorem gcd_leR {a b : Int} (hb : 0 < b) : (Int.gcd a b : Int) ≤ b := by
  have h : (Int.gcd a b : Int) ∣ b := Int.gcd_dvd_right a b
  exact Int.le_of_dvd hb h
theorem sp_fractionW {n : Nat} {a b : Int} (hb : 0 < b) (h : b < 2 ^ 120) : CL (n + 2) "fraction" [.val (.int a), .val (.int b)] = .ok (.val (frD (frc a b))) [] := by
  rw [call_fraction]
  have h1 := gcd_posR (a := a) hb
  have h2 := gcd_leR (a := a) hb
  have h3 : (Int.gcd a b : Int) < 2 ^ 128 := by omega
  have e : CL (n + 1) "common" [.val (.int a), .val (.int b)] = _ := sp_commonW (n := n) (by omega)
  have d1 := binD_fdivW (i := a) h1 h3
  have d2 := binD_fdivW (i := b) h1 h3
  generalize hg : (Int.gcd a b : Int) = g at *
  simp only [f_fraction, frc, hg]
  simp [e, d1, d2]
theorem wide_of {i : Int} (h1 : -(2 ^ 128) < i) (h2 : i < 2 ^ 128) : wideI i = true := by
  unfold wideI
  simp only [h1, h2, decide_true, Bool.and_self]
theorem lcommon_0 {n f a : Nat} : whlLoop [] (evT (CL n) L.gl f__law_common_T1) (exSs (CL n) L.gl f__law_common_L1) (f + 1) [some (.val (.int a)), some (.val (.int (0 : Nat)))] = .nx [some (.val (.int a)), some (.val (.int 0))] := by
  simp [whlLoop, f__law_common_T1, Fl.bindO]
theorem lcommon_S {n f a b : Nat} (ha : a < 2 ^ 127) (hb2 : b < 2 ^ 127) (hb : b ≠ 0) : whlLoop [] (evT (CL n) L.gl f__law_common_T1) (exSs (CL n) L.gl f__law_common_L1) (f + 1) [some (.val (.int a)), some (.val (.int b))] = whlLoop [] (evT (CL n) L.gl f__law_common_T1) (exSs (CL n) L.gl f__law_common_L1) f [some (.val (.int b)), some (.val (.int (a % b : Nat)))] := by
  have h0 : (0 : Int) < b := by omega
  have h0' : 0 < b := by omega
  have h3 : (b : Int) < 2 ^ 128 := by omega
  have t : evT (CL n) L.gl f__law_common_T1 [some (.val (.int a)), some (.val (.int b))] = .ok true [some (.val (.int a)), some (.val (.int b))] := by
    simp [f__law_common_T1, hb]
  have hm : (a : Int) - (a : Int) / (b : Int) * (b : Int) = ((a % b : Nat) : Int) := by
    rw [Int.natCast_emod, Int.emod_def, Int.mul_comm]
  have d1 := binD_fdivW (i := (a : Int)) h0 h3
  have hq0 : 0 ≤ (a : Int) / b := Int.ediv_nonneg (by omega) (by omega)
  have hq1 : (a : Int) / b ≤ a := Int.ediv_le_self _ (by omega)
  have w1 : wideI ((a : Int) / b) = true := wide_of (by omega) (by omega)
  have w2 : wideI (b : Int) = true := wide_of (by omega) (by omega)
  have s : exSs (CL n) L.gl f__law_common_L1 [some (.val (.int a)), some (.val (.int b))] = .nx [some (.val (.int b)), some (.val (.int (a % b : Nat)))] := by
    rw [← hm]
    generalize hq : (a : Int) / b = q at *
    simp [f__law_common_L1, d1, w1, w2]
  simp only [whlLoop, t, Fl.bindO, if_true, s, killS_nil]
theorem sp_lcommon {n : Nat} {a b : Int} (ha : a.natAbs < 2 ^ 127) (h : b.natAbs < 2 ^ 127) : CL (n + 1) "_law_common" [.val (.int a), .val (.int b)] = .ok (.val (.int (Int.gcd a b))) [] := by
  rw [call__law_common]
  have e : whlLoop [] (evT (CL n) L.gl f__law_common_T1) (exSs (CL n) L.gl f__law_common_L1) 4096 [some (.val (.int (a.natAbs : Nat))), some (.val (.int (b.natAbs : Nat)))] = .nx [some (.val (.int (Nat.gcd a.natAbs b.natAbs : Nat))), some (.val (.int 0))] :=
    gcd_steps (B := 2 ^ 127) (fun f a b => whlLoop [] (evT (CL n) L.gl f__law_common_T1) (exSs (CL n) L.gl f__law_common_L1) f [some (.val (.int (a : Nat))), some (.val (.int (b : Nat)))]) (fun g => .nx [some (.val (.int (g : Nat))), some (.val (.int 0))]) (fun f a => lcommon_0) (fun f a b h1 h2 hb => lcommon_S h1 h2 hb) 127 4096 a.natAbs b.natAbs ha h h (by omega)
  simp [f__law_common, abs_wide, e, Int.gcd]
theorem sp_lfractionW {n : Nat} {a b : Int} (ha : a.natAbs < 2 ^ 127) (hb : 0 < b) (h : b < 2 ^ 120) : CL (n + 2) "_law_fraction" [.val (.int a), .val (.int b)] = .ok (.val (frD (frc a b))) [] := by
  rw [call__law_fraction]
  have h1 := gcd_posR (a := a) hb
  have h2 := gcd_leR (a := a) hb
  have h3 : (Int.gcd a b : Int) < 2 ^ 128 := by omega
  have e : CL (n + 1) "_law_common" [.val (.int a), .val (.int b)] = _ := sp_lcommon (n := n) ha (by omega)
  have d1 := binD_fdivW (i := a) h1 h3
  have d2 := binD_fdivW (i := b) h1 h3
  generalize hg : (Int.gcd a b : Int) = g at *
  simp only [f__law_fraction, frc, hg]
  simp [e, d1, d2]
theorem sp_lplus {n : Nat} {a b c d : Int} (hb : 0 < b) (hb2 : b < 2 ^ 60) (hd : 0 < d) (hd2 : d < 2 ^ 60) (hn : (a * d + c * b).natAbs < 2 ^ 127) (hp : 0 < b * d) (hp2 : b * d < 2 ^ 120) : CL (n + 3) "_law_plus" [.val (frD (a, b)), .val (frD (c, d))] = .ok (.val (frD (frc (a * d + c * b) (b * d)))) [] := by
  rw [call__law_plus]
  have e : CL (n + 2) "_law_fraction" [.val (.int (a * d + c * b)), .val (.int (b * d))] = _ := sp_lfractionW (n := n) hn hp hp2
  have s1 : smallI b = true := smallI_in (by omega) (by omega)
  have s2 : smallI d = true := smallI_in (by omega) (by omega)
  simp [f__law_plus, s1, s2, e]
/-! ### fractions as they stand -/
theorem frc_mul {a b k : Int} (hk : 0 < k) : frc (a * k) (b * k) = frc a b := by
  unfold frc
  have e : Int.gcd (a * k) (b * k) = Int.gcd a b * k.natAbs := Int.gcd_mul_right a k b
  rw [e]
  have e2 : ((Int.gcd a b * k.natAbs : Nat) : Int) = (Int.gcd a b : Int) * k := by
    rw [Int.natCast_mul]
    congr 1
    omega
  rw [e2, Int.mul_ediv_mul_of_pos_left _ _ hk, Int.mul_ediv_mul_of_pos_left _ _ hk]
theorem frc_eq {a b c d : Int} (hb : 0 < b) (hd : 0 < d) (h : a * d = c * b) : frc a b = frc c d := by
  rw [← frc_mul (a := a) (b := b) hd, ← frc_mul (a := c) (b := d) hb, h, Int.mul_comm b d]
theorem frc_ok {a b : Int} (hb : 0 < b) : ∃ g : Int, 0 < g ∧ a = (frc a b).1 * g ∧ b = (frc a b).2 * g ∧ 0 < (frc a b).2 ∧ (frc a b).2 ≤ b := by
  have h1 := gcd_posR (a := a) hb
  have e1 : a / (Int.gcd a b : Int) * (Int.gcd a b : Int) = a := Int.ediv_mul_cancel (Int.gcd_dvd_left a b)
  have e2 : b / (Int.gcd a b : Int) * (Int.gcd a b : Int) = b := Int.ediv_mul_cancel (Int.gcd_dvd_right a b)
  refine ⟨(Int.gcd a b : Int), h1, e1.symm, e2.symm, ?_, Int.ediv_le_self _ (by omega)⟩
  exact Int.ediv_pos_of_pos_of_dvd hb (by omega) (Int.gcd_dvd_right a b)
theorem frc_self {a b : Int} (hb : 0 < b) : frc (frc a b).1 (frc a b).2 = frc a b := by
  obtain ⟨g, g0, e1, e2, e3, _⟩ := frc_ok (a := a) hb
  refine frc_eq e3 hb ?_
  generalize (frc a b).1 = x at *
  generalize (frc a b).2 = y at *
  subst e1 e2
  rw [Int.mul_comm y g, ← Int.mul_assoc]
theorem frc_neg {a b : Int} (hb : 0 < b) : frc (-a) b = (-(frc a b).1, (frc a b).2) := by
  unfold frc
  have e : Int.gcd (-a) b = Int.gcd a b := by simp [Int.gcd]
  rw [e, Int.neg_ediv_of_dvd (Int.gcd_dvd_left a b)]
theorem frc_plus {a b P : Int} (hP : 0 < P) : frc ((frc a P).1 * (frc b P).2 + (frc b P).1 * (frc a P).2) ((frc a P).2 * (frc b P).2) = frc (a + b) P := by
  obtain ⟨g, g0, e1, e2, e3, _⟩ := frc_ok (a := a) hP
  obtain ⟨k, k0, f1, f2, f3, _⟩ := frc_ok (a := b) hP
  refine frc_eq (Int.mul_pos e3 f3) hP ?_
  generalize (frc a P).1 = x at *
  generalize (frc a P).2 = y at *
  generalize (frc b P).1 = u at *
  generalize (frc b P).2 = v at *
  have h1 : x * P = a * y := by rw [e1, e2, Int.mul_comm y g, ← Int.mul_assoc]
  have h2 : u * P = b * v := by rw [f1, f2, Int.mul_comm v k, ← Int.mul_assoc]
  rw [Int.add_mul, Int.add_mul]
  congr 1
  · rw [Int.mul_right_comm, h1, Int.mul_assoc]
  · rw [Int.mul_right_comm, h2, Int.mul_assoc, Int.mul_comm v y]
theorem frc_pos {a b : Int} (hb : 0 < b) (ha : 0 < a) : 0 < (frc a b).1 := by
  obtain ⟨g, g0, e1, _⟩ := frc_ok (a := a) hb
  rcases Int.lt_or_le 0 (frc a b).1 with h | h
  · exact h
  · have : (frc a b).1 * g ≤ 0 := Int.mul_nonpos_of_nonpos_of_nonneg h (by omega)
    omega
theorem frc_abs {a b : Int} (hb : 0 < b) : (frc a b).1.natAbs ≤ a.natAbs := by
  obtain ⟨g, g0, e1, _⟩ := frc_ok (a := a) hb
  have : a.natAbs = (frc a b).1.natAbs * g.natAbs := by rw [← Int.natAbs_mul, ← e1]
  rw [this]
  exact Nat.le_mul_of_pos_right _ (by omega)
theorem frc_zero {b : Int} (hb : 0 < b) : frc 0 b = (0, 1) := by
  unfold frc
  have e : Int.gcd 0 b = b.natAbs := Int.gcd_zero_left b
  rw [e]
  have e2 : ((b.natAbs : Nat) : Int) = b := by omega
  rw [e2, Int.zero_ediv, Int.ediv_self (by omega)]

/-! ### debts as whole numbers -/
def ten12 : Int := 1000000000000
structure FrOk (Pt : Int) (q : Int × Int) : Prop where
  pos : 0 < q.2
  one : Int.gcd q.1 q.2 = 1
  dvd : q.2 ∣ Pt
theorem gcd_pair {a b : Int} (hb : 0 < b) : Int.gcd (frc a b).1 (frc a b).2 = 1 := by
  have h := frc_self (a := a) hb
  obtain ⟨_, _, _, _, e3, _⟩ := frc_ok (a := a) hb
  have h1 := gcd_posR (a := (frc a b).1) e3
  have h2 : (frc a b).2 / (Int.gcd (frc a b).1 (frc a b).2 : Int) = (frc a b).2 := by
    have := congrArg Prod.snd h
    exact this
  generalize (frc a b).2 = y at *
  generalize hg : Int.gcd (frc a b).1 y = g at *
  have h3 : (g : Int) ∣ y := by rw [← hg]; exact Int.gcd_dvd_right _ _
  have h4 := Int.ediv_mul_cancel h3
  rw [h2] at h4
  have h5 : y * ((g : Int) - 1) = 0 := by rw [Int.mul_sub, h4]; omega
  rcases Int.mul_eq_zero.mp h5 with h6 | h6 <;> omega
theorem frOk_of {a b : Int} (hb : 0 < b) : FrOk b (frc a b) := by
  obtain ⟨g, g0, e1, e2, e3, _⟩ := frc_ok (a := a) hb
  exact ⟨e3, gcd_pair hb, ⟨g, e2⟩⟩
@[simp] theorem sp_isfr {n : Nat} {a b : Int} (h1 : 0 < b) (h2 : b < 2 ^ 120) : CL (n + 2) "is_fraction" [.val (.tup [.int a, .int b])] = .ok (.val (.bl (decide (Int.gcd a b = 1)))) [] := by
  rw [call_is_fraction]
  have e : CL (n + 1) "common" [.val (.int a), .val (.int b)] = _ := sp_commonW (n := n) (by omega)
  have h3 : (1 : Int) ≤ b := by omega
  simp [f_is_fraction, e, h3, eqD]
  omega
theorem sp_isfr0 {n : Nat} : CL (n + 2) "is_fraction" [.val (.tup [.int 0, .int 0])] = .ok (.val (.bl false)) [] := by
  rw [call_is_fraction]
  simp [f_is_fraction]
theorem sp_isfrT {n : Nat} : CL (n + 2) "is_fraction" [.val (.tup [.bl true, .int 1])] = .ok (.val (.bl false)) [] := by
  rw [call_is_fraction]
  have e : CL (n + 1) "is_integer" [.val (.bl true)] = _ := sp_is_integer rfl (by intros; contradiction)
  simp [f_is_fraction, e, isI]
def lcm1 (u : Int) (q : Int × Int) : Int := u * q.2 / (Int.gcd u q.2 : Int)
def lcmF (u : Int) (qs : List (Int × Int)) : Int := qs.foldl lcm1 u
theorem lcm1_ok {Pt u : Int} {q : Int × Int} (hP : 0 < Pt) (h0 : 0 < u) (hL : u ∣ Pt) (hq : FrOk Pt q) : 0 < lcm1 u q ∧ lcm1 u q ∣ Pt ∧ u ∣ lcm1 u q ∧ q.2 ∣ lcm1 u q := by
  have hg := gcd_posR (a := u) hq.pos
  have d1 : (Int.gcd u q.2 : Int) ∣ u := Int.gcd_dvd_left _ _
  have d2 : (Int.gcd u q.2 : Int) ∣ q.2 := Int.gcd_dvd_right _ _
  have e1 : lcm1 u q = u * (q.2 / (Int.gcd u q.2 : Int)) := Int.mul_ediv_assoc _ d2
  have e2 : lcm1 u q = q.2 * (u / (Int.gcd u q.2 : Int)) := by unfold lcm1; rw [Int.mul_comm]; exact Int.mul_ediv_assoc _ d1
  have h1 : 0 < q.2 / (Int.gcd u q.2 : Int) := Int.ediv_pos_of_pos_of_dvd hq.pos (by omega) d2
  refine ⟨by rw [e1]; exact Int.mul_pos h0 h1, ?_, ⟨_, e1⟩, ⟨_, e2⟩⟩
  -- the least common multiple divides every common multiple
  have hl : (Int.lcm u q.2 : Int) ∣ Pt := Int.coe_lcm_dvd hL hq.dvd
  have e3 : (Int.lcm u q.2 : Int) = lcm1 u q := by
    have h2 : (Int.gcd u q.2 : Int) * (Int.lcm u q.2 : Int) = (u * q.2).natAbs := by
      rw [← Int.natCast_mul, Int.gcd_mul_lcm, Int.natAbs_mul]
    have h3 : ((u * q.2).natAbs : Int) = u * q.2 := by
      have := Int.mul_pos h0 hq.pos
      omega
    rw [h3] at h2
    unfold lcm1
    rw [← h2, Int.mul_ediv_cancel_left _ (by omega)]
  rw [← e3]; exact hl
theorem lcmF_ok {Pt : Int} (hP : 0 < Pt) : ∀ {qs : List (Int × Int)} {u : Int}, 0 < u → u ∣ Pt → (∀ q ∈ qs, FrOk Pt q) → 0 < lcmF u qs ∧ lcmF u qs ∣ Pt ∧ u ∣ lcmF u qs ∧ ∀ q ∈ qs, q.2 ∣ lcmF u qs
  | [], u, h0, hL, _ => ⟨h0, hL, Int.dvd_refl _, by simp⟩
  | q :: qs, u, h0, hL, hq => by
    obtain ⟨a1, a2, a3, a4⟩ := lcm1_ok hP h0 hL (hq q List.mem_cons_self)
    obtain ⟨b1, b2, b3, b4⟩ := lcmF_ok hP (qs := qs) a1 a2 fun r hr => hq r (List.mem_cons_of_mem _ hr)
    refine ⟨b1, b2, Int.dvd_trans a3 b3, fun r hr => ?_⟩
    rcases List.mem_cons.mp hr with rfl | hr
    · exact Int.dvd_trans a4 b3
    · exact b4 r hr
section
variable {n : Nat} {Pt : Int}
theorem wd_L {d0 : D} {x3 x4 x5 : Option Cell} {ds : List D} (hP : 0 < Pt) (hP2 : Pt ≤ ten12) : ∀ {qs : List (Int × Int)} {u : Int}, 0 < u → u ∣ Pt → (∀ q ∈ qs, FrOk Pt q) →
    forLoop (.one 2) [2] (exSs (CL (n + 2)) L.gl f_whole_debts_L1) (qs.map frD ++ ds) [some (.val (d0)), some (.val (.int u)), none, x3, x4, x5] = forLoop (.one 2) [2] (exSs (CL (n + 2)) L.gl f_whole_debts_L1) ds [some (.val (d0)), some (.val (.int (lcmF u qs))), none, x3, x4, x5]
  | [], u, _, _, _ => rfl
  | q :: qs, u, h0, hL, hq => by
    have hq0 := hq q List.mem_cons_self
    obtain ⟨a1, a2, a3, a4⟩ := lcm1_ok hP h0 hL hq0
    have hPt : Pt < 2 ^ 60 := by unfold ten12 at hP2; omega
    have l1 : u ≤ Pt := Int.le_of_dvd hP hL
    have l2 : q.2 ≤ Pt := Int.le_of_dvd hP hq0.dvd
    obtain ⟨qa, qb⟩ := q
    have p0 : 0 < qb := hq0.pos
    have e0 : CL (n + 2) "is_fraction" [.val (.tup [.int qa, .int qb])] = _ := sp_isfr (n := n) (a := qa) (b := qb) p0 (by dsimp only at l2; omega)
    have hone : Int.gcd qa qb = 1 := hq0.one
    have e1 : CL (n + 2) "common" [.val (.int u), .val (.int qb)] = _ := sp_commonW (n := n + 1) (a := u) (b := qb) (by dsimp only at l2; omega)
    have hg1 := gcd_posR (a := u) p0
    have hg2 := gcd_leR (a := u) p0
    have d1 := binD_fdivW (i := u * qb) hg1 (by dsimp only at l2; omega)
    have s1 : smallI u = true := smallI_in (by omega) (by omega)
    have ih := wd_L (d0 := d0) (x3 := x3) (x4 := x4) (x5 := x5) (ds := ds) hP hP2 (qs := qs) a1 a2 fun r hr => hq r (List.mem_cons_of_mem _ hr)
    have b1 : exSs (CL (n + 2)) L.gl f_whole_debts_L1 [some (.val (d0)), some (.val (.int u)), some (.val (frD (qa, qb))), x3, x4, x5] = .nx [some (.val (d0)), some (.val (.int (lcm1 u (qa, qb)))), some (.val (frD (qa, qb))), x3, x4, x5] := by
      unfold lcm1
      dsimp only
      generalize (Int.gcd u qb : Int) = g at *
      simp [f_whole_debts_L1, e0, hone, e1, s1, d1]
    rw [List.map_cons, List.cons_append, for_nx (by simp) b1]
    have e2 : lcmF u ((qa, qb) :: qs) = lcmF (lcm1 u (qa, qb)) qs := rfl
    rw [e2]
    simpa using ih
def whL (P : Int) (qs : List (Int × Int)) : List Int := qs.map fun q => q.1 * (P / q.2)
theorem wd_C {v : D} {x2 : Option Cell} {P : Int} (hP2 : P ≤ ten12) : ∀ (qs : List (Int × Int)), (∀ q ∈ qs, 0 < q.2 ∧ q.2 ≤ P) → ∀ acc, lcLoop (.many [4, 5]) (lcBody (CL (n + 1)) L.gl f_whole_debts_C1 .none) (qs.map frD) acc [some (.val (v)), some (.val (.int P)), x2, none, none, none] = .ok (acc ++ (whL P qs).map .int) [some (.val (v)), some (.val (.int P)), x2, none, none, none]
  | [], _, acc => by simp [lcLoop, whL]
  | q :: qs, h, acc => by
    obtain ⟨h1, h2⟩ := h q List.mem_cons_self
    have ih := wd_C (v := v) (x2 := x2) hP2 qs (fun r hr => h r (List.mem_cons_of_mem _ hr)) (acc ++ [.int (q.1 * (P / q.2))])
    obtain ⟨qa, qb⟩ := q
    dsimp only at h1 h2
    have hPt : P < 2 ^ 60 := by unfold ten12 at hP2; omega
    have d1 := binD_fdivW (i := P) h1 (by omega)
    have p1 : 0 ≤ P / qb := Int.ediv_nonneg (by omega) (by omega)
    have p2 : P / qb ≤ P := Int.ediv_le_self _ (by omega)
    have s1 : smallI (P / qb) = true := smallI_in (by omega) (by omega)
    have b1 : lcBody (CL (n + 1)) L.gl f_whole_debts_C1 .none [some (.val (v)), some (.val (.int P)), x2, none, some (.val (.int qa)), some (.val (.int qb))] = .ok (some (.int (qa * (P / qb)))) [some (.val (v)), some (.val (.int P)), x2, none, some (.val (.int qa)), some (.val (.int qb))] := by
      generalize P / qb = z at *
      simp [lcBody, f_whole_debts_C1, d1, s1]
    have step := lcLoop
    rw [List.map_cons]
    simp only [lcLoop]
    have hb : bindT (.many [4, 5]) (frD (qa, qb)) [some (.val (v)), some (.val (.int P)), x2, none, none, none] = some [some (.val (v)), some (.val (.int P)), x2, none, some (.val (.int qa)), some (.val (.int qb))] := by simp
    rw [hb]
    dsimp only
    rw [b1]
    simpa [whL] using ih
theorem sp_whole {qs : List (Int × Int)} (hP : 0 < Pt) (hP2 : Pt ≤ ten12) (h1 : 1 ≤ qs.length) (h6 : qs.length ≤ 6) (hq : ∀ q ∈ qs, FrOk Pt q) :
    CL (n + 3) "whole_debts" [.val (.tup (qs.map frD))] = if (whL (lcmF 1 qs) qs).sum = 0 then .ok (.val (.tup [.lst ((whL (lcmF 1 qs) qs).map .int), .int (lcmF 1 qs)])) [] else .exc "BadDebts" [] [] := by
  rw [call_whole_debts]
  obtain ⟨b1, b2, b3, b4⟩ := lcmF_ok hP (qs := qs) (u := 1) (by decide) (Int.one_dvd _) hq
  have hle : lcmF 1 qs ≤ Pt := Int.le_of_dvd hP b2
  have e1 := wd_L (n := n) (d0 := .tup (qs.map frD)) (x3 := none) (x4 := none) (x5 := none) (ds := []) hP hP2 (qs := qs) (u := 1) (by decide) (Int.one_dvd _) hq
  rw [List.append_nil, for_nil] at e1
  have e2 := wd_C (n := n + 1) (v := .tup (qs.map frD)) (x2 := none) (P := lcmF 1 qs) (by omega) qs (fun q h => ⟨(hq q h).pos, Int.le_of_dvd b1 (b4 q h)⟩) []
  generalize lcmF 1 qs = P at *
  have hw : (whL P qs).length = qs.length := by simp [whL]
  generalize whL P qs = w at *
  have c1 : (1 : Int) ≤ qs.length := by omega
  have c2 : (qs.length : Int) ≤ 6 := by omega
  have c3 : qs.length ≤ 16777216 := by omega
  by_cases hs : w.sum = 0
  · simp [f_whole_debts, chainR, c1, c2, c3, e1, e2, hs]
  · simp [f_whole_debts, chainR, c1, c2, c3, e1, e2, hs]
theorem wd_bad {d : D} {d0 : D} {x3 x4 x5 : Option Cell} {u : Int} {ds : List D} (h : CL (n + 2) "is_fraction" [.val d] = .ok (.val (.bl false)) []) : ∃ S, forLoop (.one 2) [2] (exSs (CL (n + 2)) L.gl f_whole_debts_L1) (d :: ds) [some (.val (d0)), some (.val (.int u)), none, x3, x4, x5] = .exc "BadDebts" [] (some (.val d0) :: S) := by
  have b1 : exSs (CL (n + 2)) L.gl f_whole_debts_L1 [some (.val (d0)), some (.val (.int u)), some (.val (d)), x3, x4, x5] = .exc "BadDebts" [] [some (.val (d0)), some (.val (.int u)), some (.val (d)), x3, x4, x5] := by
    simp [f_whole_debts_L1, h]
  exact ⟨_, for_exc (by simp) b1⟩
theorem sp_wholeB {qs : List (Int × Int)} {d : D} {ds : List D} (hP : 0 < Pt) (hP2 : Pt ≤ ten12) (hq : ∀ q ∈ qs, FrOk Pt q) (hd : CL (n + 2) "is_fraction" [.val d] = .ok (.val (.bl false)) []) (hl : (qs.map frD ++ d :: ds).length ≤ 1000) :
    CL (n + 3) "whole_debts" [.val (.tup (qs.map frD ++ d :: ds))] = .exc "BadDebts" [] [] := by
  rw [call_whole_debts]
  have e1 := wd_L (n := n) (d0 := .tup (qs.map frD ++ d :: ds)) (x3 := none) (x4 := none) (x5 := none) (ds := d :: ds) hP hP2 (qs := qs) (u := 1) (by decide) (Int.one_dvd _) hq
  obtain ⟨S, e2⟩ := wd_bad (n := n) (d := d) (ds := ds) (d0 := .tup (qs.map frD ++ d :: ds)) (x3 := none) (x4 := none) (x5 := none) (u := lcmF 1 qs) hd
  rw [e2] at e1
  generalize hv : qs.map frD ++ d :: ds = vs at *
  have hne : vs ≠ [] := by rw [← hv]; simp
  have c1 : (1 : Int) ≤ vs.length := by
    have := List.length_pos_iff.mpr hne
    omega
  by_cases c2 : (vs.length : Int) ≤ 6
  · simp [f_whole_debts, chainR, c1, c2, e1]
  · simp [f_whole_debts, chainR, c1, c2]
/-! ### parting -/
abbrev nL (l : List Nat) : List D := l.map fun (i : Nat) => D.int (i : Int)
abbrev qD (q : List Nat) : D := .lst (nL q)
def psD (qs : List (List Nat)) : D := .lst (qs.map qD)
theorem bit_and {m k : Nat} : Builtin.bitAnd ((m : Int) / 2 ^ k) 1 = ((m / 2 ^ k % 2 : Nat) : Int) := by
  have e : (m : Int) / 2 ^ k = ((m / 2 ^ k : Nat) : Int) := by rw [Int.natCast_ediv, Int.natCast_pow]; rfl
  rw [e]
  unfold Builtin.bitAnd
  have h1 : decide ((0 : Int) ≤ ((m / 2 ^ k : Nat) : Int)) = true := decide_eq_true (Int.natCast_nonneg _)
  rw [h1]
  show (((((m / 2 ^ k : Nat) : Int).toNat &&& (1 : Int).toNat : Nat) : Int)) = _
  rw [Int.toNat_natCast]
  show (((m / 2 ^ k) &&& 1 : Nat) : Int) = _
  rw [Nat.and_one_is_mod]
theorem pt_C3 {S0 S1 S2 S3 S4 S6 S7 S10 : Option Cell} {m : Nat} : ∀ (r : List Nat) (k : Nat) acc, lcLoop (.many [8, 9]) (lcBody (CL n) L.gl f_parted_C3 f_parted_D3) (enumFrom k (nL r)) acc [S0, S1, S2, S3, S4, some (.val (.int m)), S6, S7, none, none, S10] = .ok (acc ++ nL (pickH (m / 2 ^ k) r)) [S0, S1, S2, S3, S4, some (.val (.int m)), S6, S7, none, none, S10]
  | [], k, acc => by simp [lcLoop, enumFrom, pickH]
  | x :: r, k, acc => by
    have hdiv : m / 2 ^ k / 2 = m / 2 ^ (k + 1) := by rw [Nat.div_div_eq_div_mul, ← Nat.pow_succ]
    have hb := bit_and (m := m) (k := k)
    have hk : (0 : Int) ≤ (k : Int) := by omega
    simp only [List.map_cons, enumFrom, lcLoop, pickH, hdiv]
    have e1 : bindT (.many [8, 9]) (.tup [.int (k : Int), .int (x : Int)]) [S0, S1, S2, S3, S4, some (.val (.int m)), S6, S7, none, none, S10] = some [S0, S1, S2, S3, S4, some (.val (.int m)), S6, S7, some (.val (.int k)), some (.val (.int x)), S10] := by simp
    rw [e1]
    dsimp only
    by_cases h : m / 2 ^ k % 2 = 1
    · have ih := pt_C3 (S0 := S0) (S1 := S1) (S2 := S2) (S3 := S3) (S4 := S4) (S6 := S6) (S7 := S7) (S10 := S10) (m := m) r (k + 1) (acc ++ [.int (x : Int)])
      rw [h] at hb
      have e2 : lcBody (CL n) L.gl f_parted_C3 f_parted_D3 [S0, S1, S2, S3, S4, some (.val (.int m)), S6, S7, some (.val (.int k)), some (.val (.int x)), S10] = .ok (some (.int x)) [S0, S1, S2, S3, S4, some (.val (.int m)), S6, S7, some (.val (.int k)), some (.val (.int x)), S10] := by
        simp [lcBody, f_parted_C3, f_parted_D3, binD, hb]
      rw [e2, if_pos h]
      simpa using ih
    · have ih := pt_C3 (S0 := S0) (S1 := S1) (S2 := S2) (S3 := S3) (S4 := S4) (S6 := S6) (S7 := S7) (S10 := S10) (m := m) r (k + 1) acc
      have h0 : m / 2 ^ k % 2 = 0 := by omega
      rw [h0] at hb
      have e2 : lcBody (CL n) L.gl f_parted_C3 f_parted_D3 [S0, S1, S2, S3, S4, some (.val (.int m)), S6, S7, some (.val (.int k)), some (.val (.int x)), S10] = .ok none [S0, S1, S2, S3, S4, some (.val (.int m)), S6, S7, some (.val (.int k)), some (.val (.int x)), S10] := by
        simp [lcBody, f_parted_C3, f_parted_D3, binD, hb]
      rw [e2, if_neg h]
      simpa using ih
def wA (w : List Int) (i : Nat) : Int := w.getD i 0
theorem getD_wl {w : List Int} {i : Nat} (h : i < w.length) : (w.map D.int)[i]? = some (.int (wA w i)) := by
  unfold wA
  rw [List.getElem?_map, List.getElem?_eq_getElem h, List.getD_eq_getElem?_getD, List.getElem?_eq_getElem h]
  rfl
theorem pt_C1 {w : List Int} {S1 S2 S3 S4 S5 S6 S7 : Option Cell} : ∀ (p : List Nat), (∀ i ∈ p, i < w.length) → ∀ acc, lcLoop (.one 10) (lcBody (CL n) L.gl f_parted_C1 .none) (nL p) acc [some (.val (.lst (w.map .int))), S1, S2, S3, S4, S5, S6, S7, none, none, none] = .ok (acc ++ p.map fun i => D.int (wA w i)) [some (.val (.lst (w.map .int))), S1, S2, S3, S4, S5, S6, S7, none, none, none]
  | [], _, acc => by simp [lcLoop]
  | x :: p, h, acc => by
    have ih := pt_C1 (w := w) (S1 := S1) (S2 := S2) (S3 := S3) (S4 := S4) (S5 := S5) (S6 := S6) (S7 := S7) p (fun i hi => h i (List.mem_cons_of_mem _ hi)) (acc ++ [.int (wA w x)])
    have hx := getD_wl (h x List.mem_cons_self)
    generalize hy : wA w x = y at *
    generalize w.map D.int = wd at *
    simp only [List.map_cons, lcLoop]
    have e1 : bindT (.one 10) (.int (x : Int)) [some (.val (.lst wd)), S1, S2, S3, S4, S5, S6, S7, none, none, none] = some [some (.val (.lst wd)), S1, S2, S3, S4, S5, S6, S7, none, none, some (.val (.int x))] := by simp
    rw [e1]
    dsimp only
    have e2 : lcBody (CL n) L.gl f_parted_C1 .none [some (.val (.lst wd)), S1, S2, S3, S4, S5, S6, S7, none, none, some (.val (.int x))] = .ok (some (.int y)) [some (.val (.lst wd)), S1, S2, S3, S4, S5, S6, S7, none, none, some (.val (.int x))] := by
      simp [lcBody, f_parted_C1, hx]
    rw [e2]
    simpa [hy] using ih
theorem in_nL {p : List Nat} {x : Nat} : ((nL p).any fun z => eqD z (.int (x : Int))) = p.contains x := by
  induction p with
  | nil => rfl
  | cons a p ih =>
    simp only [List.map_cons, List.any_cons, ih, List.contains_cons]
    congr 1
    rw [Bool.eq_iff_iff, eqD_true, beq_iff_eq]
    constructor
    · intro h; injection h with h; omega
    · intro h; rw [h]
theorem pt_C2 {p : List Nat} {S0 S1 S2 S3 S4 S5 S7 : Option Cell} : ∀ (l : List Nat) acc, lcLoop (.one 10) (lcBody (CL n) L.gl f_parted_C2 f_parted_D2) (nL l) acc [S0, S1, S2, S3, S4, S5, some (.val (qD p)), S7, none, none, none] = .ok (acc ++ nL (l.filter fun i => !p.contains i)) [S0, S1, S2, S3, S4, S5, some (.val (qD p)), S7, none, none, none] := fun l acc => by
  have e := lc_map (tg := .one 10) (f := lcBody (CL n) L.gl f_parted_C2 f_parted_D2) (fun (i : Nat) => D.int (i : Int)) (fun i => if !p.contains i then some (.int (i : Int)) else none) [S0, S1, S2, S3, S4, S5, some (.val (qD p)), S7, none, none, none]
    (fun x => ⟨[S0, S1, S2, S3, S4, S5, some (.val (qD p)), S7, none, none, some (.val (.int x))], [S0, S1, S2, S3, S4, S5, some (.val (qD p)), S7, none, none, some (.val (.int x))], by simp, by
      have h := in_nL (p := p) (x := x)
      have hp : ((nL p).all (plN 9)) = true := by simp
      unfold qD
      generalize nL p = pd at *
      cases hc : p.contains x with
      | true =>
        rw [hc] at h
        simp [lcBody, f_parted_C2, f_parted_D2, pyIn_pl, hp, h, hc] <;> rfl
      | false =>
        rw [hc] at h
        simp [lcBody, f_parted_C2, f_parted_D2, pyIn_pl, hp, h, hc] <;> rfl, by simp⟩) l acc
  rw [e, fm_ite]
end

/-! ### parted -/
section
variable {n : Nat}
def ptStep (w : List Int) (f : List Nat → List (List Nat)) (x : Nat) (r : List Nat) (best : List (List Nat)) (m : Nat) : List (List Nat) :=
  if (x :: pickH m r).length < (x :: r).length ∧ sumW w (x :: pickH m r) = 0 then
    (if best.length < (f ((x :: r).filter fun i => !(x :: pickH m r).contains i)).length + 1 then (x :: pickH m r) :: f ((x :: r).filter fun i => !(x :: pickH m r).contains i) else best)
  else best
theorem psD_len {qs : List (List Nat)} {n : Nat} : ((psD qs) = .lst (qs.map qD)) := rfl
def rcP (qs : List (List Nat)) : RC := if qs = [] then .own (.lst []) else .val (psD qs)
theorem esc_rcP {qs : List (List Nat)} {S : Fr} : esc (rcR (rcP qs)) S = .ok (psD qs) S := by
  unfold rcP
  split
  · next h => subst h; rfl
  · rfl
theorem sumW_map {w : List Int} {p : List Nat} : (p.map fun i => wA w i).sum = sumW w p := rfl
theorem pt_B {w : List Int} {f : List Nat → List (List Nat)} {x : Nat} {r : List Nat} (hr : r.length ≤ 5) (hx : x < w.length) (hl : ∀ i ∈ r, i < w.length)
    (hf : ∀ l : List Nat, l.length < (x :: r).length → (∀ i ∈ l, i ∈ x :: r) → CL (n + 1) "parted" [.val (.lst (w.map .int)), .val (qD l)] = .ok (rcP (f l)) []) (hfl : ∀ l, (f l).length ≤ l.length) {best : List (List Nat)} {m : Nat} (hb : best.length ≤ 6):
    ∃ x6' : D, exSs (CL (n + 1)) L.gl f_parted_L1 [some (.val (.lst (w.map .int))), some (.val (qD (x :: r))), some (.val (psD best)), some (.val (.int x)), some (.val (qD r)), some (.val (.int m)), none, none, none, none, none] =
      .nx [some (.val (.lst (w.map .int))), some (.val (qD (x :: r))), some (.val (psD (ptStep w f x r best m))), some (.val (.int x)), some (.val (qD r)), some (.val (.int m)), some (.val (x6')), none, none, none, none] := by
  have e3 := pt_C3 (n := n + 1) (S0 := some (.val (.lst (w.map .int)))) (S1 := some (.val (qD (x :: r)))) (S2 := some (.val (psD best))) (S3 := some (.val (.int x))) (S4 := some (.val (qD r))) (S6 := none) (S7 := none) (S10 := none) (m := m) r 0 []
  rw [Nat.pow_zero, Nat.div_one, List.nil_append] at e3
  have hpl : (pickH m r).length ≤ r.length := (pickH_sub (m := m) (l := r)).length_le
  have hpm : ∀ i ∈ pickH m r, i ∈ r := fun i hi => (pickH_sub (m := m) (l := r)).subset hi
  unfold ptStep
  generalize pickH m r = pk at *
  have hp1 : ∀ i ∈ x :: pk, i < w.length := fun i hi => by
    rcases List.mem_cons.mp hi with rfl | hi
    · exact hx
    · exact hl i (hpm i hi)
  have e1 := pt_C1 (n := n + 1) (w := w) (S1 := some (.val (qD (x :: r)))) (S2 := some (.val (psD best))) (S3 := some (.val (.int x))) (S4 := some (.val (qD r))) (S5 := some (.val (.int m))) (S6 := some (.val (qD (x :: pk)))) (S7 := none) (x :: pk) hp1 []
  rw [List.nil_append] at e1
  have e2 := pt_C2 (n := n + 1) (p := x :: pk) (S0 := some (.val (.lst (w.map .int)))) (S1 := some (.val (qD (x :: r)))) (S2 := some (.val (psD best))) (S3 := some (.val (.int x))) (S4 := some (.val (qD r))) (S5 := some (.val (.int m))) (S7 := none) (x :: r) []
  rw [List.nil_append] at e2
  have hsum : asInts ((x :: pk).map fun i => D.int (wA w i)) = some ((x :: pk).map fun i => wA w i) := asInts_mapf
  have hsw : ((x :: pk).map fun i => wA w i).sum = sumW w (x :: pk) := rfl
  have hrest : ((x :: r).filter fun i => !(x :: pk).contains i).length < (x :: r).length := by
    rw [List.filter_cons]
    have : (!(x :: pk).contains x) = false := by simp
    rw [this]
    have := List.length_filter_le (fun i => !(x :: pk).contains i) r
    simp only [List.length_cons, Bool.false_eq_true, if_false]
    omega
  have e4 := hf ((x :: r).filter fun i => !(x :: pk).contains i) hrest (fun i hi => (List.mem_filter.mp hi).1)
  have hfl2 := hfl ((x :: r).filter fun i => !(x :: pk).contains i)
  generalize hq : ((x :: r).filter fun i => !(x :: pk).contains i) = rest at *
  have s1 : (nL (x :: r)).length = r.length + 1 := by simp
  have s2 : (nL (x :: pk)).length = pk.length + 1 := by simp
  have s3 : (nL r).length = r.length := by simp
  generalize hd1 : ((x :: pk).map fun i => D.int (wA w i)) = d1 at *
  generalize hd2 : w.map D.int = wd at *
  generalize hfr : f rest = fr at *
  have s4 : (enumFrom 0 (nL r)).length ≤ 16777216 := by
    have : ∀ (l : List D) (k : Nat), (enumFrom k l).length = l.length := fun l => by
      induction l with
      | nil => intro k; rfl
      | cons a b ih => intro k; simp [enumFrom, ih]
    rw [this, s3]; omega
  have s5 : 1 + (nL pk).length ≤ 16777216 := by simp; omega
  have s6 : 1 + fr.length ≤ 16777216 := by simp only [List.length_cons] at hrest; omega
  have s7 : psD best = .lst (best.map qD) := rfl
  have s8 : psD fr = .lst (fr.map qD) := rfl
  have s9 : psD ((x :: pk) :: fr) = .lst (qD (x :: pk) :: fr.map qD) := rfl
  have t1 : esc (rcR (rcP fr)) = fun S => .ok (psD fr) S := by funext S; exact esc_rcP
  have c0 : (x :: pk).length < (x :: r).length ↔ pk.length < r.length := by simp
  have hb' : (best.map qD).length = best.length := by simp
  have hf' : (fr.map qD).length = fr.length := by simp
  rw [s7] at e1 e2 e3
  rw [s8] at t1
  generalize hbl : best.map qD = bl at *
  generalize hfl3 : fr.map qD = fl at *
  have s11 : 1 + fl.length ≤ 16777216 := by omega
  unfold qD at *
  have s12 : (nL pk).length = pk.length := by simp
  have s13 : (nL pk).length + 1 ≤ 16777216 := by omega
  have s14 : (nL (x :: r)).length ≤ 16777216 := by omega
  have s15 : 1 + pk.length ≤ 16777216 := by omega
  have s16 : pk.length + 1 ≤ 16777216 := by omega
  have s17 : r.length + 1 ≤ 16777216 := by omega
  have s10 : nL (x :: pk) = D.int (x : Int) :: nL pk := rfl
  rw [s10] at e1 e2 s9
  generalize nL pk = l2 at *
  generalize nL (x :: r) = l1 at *
  generalize nL r = l3 at *
  generalize nL rest = l4 at *
  generalize ((x :: pk).map fun i => wA w i) = nl at *
  by_cases c1 : pk.length < r.length
  · by_cases c2 : sumW w (x :: pk) = 0
    · rw [c2] at hsw
      by_cases c3 : best.length < fr.length + 1
      · have c3' : (best.length : Int) < fr.length + 1 := by omega
        refine ⟨.lst (D.int x :: l2), ?_⟩
        rw [if_pos ⟨c0.mpr c1, c2⟩, if_pos c3, s9, s7]
        simp [c3', f_parted_L1, e1, e2, e3, e4, c1, c3, s1, s4, s5, s6, s11, s12, s14, s15, s16, s17, hb', hf', hsum, hsw, t1]
      · have c3' : ¬ (best.length : Int) < fr.length + 1 := by omega
        refine ⟨.lst (D.int x :: l2), ?_⟩
        rw [if_pos ⟨c0.mpr c1, c2⟩, if_neg c3, s7]
        simp [c3', f_parted_L1, e1, e2, e3, e4, c1, c3, s1, s4, s5, s6, s11, s12, s14, s15, s16, s17, hb', hf', hsum, hsw, t1]
    · refine ⟨.lst (D.int x :: l2), ?_⟩
      rw [if_neg (fun z => c2 z.2), s7]
      have c4 : ¬ nl.sum = 0 := by rw [hsw]; exact c2
      simp [f_parted_L1, e1, e3, c1, c4, s1, s4, s5, s6, s11, s12, s14, s15, s16, s17, hb', hf', hsum, t1]
  · refine ⟨.lst (D.int x :: l2), ?_⟩
    rw [if_neg (fun z => c1 (c0.mp z.1)), s7]
    simp [f_parted_L1, e3, c1, s1, s4, s5, s12, s15, s16, s17]
theorem ptStep_len {w : List Int} {f : List Nat → List (List Nat)} (hfl : ∀ l, (f l).length ≤ l.length) {x : Nat} {r : List Nat} {best : List (List Nat)} {m : Nat} (hb : best.length ≤ r.length + 1) : (ptStep w f x r best m).length ≤ r.length + 1 := by
  unfold ptStep
  split
  · split
    · have h1 := hfl ((x :: r).filter fun i => !(x :: pickH m r).contains i)
      have h2 : ((x :: r).filter fun i => !(x :: pickH m r).contains i).length ≤ r.length := by
        rw [List.filter_cons]
        have : (!(x :: pickH m r).contains x) = false := by simp
        rw [this]
        exact List.length_filter_le _ _
      rw [List.length_cons]; omega
    · exact hb
  · exact hb
theorem pt_L {w : List Int} {f : List Nat → List (List Nat)} {x : Nat} {r : List Nat} (hr : r.length ≤ 5) (hx : x < w.length) (hl : ∀ i ∈ r, i < w.length)
    (hf : ∀ l : List Nat, l.length < (x :: r).length → (∀ i ∈ l, i ∈ x :: r) → CL (n + 1) "parted" [.val (.lst (w.map .int)), .val (qD l)] = .ok (rcP (f l)) []) (hfl : ∀ l, (f l).length ≤ l.length) : ∀ (ms : List Nat) {best : List (List Nat)}, best.length ≤ r.length + 1 →
    forLoop (.one 5) [5, 6, 7] (exSs (CL (n + 1)) L.gl f_parted_L1) (ms.map fun (m : Nat) => D.int (m : Int)) [some (.val (.lst (w.map .int))), some (.val (qD (x :: r))), some (.val (psD best)), some (.val (.int x)), some (.val (qD r)), none, none, none, none, none, none] =
      .nx [some (.val (.lst (w.map .int))), some (.val (qD (x :: r))), some (.val (psD (ms.foldl (ptStep w f x r) best))), some (.val (.int x)), some (.val (qD r)), none, none, none, none, none, none]
  | [], best, hb => by simp [for_nil]
  | m :: ms, best, hb => by
    obtain ⟨x6, b1⟩ := pt_B (n := n) hr hx hl hf hfl (best := best) (m := m) (by omega)
    have ih := pt_L hr hx hl hf hfl ms (best := ptStep w f x r best m) (ptStep_len hfl hb)
    rw [List.map_cons, for_nx (by simp) b1, List.foldl_cons]
    simpa using ih
theorem ptd_len {w : List Int} : ∀ (m : Nat) (l : List Nat), (ptd w m l).length ≤ l.length
  | 0, l => by simp [ptd]
  | m + 1, [] => by simp [ptd]
  | m + 1, x :: r => by
    have : ∀ (ms : List Nat) (b : List (List Nat)), b.length ≤ r.length + 1 → (ms.foldl (ptStep w (ptd w m) x r) b).length ≤ r.length + 1 := fun ms => by
      induction ms with
      | nil => intro b hb; exact hb
      | cons k ms ih => intro b hb; exact ih _ (ptStep_len (fun l => ptd_len m l) hb)
    exact this (List.range (2 ^ r.length)) [x :: r] (by simp)
theorem rng_nat {k : Nat} : rngD 0 (k : Int) = (List.range k).map fun (m : Nat) => D.int (m : Int) := by
  unfold rngD
  have e : ((k : Int) - 0).toNat = k := by omega
  rw [e]
  apply List.map_congr_left
  intro a _
  rw [Int.zero_add]
theorem sp_parted {w : List Int} : ∀ (m : Nat) (l : List Nat), l.length ≤ m → l.length ≤ 6 → (∀ i ∈ l, i < w.length) → CL (n + m + 1) "parted" [.val (.lst (w.map .int)), .val (qD l)] = .ok (rcP (ptd w m l)) []
  | m, [], h1, h2, h3 => by
    rw [call_parted]
    have e : ptd w m [] = [] := by cases m <;> rfl
    rw [e]
    generalize w.map D.int = wd
    simp [f_parted, rcP]
  | 0, x :: r, h1, h2, h3 => by simp at h1
  | m + 1, x :: r, h1, h2, h3 => by
    simp only [List.length_cons] at h1 h2
    have e1 := pt_L (n := n + m) (w := w) (f := ptd w m) (x := x) (r := r) (by omega) (h3 x List.mem_cons_self) (fun i hi => h3 i (List.mem_cons_of_mem _ hi))
      (fun l a b => sp_parted m l (by simp only [List.length_cons] at a; omega) (by simp only [List.length_cons] at a; omega) (fun i hi => h3 i (b i hi))) (fun l => ptd_len m l) (List.range (2 ^ r.length)) (best := [x :: r]) (by simp)
    have e2 : (List.range (2 ^ r.length)).foldl (ptStep w (ptd w m) x r) [x :: r] = ptd w (m + 1) (x :: r) := rfl
    rw [e2, ← rng_nat] at e1
    have hne : ptd w (m + 1) (x :: r) ≠ [] := by
      rw [← e2]
      have : ∀ (ms : List Nat) (b : List (List Nat)), b ≠ [] → ms.foldl (ptStep w (ptd w m) x r) b ≠ [] := fun ms => by
        induction ms with
        | nil => intro b hb; exact hb
        | cons k ms ih =>
          intro b hb
          refine ih _ ?_
          unfold ptStep
          split
          · split
            · simp
            · exact hb
          · exact hb
      exact this _ _ (by simp)
    rw [show n + (m + 1) + 1 = (n + m + 1) + 1 by omega, call_parted]
    unfold rcP
    rw [if_neg hne]
    generalize ptd w (m + 1) (x :: r) = res at *
    have hcut : Ev.cutD (nL (x :: r)) (some 1) none = nL r := by
      unfold Ev.cutD
      have e3 : HT.sIx (nL (x :: r)).length 0 (some 1) = 1 := (HT.sIx_nat _ _ 1).trans (by simp)
      rw [e3, HT.sIx_none]
      rw [List.take_of_length_le (by simp)]
      rfl
    have hlen : (nL r).length = r.length := by simp
    have hp2 : (2 : Int) ^ r.length = ((2 ^ r.length : Nat) : Int) := by rw [Int.natCast_pow]; rfl
    have hpl : 2 ^ r.length ≤ 2 ^ 5 := Nat.pow_le_pow_right (by decide) (by omega)
    clear e2
    generalize 2 ^ r.length = pw at *
    have hbg : bigI ((pw : Nat) : Int) = true := by
      unfold bigI
      simp only [Bool.and_eq_true, decide_eq_true_eq]
      omega
    have hr1000 : (r.length : Int) ≤ 1000 := by omega
    have hr0 : (0 : Int) ≤ (r.length : Int) := by omega
    have hsh : binD .shl (.int 1) (.int (r.length : Int)) = some (.val (.int ((pw : Nat) : Int))) := by
      unfold binD
      have : smallI 1 = true := by decide
      simp only [hr0, hr1000, this, decide_true, Bool.and_self, if_true, Int.one_mul, Int.toNat_natCast, hp2]
    have s7 : psD [x :: r] = .lst [qD (x :: r)] := rfl
    rw [s7] at e1
    unfold qD at *
    have s10 : nL (x :: r) = D.int (x : Int) :: nL r := rfl
    rw [s10] at e1 hcut ⊢
    generalize nL r = l3 at *
    generalize w.map D.int = wd at *
    generalize psD res = pr at *
    generalize ((pw : Nat) : Int) = pwi at *
    simp [f_parted, hcut, hsh, hlen, hbg, e1]
end

/-! ### transfers -/
abbrev prD (p : Int × Nat) : D := .tup [.int p.1, .int (p.2 : Int)]
abbrev prG (p : Int × Nat) : List Int := [p.1, (p.2 : Int)]
abbrev tD (t : Nat × Nat × Int) : D := .tup [.int (t.1 : Int), .int (t.2.1 : Int), .int t.2.2]
theorem leP_g {p q : Int × Nat} : gLe (prG p) (prG q) = leP p q := by
  unfold gLe iLt leP
  simp only [lexL]
  by_cases h : q.1 = p.1
  · rw [if_pos h]
    by_cases h2 : (q.2 : Int) = (p.2 : Int)
    · rw [if_pos h2]
      have h3 : ¬ p.1 < q.1 := by omega
      have h4 : p.2 ≤ q.2 := by omega
      simp [h, h3, h4]
    · rw [if_neg h2]
      have h3 : ¬ p.1 < q.1 := by omega
      simp only [h, h3, decide_true, decide_false, Bool.true_and, Bool.false_or]
      rw [Bool.eq_iff_iff]
      simp
  · rw [if_neg h]
    rw [Bool.eq_iff_iff]
    simp only [Bool.not_eq_true', decide_eq_false_iff_not, Bool.or_eq_true, Bool.and_eq_true, decide_eq_true_eq]
    omega
theorem sortD_pr {l : List (Int × Nat)} (hl : l.length ≤ 16777216) : sortD (l.map prD) = some ((l.mergeSort leP).map prD) := by
  have e1 : l.map prD = (l.map prG).map gD := by rw [List.map_map]; rfl
  rw [e1, sortD_g (by simpa using hl) (fun g hg => by obtain ⟨p, _, rfl⟩ := List.mem_map.mp hg; simp)]
  congr 1
  have e2 : srtG (l.map prG) = (l.mergeSort leP).map prG := by
    unfold srtG
    rw [List.map_mergeSort (r := leP) (s := gLe) (f := prG)]
    intro a _ b _
    exact leP_g.symm
  rw [e2, List.map_map]
  rfl
theorem nxT_len {s : List (Int × Nat)} (h : 2 ≤ s.length) : (nxT s).length < s.length := by
  unfold nxT
  rw [List.filter_append, List.length_append]
  have h1 := List.length_filter_le (fun p : Int × Nat => decide (p.1 ≠ 0)) ((s.drop 1).take (s.length - 2))
  have h2 : ((s.drop 1).take (s.length - 2)).length ≤ s.length - 2 := by rw [List.length_take]; omega
  have h3 : ([((s.getD (s.length - 1) (0, 0)).1 - someT s, (s.getD (s.length - 1) (0, 0)).2), ((s.getD 0 (0, 0)).1 + someT s, (s.getD 0 (0, 0)).2)].filter fun p : Int × Nat => decide (p.1 ≠ 0)).length ≤ 1 := by
    have : (s.getD (s.length - 1) (0, 0)).1 - someT s = 0 ∨ (s.getD 0 (0, 0)).1 + someT s = 0 := by
      unfold someT
      omega
    rcases this with e | e
    · rw [List.filter_cons_of_neg (by simpa using e)]
      exact List.length_filter_le _ _
    · rw [List.filter_cons]
      split
      · rw [List.filter_cons_of_neg (by simpa using e)]; simp
      · rw [List.filter_cons_of_neg (by simpa using e)]; simp
  omega
theorem cut_mid {xs : List D} (h : 2 ≤ xs.length) : Ev.cutD xs (some 1) (some (-1)) = (xs.drop 1).take (xs.length - 2) := by
  unfold Ev.cutD
  have e1 : HT.sIx xs.length 0 (some 1) = 1 := (HT.sIx_nat _ _ 1).trans (by omega)
  have e2 : HT.sIx xs.length xs.length (some (-1)) = xs.length - 1 := by
    show (if (-1 : Int) < 0 then ((-1 : Int) + (xs.length : Int)).toNat else min (-1 : Int).toNat xs.length) = _
    rw [if_pos (by decide)]
    omega
  rw [e1, e2]
  congr 1
theorem at_last {xs : List D} (h : xs ≠ []) : atD xs (-1) = xs[xs.length - 1]? := by
  unfold atD L2.atI L2.ixN
  have := List.length_pos_iff.mpr h
  rw [if_neg (by decide)]
  rw [if_pos (by omega)]
  show xs[((-1 : Int) + (xs.length : Int)).toNat]? = _
  congr 1
  omega
section
variable {n : Nat}
theorem tf_C1 {S0 S1 S3 S4 S5 S6 S7 S8 S9 S10 : Option Cell} {left : D} : ∀ (l : List (Int × Nat)) acc, lcLoop (.one 11) (lcBody (CL n) L.gl f_transfers_of_C1 f_transfers_of_D1) (l.map prD) acc [S0, S1, some (.val (left)), S3, S4, S5, S6, S7, S8, S9, S10, none] =
    .ok (acc ++ (l.filter fun p => decide (p.1 ≠ 0)).map prD) [S0, S1, some (.val (left)), S3, S4, S5, S6, S7, S8, S9, S10, none] := fun l acc => by
  have e := lc_map (tg := .one 11) (f := lcBody (CL n) L.gl f_transfers_of_C1 f_transfers_of_D1) prD (fun p => if decide (p.1 ≠ 0) then some (prD p) else none) [S0, S1, some (.val (left)), S3, S4, S5, S6, S7, S8, S9, S10, none]
    (fun p => ⟨[S0, S1, some (.val (left)), S3, S4, S5, S6, S7, S8, S9, S10, some (.val (prD p))], [S0, S1, some (.val (left)), S3, S4, S5, S6, S7, S8, S9, S10, some (.val (prD p))], by simp, by
      by_cases h : p.1 = 0
      · simp [lcBody, f_transfers_of_C1, f_transfers_of_D1, h]
      · simp [lcBody, f_transfers_of_C1, f_transfers_of_D1, h], by simp⟩) l acc
  rw [e, fm_ite]
theorem tf_B {a0 a1 : D} {l : List (Int × Nat)} {ts : List (Nat × Nat × Int)} (hl : 2 ≤ l.length) (hl2 : l.length ≤ 1000) (ht : ts.length ≤ 1000) : ∃ x4 x5 x7 x8 x9 x10 : D,
    exSs (CL n) L.gl f_transfers_of_L1 [some (.val (a0)), some (.val (a1)), some (.val (.lst (l.map prD))), some (.own (.lst (ts.map tD))), none, none, none, none, none, none, none, none] =
      .nx [some (.val (a0)), some (.val (a1)), some (.val (.lst ((nxT (l.mergeSort leP)).map prD))), some (.own (.lst ((ts ++ [trT (l.mergeSort leP)]).map tD))), some (.val (x4)), some (.val (x5)), none, some (.val (x7)), some (.val (x8)), some (.val (x9)), some (.val (x10)), none] := by
  have hs := sortD_pr (l := l) (by omega)
  have hsl : (l.mergeSort leP).length = l.length := List.length_mergeSort l
  unfold nxT trT
  generalize l.mergeSort leP = s at *
  have hse : someT s = min (s.getD (s.length - 1) (0, 0)).1 (-(s.getD 0 (0, 0)).1) := rfl
  have h0 : (s.map prD)[0]? = some (prD (s.getD 0 (0, 0))) := by
    rw [List.getElem?_map, List.getD_eq_getElem?_getD, List.getElem?_eq_getElem (by omega)]; rfl
  have h1 : (s.map prD)[s.length - 1]? = some (prD (s.getD (s.length - 1) (0, 0))) := by
    rw [List.getElem?_map, List.getD_eq_getElem?_getD, List.getElem?_eq_getElem (by omega)]; rfl
  have h2 : atD (s.map prD) (-1) = some (prD (s.getD (s.length - 1) (0, 0))) := by
    rw [at_last (by intro h; simp at h; subst h; simp at hsl; omega), List.length_map]; exact h1
  have h3 : atD (s.map prD) 0 = some (prD (s.getD 0 (0, 0))) := (atD_nat (n := 0)).trans h0
  have h4 := cut_mid (xs := s.map prD) (by rw [List.length_map]; omega)
  rw [List.length_map, ← List.map_drop, ← List.map_take] at h4
  have hmid : ((s.drop 1).take (s.length - 2)).length ≤ 1000 := by rw [List.length_take]; omega
  generalize (s.drop 1).take (s.length - 2) = mid at *
  generalize s.getD (s.length - 1) (0, 0) = hi at *
  generalize s.getD 0 (0, 0) = lo at *
  obtain ⟨hv, gi⟩ := hi
  obtain ⟨lv, ta⟩ := lo
  dsimp only at hse
  have hmin : (if -lv < hv then -lv else hv) = someT s := by rw [hse]; split <;> omega
  generalize someT s = sm at *
  have hslen : (s.map prD).length ≤ 16777216 := by rw [List.length_map]; omega
  have c1 := fun (S3 S4 S5 S7 S8 S9 S10 : Option Cell) (left : D) => tf_C1 (n := n) (S0 := some (.val a0)) (S1 := some (.val a1)) (S3 := S3) (S4 := S4) (S5 := S5) (S6 := none) (S7 := S7) (S8 := S8) (S9 := S9) (S10 := S10) (left := left) (mid ++ [(hv - sm, gi), (lv + sm, ta)]) []
  simp only [List.nil_append, List.map_append, List.map_cons, List.map_nil] at c1
  have hm2 : (mid.map prD).length = mid.length := by simp
  have hts : (ts.map tD).length = ts.length := by simp
  have hfin : ((ts ++ [(gi, ta, sm)]).map tD) = ts.map tD ++ [tD (gi, ta, sm)] := by simp
  rw [hfin]
  generalize ((mid ++ [(hv - sm, gi), (lv + sm, ta)]).filter fun p => decide (p.1 ≠ 0)) = nx at *
  generalize ts.map tD = td at *
  generalize l.map prD = ld at *
  generalize s.map prD = sd at *
  generalize mid.map prD = md at *
  generalize nx.map prD = nd at *
  have b1 : md.length + 2 ≤ 16777216 := by omega
  have b2 : td.length < 16777216 := by omega
  refine ⟨.int sm, .lst [prD (hv - sm, gi), prD (lv + sm, ta)], .int lv, .int ta, .int hv, .int gi, ?_⟩
  simp [f_transfers_of_L1, hs, h2, h3, h4, hmin, c1, b1, b2]
theorem tf_L {a0 a1 : D} : ∀ (k f : Nat) (l : List (Int × Nat)) (ts : List (Nat × Nat × Int)), l.length ≤ k → k < f → k + ts.length ≤ 1000 → ∃ x2 : D,
    whlLoop [4, 5, 7, 8, 9, 10] (evT (CL n) L.gl f_transfers_of_T1) (exSs (CL n) L.gl f_transfers_of_L1) f [some (.val (a0)), some (.val (a1)), some (.val (.lst (l.map prD))), some (.own (.lst (ts.map tD))), none, none, none, none, none, none, none, none] =
      .nx [some (.val (a0)), some (.val (a1)), some (.val (x2)), some (.own (.lst ((ts ++ trf k l).map tD))), none, none, none, none, none, none, none, none]
  | k, 0, l, ts, _, h, _ => absurd h (Nat.not_lt_zero _)
  | k, f + 1, l, ts, hl, hf, ht => by
    by_cases h : 1 < l.length
    · cases k with
      | zero => omega
      | succ k =>
        obtain ⟨x4, x5, x7, x8, x9, x10, b1⟩ := tf_B (n := n) (a0 := a0) (a1 := a1) (l := l) (ts := ts) (by omega) (by omega) (by omega)
        have hsl : (l.mergeSort leP).length = l.length := List.length_mergeSort l
        have hlt := nxT_len (s := l.mergeSort leP) (by omega)
        obtain ⟨x2, ih⟩ := tf_L (a0 := a0) (a1 := a1) k f (nxT (l.mergeSort leP)) (ts ++ [trT (l.mergeSort leP)]) (by omega) (by omega) (by simp; omega)
        refine ⟨x2, ?_⟩
        have e1 : trf (k + 1) l = trT (l.mergeSort leP) :: trf k (nxT (l.mergeSort leP)) := by simp only [trf]; rw [if_pos h]
        have hl1 : (1 : Int) < (l.map prD).length := by rw [List.length_map]; omega
        have t1 : evT (CL n) L.gl f_transfers_of_T1 [some (.val (a0)), some (.val (a1)), some (.val (.lst (l.map prD))), some (.own (.lst (ts.map tD))), none, none, none, none, none, none, none, none] = .ok true [some (.val (a0)), some (.val (a1)), some (.val (.lst (l.map prD))), some (.own (.lst (ts.map tD))), none, none, none, none, none, none, none, none] := by
          generalize l.map prD = ld at *
          simp [f_transfers_of_T1]
          exact hl1
        rw [whl_nx t1 b1, e1]
        rw [List.append_assoc] at ih
        simpa using ih
    · refine ⟨.lst (l.map prD), ?_⟩
      have e1 : trf k l = [] := by cases k <;> simp only [trf]; rw [if_neg h]
      have hl1 : ¬ (1 : Int) < (l.map prD).length := by rw [List.length_map]; omega
      have t1 : evT (CL n) L.gl f_transfers_of_T1 [some (.val (a0)), some (.val (a1)), some (.val (.lst (l.map prD))), some (.own (.lst (ts.map tD))), none, none, none, none, none, none, none, none] = .ok false [some (.val (a0)), some (.val (a1)), some (.val (.lst (l.map prD))), some (.own (.lst (ts.map tD))), none, none, none, none, none, none, none, none] := by
        generalize l.map prD = ld at *
        simp [f_transfers_of_T1]
        omega
      rw [whl_end t1, e1]
      simp
theorem sp_transfers {w : List Int} {q : List Nat} (hq : ∀ i ∈ q, i < w.length) (hl : q.length ≤ 6) : CL (n + 1) "transfers_of" [.val (.lst (w.map .int)), .val (qD q)] = .ok (.own (.lst ((trf 6 (q.map fun i => (wA w i, i))).map tD))) [] := by
  rw [call_transfers_of]
  have c2 : ∀ (x1 : Option Cell) (q : List Nat), (∀ i ∈ q, i < w.length) → ∀ acc, lcLoop (.one 6) (lcBody (CL n) L.gl f_transfers_of_C2 .none) (nL q) acc [some (.val (.lst (w.map .int))), x1, none, none, none, none, none, none, none, none, none, none] = .ok (acc ++ (q.map fun i => (wA w i, i)).map prD) [some (.val (.lst (w.map .int))), x1, none, none, none, none, none, none, none, none, none, none] := fun x1 q => by
    induction q with
    | nil => intro _ acc; simp [lcLoop]
    | cons x q ih =>
      intro h acc
      have hx := getD_wl (h x List.mem_cons_self)
      have ih' := ih (fun i hi => h i (List.mem_cons_of_mem _ hi)) (acc ++ [prD (wA w x, x)])
      generalize hy : wA w x = y at *
      generalize w.map D.int = wd at *
      simp only [List.map_cons, lcLoop]
      have e1 : bindT (.one 6) (.int (x : Int)) [some (.val (.lst wd)), x1, none, none, none, none, none, none, none, none, none, none] = some [some (.val (.lst wd)), x1, none, none, none, none, some (.val (.int x)), none, none, none, none, none] := by simp
      rw [e1]
      dsimp only
      have e2 : lcBody (CL n) L.gl f_transfers_of_C2 .none [some (.val (.lst wd)), x1, none, none, none, none, some (.val (.int x)), none, none, none, none, none] = .ok (some (prD (y, x))) [some (.val (.lst wd)), x1, none, none, none, none, some (.val (.int x)), none, none, none, none, none] := by
        simp [lcBody, f_transfers_of_C2, hx]
      rw [e2]
      simpa [hy] using ih'
  have c3 := c2 (some (.val (qD q))) q hq []
  rw [List.nil_append] at c3
  have hql : (q.map fun i => (wA w i, i)).length = q.length := by simp
  have hnl : (nL q).length ≤ 16777216 := by simp; omega
  obtain ⟨x2, l1⟩ := tf_L (n := n) (a0 := .lst (w.map .int)) (a1 := qD q) 6 4096 (q.map fun i => (wA w i, i)) [] (by omega) (by omega) (by simp)
  simp only [List.map_nil, List.nil_append] at l1
  unfold qD at *
  generalize nL q = qd at *
  generalize w.map D.int = wd at *
  generalize (q.map fun i => (wA w i, i)).map prD = pd at *
  generalize (trf 6 (q.map fun i => (wA w i, i))).map tD = td at *
  simp [f_transfers_of, c3, hnl, l1]
end

/-! the law's table, as it is built -/
def bstL (w : List Int) (l : List Nat) : Nat → List Nat
  | 0 => [0]
  | m + 1 => bstL w l m ++ [mxb (fun i => (bstL w l m).getD i 0) (m + 1) (List.range l.length) 0 + (if sumW w (pickH (m + 1) l) = 0 then 1 else 0)]
def bstN (w : List Int) (l : List Nat) (m : Nat) : Nat := (bstL w l m).getD m 0
theorem bstL_len {w : List Int} {l : List Nat} : ∀ m, (bstL w l m).length = m + 1
  | 0 => rfl
  | m + 1 => by simp [bstL, bstL_len m]
theorem bstL_get {w : List Int} {l : List Nat} : ∀ m i, i ≤ m → (bstL w l m).getD i 0 = bstN w l i
  | 0, i, h => by
    have : i = 0 := by omega
    subst this; rfl
  | m + 1, i, h => by
    by_cases e : i = m + 1
    · subst e; rfl
    · have h2 : i ≤ m := by omega
      have h3 : (bstL w l (m + 1)).getD i 0 = (bstL w l m).getD i 0 := by
        simp only [bstL]
        rw [List.getD_eq_getElem?_getD, List.getD_eq_getElem?_getD, List.getElem?_append_left (by rw [bstL_len]; omega)]
      rw [h3, bstL_get m i h2]
theorem mxb_congr {B B' : Nat → Nat} {m : Nat} (h : ∀ i, i < m → B i = B' i) : ∀ {ks : List Nat} {f : Nat}, mxb B m ks f = mxb B' m ks f
  | [], f => rfl
  | k :: ks, f => by
    have e : ∀ B : Nat → Nat, mxb B m (k :: ks) f = mxb B m ks (if (m / 2 ^ k) % 2 = 1 then max f (B (m - 2 ^ k)) else f) := fun _ => rfl
    rw [e, e, mxb_congr h]
    congr 1
    split
    · next hb =>
      have h1 := bit_le hb
      have h2 : 0 < 2 ^ k := Nat.pow_pos (by omega)
      rw [h _ (by omega)]
    · rfl
theorem bstN_succ {w : List Int} {l : List Nat} {m : Nat} : bstN w l (m + 1) = mxb (bstN w l) (m + 1) (List.range l.length) 0 + (if sumW w (pickH (m + 1) l) = 0 then 1 else 0) := by
  have : bstN w l (m + 1) = mxb (fun i => (bstL w l m).getD i 0) (m + 1) (List.range l.length) 0 + (if sumW w (pickH (m + 1) l) = 0 then 1 else 0) := by
    unfold bstN
    simp only [bstL]
    rw [List.getD_eq_getElem?_getD, List.getElem?_append_right (by rw [bstL_len]; omega), bstL_len]
    simp
  rw [this]
  congr 1
  exact mxb_congr fun i hi => bstL_get m i (by omega)
theorem bst_tab {w : List Int} {l : List Nat} : TabB w l (bstN w l) := by
  refine ⟨rfl, fun m h1 h2 => ?_⟩
  obtain ⟨k, rfl⟩ : ∃ k, m = k + 1 := ⟨m - 1, by omega⟩
  exact bstN_succ
theorem pickH_low {α : Type} {l : List α} : ∀ {m : Nat} {r : List α}, m < 2 ^ l.length → pickH m (l ++ r) = pickH m l := by
  induction l with
  | nil => intro m r h; simp at h; subst h; rw [pickH_zero, pickH_zero]
  | cons x l ih =>
    intro m r h
    rw [List.length_cons, Nat.pow_succ] at h
    simp only [List.cons_append, pickH]
    rw [ih (by omega)]
theorem pickH_top {α : Type} {l : List α} {x : α} : ∀ {m : Nat}, m < 2 ^ l.length → pickH (m + 2 ^ l.length) (l ++ [x]) = pickH m l ++ [x] := by
  induction l with
  | nil => intro m h; simp at h; subst h; simp [pickH]
  | cons y l ih =>
    intro m h
    rw [List.length_cons, Nat.pow_succ] at h ⊢
    have e1 : (m + 2 ^ l.length * 2) % 2 = m % 2 := by omega
    have e2 : (m + 2 ^ l.length * 2) / 2 = m / 2 + 2 ^ l.length := by omega
    simp only [List.cons_append, pickH, e1, e2]
    rw [ih (by omega)]
    split <;> simp
theorem pick_sumW {w : List Int} {l : List Nat} {m : Nat} : (pickH m (l.map fun i => w.getD i 0)).sum = sumW w (pickH m l) := by
  rw [pickH_map]; rfl

/-! all transfers -/
theorem sumW_range {w : List Int} : sumW w (List.range w.length) = w.sum := by
  unfold sumW
  congr 1
  refine List.ext_getElem (by simp) fun i h1 h2 => ?_
  simp only [List.getElem_map, List.getElem_range]
  rw [List.getD_eq_getElem?_getD, List.getElem?_eq_getElem h2]
  rfl
theorem sumW_nz {w : List Int} : ∀ l : List Nat, sumW w (l.filter fun i => decide (wA w i ≠ 0)) = sumW w l
  | [] => rfl
  | x :: l => by
    rw [List.filter_cons]
    split
    · rw [sumW_cons, sumW_cons, sumW_nz l]
    · next h =>
      have h0 : wA w x = 0 := by simpa using h
      rw [sumW_cons, sumW_nz l]
      have : w.getD x 0 = 0 := h0
      rw [this]; omega
def nzL (w : List Int) : List Nat := (List.range w.length).filter fun i => decide (wA w i ≠ 0)
theorem nzL_sum {w : List Int} : sumW w (nzL w) = w.sum := by
  unfold nzL
  rw [sumW_nz, sumW_range]
theorem nzL_nd {w : List Int} : (nzL w).Nodup := List.nodup_range.filter _
theorem nzL_mem {w : List Int} {i : Nat} (h : i ∈ nzL w) : i < w.length ∧ wA w i ≠ 0 := by
  obtain ⟨h1, h2⟩ := List.mem_filter.mp h
  exact ⟨List.mem_range.mp h1, by simpa using h2⟩
theorem nzL_len {w : List Int} : (nzL w).length ≤ w.length := by
  have := List.length_filter_le (fun i => decide (wA w i ≠ 0)) (List.range w.length)
  rwa [List.length_range] at this
theorem ptd_nz {w : List Int} (hl : w.length ≤ 6) (hs : w.sum = 0) : Pts w (nzL w) (ptd w 6 (nzL w)) ∧ ∀ qs, Pts w (nzL w) qs → qs.length ≤ (ptd w 6 (nzL w)).length :=
  ptd_ok 6 (nzL w) (Nat.le_trans nzL_len hl) nzL_nd (by rw [nzL_sum, hs])
theorem part_in {w : List Int} {l : List Nat} {qs : List (List Nat)} (h : Pts w l qs) {q : List Nat} (hq : q ∈ qs) : (∀ i ∈ q, i ∈ l) ∧ q.length ≤ l.length := by
  refine ⟨fun i hi => h.perm.subset (List.mem_flatten.mpr ⟨q, hq, hi⟩), ?_⟩
  have h1 := h.perm.length_eq
  obtain ⟨s, t, rfl⟩ := List.append_of_mem hq
  simp only [List.flatten_append, List.flatten_cons, List.length_append] at h1
  omega
theorem ptd_mem {w : List Int} (hl : w.length ≤ 6) (hs : w.sum = 0) : ∀ q ∈ ptd w 6 (nzL w), q.length ≤ 6 ∧ ∀ i ∈ q, i < w.length := fun q hq => by
  have h := part_in (ptd_nz hl hs).1 hq
  exact ⟨Nat.le_trans h.2 (Nat.le_trans nzL_len hl), fun i hi => (nzL_mem (h.1 i hi)).1⟩
def tfsOf (w : List Int) (qs : List (List Nat)) : List (Nat × Nat × Int) := qs.flatMap fun q => trf 6 (q.map fun i => (wA w i, i))
theorem tfs_run {w : List Int} {M : Int} : ∀ (qs : List (List Nat)) (c : List Int), c.length = w.length → Bd M c → qs.flatten.Nodup → (∀ q ∈ qs, Atom (q.map fun i => wA w i) ∧ 2 ≤ q.length ∧ q.length ≤ 6 ∧ ∀ i ∈ q, i < w.length ∧ c.getD i 0 = wA w i) →
    RunT M c (tfsOf w qs) ∧ (tfsOf w qs).length + qs.length = qs.flatten.length ∧ ((tfsOf w qs).foldl appT c).length = c.length ∧ ∀ i, ((tfsOf w qs).foldl appT c).getD i 0 = if i ∈ qs.flatten then 0 else c.getD i 0
  | [], c, _, hb, _, _ => ⟨hb, rfl, rfl, fun i => by simp [tfsOf]⟩
  | q :: qs, c, hc, hb, hn, hq => by
    obtain ⟨a1, a2, a3, a4⟩ := hq q List.mem_cons_self
    rw [List.flatten_cons] at hn
    have hn2 := List.nodup_append.mp hn
    have m1 : (q.map fun i => (wA w i, i)).map (·.1) = q.map fun i => wA w i := by rw [List.map_map]; rfl
    have m2 : (q.map fun i => (wA w i, i)).map (·.2) = q := by rw [List.map_map]; simp [Function.comp_def]
    obtain ⟨t1, t2, t3, t4⟩ := trf_ok (M := M) 6 (q.map fun i => (wA w i, i)) c (by simpa using a3) (by rw [m1]; exact a1) (by rw [List.length_map]; omega) (by rw [m2]; exact hn2.1) (fun p hp => by
      obtain ⟨i, hi, rfl⟩ := List.mem_map.mp hp
      exact ⟨by rw [hc]; exact (a4 i hi).1, (a4 i hi).2⟩) hb
    rw [m2] at t4
    rw [List.length_map] at t1
    have et : tfsOf w (q :: qs) = trf 6 (q.map fun i => (wA w i, i)) ++ tfsOf w qs := by simp [tfsOf]
    have hb2 : Bd M ((trf 6 (q.map fun i => (wA w i, i))).foldl appT c) := fun i => by
      rw [t4 i]
      have := hb i
      split
      · omega
      · exact this
    obtain ⟨i1, i2, i3, i4⟩ := tfs_run (w := w) qs ((trf 6 (q.map fun i => (wA w i, i))).foldl appT c) (by rw [t3, hc]) hb2 hn2.2.1 (fun r hr => by
      obtain ⟨b1, b2, b3, b4⟩ := hq r (List.mem_cons_of_mem _ hr)
      refine ⟨b1, b2, b3, fun i hi => ⟨(b4 i hi).1, ?_⟩⟩
      rw [t4 i, if_neg]
      · exact (b4 i hi).2
      · intro h
        exact hn2.2.2 i h i (List.mem_flatten.mpr ⟨r, hr, hi⟩) rfl)
    rw [et]
    refine ⟨t2.app i1, ?_, ?_, fun i => ?_⟩
    · rw [List.length_append, t1, List.flatten_cons, List.length_append, List.length_cons]; omega
    · rw [List.foldl_append, i3, t3]
    · rw [List.foldl_append, i4 i, t4 i, List.flatten_cons]
      simp only [List.mem_append]
      by_cases h1 : i ∈ qs.flatten
      · rw [if_pos h1, if_pos (show i ∈ q ∨ i ∈ qs.flatten from .inr h1)]
      · rw [if_neg h1]
        by_cases h2 : i ∈ q
        · rw [if_pos h2, if_pos (show i ∈ q ∨ i ∈ qs.flatten from .inl h2)]
        · rw [if_neg h2, if_neg (show ¬ (i ∈ q ∨ i ∈ qs.flatten) from fun z => z.elim h2 h1)]
theorem tfs_all {w : List Int} {M : Int} (hl : w.length ≤ 6) (hs : w.sum = 0) (hb : Bd M w) : RunT M w (tfsOf w (ptd w 6 (nzL w))) ∧ (tfsOf w (ptd w 6 (nzL w))).length + (ptd w 6 (nzL w)).length = (nzL w).length ∧ (tfsOf w (ptd w 6 (nzL w))).foldl appT w = List.replicate w.length 0 := by
  obtain ⟨h1, h2⟩ := ptd_nz hl hs
  have hmem := ptd_mem hl hs
  obtain ⟨r1, r2, r3, r4⟩ := tfs_run (M := M) (ptd w 6 (nzL w)) w rfl hb (h1.perm.nodup_iff.mpr nzL_nd) (fun q hq => by
    have A := atom_of h1 h2 hq
    refine ⟨A, ?_, (hmem q hq).1, fun i hi => ⟨(hmem q hq).2 i hi, rfl⟩⟩
    have hne := h1.ne q hq
    cases q with
    | nil => exact absurd rfl hne
    | cons x r =>
      cases r with
      | nil =>
        exfalso
        have hx := (nzL_mem ((part_in h1 hq).1 x (by simp))).2
        have := A.1
        simp only [List.map_cons, List.map_nil, List.sum_cons, List.sum_nil] at this
        exact hx (by unfold wA; omega)
      | cons y r => simp)
  refine ⟨r1, by rw [r2, h1.perm.length_eq], ?_⟩
  refine List.ext_getElem (by rw [r3, List.length_replicate]) fun i a1 a2 => ?_
  have e := r4 i
  rw [List.getD_eq_getElem?_getD, List.getElem?_eq_getElem a1] at e
  simp only [Option.getD_some] at e
  rw [e, List.getElem_replicate]
  split
  · rfl
  · next h =>
    rw [h1.perm.mem_iff] at h
    rcases Int.lt_or_le 0 (w.getD i 0) with h3 | h3
    · exact absurd (List.mem_filter.mpr ⟨List.mem_range.mpr (by rw [r3] at a1; exact a1), by simp only [decide_eq_true_eq]; unfold wA; omega⟩) h
    · rcases Int.lt_or_le (w.getD i 0) 0 with h4 | h4
      · exact absurd (List.mem_filter.mpr ⟨List.mem_range.mpr (by rw [r3] at a1; exact a1), by simp only [decide_eq_true_eq]; unfold wA; omega⟩) h
      · omega
theorem most_all {w v : List Int} (hl : w.length ≤ 6) (hs : w.sum = 0) (hv : ∀ p, sumW v p = 0 ↔ sumW w p = 0) : bstN v (nzL w) (2 ^ (nzL w).length - 1) = (ptd w 6 (nzL w)).length := by
  obtain ⟨h1, h2⟩ := ptd_nz hl hs
  have T : TabB w (nzL w) (bstN v (nzL w)) := by
    obtain ⟨t0, t1⟩ := bst_tab (w := v) (l := nzL w)
    refine ⟨t0, fun m a b => ?_⟩
    rw [t1 m a b]
    simp only [hv]
  have hp : 0 < 2 ^ (nzL w).length := Nat.pow_pos (by omega)
  obtain ⟨qs, r, q1, q2, q3, q4, q5⟩ := tab_le T _ (2 ^ (nzL w).length - 1) rfl (by omega)
  have g := tab_ge T _ (2 ^ (nzL w).length - 1) (ptd w 6 (nzL w)) [] (by omega) rfl h1.ne h1.zero (by rw [pickH_full, List.append_nil]; exact h1.perm)
  rw [pickH_full] at q3 q5
  have hr := q5 (by rw [nzL_sum, hs])
  subst hr
  rw [List.append_nil] at q3
  have := h2 qs ⟨q3, q1, q2⟩
  omega

/-! ### settled -/
section
variable {n : Nat} {Pt : Int}
abbrev ftD (P : Int) (t : Nat × Nat × Int) : D := .tup [.int (t.1 : Int), .int (t.2.1 : Int), frD (frc t.2.2 P)]
theorem st_L2 {a0 : D} {x2 : Option Cell} {w : D} {P : Int} (hP : 0 < P) (hP2 : P ≤ ten12) : ∀ (ts : List (Nat × Nat × Int)) (acc : List D), ts.length + acc.length ≤ 1000 →
    forLoop (.many [5, 6, 7]) [5, 6, 7] (exSs (CL (n + 2)) L.gl f_settled_L2) (ts.map tD) [some (.val (a0)), some (.own (.lst acc)), x2, some (.val (w)), some (.val (.int P)), none, none, none, none] = .nx [some (.val (a0)), some (.own (.lst (acc ++ ts.map (ftD P)))), x2, some (.val (w)), some (.val (.int P)), none, none, none, none]
  | [], acc, _ => by simp [for_nil]
  | t :: ts, acc, h => by
    simp only [List.length_cons] at h
    obtain ⟨g, ta, s⟩ := t
    have e1 : CL (n + 2) "fraction" [.val (.int s), .val (.int P)] = _ := sp_fractionW (n := n) hP (by unfold ten12 at hP2; omega)
    have hl : acc.length < 16777216 := by omega
    have b1 : exSs (CL (n + 2)) L.gl f_settled_L2 [some (.val (a0)), some (.own (.lst acc)), x2, some (.val (w)), some (.val (.int P)), some (.val (.int (g : Int))), some (.val (.int (ta : Int))), some (.val (.int s)), none] =
        .nx [some (.val (a0)), some (.own (.lst (acc ++ [ftD P (g, ta, s)]))), x2, some (.val (w)), some (.val (.int P)), some (.val (.int (g : Int))), some (.val (.int (ta : Int))), some (.val (.int s)), none] := by
      simp [f_settled_L2, e1, hl]
    have ih := st_L2 (a0 := a0) (x2 := x2) (w := w) hP hP2 ts (acc ++ [ftD P (g, ta, s)]) (by simp; omega)
    rw [List.map_cons, for_nx (by simp) b1]
    simpa using ih
theorem trf_len : ∀ (k : Nat) (l : List (Int × Nat)), (trf k l).length ≤ k
  | 0, l => by simp [trf]
  | k + 1, l => by
    simp only [trf]
    split
    · have := trf_len k (nxT (l.mergeSort leP)); rw [List.length_cons]; omega
    · simp
theorem st_L1 {a0 : D} {w : List Int} {P : Int} (hP : 0 < P) (hP2 : P ≤ ten12) : ∀ (qs : List (List Nat)) (acc : List D), (∀ q ∈ qs, q.length ≤ 6 ∧ ∀ i ∈ q, i < w.length) → 6 * qs.length + acc.length ≤ 1000 →
    forLoop (.one 2) [2, 5, 6, 7] (exSs (CL (n + 2)) L.gl f_settled_L1) (qs.map qD) [some (.val (a0)), some (.own (.lst acc)), none, some (.val (.lst (w.map .int))), some (.val (.int P)), none, none, none, none] = .nx [some (.val (a0)), some (.own (.lst (acc ++ (tfsOf w qs).map (ftD P)))), none, some (.val (.lst (w.map .int))), some (.val (.int P)), none, none, none, none]
  | [], acc, _, _ => by simp [for_nil, tfsOf]
  | q :: qs, acc, hq, h => by
    simp only [List.length_cons] at h
    obtain ⟨q1, q2⟩ := hq q List.mem_cons_self
    have e1 : CL (n + 2) "transfers_of" [.val (.lst (w.map .int)), .val (qD q)] = _ := sp_transfers (n := n + 1) q2 q1
    have hlen := trf_len 6 (q.map fun i => (wA w i, i))
    have et : tfsOf w (q :: qs) = trf 6 (q.map fun i => (wA w i, i)) ++ tfsOf w qs := by simp [tfsOf]
    rw [et]
    generalize trf 6 (q.map fun i => (wA w i, i)) = ts at *
    have l2 := st_L2 (n := n) (a0 := a0) (x2 := some (.val (qD q))) (w := .lst (w.map .int)) hP hP2 ts acc (by omega)
    have ih := st_L1 (a0 := a0) (w := w) hP hP2 qs (acc ++ ts.map (ftD P)) (fun q hq' => hq q (List.mem_cons_of_mem _ hq')) (by simp; omega)
    have b1 : exSs (CL (n + 2)) L.gl f_settled_L1 [some (.val (a0)), some (.own (.lst acc)), some (.val (qD q)), some (.val (.lst (w.map .int))), some (.val (.int P)), none, none, none, none] =
        .nx [some (.val (a0)), some (.own (.lst (acc ++ ts.map (ftD P)))), some (.val (qD q)), some (.val (.lst (w.map .int))), some (.val (.int P)), none, none, none, none] := by
      generalize w.map D.int = wd at *
      generalize ts.map tD = td at *
      generalize ts.map (ftD P) = fd at *
      unfold qD at *
      generalize nL q = qd at *
      simp [f_settled_L1, e1, l2]
    rw [List.map_cons, for_nx (by simp) b1]
    simpa using ih
theorem st_C1 {a0 : D} {w : List Int} {P : D} : ∀ (l : List Nat), (∀ i ∈ l, i < w.length) → ∀ acc, lcLoop (.one 8) (lcBody (CL n) L.gl f_settled_C1 f_settled_D1) (nL l) acc [some (.val (a0)), some (.own (.lst [])), none, some (.val (.lst (w.map .int))), some (.val (P)), none, none, none, none] = .ok (acc ++ nL (l.filter fun i => decide (wA w i ≠ 0))) [some (.val (a0)), some (.own (.lst [])), none, some (.val (.lst (w.map .int))), some (.val (P)), none, none, none, none]
  | [], _, acc => by simp [lcLoop]
  | x :: l, h, acc => by
    have hx := getD_wl (h x List.mem_cons_self)
    have ih0 := st_C1 (a0 := a0) (P := P) l (fun i hi => h i (List.mem_cons_of_mem _ hi)) acc
    have ih1 := st_C1 (a0 := a0) (P := P) l (fun i hi => h i (List.mem_cons_of_mem _ hi)) (acc ++ [.int (x : Int)])
    simp only [List.map_cons, lcLoop]
    have e1 : bindT (.one 8) (.int (x : Int)) [some (.val (a0)), some (.own (.lst [])), none, some (.val (.lst (w.map .int))), some (.val (P)), none, none, none, none] = some [some (.val (a0)), some (.own (.lst [])), none, some (.val (.lst (w.map .int))), some (.val (P)), none, none, none, some (.val (.int x))] := by simp
    rw [e1]
    dsimp only
    by_cases hz : wA w x = 0
    · have e2 : lcBody (CL n) L.gl f_settled_C1 f_settled_D1 [some (.val (a0)), some (.own (.lst [])), none, some (.val (.lst (w.map .int))), some (.val (P)), none, none, none, some (.val (.int x))] = .ok none [some (.val (a0)), some (.own (.lst [])), none, some (.val (.lst (w.map .int))), some (.val (P)), none, none, none, some (.val (.int x))] := by
        generalize w.map D.int = wd at *
        simp [lcBody, f_settled_C1, f_settled_D1, hx, hz]
      rw [e2, List.filter_cons_of_neg (by simp [hz])]
      simpa using ih0
    · have e2 : lcBody (CL n) L.gl f_settled_C1 f_settled_D1 [some (.val (a0)), some (.own (.lst [])), none, some (.val (.lst (w.map .int))), some (.val (P)), none, none, none, some (.val (.int x))] = .ok (some (.int x)) [some (.val (a0)), some (.own (.lst [])), none, some (.val (.lst (w.map .int))), some (.val (P)), none, none, none, some (.val (.int x))] := by
        generalize w.map D.int = wd at *
        simp [lcBody, f_settled_C1, f_settled_D1, hx, hz]
      rw [e2, List.filter_cons_of_pos (by simp [hz])]
      simpa using ih1
theorem sp_settled {qs : List (Int × Int)} (hP : 0 < Pt) (hP2 : Pt ≤ ten12) (h1 : 1 ≤ qs.length) (h6 : qs.length ≤ 6) (hq : ∀ q ∈ qs, FrOk Pt q) (hs : (whL (lcmF 1 qs) qs).sum = 0) :
    CL (n + 11) "settled" [.val (.tup (qs.map frD))] = .ok (.val (.tup ((tfsOf (whL (lcmF 1 qs) qs) (ptd (whL (lcmF 1 qs) qs) 6 (nzL (whL (lcmF 1 qs) qs)))).map (ftD (lcmF 1 qs))))) [] := by
  rw [call_settled]
  have e0 : CL (n + 10) "whole_debts" [.val (.tup (qs.map frD))] = _ := sp_whole (n := n + 7) hP hP2 h1 h6 hq
  rw [if_pos hs] at e0
  obtain ⟨b1, b2, b3, b4⟩ := lcmF_ok hP (qs := qs) (u := 1) (by decide) (Int.one_dvd _) hq
  have hle : lcmF 1 qs ≤ ten12 := Int.le_trans (Int.le_of_dvd hP b2) hP2
  have hwl : (whL (lcmF 1 qs) qs).length = qs.length := by simp [whL]
  generalize lcmF 1 qs = P at *
  generalize whL P qs = w at *
  have hnz : ∀ i ∈ nzL w, i < w.length := fun i hi => List.mem_range.mp (List.mem_filter.mp hi).1
  have hnl : (nzL w).length ≤ 6 := by
    have := List.length_filter_le (fun i => decide (wA w i ≠ 0)) (List.range w.length)
    rw [List.length_range] at this
    unfold nzL; omega
  have e1 : CL (n + 10) "parted" [.val (.lst (w.map .int)), .val (qD (nzL w))] = _ := sp_parted (n := n + 3) 6 (nzL w) hnl hnl hnz
  have hc := st_C1 (n := n + 10) (a0 := .tup (qs.map frD)) (w := w) (P := .int P) (List.range w.length) (fun i hi => List.mem_range.mp hi) []
  rw [List.nil_append] at hc
  have hc2 : ((List.range w.length).filter fun i => decide (wA w i ≠ 0)) = nzL w := rfl
  rw [hc2] at hc
  unfold nL at hc
  rw [← rng_nat] at hc
  change lcLoop (.one 8) (lcBody (CL (n + 10)) L.gl f_settled_C1 f_settled_D1) _ _ _ = .ok (nL (nzL w)) _ at hc
  have hpl := ptd_len (w := w) 6 (nzL w)
  have hmem := ptd_mem (w := w) (by omega) hs
  have l1 := st_L1 (n := n + 8) (a0 := .tup (qs.map frD)) (w := w) b1 hle (ptd w 6 (nzL w)) [] hmem (by simp; omega)
  rw [List.nil_append] at l1
  have t1 : esc (rcR (rcP (ptd w 6 (nzL w)))) = fun S => .ok (psD (ptd w 6 (nzL w))) S := by funext S; exact esc_rcP
  have s1 : psD (ptd w 6 (nzL w)) = .lst ((ptd w 6 (nzL w)).map qD) := rfl
  rw [s1] at t1
  have hwl2 : (w.map D.int).length = w.length := by simp
  have hbg : bigI (w.length : Int) = true := by
    unfold bigI
    simp only [Bool.and_eq_true, decide_eq_true_eq]
    omega
  have hrl : (rngD 0 (w.length : Int)).length ≤ 16777216 := by rw [rngD_len]; omega
  generalize (tfsOf w (ptd w 6 (nzL w))).map (ftD P) = td at *
  generalize (ptd w 6 (nzL w)).map qD = pd at *
  generalize rcP (ptd w 6 (nzL w)) = rp at *
  unfold qD at *
  generalize nL (nzL w) = zd at *
  generalize w.map D.int = wd at *
  generalize qs.map frD = qd at *
  simp [f_settled, e0, hwl2, hbg, hrl, hc, e1, t1, l1]
end

/-! ### the law's number of transfers -/
theorem setIx_nat {xs : List Int} {m : Nat} {v : Int} (h : m < xs.length) : setIx (.lst (xs.map .int)) (.int (m : Int)) (.int v) = some (.lst ((xs.set m v).map .int)) := by
  rw [setIx_lst]
  unfold L2.ixN
  rw [List.length_map, if_pos (by omega), if_pos (by omega)]
  simp only [Option.map_some, Int.toNat_natCast, List.map_set]
theorem nzL_rows {v : List Int} : v.filter (fun x => decide (x ≠ 0)) = (nzL v).map (wA v) := by
  have e : v = (List.range v.length).map (wA v) := by
    refine List.ext_getElem (by simp) fun i h1 h2 => ?_
    simp only [List.getElem_map, List.getElem_range]
    unfold wA
    rw [List.getD_eq_getElem?_getD, List.getElem?_eq_getElem h1]
    rfl
  unfold nzL
  conv => lhs; rw [e]
  rw [List.filter_map]
  rfl
section
variable {n : Nat}
theorem lm_L4 {a0 : D} {rows : List Int} {c2 : D} {b3 : List D} {k : Nat} (hk : k < rows.length) (h6 : rows.length ≤ 6) : ∀ (c a : Nat) (SM : List Int), a + c = 2 ^ k → SM.length = 64 → (∀ m, m < 2 ^ k + a → SM.getD m 0 = (pickH m (rows.take (k + 1))).sum) →
    ∃ SM' : List Int, SM'.length = 64 ∧ (∀ m, m < 2 ^ (k + 1) → SM'.getD m 0 = (pickH m (rows.take (k + 1))).sum) ∧
    forLoop (.one 7) [7] (exSs (CL n) L.gl f__law_most_L4) ((List.range' a c).map fun (i : Nat) => D.int (i : Int)) [some (.val (a0)), some (.val (.lst (rows.map .int))), some (.val (c2)), some (.own (.lst b3)), some (.own (.lst (SM.map .int))), some (.val (.int (2 ^ k : Nat))), some (.val (.int (k : Int))), none, none, none, none] =
      .nx [some (.val (a0)), some (.val (.lst (rows.map .int))), some (.val (c2)), some (.own (.lst b3)), some (.own (.lst (SM'.map .int))), some (.val (.int (2 ^ k : Nat))), some (.val (.int (k : Int))), none, none, none, none]
  | 0, a, SM, ha, hl, hS => ⟨SM, hl, fun m hm => hS m (by rw [Nat.pow_succ] at hm; omega), by simp [for_nil]⟩
  | c + 1, a, SM, ha, hl, hS => by
    have hp6 : 2 ^ k ≤ 32 := Nat.le_trans (Nat.pow_le_pow_right (by decide) (by omega : k ≤ 5)) (by decide)
    have g1 := getD_wl (w := SM) (i := a) (by omega)
    have g2 := getD_wl (w := rows) (i := k) hk
    have st := setIx_nat (xs := SM) (m := a + 2 ^ k) (v := wA SM a + wA rows k) (by omega)
    obtain ⟨SM', i1, i2, i3⟩ := lm_L4 (a0 := a0) (c2 := c2) (b3 := b3) hk h6 c (a + 1) (SM.set (a + 2 ^ k) (wA SM a + wA rows k)) (by omega) (by rw [List.length_set]; exact hl) (fun m hm => by
      rw [getD_set (by omega)]
      split
      · next e =>
        subst e
        have ht : rows.take (k + 1) = rows.take k ++ [wA rows k] := by
          rw [List.take_succ, List.getElem?_eq_getElem hk]
          unfold wA
          rw [List.getD_eq_getElem?_getD, List.getElem?_eq_getElem hk]
          rfl
        have hlen : (rows.take k).length = k := by rw [List.length_take]; omega
        have e1 := pickH_top (l := rows.take k) (x := wA rows k) (m := a) (by rw [hlen]; omega)
        rw [hlen] at e1
        have e2 := hS a (by omega)
        have e3 := pickH_low (l := rows.take k) (m := a) (r := [wA rows k]) (by rw [hlen]; omega)
        rw [ht] at e2 ⊢
        rw [e1]
        rw [e3] at e2
        have e4 : wA SM a = (pickH a (rows.take k)).sum := e2
        rw [List.sum_append, e4]
        simp
      · exact hS m (by omega))
    refine ⟨SM', i1, i2, ?_⟩
    generalize wA SM a = u at *
    generalize wA rows k = v at *
    have b1 : exSs (CL n) L.gl f__law_most_L4 [some (.val (a0)), some (.val (.lst (rows.map .int))), some (.val (c2)), some (.own (.lst b3)), some (.own (.lst (SM.map .int))), some (.val (.int (2 ^ k : Nat))), some (.val (.int (k : Int))), some (.val (.int (a : Int))), none, none, none] =
        .nx [some (.val (a0)), some (.val (.lst (rows.map .int))), some (.val (c2)), some (.own (.lst b3)), some (.own (.lst ((SM.set (a + 2 ^ k) (u + v)).map .int))), some (.val (.int (2 ^ k : Nat))), some (.val (.int (k : Int))), some (.val (.int (a : Int))), none, none, none] := by
      generalize (SM.set (a + 2 ^ k) (u + v)).map D.int = sd' at *
      generalize SM.map D.int = sd at *
      generalize rows.map D.int = rd at *
      generalize 2 ^ k = pw at *
      rw [Int.natCast_add] at st
      simp only [f__law_most_L4]
      simp [g1, g2, -setIx_lst, st]
    rw [List.range'_succ, List.map_cons, for_nx (by simp) b1]
    simpa using i3
theorem lm_L3 {a0 : D} {rows : List Int} {c2 : D} {b3 : List D} (h6 : rows.length ≤ 6) : ∀ (c k : Nat) (SM : List Int), k + c = rows.length → SM.length = 64 → (∀ m, m < 2 ^ k → SM.getD m 0 = (pickH m (rows.take k)).sum) →
    ∃ SM' : List Int, SM'.length = 64 ∧ (∀ m, m < 2 ^ rows.length → SM'.getD m 0 = (pickH m rows).sum) ∧
    forLoop (.one 6) [6, 7] (exSs (CL n) L.gl f__law_most_L3) ((List.range' k c).map fun (i : Nat) => D.int (i : Int)) [some (.val (a0)), some (.val (.lst (rows.map .int))), some (.val (c2)), some (.own (.lst b3)), some (.own (.lst (SM.map .int))), some (.val (.int (2 ^ k : Nat))), none, none, none, none, none] =
      .nx [some (.val (a0)), some (.val (.lst (rows.map .int))), some (.val (c2)), some (.own (.lst b3)), some (.own (.lst (SM'.map .int))), some (.val (.int (2 ^ rows.length : Nat))), none, none, none, none, none]
  | 0, k, SM, ha, hl, hS => by
    have e : k = rows.length := by omega
    subst e
    exact ⟨SM, hl, fun m hm => by rw [hS m hm, List.take_length], by simp [for_nil]⟩
  | c + 1, k, SM, ha, hl, hS => by
    have hp6 : 2 ^ k ≤ 32 := Nat.le_trans (Nat.pow_le_pow_right (by decide) (by omega : k ≤ 5)) (by decide)
    obtain ⟨SM1, j1, j2, j3⟩ := lm_L4 (n := n) (a0 := a0) (c2 := c2) (b3 := b3) (rows := rows) (k := k) (by omega) h6 (2 ^ k) 0 SM (by omega) hl (fun m hm => by
      have hlen : (rows.take k).length = k := by rw [List.length_take]; omega
      have ht : rows.take (k + 1) = rows.take k ++ (rows.take (k + 1)).drop k := by
        have := List.take_append_drop k (rows.take (k + 1))
        rw [List.take_take, Nat.min_eq_left (by omega)] at this
        exact this.symm
      rw [hS m (by omega), ht, pickH_low (by rw [hlen]; omega)])
    rw [← List.range_eq_range', ← rng_nat] at j3
    obtain ⟨SM', i1, i2, i3⟩ := lm_L3 (a0 := a0) (c2 := c2) (b3 := b3) h6 c (k + 1) SM1 (by omega) j1 j2
    refine ⟨SM', i1, i2, ?_⟩
    have hpz : (0 : Int) ≤ ((2 ^ k : Nat) : Int) := Int.natCast_nonneg _
    have hs2 : smallI ((2 ^ k : Nat) : Int) = true := smallI_in (by omega) (by omega)
    have hpw : ((2 ^ k : Nat) : Int) * 2 = ((2 ^ (k + 1) : Nat) : Int) := by rw [Nat.pow_succ]; omega
    have hbg : bigI ((2 ^ k : Nat) : Int) = true := by
      unfold bigI
      simp only [Bool.and_eq_true, decide_eq_true_eq]
      omega
    have b1 : exSs (CL n) L.gl f__law_most_L3 [some (.val (a0)), some (.val (.lst (rows.map .int))), some (.val (c2)), some (.own (.lst b3)), some (.own (.lst (SM.map .int))), some (.val (.int (2 ^ k : Nat))), some (.val (.int (k : Int))), none, none, none, none] =
        .nx [some (.val (a0)), some (.val (.lst (rows.map .int))), some (.val (c2)), some (.own (.lst b3)), some (.own (.lst (SM1.map .int))), some (.val (.int (2 ^ (k + 1) : Nat))), some (.val (.int (k : Int))), none, none, none, none] := by
      rw [← hpw]
      generalize SM1.map D.int = sd' at *
      generalize SM.map D.int = sd at *
      generalize rows.map D.int = rd at *
      generalize ((2 ^ k : Nat) : Int) = pw at *
      simp [f__law_most_L3, hbg, j3, hs2]
    rw [List.range'_succ, List.map_cons, for_nx (by simp) b1]
    simpa using i3
theorem lm_L2 {a0 a1 a2 a4 a5 : D} {BS : List Int} {B : Nat → Nat} {m many : Nat} (hm : m < 64) (hB : BS.length = 64) (hBS : ∀ i, i < m → BS.getD i 0 = (B i : Nat)) (h6 : many ≤ 6) : ∀ (c k f : Nat), k + c = many →
    forLoop (.one 6) [6] (exSs (CL n) L.gl f__law_most_L2) ((List.range' k c).map fun (i : Nat) => D.int (i : Int)) [some (.val (a0)), some (.val (a1)), some (.val (a2)), some (.own (.lst (BS.map .int))), some (.own (.lst a4s)), some (.val (a5)), none, some (.val (.int (m : Int))), none, some (.val (.int (f : Int))), some (.val (.int (2 ^ k : Nat)))] =
      .nx [some (.val (a0)), some (.val (a1)), some (.val (a2)), some (.own (.lst (BS.map .int))), some (.own (.lst a4s)), some (.val (a5)), none, some (.val (.int (m : Int))), none, some (.val (.int (mxb B m (List.range' k c) f : Nat))), some (.val (.int (2 ^ many : Nat)))]
  | 0, k, f, h => by
    have e : k = many := by omega
    subst e
    simp [for_nil, mxb]
  | c + 1, k, f, h => by
    have hp6 : 2 ^ k ≤ 32 := Nat.le_trans (Nat.pow_le_pow_right (by decide) (by omega : k ≤ 5)) (by decide)
    have hp0 : 0 < 2 ^ k := Nat.pow_pos (by decide)
    have ih := lm_L2 (a0 := a0) (a1 := a1) (a2 := a2) (a4 := a4) (a5 := a5) (a4s := a4s) hm hB hBS h6 c (k + 1) (if (m / 2 ^ k) % 2 = 1 then max f (B (m - 2 ^ k)) else f) (by omega)
    have hpw : ((2 ^ k : Nat) : Int) * 2 = ((2 ^ (k + 1) : Nat) : Int) := by rw [Nat.pow_succ]; omega
    have hpz : (0 : Int) ≤ ((2 ^ k : Nat) : Int) := Int.natCast_nonneg _
    have hs2 : smallI ((2 ^ k : Nat) : Int) = true := smallI_in (by omega) (by omega)
    have h1 : (0 : Int) < ((2 ^ k : Nat) : Int) := by omega
    have h2 : ((2 ^ k : Nat) : Int) < 18446744073709551616 := by omega
    have hq : (m : Int) / ((2 ^ k : Nat) : Int) = ((m / 2 ^ k : Nat) : Int) := by rw [Int.natCast_ediv]
    have hql : m / 2 ^ k ≤ m := Nat.div_le_self _ _
    have s3 : smallI (((m / 2 ^ k : Nat) : Int) / 2) = true := (fun (q : Nat) (hq : q ≤ m) => (smallI_in (by omega) (by omega) : smallI ((q : Int) / 2) = true)) _ hql
    have e2 : mxb B m (List.range' k (c + 1)) f = mxb B m (List.range' (k + 1) c) (if (m / 2 ^ k) % 2 = 1 then max f (B (m - 2 ^ k)) else f) := by
      rw [List.range'_succ]; rfl
    rw [e2]
    have b1 : exSs (CL n) L.gl f__law_most_L2 [some (.val (a0)), some (.val (a1)), some (.val (a2)), some (.own (.lst (BS.map .int))), some (.own (.lst a4s)), some (.val (a5)), some (.val (.int (k : Int))), some (.val (.int (m : Int))), none, some (.val (.int (f : Int))), some (.val (.int (2 ^ k : Nat)))] =
        .nx [some (.val (a0)), some (.val (a1)), some (.val (a2)), some (.own (.lst (BS.map .int))), some (.own (.lst a4s)), some (.val (a5)), some (.val (.int (k : Int))), some (.val (.int (m : Int))), none, some (.val (.int ((if (m / 2 ^ k) % 2 = 1 then max f (B (m - 2 ^ k)) else f : Nat) : Int))), some (.val (.int (2 ^ (k + 1) : Nat)))] := by
      rw [← hpw]
      by_cases hb : (m / 2 ^ k) % 2 = 1
      · have hle := bit_le hb
        have g1 := getD_wl (w := BS) (i := m - 2 ^ k) (by omega)
        have g2 : wA BS (m - 2 ^ k) = (B (m - 2 ^ k) : Nat) := hBS _ (by omega)
        rw [g2] at g1
        have hd : (m : Int) - ((2 ^ k : Nat) : Int) = ((m - 2 ^ k : Nat) : Int) := by omega
        have ht : ((m / 2 ^ k : Nat) : Int) - ((m / 2 ^ k : Nat) : Int) / 2 * 2 = 1 := by omega
        have hmx : ((max f (B (m - 2 ^ k)) : Nat) : Int) = if (f : Int) < ((B (m - 2 ^ k) : Nat) : Int) then ((B (m - 2 ^ k) : Nat) : Int) else (f : Int) := by split <;> omega
        rw [if_pos hb, hmx]
        generalize BS.map D.int = bd at *
        generalize ((2 ^ k : Nat) : Int) = pw at *
        generalize m - 2 ^ k = mk at *
        generalize ((m / 2 ^ k : Nat) : Int) = q at *
        simp [f__law_most_L2, h1, h2, hq, s3, hs2, ht, hd, g1]
      · have ht : ((m / 2 ^ k : Nat) : Int) - ((m / 2 ^ k : Nat) : Int) / 2 * 2 = 0 := by omega
        rw [if_neg hb]
        generalize BS.map D.int = bd at *
        generalize ((2 ^ k : Nat) : Int) = pw at *
        generalize ((m / 2 ^ k : Nat) : Int) = q at *
        simp [f__law_most_L2, h1, h2, hq, s3, hs2, ht]
    rw [List.range'_succ, List.map_cons, for_nx (by simp) b1]
    simpa using ih
theorem lm_L1 {a0 a2 a5 : D} {v : List Int} {l : List Nat} {SM : List Int} {many : Nat} (hl : l.length = many) (h6 : many ≤ 6) (hSM : SM.length = 64) (hS : ∀ m, m < 2 ^ many → SM.getD m 0 = sumW v (pickH m l)) {a1 : D} : ∀ (c m : Nat) (BS : List Int), 1 ≤ m → m + c = 2 ^ many → BS.length = 64 → (∀ i, i < m → BS.getD i 0 = (bstN v l i : Nat)) →
    ∃ BS' : List Int, BS'.length = 64 ∧ (∀ i, i < 2 ^ many → BS'.getD i 0 = (bstN v l i : Nat)) ∧
    forLoop (.one 7) [6, 7, 9, 10] (exSs (CL n) L.gl f__law_most_L1) ((List.range' m c).map fun (i : Nat) => D.int (i : Int)) [some (.val (a0)), some (.val (a1)), some (.val (.int (many : Int))), some (.own (.lst (BS.map .int))), some (.own (.lst (SM.map .int))), some (.val (a5)), none, none, none, none, none] =
      .nx [some (.val (a0)), some (.val (a1)), some (.val (.int (many : Int))), some (.own (.lst (BS'.map .int))), some (.own (.lst (SM.map .int))), some (.val (a5)), none, none, none, none, none]
  | 0, m, BS, h1, h2, h3, h4 => ⟨BS, h3, fun i hi => h4 i (by omega), by simp [for_nil]⟩
  | c + 1, m, BS, h1, h2, h3, h4 => by
    have hp6 : 2 ^ many ≤ 64 := Nat.le_trans (Nat.pow_le_pow_right (by decide) h6) (by decide)
    have hbst : bstN v l m = mxb (bstN v l) m (List.range many) 0 + (if sumW v (pickH m l) = 0 then 1 else 0) := by
      obtain ⟨k, rfl⟩ : ∃ k, m = k + 1 := ⟨m - 1, by omega⟩
      rw [← hl]
      exact bstN_succ
    have j := lm_L2 (n := n) (a0 := a0) (a1 := a1) (a2 := .int (many : Int)) (a4 := a1) (a5 := a5) (a4s := SM.map .int) (BS := BS) (B := bstN v l) (m := m) (many := many) (by omega) h3 h4 h6 many 0 0 (by omega)
    rw [← List.range_eq_range', ← rng_nat, Nat.pow_zero] at j
    have g1 := getD_wl (w := SM) (i := m) (by omega)
    have g2 : wA SM m = sumW v (pickH m l) := hS m (by omega)
    rw [g2] at g1
    have hbg : bigI (many : Int) = true := by
      unfold bigI
      simp only [Bool.and_eq_true, decide_eq_true_eq]
      omega
    have st := setIx_nat (xs := BS) (m := m) (v := ((bstN v l m : Nat) : Int)) (by omega)
    have hbi : ((bstN v l m : Nat) : Int) = ((mxb (bstN v l) m (List.range many) 0 : Nat) : Int) + (if sumW v (pickH m l) = 0 then 1 else 0) := by
      rw [hbst]; split <;> simp
    obtain ⟨BS', i1, i2, i3⟩ := lm_L1 (a0 := a0) (a2 := a2) (a5 := a5) hl h6 hSM hS (a1 := a1) c (m + 1) (BS.set m ((bstN v l m : Nat) : Int)) (by omega) (by omega) (by rw [List.length_set]; exact h3) (fun i hi => by
      rw [getD_set (by omega)]
      split
      · next e => rw [e]
      · exact h4 i (by omega))
    refine ⟨BS', i1, i2, ?_⟩
    rw [hbi] at st i3
    generalize sumW v (pickH m l) = sv at *
    generalize ((mxb (bstN v l) m (List.range many) 0 : Nat) : Int) = mb at *
    have b1 : exSs (CL n) L.gl f__law_most_L1 [some (.val (a0)), some (.val (a1)), some (.val (.int (many : Int))), some (.own (.lst (BS.map .int))), some (.own (.lst (SM.map .int))), some (.val (a5)), none, some (.val (.int (m : Int))), none, none, none] =
        .nx [some (.val (a0)), some (.val (a1)), some (.val (.int (many : Int))), some (.own (.lst ((BS.set m (mb + (if sv = 0 then 1 else 0))).map .int))), some (.own (.lst (SM.map .int))), some (.val (a5)), none, some (.val (.int (m : Int))), none, some (.val (.int mb)), some (.val (.int (2 ^ many : Nat)))] := by
      generalize (BS.set m (mb + (if sv = 0 then 1 else 0))).map D.int = bd' at *
      generalize BS.map D.int = bd at *
      generalize SM.map D.int = sd at *
      generalize ((2 ^ many : Nat) : Int) = pw at *
      by_cases hz : sv = 0
      · rw [if_pos hz] at st
        subst hz
        simp only [Int.cast_ofNat_Int] at j
        simp [f__law_most_L1, hbg, j, g1, -setIx_lst, st]
      · rw [if_neg hz, Int.add_zero] at st
        simp only [Int.cast_ofNat_Int] at j
        simp [f__law_most_L1, hbg, j, g1, hz, -setIx_lst, st]
    rw [List.range'_succ, List.map_cons, for_nx (by simp) b1]
    simpa using i3
theorem rng_nat1 {k : Nat} (h : 1 ≤ k) : rngD 1 (k : Int) = (List.range' 1 (k - 1)).map fun (m : Nat) => D.int (m : Int) := by
  unfold rngD
  have e : ((k : Int) - 1).toNat = k - 1 := by omega
  rw [e, List.range'_eq_map_range, List.map_map]
  apply List.map_congr_left
  intro a _
  simp
theorem sp_most {v : List Int} (h6 : v.length ≤ 6) : CL (n + 1) "_law_most" [.val (.lst (v.map .int))] = .ok (.val (.int (((nzL v).length : Int) - (bstN v (nzL v) (2 ^ (nzL v).length - 1) : Nat)))) [] := by
  rw [call__law_most]
  have hml : (nzL v).length ≤ 6 := Nat.le_trans nzL_len h6
  have hrows : ((nzL v).map (wA v)).length = (nzL v).length := by simp
  have c1 : ∀ (w : List Int) acc, lcLoop (.one 8) (lcBody (CL n) L.gl f__law_most_C1 f__law_most_D1) (w.map .int) acc [some (.val (.lst (v.map .int))), none, none, none, none, none, none, none, none, none, none] = .ok (acc ++ (w.filter fun x => decide (x ≠ 0)).map .int) [some (.val (.lst (v.map .int))), none, none, none, none, none, none, none, none, none, none] := fun w acc => by
    have e := lc_map (tg := .one 8) (f := lcBody (CL n) L.gl f__law_most_C1 f__law_most_D1) D.int (fun x => if decide (x ≠ 0) then some (.int x) else none) [some (.val (.lst (v.map .int))), none, none, none, none, none, none, none, none, none, none]
      (fun x => ⟨[some (.val (.lst (v.map .int))), none, none, none, none, none, none, none, some (.val (.int x)), none, none], [some (.val (.lst (v.map .int))), none, none, none, none, none, none, none, some (.val (.int x)), none, none], by simp, by
        generalize v.map D.int = vd
        by_cases h : x = 0
        · simp [lcBody, f__law_most_C1, f__law_most_D1, h]
        · simp [lcBody, f__law_most_C1, f__law_most_D1, h], by simp⟩) w acc
    rw [e, fm_ite]
  have c2 := c1 v []
  rw [List.nil_append, nzL_rows] at c2
  obtain ⟨SM, s1, s2, s3⟩ := lm_L3 (n := n) (a0 := .lst (v.map .int)) (rows := (nzL v).map (wA v)) (c2 := .int ((nzL v).length : Int)) (b3 := List.replicate 64 (.int 0)) (by rw [hrows]; exact hml) (nzL v).length 0 (List.replicate 64 0) (by rw [hrows]; omega) (by simp) (fun m hm => by
    have : m = 0 := by simpa using hm
    subst this
    rw [pickH_zero]; rfl)
  rw [← List.range_eq_range', ← rng_nat, hrows, Nat.pow_zero] at s3
  have hp1 : 1 ≤ 2 ^ (nzL v).length := Nat.pow_pos (by decide)
  have hp6 : 2 ^ (nzL v).length ≤ 64 := Nat.le_trans (Nat.pow_le_pow_right (by decide) hml) (by decide)
  obtain ⟨BS, t1, t2, t3⟩ := lm_L1 (n := n) (a0 := .lst (v.map .int)) (a2 := .non) (a5 := .int ((2 ^ (nzL v).length : Nat) : Int)) (v := v) (l := nzL v) (SM := SM) (many := (nzL v).length) rfl hml s1 (fun m hm => by
    rw [s2 m (by rw [hrows]; exact hm)]
    exact pick_sumW) (a1 := .lst (((nzL v).map (wA v)).map .int)) (2 ^ (nzL v).length - 1) 1 (List.replicate 64 0) (Nat.le_refl _) (by omega) (by simp) (fun i hi => by
    have : i = 0 := by omega
    subst this
    rfl)
  rw [← rng_nat1 hp1] at t3
  have g1 := getD_wl (w := BS) (i := 2 ^ (nzL v).length - 1) (by omega)
  have g2 : wA BS (2 ^ (nzL v).length - 1) = (bstN v (nzL v) (2 ^ (nzL v).length - 1) : Nat) := t2 _ (by omega)
  rw [g2] at g1
  have hbg : bigI ((nzL v).length : Int) = true := by
    unfold bigI
    simp only [Bool.and_eq_true, decide_eq_true_eq]
    omega
  have hpz : (0 : Int) ≤ ((2 ^ (nzL v).length : Nat) : Int) := Int.natCast_nonneg _
  have hbg2 : bigI ((2 ^ (nzL v).length : Nat) : Int) = true := by
    unfold bigI
    simp only [Bool.and_eq_true, decide_eq_true_eq]
    omega
  have hsub : ((2 ^ (nzL v).length : Nat) : Int) - 1 = ((2 ^ (nzL v).length - 1 : Nat) : Int) := by omega
  have hrl : (((nzL v).map (wA v)).map D.int).length = (nzL v).length := by simp
  have hvl : (v.map D.int).length ≤ 16777216 := by simp; omega
  have hrep : (List.replicate 64 (0 : Int)).map D.int = List.replicate 64 (.int 0) := by simp
  rw [hrep] at s3 t3
  have hmulL : binD .mul (.lst [.int 0]) (.int 64) = some (.tmp (.lst (List.replicate 64 (.int 0)))) := by
    rw [binD_mulL]
    have e1 : (List.replicate (64 : Int).toNat [D.int 0]).flatten = List.replicate 64 (.int 0) := by rfl
    rw [e1]
    have e2 : (decide ((0 : Int) ≤ 64) && decide ((64 : Int) ≤ 1000) && lineOk ([D.int 0].length * (64 : Int).toNat)) = true := by decide +kernel
    rw [if_pos e2]
  generalize ((bstN v (nzL v) (2 ^ (nzL v).length - 1) : Nat) : Int) = bv at *
  generalize ((2 ^ (nzL v).length - 1 : Nat)) = pm at *
  simp only [Int.cast_ofNat_Int] at s3
  generalize ((2 ^ (nzL v).length : Nat) : Int) = pw at *
  generalize ((nzL v).map (wA v)).map D.int = rd at *
  generalize v.map D.int = vd at *
  generalize List.replicate 64 (D.int 0) = zs at *
  generalize BS.map D.int = bd at *
  generalize SM.map D.int = sd at *
  simp [f__law_most, hvl, c2, hrl, -binD_mulL, hmulL, hbg, s3, hbg2, t3, hsub, g1]
theorem sp_refused {d : D} (h : CL (n + 1) "settled" [.val d] = .exc "BadDebts" [] []) : CL (n + 2) "_law_refused" [.val d] = .ok (.val (.bl true)) [] := by
  rw [call__law_refused]
  simp [f__law_refused, h]
theorem sp_settledB {d : D} (h : CL n "whole_debts" [.val d] = .exc "BadDebts" [] []) : CL (n + 1) "settled" [.val d] = .exc "BadDebts" [] [] := by
  rw [call_settled]
  simp [f_settled, h]
end

/-! what is owed and what the debts are over a common number of parts -/
theorem whL_len {P : Int} {qs : List (Int × Int)} : (whL P qs).length = qs.length := by simp [whL]
theorem wh_at {P Pt x : Int} (hPt : 0 < Pt) (hd : (frc x Pt).2 ∣ P) : (frc x Pt).1 * (P / (frc x Pt).2) * Pt = x * P := by
  obtain ⟨g, g0, e1, e2, e3, _⟩ := frc_ok (a := x) hPt
  obtain ⟨k, hk⟩ := hd
  generalize (frc x Pt).1 = a at *
  generalize (frc x Pt).2 = b at *
  subst hk
  rw [Int.mul_ediv_cancel_left _ (by omega), e1, e2]
  simp only [Int.mul_assoc, Int.mul_left_comm, Int.mul_comm]
section
variable {ow : List Int} {Pt P : Int} (hPt : 0 < Pt) (hP : 0 < P) (hPP : P ≤ Pt) (hd : ∀ q ∈ ow.map (fun x => frc x Pt), q.2 ∣ P)
include hPt hd
theorem wh_get {i : Nat} : (whL P (ow.map fun x => frc x Pt)).getD i 0 * Pt = ow.getD i 0 * P := by
  unfold whL
  rw [List.map_map]
  rw [List.getD_eq_getElem?_getD, List.getD_eq_getElem?_getD, List.getElem?_map]
  cases h : ow[i]? with
  | none => simp
  | some x =>
    simp only [Option.map_some, Option.getD_some, Function.comp]
    exact wh_at hPt (hd _ (List.mem_map_of_mem (List.mem_of_getElem? h)))
theorem wh_sumW : ∀ p : List Nat, sumW (whL P (ow.map fun x => frc x Pt)) p * Pt = sumW ow p * P
  | [] => by simp [sumW_nil]
  | i :: p => by rw [sumW_cons, sumW_cons, Int.add_mul, Int.add_mul, wh_get hPt hd, wh_sumW p]
include hP
theorem wh_zero (p : List Nat) : sumW ow p = 0 ↔ sumW (whL P (ow.map fun x => frc x Pt)) p = 0 := by
  have h := wh_sumW hPt hd p
  constructor
  · intro e
    rw [e, Int.zero_mul] at h
    rcases Int.mul_eq_zero.mp h with h | h <;> omega
  · intro e
    rw [e, Int.zero_mul] at h
    rcases Int.mul_eq_zero.mp h.symm with h | h <;> omega
theorem wh_nz : nzL ow = nzL (whL P (ow.map fun x => frc x Pt)) := by
  unfold nzL
  rw [whL_len, List.length_map]
  refine List.filter_congr fun i _ => ?_
  have h := wh_get (P := P) hPt hd (i := i)
  unfold wA
  rw [decide_eq_decide]
  constructor
  · intro a b
    rw [b, Int.zero_mul] at h
    rcases Int.mul_eq_zero.mp h.symm with h | h <;> omega
  · intro a b
    rw [b, Int.zero_mul] at h
    rcases Int.mul_eq_zero.mp h with h | h <;> omega
theorem wh_sum (h : ow.sum = 0) : (whL P (ow.map fun x => frc x Pt)).sum = 0 := by
  have h1 := (wh_zero hPt hP hd (List.range ow.length)).mp (by rw [sumW_range, h])
  have h2 := sumW_range (w := whL P (ow.map fun x => frc x Pt))
  rw [whL_len, List.length_map] at h2
  rw [← h2, h1]
include hPP
theorem wh_bd {M : Int} (h : Bd M ow) : Bd M (whL P (ow.map fun x => frc x Pt)) := fun i => by
  have h1 := wh_get (P := P) hPt hd (i := i)
  have h2 := h i
  generalize (whL P (ow.map fun x => frc x Pt)).getD i 0 = a at *
  generalize ow.getD i 0 = b at *
  have hM : 0 ≤ M := by omega
  constructor
  · rcases Int.lt_or_le a (-M) with h3 | h3
    · exfalso
      have h4 : a * Pt < -M * Pt := Int.mul_lt_mul_of_pos_right h3 hPt
      have h5 : -M * P ≤ b * P := Int.mul_le_mul_of_nonneg_right h2.1 (by omega)
      have h6 : M * P ≤ M * Pt := Int.mul_le_mul_of_nonneg_left hPP hM
      rw [Int.neg_mul] at h4 h5
      omega
    · exact h3
  · rcases Int.lt_or_le M a with h3 | h3
    · exfalso
      have h4 : M * Pt < a * Pt := Int.mul_lt_mul_of_pos_right h3 hPt
      have h5 : b * P ≤ M * P := Int.mul_le_mul_of_nonneg_right h2.2 (by omega)
      have h6 : M * P ≤ M * Pt := Int.mul_le_mul_of_nonneg_left hPP hM
      omega
    · exact h3
omit hPP
theorem wh_frc : (whL P (ow.map fun x => frc x Pt)).map (fun x => frc x P) = ow.map fun x => frc x Pt := by
  unfold whL
  rw [List.map_map, List.map_map]
  refine List.map_congr_left fun x hx => ?_
  simp only [Function.comp]
  exact frc_eq hP hPt (wh_at hPt (hd _ (List.mem_map_of_mem hx)))
end

/-! ### the law -/
theorem setIx_map {α : Type} {f : α → D} {xs : List α} {m : Nat} {v : α} (h : m < xs.length) : setIx (.lst (xs.map f)) (.int (m : Int)) (f v) = some (.lst ((xs.set m v).map f)) := by
  rw [setIx_lst]
  unfold L2.ixN
  rw [List.length_map, if_pos (by omega), if_pos (by omega)]
  simp only [Option.map_some, Int.toNat_natCast, List.map_set]
theorem setIx_last {xs : List Int} {v : Int} (h : 0 < xs.length) : setIx (.lst (xs.map .int)) (.int (-1)) (.int v) = some (.lst ((xs.set (xs.length - 1) v).map .int)) := by
  rw [setIx_lst]
  unfold L2.ixN
  rw [List.length_map, if_neg (by decide), if_pos (by omega)]
  simp only [Option.map_some]
  have e : ((-1 : Int) + (xs.length : Int)).toNat = xs.length - 1 := by omega
  rw [e, List.map_set]
theorem sp_wlong {n : Nat} {ds : List D} (h : 6 < ds.length) : CL (n + 1) "whole_debts" [.val (.tup ds)] = .exc "BadDebts" [] [] := by
  rw [call_whole_debts]
  have c1 : (1 : Int) ≤ ds.length := by omega
  have c2 : ¬ (ds.length : Int) ≤ 6 := by omega
  simp [f_whole_debts, chainR, c1, c2]
theorem sp_wnil {n : Nat} : CL (n + 1) "whole_debts" [.val (.tup [])] = .exc "BadDebts" [] [] := by
  rw [call_whole_debts]
  simp [f_whole_debts, chainR]
theorem sp_wlst {n : Nat} {ds : List D} : CL (n + 1) "whole_debts" [.val (.lst ds)] = .exc "BadDebts" [] [] := by
  rw [call_whole_debts]
  simp [f_whole_debts]
theorem sp_wnon {n : Nat} : CL (n + 1) "whole_debts" [.val .non] = .exc "BadDebts" [] [] := by
  rw [call_whole_debts]
  simp [f_whole_debts]
section
variable {n : Nat} {o o2 : Ob} {P Pt : Int}
abbrev fP (P : Int) (x : Int) : D := frD (frc x P)
theorem mul_lt {b d K : Int} (hb : 0 < b) (hb2 : b ≤ K) (hd : 0 < d) (hd2 : d ≤ K) : b * d ≤ K * K := Int.le_trans (Int.mul_le_mul_of_nonneg_right hb2 (by omega)) (Int.mul_le_mul_of_nonneg_left hd2 (by omega))
theorem lplus_at (hP : 0 < P) (hP2 : P ≤ ten12) {x y : Int} (hx : x.natAbs ≤ 1000) (hy : y.natAbs ≤ 1000) : CL (n + 3) "_law_plus" [.val (fP P x), .val (fP P y)] = .ok (.val (fP P (x + y))) [] := by
  obtain ⟨g, g0, e1, e2, e3, e4⟩ := frc_ok (a := x) hP
  obtain ⟨k, k0, f1, f2, f3, f4⟩ := frc_ok (a := y) hP
  have a1 := frc_abs (a := x) hP
  have a2 := frc_abs (a := y) hP
  have hpl := frc_plus (a := x) (b := y) hP
  unfold fP
  rw [← hpl]
  have q2 : (frc x P).2 ≤ ten12 := Int.le_trans e4 hP2
  have q4 : (frc y P).2 ≤ ten12 := Int.le_trans f4 hP2
  generalize (frc x P) = q at *
  generalize (frc y P) = r at *
  obtain ⟨a, b⟩ := q
  obtain ⟨c, d⟩ := r
  dsimp only at *
  have m1 : b * d ≤ ten12 * ten12 := mul_lt e3 q2 f3 q4
  have m0 : 0 < b * d := Int.mul_pos e3 f3
  have n1 : (a * d).natAbs ≤ 1000 * 1000000000000 := by
    rw [Int.natAbs_mul]
    refine Nat.mul_le_mul (by omega) ?_
    unfold ten12 at q4; omega
  have n2 : (c * b).natAbs ≤ 1000 * 1000000000000 := by
    rw [Int.natAbs_mul]
    refine Nat.mul_le_mul (by omega) ?_
    unfold ten12 at q2; omega
  unfold ten12 at *
  exact sp_lplus (n := n) e3 (by omega) f3 (by omega) (by omega) m0 (by omega)
theorem bd_abs {M : Int} {c : List Int} (h : Bd M c) (hM : M ≤ 400) (i : Nat) : (wA c i).natAbs ≤ 400 := by
  have := h i
  unfold wA
  omega
theorem wA_set {c : List Int} {i j : Nat} {x : Int} (h : i < c.length) : wA (c.set i x) j = if j = i then x else wA c j := getD_set h
theorem law_B11 (hP : 0 < P) (hP2 : P ≤ ten12) {M : Int} (hM : M ≤ 400) {a2 a4 a5 : D} {x3 : Option Cell} {c : List Int} {t : Nat × Nat × Int} (hb : Bd M c) (h1 : t.1 < c.length) (h2 : t.2.1 < c.length) (hne : t.1 ≠ t.2.1) (hs : 0 < t.2.2) (hsM : t.2.2 ≤ M) (hcl : c.length ≤ 1000) :
    exSs (CL (n + 3)) L.gl f_law_L1 [some (.par (o)), some (.own (o2)), some (.val (a2)), x3, some (.val (a4)), some (.val (a5)), some (.own (.lst (c.map (fP P)))), some (.val (ftD P t)), none, none, none, none, none, none] =
      .nx [some (.par (o)), some (.own (o2)), some (.val (a2)), x3, some (.val (a4)), some (.val (a5)), some (.own (.lst ((appT c t).map (fP P)))), some (.val (ftD P t)), none, none, some (.val (.int (t.1 : Int))), some (.val (.int (t.2.1 : Int))), some (.val (fP P t.2.2)), none] := by
  obtain ⟨g, ta, s⟩ := t
  dsimp only at h1 h2 hne hs hsM
  have ag := bd_abs hb hM g
  have at' := bd_abs hb hM ta
  have e1 : CL (n + 3) "_law_plus" [.val (fP P (wA c g)), .val (fP P (-s))] = _ := lplus_at (n := n) hP hP2 (by omega) (by omega)
  have e2 : CL (n + 3) "_law_plus" [.val (fP P (wA (c.set g (wA c g + -s)) ta)), .val (fP P s)] = _ := lplus_at (n := n) hP hP2 (by rw [wA_set h1, if_neg (by omega)]; omega) (by omega)
  obtain ⟨k, k0, f1, f2, f3, f4⟩ := frc_ok (a := s) hP
  have as2 := frc_abs (a := s) hP
  have e3 : CL (n + 3) "_law_fraction" [.val (.int (frc s P).1), .val (.int (frc s P).2)] = _ := sp_lfractionW (n := n + 1) (by omega) f3 (by unfold ten12 at hP2; omega)
  rw [frc_self hP] at e3
  have hps := frc_pos hP hs
  have hng := frc_neg (a := s) hP
  have st1 := setIx_map (f := fP P) (xs := c) (m := g) (v := wA c g + -s) h1
  have st2 := setIx_map (f := fP P) (xs := c.set g (wA c g + -s)) (m := ta) (v := wA (c.set g (wA c g + -s)) ta + s) (by rw [List.length_set]; exact h2)
  have eA : appT c (g, ta, s) = (c.set g (wA c g + -s)).set ta (wA (c.set g (wA c g + -s)) ta + s) := by
    unfold appT wA
    rfl
  rw [eA]
  have gg : ∀ (c : List Int) (i : Nat), i < c.length → (c.map (fP P))[i]? = some (fP P (wA c i)) := fun c i h => by
    rw [List.getElem?_map, List.getElem?_eq_getElem h]
    unfold wA
    rw [List.getD_eq_getElem?_getD, List.getElem?_eq_getElem h]
    rfl
  have g1 := gg c g h1
  have g2 := gg (c.set g (wA c g + -s)) ta (by rw [List.length_set]; exact h2)
  have hl0 : (c.map (fP P)).length = c.length := by simp
  have hlt1 : (g : Int) < (c.length : Int) := by omega
  have hlt2 : (ta : Int) < (c.length : Int) := by omega
  generalize wA (c.set g (wA c g + -s)) ta = u at *
  generalize ((c.set g (wA c g + -s)).set ta (u + s)).map (fP P) = cd2 at *
  generalize (c.set g (wA c g + -s)).map (fP P) = cd1 at *
  generalize c.map (fP P) = cd0 at *
  generalize hfu : fP P u = fu at *
  generalize hfg : fP P (wA c g) = fg at *
  generalize hfus : fP P (u + s) = fus at *
  generalize hfgs : fP P (wA c g + -s) = fgs at *
  unfold fP at e1 e2 ⊢
  unfold ftD
  dsimp only
  rw [hng] at e1
  generalize (frc s P) = q at *
  obtain ⟨qa, qb⟩ := q
  dsimp only at *
  have hne' : ¬ (g : Int) = (ta : Int) := by omega
  have hps' : ¬ qa ≤ 0 := by omega
  simp [f_law_L1, inRg, hne', hl0, hlt1, hlt2, hps', e3, g1, e1, -setIx_lst, st1, g2, e2, st2]
theorem law_L11 (hP : 0 < P) (hP2 : P ≤ ten12) {M : Int} (hM : M ≤ 400) {a2 a4 a5 : D} {x3 : Option Cell} : ∀ (ts : List (Nat × Nat × Int)) (c : List Int), RunT M c ts → c.length ≤ 1000 →
    forLoop (.one 7) [7, 10, 11, 12] (exSs (CL (n + 3)) L.gl f_law_L1) (ts.map (ftD P)) [some (.par (o)), some (.own (o2)), some (.val (a2)), x3, some (.val (a4)), some (.val (a5)), some (.own (.lst (c.map (fP P)))), none, none, none, none, none, none, none] =
      .nx [some (.par (o)), some (.own (o2)), some (.val (a2)), x3, some (.val (a4)), some (.val (a5)), some (.own (.lst ((ts.foldl appT c).map (fP P)))), none, none, none, none, none, none, none]
  | [], c, _, _ => by simp [for_nil]
  | t :: ts, c, h, hc => by
    obtain ⟨h1, h2, h3, h4, h5, h6, h7⟩ := h
    have b1 := law_B11 (n := n) (o := o) (o2 := o2) hP hP2 hM (a2 := a2) (a4 := a4) (a5 := a5) (x3 := x3) h1 h2 h3 h4 h5 h6 hc
    have ih := law_L11 hP hP2 hM (a2 := a2) (a4 := a4) (a5 := a5) (x3 := x3) ts (appT c t) h7 (by rw [appT_len]; exact hc)
    rw [List.map_cons, for_nx (by simp) b1]
    simpa using ih
theorem bad_of {qs : List (Int × Int)} (hPt : 0 < Pt) (hPt2 : Pt ≤ ten12) (h1 : 1 ≤ qs.length) (h6 : qs.length ≤ 6) (hq : ∀ q ∈ qs, FrOk Pt q) (hs : (whL (lcmF 1 qs) qs).sum = 0) :
    ∀ d ∈ [D.tup [], .lst (qs.map frD), .tup (qs.map frD ++ [.tup [.int 1, .int 1]]), .tup (qs.map frD ++ [.tup [.int 0, .int 2]]), .tup (List.replicate 7 (.tup [.int 0, .int 1])), .non, .tup [.tup [.bl true, .int 1], .tup [.int (-1), .int 1]], .tup [.tup [.int 0, .int 0]]], CL (n + 20) "_law_refused" [.val d] = .ok (.val (.bl true)) [] := by
  have go : ∀ d, CL (n + 18) "whole_debts" [.val d] = .exc "BadDebts" [] [] → CL (n + 20) "_law_refused" [.val d] = .ok (.val (.bl true)) [] := fun d h => sp_refused (n := n + 18) (sp_settledB (n := n + 18) h)
  intro d hd
  simp only [List.mem_cons, List.not_mem_nil, or_false] at hd
  apply go
  rcases hd with rfl | rfl | rfl | rfl | rfl | rfl | rfl | rfl
  · exact sp_wnil (n := n + 17)
  · exact sp_wlst (n := n + 17)
  · have e0 : qs.map frD ++ [.tup [.int 1, .int 1]] = (qs ++ [(1, 1)]).map frD := by simp
    rw [e0]
    by_cases h7 : qs.length = 6
    · exact sp_wlong (n := n + 17) (by simp; omega)
    · have hq2 : ∀ q ∈ qs ++ [((1 : Int), (1 : Int))], FrOk Pt q := fun q hq' => by
        rcases List.mem_append.mp hq' with h | h
        · exact hq q h
        · rw [List.mem_singleton] at h; subst h; exact ⟨by decide, by decide, Int.one_dvd _⟩
      have e := sp_whole (n := n + 15) hPt hPt2 (qs := qs ++ [(1, 1)]) (by simp) (by simp; omega) hq2
      obtain ⟨b1, _⟩ := lcmF_ok hPt (qs := qs) (u := 1) (by decide) (Int.one_dvd _) hq
      have e1 : lcmF 1 (qs ++ [((1 : Int), (1 : Int))]) = lcmF 1 qs := by
        unfold lcmF
        rw [List.foldl_append]
        show lcm1 (qs.foldl lcm1 1) (1, 1) = _
        unfold lcm1
        simp
      rw [e1] at e
      have e2 : (whL (lcmF 1 qs) (qs ++ [((1 : Int), (1 : Int))])).sum = lcmF 1 qs := by
        unfold whL at hs ⊢
        rw [List.map_append, List.sum_append, hs]
        simp
      rw [e2, if_neg (by omega)] at e
      exact e
  · exact sp_wholeB (n := n + 15) hPt hPt2 hq (by
      have := sp_isfr (n := n + 15) (a := 0) (b := 2) (by decide) (by decide)
      exact this) (by simp; omega)
  · exact sp_wlong (n := n + 17) (by simp)
  · exact sp_wnon (n := n + 17)
  · exact sp_wholeB (n := n + 15) (qs := []) hPt hPt2 (by simp) (sp_isfrT (n := n + 15)) (by simp)
  · exact sp_wholeB (n := n + 15) (qs := []) hPt hPt2 (by simp) (sp_isfr0 (n := n + 15)) (by simp)
theorem law_S11 {qs : List (Int × Int)} (hPt : 0 < Pt) (hPt2 : Pt ≤ ten12) (h1 : 1 ≤ qs.length) (h6 : qs.length ≤ 6) (hq : ∀ q ∈ qs, FrOk Pt q) (hs : (whL (lcmF 1 qs) qs).sum = 0) (ho : RngOk o2) {a2 a5 : D} {x3 x6 : Option Cell} :
    Ret (exSs (CL (n + 20)) L.gl f_law_S11 [some (.par (o)), some (.own (o2)), some (.val (a2)), x3, some (.val (.tup (qs.map frD))), some (.val (a5)), x6, none, none, none, none, none, none, none]) := by
  obtain ⟨v, o3, e1, hv, ho3⟩ := sp_next (n := n + 19) (b := 8) ho (by decide) (by decide)
  change CL (n + 20) "_law_next" _ = _ at e1
  have hb := bad_of (n := n) hPt hPt2 h1 h6 hq hs
  have hl1 : (qs.map frD).length + 1 ≤ 16777216 := by simp; omega
  have hrep : binD .mul (.tup [.tup [.int 0, .int 1]]) (.int 7) = some (.val (.tup (List.replicate 7 (.tup [.int 0, .int 1])))) := by
    rw [binD_mulT]
    rfl
  generalize List.replicate 7 (D.tup [.int 0, .int 1]) = rp at *
  generalize qs.map frD = qd at *
  obtain ⟨d, hd⟩ : ∃ d, [D.tup [], .lst qd, .tup (qd ++ [.tup [.int 1, .int 1]]), .tup (qd ++ [.tup [.int 0, .int 2]]), .tup rp, .non, .tup [.tup [.bl true, .int 1], .tup [.int (-1), .int 1]], .tup [.tup [.int 0, .int 0]]][v]? = some d := ⟨_, List.getElem?_eq_getElem (by simp; omega)⟩
  have hr := hb d (List.mem_of_getElem? hd)
  generalize hbl : [D.tup [], .lst qd, .tup (qd ++ [.tup [.int 1, .int 1]]), .tup (qd ++ [.tup [.int 0, .int 2]]), .tup rp, .non, .tup [.tup [.bl true, .int 1], .tup [.int (-1), .int 1]], .tup [.tup [.int 0, .int 0]]] = bl at *
  have s12 : Ret (exSs (CL (n + 20)) L.gl f_law_S12 [some (.par (o)), some (.own (o2)), some (.val (a2)), x3, some (.val (.tup qd)), some (.val (a5)), x6, none, some (.val (.lst bl)), none, none, none, none, none]) := by
    simp [f_law_S12, e1, hd, hr]
  rw [← hbl] at s12
  generalize hf : f_law_S12 = F at *
  simp [f_law_S11, hl1, -binD_mulT, hrep, hf]
  exact s12
theorem law_S7 {ow : List Int} (hPt : 0 < Pt) (hPt2 : Pt ≤ ten12) (h1 : 1 ≤ ow.length) (h6 : ow.length ≤ 6) (hsum : ow.sum = 0) (hbd : Bd 400 ow) (ho : RngOk o2) {a2 : D} {x6 : Option Cell} :
    Ret (exSs (CL (n + 20)) L.gl f_law_S6 [some (.par (o)), some (.own (o2)), some (.val (a2)), some (.val (.lst (ow.map .int))), some (.val (.tup ((ow.map fun x => frc x Pt).map frD))), none, none, none, none, none, none, none, none, none]) := by
  have hq : ∀ q ∈ ow.map (fun x => frc x Pt), FrOk Pt q := fun q hq => by
    obtain ⟨x, _, rfl⟩ := List.mem_map.mp hq
    exact frOk_of hPt
  obtain ⟨b1, b2, b3, b4⟩ := lcmF_ok hPt (qs := ow.map fun x => frc x Pt) (u := 1) (by decide) (Int.one_dvd _) hq
  have hPP : lcmF 1 (ow.map fun x => frc x Pt) ≤ Pt := Int.le_of_dvd hPt b2
  have hws := wh_sum hPt b1 b4 hsum
  have hwb := wh_bd hPt b1 hPP b4 hbd
  have hwz := wh_zero (ow := ow) hPt b1 b4
  have hwn := wh_nz (ow := ow) hPt b1 b4
  have hwf := wh_frc (ow := ow) hPt b1 b4
  have hwl : (whL (lcmF 1 (ow.map fun x => frc x Pt)) (ow.map fun x => frc x Pt)).length = ow.length := by rw [whL_len, List.length_map]
  have e1 : CL (n + 20) "settled" [.val (.tup ((ow.map fun x => frc x Pt).map frD))] = _ := sp_settled (n := n + 9) hPt hPt2 (by simpa using h1) (by simpa using h6) hq hws
  have e2 : CL (n + 20) "_law_most" [.val (.lst (ow.map .int))] = _ := sp_most (n := n + 19) (v := ow) h6
  have hmost := most_all (w := whL (lcmF 1 (ow.map fun x => frc x Pt)) (ow.map fun x => frc x Pt)) (v := ow) (by omega) hws hwz
  obtain ⟨r1, r2, r3⟩ := tfs_all (M := 400) (w := whL (lcmF 1 (ow.map fun x => frc x Pt)) (ow.map fun x => frc x Pt)) (by omega) hws hwb
  have s11 := fun a5 x3 x6 => law_S11 (n := n) (o := o) (o2 := o2) hPt hPt2 (by simpa using h1) (by simpa using h6) hq hws ho (a2 := a2) (a5 := a5) (x3 := x3) (x6 := x6)
  rw [hwn, hmost] at e2
  have hG : (ow.map fun x => frc x Pt).map frD = (whL (lcmF 1 (ow.map fun x => frc x Pt)) (ow.map fun x => frc x Pt)).map (fP (lcmF 1 (ow.map fun x => frc x Pt))) := (congrArg (List.map frD) hwf).symm.trans (by rw [List.map_map]; rfl)
  rw [hG] at e1
  simp only [hG] at s11
  rw [hG]
  have hPle : lcmF 1 (ow.map fun x => frc x Pt) ≤ ten12 := Int.le_trans hPP hPt2
  generalize lcmF 1 (ow.map fun x => frc x Pt) = P at *
  generalize whL P (ow.map fun x => frc x Pt) = w at *
  have l1 := law_L11 (n := n + 17) (o := o) (o2 := o2) b1 hPle (M := 400) (by decide) (a2 := a2) (a4 := .tup (w.map (fP P))) (a5 := .tup ((tfsOf w (ptd w 6 (nzL w))).map (ftD P))) (x3 := some (.val (.lst (ow.map .int)))) (tfsOf w (ptd w 6 (nzL w))) w r1 (by omega)
  rw [r3] at l1
  have hz : (List.replicate w.length 0).map (fP P) = List.replicate w.length (D.tup [.int 0, .int 1]) := by
    rw [List.map_replicate]
    unfold fP
    rw [frc_zero b1]
  rw [hz] at l1
  have hcnt : (((tfsOf w (ptd w 6 (nzL w))).map (ftD P)).length : Int) = ((nzL w).length : Int) - ((ptd w 6 (nzL w)).length : Nat) := by rw [List.length_map]; omega
  have hglen : (w.map (fP P)).length = w.length := by simp
  generalize (tfsOf w (ptd w 6 (nzL w))).map (ftD P) = td at *
  generalize ((nzL w).length : Int) - ((ptd w 6 (nzL w)).length : Nat) = cn at *
  generalize ow.map D.int = od at *
  generalize w.map (fP P) = gd at *
  have hmulL : binD .mul (.lst [.tup [.int 0, .int 1]]) (.int (w.length : Int)) = some (.tmp (.lst (List.replicate w.length (.tup [.int 0, .int 1])))) := by
    rw [binD_mulL]
    have e1 : (List.replicate ((w.length : Int)).toNat [D.tup [.int 0, .int 1]]).flatten = List.replicate w.length (.tup [.int 0, .int 1]) := by
      rw [Int.toNat_natCast]
      induction w.length with
      | zero => rfl
      | succ k ih => rw [List.replicate_succ, List.flatten_cons, ih, List.replicate_succ]; rfl
    rw [e1, if_pos]
    simp only [Bool.and_eq_true, decide_eq_true_eq]
    refine ⟨⟨by omega, by omega⟩, ?_⟩
    unfold lineOk
    rw [decide_eq_true_eq, Ev.sizeLine_eq]
    simp
    omega
  have s10 : Ret (exSs (CL (n + 20)) L.gl f_law_S10 [some (.par (o)), some (.own (o2)), some (.val (a2)), some (.val (.lst od)), some (.val (.tup gd)), some (.val (.tup td)), some (.own (.lst (List.replicate w.length (.tup [.int 0, .int 1])))), none, none, none, none, none, none, none]) := by
    have hp : plN 9 (.lst (List.replicate w.length (.tup [.int 0, .int 1]))) = true := by simp
    have hglen' : (gd.length : Int) = (w.length : Int) := by rw [hglen]
    have s := s11 (.tup td) (some (.val (.lst od))) (some (.own (.lst (List.replicate w.length (.tup [.int 0, .int 1])))))
    generalize List.replicate w.length (D.tup [.int 0, .int 1]) = zd at *
    generalize hf : f_law_S11 = F at *
    simp [f_law_S10, hglen', -binD_mulL, hmulL, pyEq_pl hp hp, hf]
    exact s
  have s8 : Ret (exSs (CL (n + 20)) L.gl f_law_S8 [some (.par (o)), some (.own (o2)), some (.val (a2)), some (.val (.lst od)), some (.val (.tup gd)), some (.val (.tup td)), none, none, none, none, none, none, none, none]) := by
    generalize hf : f_law_S10 = F at *
    simp [f_law_S8, f_law_S9, l1, hf]
    exact s10
  generalize hf : f_law_S8 = F at *
  simp [f_law_S6, f_law_S7, e1, e2, hcnt, hf]
  exact s8
theorem law_C1 {ow : List Int} (hPt : 0 < Pt) (hPt2 : Pt ≤ ten12) (hbd : ∀ x ∈ ow, x.natAbs ≤ 1000) : ∀ {x3 : Option Cell} (l : List Int) (hl : ∀ x ∈ l, x ∈ ow) acc, lcLoop (.one 13) (lcBody (CL (n + 2)) L.gl f_law_C1 .none) (l.map .int) acc [some (.par (o)), some (.own (o2)), some (.val (.int Pt)), x3, none, none, none, none, none, none, none, none, none, none] =
    .ok (acc ++ (l.map fun x => frc x Pt).map frD) [some (.par (o)), some (.own (o2)), some (.val (.int Pt)), x3, none, none, none, none, none, none, none, none, none, none]
  | x3, [], _, acc => by simp [lcLoop]
  | x3, x :: l, h, acc => by
    have hx := hbd x (h x List.mem_cons_self)
    have e1 : CL (n + 2) "_law_fraction" [.val (.int x), .val (.int Pt)] = _ := sp_lfractionW (n := n) (by omega) hPt (by unfold ten12 at hPt2; omega)
    have ih := law_C1 hPt hPt2 hbd (x3 := x3) l (fun y hy => h y (List.mem_cons_of_mem _ hy)) (acc ++ [frD (frc x Pt)])
    simp only [List.map_cons, lcLoop]
    have b0 : bindT (.one 13) (.int x) [some (.par (o)), some (.own (o2)), some (.val (.int Pt)), x3, none, none, none, none, none, none, none, none, none, none] = some [some (.par (o)), some (.own (o2)), some (.val (.int Pt)), x3, none, none, none, none, none, none, none, none, none, some (.val (.int x))] := by simp
    rw [b0]
    dsimp only
    have b1 : lcBody (CL (n + 2)) L.gl f_law_C1 .none [some (.par (o)), some (.own (o2)), some (.val (.int Pt)), x3, none, none, none, none, none, none, none, none, none, some (.val (.int x))] = .ok (some (frD (frc x Pt))) [some (.par (o)), some (.own (o2)), some (.val (.int Pt)), x3, none, none, none, none, none, none, none, none, none, some (.val (.int x))] := by
      simp [lcBody, f_law_C1, e1] <;> rfl
    rw [b1]
    simpa using ih
theorem law_C2 {a2 : D} : ∀ (m k : Nat) (acc : List Int) (o2 : Ob), RngOk o2 → (∀ x ∈ acc, x.natAbs ≤ 28) → ∃ (out : List Int) (o3 : Ob), RngOk o3 ∧ out.length = acc.length + m ∧ (∀ x ∈ out, x.natAbs ≤ 28) ∧
    lcLoop (.one 9) (lcBody (CL (n + 1)) L.gl f_law_C2 .none) ((List.range' k m).map fun (i : Nat) => D.int (i : Int)) (acc.map .int) [some (.par (o)), some (.own (o2)), some (.val (a2)), none, none, none, none, none, none, none, none, none, none, none] = .ok (out.map .int) [some (.par (o)), some (.own (o3)), some (.val (a2)), none, none, none, none, none, none, none, none, none, none, none]
  | 0, k, acc, o2, ho, h => ⟨acc, o2, ho, rfl, h, by simp [lcLoop]⟩
  | m + 1, k, acc, o2, ho, h => by
    obtain ⟨v, o3, e1, hv, ho3⟩ := sp_next (n := n) (b := 9) ho (by decide) (by decide)
    obtain ⟨u, o4, e2, hu, ho4⟩ := sp_next (n := n) (b := 3) ho3 (by decide) (by decide)
    obtain ⟨f, hf, hf7⟩ : ∃ f : Int, [D.int 1, .int 1, .int 7][u]? = some (.int f) ∧ (f = 1 ∨ f = 7) := by
      have : u = 0 ∨ u = 1 ∨ u = 2 := by omega
      rcases this with rfl | rfl | rfl
      · exact ⟨1, rfl, .inl rfl⟩
      · exact ⟨1, rfl, .inl rfl⟩
      · exact ⟨7, rfl, .inr rfl⟩
    obtain ⟨out, o5, i1, i2, i3, i4⟩ := law_C2 (a2 := a2) m (k + 1) (acc ++ [((v : Int) - 4) * f]) o4 ho4 (fun x hx => by
      rcases List.mem_append.mp hx with hx | hx
      · exact h x hx
      · rw [List.mem_singleton] at hx; subst hx
        rcases hf7 with rfl | rfl <;> omega)
    refine ⟨out, o5, i1, by rw [i2]; simp; omega, i3, ?_⟩
    simp only [List.range'_succ, List.map_cons, lcLoop]
    have b0 : bindT (.one 9) (.int (k : Int)) [some (.par (o)), some (.own (o2)), some (.val (a2)), none, none, none, none, none, none, none, none, none, none, none] = some [some (.par (o)), some (.own (o2)), some (.val (a2)), none, none, none, none, none, none, some (.val (.int (k : Int))), none, none, none, none] := by simp
    rw [b0]
    dsimp only
    have hsm : smallI ((v : Int) - 4) = true := smallI_in (by omega) (by omega)
    have b1 : lcBody (CL (n + 1)) L.gl f_law_C2 .none [some (.par (o)), some (.own (o2)), some (.val (a2)), none, none, none, none, none, none, some (.val (.int (k : Int))), none, none, none, none] = .ok (some (.int (((v : Int) - 4) * f))) [some (.par (o)), some (.own (o4)), some (.val (a2)), none, none, none, none, none, none, some (.val (.int (k : Int))), none, none, none, none] := by
      simp [lcBody, f_law_C2, e1, e2, hf, hsm] <;> rfl
    rw [b1]
    simpa using i4
theorem law_S4 {ow : List Int} (hPt : 0 < Pt) (hPt2 : Pt ≤ ten12) (h5 : ow.length ≤ 5) (hb : ∀ x ∈ ow, x.natAbs ≤ 28) (ho : RngOk o2) :
    Ret (exSs (CL (n + 20)) L.gl f_law_S4 [some (.par (o)), some (.own (o2)), some (.val (.int Pt)), some (.own (.lst (ow.map .int))), none, none, none, none, none, none, none, none, none, none]) := by
  have hsb : ∀ l : List Int, (∀ x ∈ l, x.natAbs ≤ 28) → l.sum.natAbs ≤ 28 * l.length := fun l => by
    induction l with
    | nil => intro _; simp
    | cons a b ih =>
      intro h
      have h1 := h a (by simp)
      have h2 := ih fun x hx => h x (by simp [hx])
      rw [List.sum_cons, List.length_cons]
      omega
  have hs := hsb ow hb
  have hbig : ∀ x ∈ ow ++ [-ow.sum], x.natAbs ≤ 400 := fun x hx => by
    rcases List.mem_append.mp hx with hx | hx
    · have := hb x hx; omega
    · rw [List.mem_singleton] at hx; subst hx; omega
  have hbd : Bd 400 (ow ++ [-ow.sum]) := fun i => by
    rw [List.getD_eq_getElem?_getD]
    cases h : (ow ++ [-ow.sum])[i]? with
    | none => simp
    | some x =>
      have := hbig x (List.mem_of_getElem? h)
      simp only [Option.getD_some]
      omega
  have hz : (ow ++ [-ow.sum]).sum = 0 := by rw [List.sum_append]; simp; omega
  have c1 := law_C1 (n := n + 18) (o := o) (o2 := o2) hPt hPt2 (ow := ow ++ [-ow.sum]) (fun x hx => by have := hbig x hx; omega) (x3 := some (.own (.lst ((ow ++ [-ow.sum]).map .int)))) (ow ++ [-ow.sum]) (fun _ h => h) []
  rw [List.nil_append] at c1
  have c1' := law_C1 (n := n + 18) (o := o) (o2 := o2) hPt hPt2 (ow := ow ++ [-ow.sum]) (fun x hx => by have := hbig x hx; omega) (x3 := some (.val (.lst ((ow ++ [-ow.sum]).map .int)))) (ow ++ [-ow.sum]) (fun _ h => h) []
  rw [List.nil_append] at c1'
  have s6 := law_S7 (n := n) (o := o) (o2 := o2) hPt hPt2 (ow := ow ++ [-ow.sum]) (by simp) (by simp; omega) hz hbd ho (a2 := .int Pt) (x6 := none)
  have hl : (ow.map D.int).length < 16777216 := by simp; omega
  have hl2 : ((ow ++ [-ow.sum]).map D.int).length ≤ 16777216 := by simp; omega
  have hap : (ow ++ [-ow.sum]).map D.int = ow.map .int ++ [.int (-ow.sum)] := by simp
  have hsm : asInts (ow.map D.int) = some ow := by
    have := asInts_mapf (f := fun x : Int => x) (xs := ow)
    simpa using this
  generalize hf : f_law_S6 = F at *
  rw [hap] at s6 c1 c1' hl2
  generalize ((ow ++ [-ow.sum]).map fun x => frc x Pt).map frD = gd at *
  have hl3 : ow.length < 16777216 := by omega
  have hl4 : ow.length + 1 ≤ 16777216 := by omega
  simp [f_law_S4, f_law_S5, hl3, hsm, hl4, c1, c1', hf]
  exact s6
theorem law_S3 {ow : List Int} (hPt : 0 < Pt) (hPt2 : Pt ≤ ten12) (h5 : ow.length ≤ 5) (hb : ∀ x ∈ ow, x.natAbs ≤ 28) (ho : RngOk o2) :
    Ret (exSs (CL (n + 20)) L.gl f_law_S3 [some (.par (o)), some (.own (o2)), some (.val (.int Pt)), some (.own (.lst (ow.map .int))), none, none, none, none, none, none, none, none, none, none]) := by
  cases ow with
  | nil =>
    have s4 := law_S4 (n := n) (o := o) (o2 := o2) hPt hPt2 (ow := []) (by simp) (by simp) ho
    generalize hf : f_law_S4 = F at *
    simp [f_law_S3, hf]
    exact s4
  | cons x r =>
    obtain ⟨v, o3, e1, hv, ho3⟩ := sp_next (n := n + 19) (b := 2) ho (by decide) (by decide)
    change CL (n + 20) "_law_next" _ = _ at e1
    have hne : (x :: r).map D.int ≠ [] := by simp
    have hpe : pyEq (.lst ((x :: r).map D.int)) (.lst []) = some false := by
      rw [pyEq_pl (by simp) (by simp)]
      simp
    have g0 : atD ((x :: r).map D.int) 0 = some (.int x) := by simp
    have st := setIx_last (xs := x :: r) (v := -x) (by simp)
    have s4 := law_S4 (n := n) (o := o) (o2 := o3) hPt hPt2 (ow := x :: r) h5 hb ho3
    have s4' := law_S4 (n := n) (o := o) (o2 := o3) hPt hPt2 (ow := (x :: r).set ((x :: r).length - 1) (-x)) (by rw [List.length_set]; exact h5) (fun y hy => by
      rcases List.mem_or_eq_of_mem_set hy with hy | rfl
      · exact hb y hy
      · have := hb x (by simp); omega) ho3
    generalize hf : f_law_S4 = F at *
    generalize ((x :: r).set ((x :: r).length - 1) (-x)).map D.int = od2 at *
    generalize (x :: r).map D.int = od at *
    by_cases hv0 : v = 0
    · subst hv0
      simp only [Int.cast_ofNat_Int] at e1
      simp [f_law_S3, e1, hpe, g0, -setIx_lst, st, hf]
      exact s4'
    · have hv1 : ¬ (v : Int) = 0 := by omega
      simp [f_law_S3, e1, hpe, hv0, hv1, hf]
      exact s4
end
theorem law_true (ns : List Int) (h : ns.length ≤ 63) : ∃ os, callN L.Γ prL L.gl (N0 + 1) "law" [.par (.scr ns)] = .ok (.val (.bl true)) os := by
  have e0 : CL (0 + 20) "_law_mix" [.par (.scr ns), .val (.int 11)] = .ok (.own (.rng (mixV 11 ns) ns 0)) [.scr ns] := by
    rw [show 0 + 20 = 19 + 1 from rfl, call_mix, pMix_eq]
  have hs : Ret (exSs (CL (0 + 20)) L.gl f_law_S0 [some (.par (.scr ns)), none, none, none, none, none, none, none, none, none, none, none, none, none]) := by
    obtain ⟨v, o2, e2, hv, ho2⟩ := sp_next (n := 0 + 19) (b := 5) (o := .rng (mixV 11 ns) ns 0) ⟨_, _, _, rfl, by omega⟩ (by decide) (by decide)
    change CL (0 + 20) "_law_next" _ = _ at e2
    obtain ⟨m, o3, e3, hm, ho3⟩ := sp_next (n := 0 + 19) (b := 6) ho2 (by decide) (by decide)
    change CL (0 + 20) "_law_next" _ = _ at e3
    obtain ⟨Pt, g1, g2, g3⟩ : ∃ Pt : Int, [D.int 1, .int 2, .int 6, .int 60, .int 1000000000000][v]? = some (.int Pt) ∧ 0 < Pt ∧ Pt ≤ ten12 := by
      have : v = 0 ∨ v = 1 ∨ v = 2 ∨ v = 3 ∨ v = 4 := by omega
      rcases this with rfl | rfl | rfl | rfl | rfl
      · exact ⟨1, rfl, by decide, by decide⟩
      · exact ⟨2, rfl, by decide, by decide⟩
      · exact ⟨6, rfl, by decide, by decide⟩
      · exact ⟨60, rfl, by decide, by decide⟩
      · exact ⟨1000000000000, rfl, by decide, by decide⟩
    obtain ⟨ow, o4, ho4, q1, q2, q3⟩ := law_C2 (n := 0 + 19) (o := .scr ns) (a2 := .int Pt) m 0 [] o3 ho3 (by simp)
    rw [← List.range_eq_range', ← rng_nat, List.map_nil] at q3
    have k := law_S3 (n := 0) (o := .scr ns) g2 g3 (ow := ow) (by simp at q1; omega) q2 ho4
    have hbg : bigI (m : Int) = true := by
      unfold bigI
      simp only [Bool.and_eq_true, decide_eq_true_eq]
      omega
    have hrl : (rngD 0 (m : Int)).length ≤ 16777216 := by rw [rngD_len]; omega
    have hpow : binD .pow (.int 10) (.int 12) = some (.val (.int 1000000000000)) := by
      rw [binD_pow, if_pos (by decide)]
      rfl
    simp only [Nat.zero_add] at e0 e2 e3 q3 k ⊢
    generalize hf : f_law_S3 = F at *
    simp [f_law_S0, f_law_S1, f_law_S2, e0, e2, g1, e3, hbg, hrl, q3, hf, -binD_pow, hpow]
    exact k
  obtain ⟨o, T, hs⟩ := hs
  refine ⟨[o], ?_⟩
  show CL ((0 + 20) + 1) "law" [.par (.scr ns)] = _
  rw [call_law]
  simp only [f_law, runFn_eq, List.length_cons, List.length_nil, if_true, startF_eq, List.map_cons, List.map_nil]
  change endR [.par (.scr ns)] (exSs (CL (0 + 20)) L.gl f_law_S0 [some (.par (.scr ns)), none, none, none, none, none, none, none, none, none, none, none, none, none]) = _
  rw [hs]
  simp


theorem okMix (W : Wd) (mg : Str → Option Value) (base : Heap) (n : Nat) (f : Addr) (fd : FuncData) (F : FunD W.K L.mix.name L.mix.qual L.mix.params L.mix.body L.mix.scope [] [] f fd) (hm : ∀ y ∈ freeNames, mg y = none) (hb : Binds W.K fd ["_law_script", "_law_seed"] []) : FnAtG W mg base (fun _ => pMix) (3 * (n + 1)) f "_law_mix" :=
  mix_ok F ⟨rfl, rfl, rfl, by decide +kernel, rfl, by decide +kernel, by decide +kernel⟩ (by decide +kernel) hm hb n
theorem okNxt (W : Wd) (mg : Str → Option Value) (base : Heap) (n : Nat) (f : Addr) (fd : FuncData) (F : FunD W.K L.nxt.name L.nxt.qual L.nxt.params L.nxt.body L.nxt.scope [] [] f fd) (hm : ∀ y ∈ freeNames, mg y = none) (hb : Binds W.K fd ["_law_h", "_law_bound"] []) : FnAtG W mg base (fun _ => pNext) (3 * (n + 1)) f "_law_next" :=
  next_ok F ⟨rfl, rfl, rfl, by decide +kernel, rfl, by decide +kernel, by decide +kernel⟩ (by decide +kernel) hm hb n
end Law
open PySem PySem.W PySem.Calls PyProof.Rows
theorem PySem.Challenge.cw_carpooldebts_k11_whole_debts_settled_holds : PySem.Challenge.rw_carpooldebts_k11_whole_debts_settled.Holds := by
  w_on; o_law
  refine HandSHeadRun.head_any (r := Law.Hd.R) (q := view Law.Hd.R.prog [22]) (H := Law.L.hook 5) (ob := Law.L.ob 5) (M := 6000) (loose := Law.Hd.nms) (d := HandSHeadRun.topDef Law.Hd.R.prog 22) (kwd := []) (Law.L.ob_eq 5)
    (by kernel_rfl) (fun s => by kernel_rfl) Law.Hd.run (by kernel_rfl) (by kernel_rfl) (by kernel_rfl) (by rfl) (by first | assumption | decide +kernel) (by decide +kernel) ⟨rfl, rfl, rfl, rfl, rfl, by decide +kernel⟩ ?hw ?hc
  case hw => w_witness2
  case hc =>
    refine L2.walk_ofE (l := PySem.Challenge.rw_carpooldebts_k11_whole_debts_settled) (n := 63) (k := 3 * (Law.N0 + 1)) (x := "_law_script") (CX := Ev.CXw (PySem.Challenge.rw_carpooldebts_k11_whole_debts_settled).prog) rfl (by decide) (by kernel_rfl) ⟨rfl, by decide, by decide⟩ ?F Ev.cxw_no
    intro w mg fa h Y G hmg0
    have hmg : mg ("law" : PySem.Str) = some (.ref fa) := by
      have e : (HandSHeadRun.topDef Law.Hd.R.prog 22).name = ("law" : PySem.Str) := by kernel_rfl
      rw [← e]
      exact hmg0
    exact Ev.law_facts (l := PySem.Challenge.rw_carpooldebts_k11_whole_debts_settled) (N0 := Law.N0) Law.stat Law.okMix Law.okNxt Law.law_true w mg fa h Y G hmg

