import PyProof.Rows.All
import Wide.All
import OpenK.AllK
import Wide.FinOn
import HandS.Defaults
import HandS.MakeKwOnly
import HandS.HeadHook2
import HandS.ForMost
import KE.KDictKeyed
import KE.DatumOrd
import KE.SortData
import KE.KTupSum
import HandS.NoneIn
import HandS.TupLen
import HandS.Text
import HandS.FStr
import HandS.Conv
import HandS.Deep
import HandS.TupAny
import HandS.TupMul
import HandS.Wide
import HandS.IsInst
import HandS.Flow
import HandS.SortKw
import HandS.Codes
import HandS.ForExc
import HandS.CallSlots
import HandS.Property
import HandS.ExcInit
import HandS.ExcField
import HandS.ExcIs
import HandS.TryMany
import KE.KExcInit
import HandS.Zip
import HandS.RevRange
import KE.GoesEnum
import HandS.Iter
import KE.KDictWalk
import KE.KDictDisplayH
import KE.KDictCopyH
import HandS.DictComp
import KE.KDictItemsList
import HandS.ListItems
import KE.KDictPairs
import KE.GoesRev
import HandS.Style
import HandS.HeadHook4
import KE.KStateDown
import HandS.Head0
import HandS.Head1
import HandS.Head2
import HandS.HeadEnd
import HandS.HeadHook1
import PySem.Challenge.RW_carpooldebts_k24_further_questions_refus
set_option Elab.async false
set_option linter.all false
set_option maxRecDepth 100000
set_option maxHeartbeats 0
/-! EvB0: a keyword-only parameter behind two others. -/
namespace Ev
open PySem PySem.Spec PyProof.Rows L2
def kwPs (p : Arguments) (ps : List Str) (y : Str) : Bool := p.posonlyargs.isEmpty && p.vararg.isNone && p.kwarg.isNone && decide (p.kwonlyargs.map (·.arg) = [y]) && (match ps with
  | [a, b, c] => decide (p.args.map (·.arg) = [a, b]) && decide (c = y) && decide (a ≠ b) && decide (a ≠ y) && decide (b ≠ y)
  | _ => false)
theorem kwPs_ok {p : Arguments} {ps : List Str} {y : Str} (h : kwPs p ps y = true) : ∃ a b, ps = [a, b, y] ∧ a ≠ b ∧ a ≠ y ∧ b ≠ y ∧ p.args.map (·.arg) = [a, b] ∧ p.kwonlyargs.map (·.arg) = [y] ∧ p.posonlyargs = [] ∧ p.vararg = none ∧ p.kwarg = none := by
  unfold kwPs at h
  simp only [Bool.and_eq_true, decide_eq_true_eq, List.isEmpty_iff, Option.isNone_iff_eq_none] at h
  obtain ⟨⟨⟨⟨h1, h2⟩, h3⟩, h4⟩, h5⟩ := h
  split at h5
  · next a b c =>
    simp only [Bool.and_eq_true, decide_eq_true_eq] at h5
    obtain ⟨⟨⟨⟨q1, rfl⟩, q3⟩, q4⟩, q5⟩ := h5
    exact ⟨a, b, rfl, q3, q4, q5, q1, h4, h1, h2, h3⟩
  · cases h5
theorem bind_kw0 {x qual : Str} {p : Arguments} {body : List Stmt} {sc : Scope} {ps : List Str} {y : Str} (h : kwPs p ps y = true) (D : Addr) (doc pm : Value) (an : Option Addr) (cdv ct : Value) (us ks : List Value) (hl : us.length = 2) (hk : ks.length = 1) :
    KwChain D ([y].zip ks) (bindArgs (PySem.W.fnOf x qual p body sc .none (.ref D) doc pm an cdv ct) ⟨us, []⟩) (ps.zip (us ++ ks)) := by
  obtain ⟨a, b, rfl, n1, n2, n3, h1, h2, h3, h4, h5⟩ := kwPs_ok h
  match us, hl, ks, hk with
  | [u, v], _, [k], _ =>
    have m1 : (b == a) = false := by simpa using n1.symm
    have m2 : (y == a) = false := by simpa using n2.symm
    have m3 : (y == b) = false := by simpa using n3.symm
    obtain ⟨po, ar, va, ko, kd, kw, df⟩ := p
    simp only at h1 h2 h3 h4 h5
    subst h3 h4 h5
    unfold bindArgs PySem.W.fnOf
    simp [h1, h2, seqItems?, List.lookup_cons, m1, m2, m3]
    have e0 : notAStandIn Value.none = (pure () : Sem Unit) := rfl
    simp only [e0, pure_bind]
    refine ⟨Option Value, Option Value, pure, pure, _, some k, (by rw [bind_pure, bind_pure]), rfl, ?_⟩
    simp [KwChain, List.lookup_cons, m1, m2, m3]
theorem bind_kw1 {x qual : Str} {p : Arguments} {body : List Stmt} {sc : Scope} {ps : List Str} {y : Str} (h : kwPs p ps y = true) (kV doc pm : Value) (an : Option Addr) (cdv ct : Value) (us ws : List Value) (hl : us.length = 2) (hk : ws.length = 1) :
    bindArgs (PySem.W.fnOf x qual p body sc .none kV doc pm an cdv ct) ⟨us, [y].zip ws⟩ = pure (ps.zip (us ++ ws)) := by
  obtain ⟨a, b, rfl, n1, n2, n3, h1, h2, h3, h4, h5⟩ := kwPs_ok h
  match us, hl, ws, hk with
  | [u, v], _, [k], _ =>
    have m1 : (b == a) = false := by simpa using n1.symm
    have m2 : (y == a) = false := by simpa using n2.symm
    have m3 : (y == b) = false := by simpa using n3.symm
    obtain ⟨po, ar, va, ko, kd, kw, df⟩ := p
    simp only at h1 h2 h3 h4 h5
    subst h3 h4 h5
    unfold bindArgs PySem.W.fnOf
    simp [h1, h2, seqItems?, List.lookup_cons, m1, m2, m3]
    rfl
def simpPs (p : Arguments) (ps : List Str) : Bool := p.posonlyargs.isEmpty && decide (p.args.map (·.arg) = ps) && p.vararg.isNone && p.kwonlyargs.isEmpty && p.kwarg.isNone && decide ps.Nodup
theorem zip_lookup : ∀ {ps : List Str} {us : List Value}, ps.length = us.length → ps.Nodup → ∀ (base : List (Str × Value)), (∀ x ∈ ps, base.lookup x = (ps.zip us).lookup x) → ps.filterMap (fun n => (base.lookup n).map (n, ·)) = ps.zip us ∧ ∀ x ∈ ps, ((base.lookup x).isNone) = false
  | [], [], _, _, _, _ => ⟨rfl, fun x hx => by cases hx⟩
  | x :: ps, u :: us, hl, nd, base, hb => by
    have e0 : base.lookup x = some u := by rw [hb x List.mem_cons_self]; simp [List.lookup_cons]
    have nd' := List.nodup_cons.mp nd
    obtain ⟨h1, h2⟩ := zip_lookup (ps := ps) (us := us) (by simpa using hl) nd'.2 base (fun y hy => by
      rw [hb y (List.mem_cons_of_mem _ hy)]
      have ne : (y == x) = false := by
        cases q : y == x with
        | false => rfl
        | true => exact absurd (beq_iff_eq.mp q ▸ hy) nd'.1
      simp [List.lookup_cons, ne])
    refine ⟨by simp only [List.filterMap_cons, e0, Option.map_some, h1, List.zip_cons_cons], fun y hy => ?_⟩
    rcases List.mem_cons.mp hy with rfl | hy
    · rw [e0]; rfl
    · exact h2 y hy
theorem bind_simp {x qual : Str} {p : Arguments} {body : List Stmt} {sc : Scope} {ps : List Str} (h : simpPs p ps = true) (kV doc pm : Value) (an : Option Addr) (cdv ct : Value) (us : List Value) (hl : us.length = ps.length) :
    bindArgs (PySem.W.fnOf x qual p body sc .none kV doc pm an cdv ct) ⟨us, []⟩ = pure (ps.zip us) := by
  simp only [simpPs, Bool.and_eq_true, decide_eq_true_eq, List.isEmpty_iff, Option.isNone_iff_eq_none] at h
  obtain ⟨⟨⟨⟨⟨h1, h2⟩, h3⟩, h4⟩, h5⟩, h6⟩ := h
  obtain ⟨e1, e2⟩ := zip_lookup hl.symm h6 (ps.zip us) (fun _ _ => rfl)
  have e3 : ps.filter (fun n => ((ps.zip us).lookup n).isNone) = [] := by
    rw [List.filter_eq_nil_iff]
    intro y hy
    rw [e2 y hy]
    simp
  obtain ⟨po, ar, va, ko, kd, kw, df⟩ := p
  simp only at h1 h2 h3 h4 h5
  subst h1 h3 h4 h5
  unfold bindArgs PySem.W.fnOf
  simp [h2, hl, e3, e1, seqItems?]
  rfl

/-- how the parameters are told -/
def bindB : Option Str → Arguments → List Str → Bool
  | none, p, ps => simpPs p ps
  | some y, p, ps => kwPs p ps y
def kwdB1 : Option Str → List (Str × He.Dv) → Bool
  | none, l => l.isEmpty
  | some y, [(z, .non)] => decide (z = y)
  | _, _ => false
end Ev

/-! EvA: the small syntax, deep values, the evaluator. -/
namespace Ev
open PySem L2

/-- deep values: what Python's data is, without addresses -/
inductive D where
  | non | bl (b : Bool) | int (i : Int) | str (x : Str)
  | tup (xs : List D) | lst (xs : List D) | dic (kvs : List (NestedKey × D)) | ins (c : Str) (fs : List (Str × D))
/-- a field of an owned instance: a value, or a list of its own -/
inductive FV where
  | v (d : D) | l (xs : List D)
/-- an object that one slot owns -/
inductive Ob where
  | lst (xs : List D) | dic (kvs : List (NestedKey × D)) | ins (c : Str) (fs : List (Str × FV)) | rng (s : Int) (cs : List Int) (k : Int) | scr (ns : List Int)
  | ll (xs : List FV)
inductive Cell where
  | val (d : D) | own (o : Ob) | par (o : Ob) | exc (c : Str) (fs : List (Str × D))
abbrev Fr := List (Option Cell)
/-- what an expression gives: a value, a new object that nobody else holds, a slot's object -/
inductive R where
  | val (d : D) | tmp (o : Ob) | bor (i : Nat)
inductive RC where
  | val (d : D) | own (o : Ob)
inductive Out (α : Type) where
  | ok (a : α) (S : Fr) | exc (c : Str) (fs : List (Str × D)) (S : Fr) | bad
inductive Fl where
  | nx (S : Fr) | brk (S : Fr) | cnt (S : Fr) | ret (r : RC) (S : Fr) | exc (c : Str) (fs : List (Str × D)) (S : Fr) | bad
inductive FnRes where
  | ok (r : RC) (outs : List Ob) | exc (c : Str) (fs : List (Str × D)) (outs : List Ob) | bad
abbrev Calls := Str → List Cell → FnRes

@[reducible] def Out.bind {α β : Type} (x : Out α) (f : α → Fr → Out β) : Out β := match x with
  | .ok a S => f a S
  | .exc c fs S => .exc c fs S
  | .bad => .bad

inductive BOp where
  | add | sub | mul | fdiv | mod | pow | shl | shr | band
inductive COp where
  | eq | ne | lt | le | gt | ge | isin | notin | is | isnot
inductive BI where
  | abs | int | len | list | tuple | max | min | sum | sorted | str
/-- how a method's keyword stands: there is none; left out (None); told last -/
inductive MK where
  | pos | dfl | kw (y : Str)
inductive Tg where
  | one (i : Nat) | many (is : List Nat)

mutual
inductive E where
  | var (i : Nat) | ref (i : Nat) | con (d : D) | glo (x : Str)
  | tup (es : Es) | lst (es : Es)
  | bin (op : BOp) (a b : E) | neg (a : E) | not (a : E)
  | cmp (op : COp) (a b : E) | chain (p q : COp) (a b c : E)
  | and (es : Es) | or (es : Es) | ite (c : T) (a b : E)
  | call (f : Str) (es : Es) | new (c : Str) (es : Es) | prop (c p : Str) (a : E) | fld (c : Str) (a : E) (f : Str)
  | bi (b : BI) (es : Es) | isi (a : E) (c : Str)
  | sub (a b : E) | sli (a : E) (lo hi : Oe)
  | lc (elt : E) (tg : Tg) (it : It) (c : Ot)
  | lc2 (elt : E) (tg : Tg) (it : It) (tg1 : Tg) (it1 : It)
  | minN (es : Es) | itl (o : E) | pick (fs : List Str) (i : E) | tupR (a : E) | idx (o a : E) | dicL (a : E) | hold (i : Nat) (a : E) | dic0 | dic1 (k v : E) | get (o k x : E) | dc (k v : E) (tg : Tg) (it : It)
  | ofl (c : Str) (i : Nat) (f : Str) | olc (c : Str) (i : Nat) (f : Str) | oprop (c p : Str) (i : Nat) | omet (c m : Str) (i : Nat) (es : Es) (mk : MK) | olen (c : Str) (i : Nat) | opop (c : Str) (i : Nat) (f : Str) | lpop (i : Nat)
  | join (y : Str) (a : E) | split (a : E) (y : Str) | rstrip (a : E) | strI (a : E) | fstr (es : Es) | lrg1 (a : E) | lrg2 (a b : E)
  | fz (a : E) | lstL (es : Es) | isiL (i k : Nat) (c : Str) | pickA (fs : List Str) (i : E) (es : Es)
inductive T where
  | e (a : E) | otr (c : Str) (i : Nat) (f : Str) | inR (neg : Bool) (a b : E) | cmp (op : COp) (a b : E) | chain (p q : COp) (a b c : E) | not (t : T) | and (ts : Ts) | or (ts : Ts) | neL (i j : Nat) | isnL (i k : Nat)
inductive Es where
  | nil | cons (e : E) (es : Es)
inductive Ts where
  | nil | cons (t : T) (ts : Ts)
inductive Oe where
  | none | some (e : E)
inductive Ot where
  | none | some (t : T)
inductive It where
  | seq (e : E) | rng (es : Es) | enm (es : Es) | zip (es : Es) | rev (e : E)
end
/-- what a clause's suite tells of its exception -/
inductive HT where
  | con (d : D) | fld (f : Str)
/-- the suite of a clause -/
inductive HB where
  | ret (d : D) | retT (xs : List HT) | asgT (j : Nat) (xs : List HT) | chn (j : Nat) (ws : List (Str × Str)) (w c : Str)
/-- a clause: its class, whether that is the base of all, the slot of its name, its suite -/
abbrev Hdl := Str × Bool × Option Nat × HB
mutual
inductive St where
  | asg (fz : Bool) (i : Nat) (e : E) | unp (is : List Nat) (e : E) | par (zs : List Bool) (is : List Nat) (es : Es)
  | app (i : Nat) (e : E) | six (i : Nat) (k e : E) | del (i : Nat) (k : E)
  | atr (c : Str) (i : Nat) (f : Str) (e : E) | aug (op : BOp) (i : Nat) (e : E)
  | ife (c : T) (a b : Ss) | whl (n : Nat) (c : T) (kl : List Nat) (b : Ss) | fr (tg : Tg) (it : It) (kl : List Nat) (b : Ss)
  | fap (c : Str) (i : Nat) (f g : Str) | atl (c : Str) (i : Nat) (f : Str) (e : E)
  | ret (fz : Bool) (e : E) | retN | rse (c : Str) (fs : List Str) (es : Es) | tr (ok : List Str) (b : Ss) (hs : List Hdl) | exp (e : E) | pas | brk | kill (is : List Nat)
  | catL (i : Nat) (es : Es) | retL (i : Nat) (es : Es) | appL (i : Nat) (e : E) | rev (i : Nat) | chgL (j i : Nat) (f : Str)
inductive Ss where
  | nil | cons (s : St) (ss : Ss) | dsel (i1 : Nat) (k1 : List Str) (e1 : Es) (i2 : Nat) (k2 : List Str) (e2 : Es) (y : Nat)
end

/-! ### slots -/
def getC (S : Fr) (i : Nat) : Option Cell := match S[i]? with
  | some c => c
  | none => none
def setC (S : Fr) (i : Nat) (c : Option Cell) : Fr := S.set i c
/-- a slot forgotten (what came by reference stays) -/
def kill1 (S : Fr) (i : Nat) : Fr := match getC S i with
  | some (.par _) => S
  | _ => setC S i none
def killS (S : Fr) : List Nat → Fr
  | [] => S
  | i :: is => killS (kill1 S i) is
/-- a slot stored (not one that came by reference) -/
def putC (S : Fr) (i : Nat) (c : Cell) : Option Fr := match getC S i with
  | some (.par _) => none
  | _ => some (setC S i (some c))
/-- a slot's own object, however it came -/
def getO (S : Fr) (i : Nat) : Option Ob := match getC S i with
  | some (.own o) => some o
  | some (.par o) => some o
  | _ => none
def putO (S : Fr) (i : Nat) (o : Ob) : Fr := match getC S i with
  | some (.par _) => setC S i (some (.par o))
  | _ => setC S i (some (.own o))

def fvOf : FV → Option D
  | .v d => some d
  | .l _ => none
def fvsOf : List (Str × FV) → Option (List (Str × D))
  | [] => some []
  | (f, .v d) :: r => (fvsOf r).map ((f, d) :: ·)
  | (_, .l _) :: _ => none
def fvD : FV → D
  | .v d => d
  | .l xs => .lst xs
/-- an object as a value, where it can be one -/
def obFz : Ob → Option D
  | .lst xs => some (.lst xs)
  | .dic kvs => some (.dic kvs)
  | .ins c fs => (fvsOf fs).map (.ins c ·)
  | .rng _ _ _ => none
  | .scr _ => none
  | .ll xs => some (.lst (xs.map fvD))
/-- .. and as it can be read while somebody holds it -/
def obRd : Ob → Option D
  | .ll _ => none
  | o => obFz o
/-- what a result reads as -/
def cont (S : Fr) : R → Option D
  | .val d => some d
  | .tmp o => obRd o
  | .bor i => (getO S i).bind obRd
/-- a slot's object made a value for good -/
def frz (S : Fr) (i : Nat) : Out D := match getC S i with
  | some (.val d) => .ok d S
  | some (.own o) => (match obFz o with
    | some d => .ok d (setC S i (some (.val d)))
    | none => .bad)
  | _ => .bad
def esc (r : R) (S : Fr) : Out D := match r with
  | .val d => .ok d S
  | .tmp o => (match obFz o with
    | some d => .ok d S
    | none => .bad)
  | .bor i => frz S i

/-! ### operators -/
def asInt : D → Option Int
  | .int i => some i
  | _ => none
def asInts : List D → Option (List Int)
  | [] => some []
  | .int i :: r => (asInts r).map (i :: ·)
  | _ :: _ => none
mutual
def toPD : D → Option PyData
  | .non => some .none
  | .bl b => some (.bool b)
  | .int i => some (.int i)
  | .str x => some (.str x)
  | .tup xs => (toPDs xs).map .tuple
  | .lst xs => (toPDs xs).map .list
  | .dic _ => none
  | .ins _ _ => none
def toPDs : List D → Option (List PyData)
  | [] => some []
  | d :: r => match toPD d, toPDs r with
    | some p, some ps => some (p :: ps)
    | _, _ => none
end
def pyEq (a b : D) : Option Bool := match toPD a, toPD b with
  | some p, some q => if SeqAt.shaped p && SeqAt.shaped q then some (PyData.eqv p q) else none
  | _, _ => none
/-- order of alike data -/
def pyLt (a b : D) : Option Bool := match toPD a, toPD b with
  | some p, some q => if SeqAt.shaped p && SeqAt.shaped q && PySem.W.alike p q then some (PySem.W.dataLt p q) else none
  | _, _ => none
/-- data told, to be compared -/
def encP (d : D) : PyData := (toPD d).getD .none
def ltB (a b : D) : Bool := PySem.W.dataLt (encP a) (encP b)
def minF (x : D) (xs : List D) : D := xs.foldl (fun a y => if ltB y a then y else a) x
def isTup : D → Bool
  | .tup _ => true
  | _ => false
def neTup : D → Bool
  | .tup (_ :: _) => true
  | _ => false
/-- tuples that can be compared, each with each -/
def cmpAll (ds : List D) : Bool := ds.all isTup && (match toPDs ds with
  | some ps => PyData.canLayAll0 ps && decide (PyData.depthAll ps ≤ 60) && ps.all fun p => ps.all fun q => PySem.W.alike p q
  | none => false)
def minLD : List D → Option D
  | [] => none
  | x :: xs => if cmpAll (x :: xs) then some (minF x xs) else none
/-- min(xs, default=None) -/
def minNR : List D → Option D
  | [.lst []] => some .non
  | [.lst (y :: ys)] => minLD (y :: ys)
  | _ => none
def leB : D → D → Bool := PySem.W.dataLe false encP
def isIntD : D → Bool
  | .int _ => true
  | _ => false
def sortD (ds : List D) : Option (List D) := if ((cmpAll ds && ds.all neTup) || ds.all isIntD) && decide (ds.length ≤ sizeLine) then some (ds.mergeSort leB) else none
def pyIn (a : D) (xs : List D) : Option Bool := match toPD a, toPDs xs with
  | some p, some qs => if SeqAt.shaped p && SeqAt.shaped (.list qs) then some (qs.any fun z => PyData.eqv z p) else none
  | _, _ => none
mutual
def toKey : D → Option NestedKey
  | .non => some .none
  | .int i => some (.num i)
  | .str x => some (.text x)
  | .tup xs => (toKeys xs).map .tup
  | _ => none
def toKeys : List D → Option (List NestedKey)
  | [] => some []
  | d :: r => match toKey d, toKeys r with
    | some p, some ps => some (p :: ps)
    | _, _ => none
end
mutual
def ofKey : NestedKey → D
  | .none => .non
  | .num i => .int i
  | .text x => .str x
  | .tup ks => .tup (ofKeys ks)
def ofKeys : List NestedKey → List D
  | [] => []
  | k :: r => ofKey k :: ofKeys r
end

/-- a tuple as a key of a dict -/
def kOf (ks : List D) : Option (List NestedKey) := (toKeys ks).bind fun k => if (NestedKey.tup k).depth ≤ 8 then some k else none
def lineOk (n : Nat) : Bool := decide (n ≤ sizeLine)
/-- below 2 ^ 128 -/
def wideI (i : Int) : Bool := decide (-(2 ^ 128) < i) && decide (i < 2 ^ 128)
/-- i in range(n), or not -/
def inRg (neg : Bool) (i n : Int) : Bool := if neg then !(decide (0 ≤ i) && decide (i < n)) else decide (0 ≤ i) && decide (i < n)
def smallI (i : Int) : Bool := decide (-(2 ^ 64) < i) && decide (i < 2 ^ 64)
def binD : BOp → D → D → Option R
  | .add, .int i, .int j => some (.val (.int (i + j)))
  | .add, .str x, .str y => if lineOk (x.length + y.length) then some (.val (.str (x ++ y))) else none
  | .add, .tup xs, .tup ys => if lineOk (xs.length + ys.length) then some (.val (.tup (xs ++ ys))) else none
  | .add, .lst xs, .lst ys => if lineOk (xs.length + ys.length) then some (.tmp (.lst (xs ++ ys))) else none
  | .sub, .int i, .int j => some (.val (.int (i - j)))
  | .mul, .int i, .int j => if smallI i || smallI j || (wideI i && wideI j) then some (.val (.int (i * j))) else none
  | .mul, .tup xs, .int k => if decide (1 ≤ k) && decide (k ≤ 1000) && decide (xs.length ≤ 1000) && !xs.isEmpty then some (.val (.tup (List.replicate k.toNat xs).flatten)) else if decide (k = 0) && !xs.isEmpty then some (.val (.tup [])) else none
  | .mul, .lst xs, .int k => if decide (0 ≤ k) && decide (k ≤ 1000) && lineOk (xs.length * k.toNat) then some (.tmp (.lst (List.replicate k.toNat xs).flatten)) else none
  | .fdiv, .int i, .int j => if decide (0 < j) && decide (j < 2 ^ 128) then some (.val (.int (i / j))) else none
  | .mod, .int i, .int j => if decide (0 < j) then some (.val (.int (i % j))) else none
  | .pow, .int i, .int j => if decide (0 ≤ j) && decide (j ≤ 1000) && smallI i then some (.val (.int (i ^ j.toNat))) else none
  | .shl, .int i, .int j => if decide (0 ≤ j) && decide (j ≤ 1000) && smallI i then some (.val (.int (i * 2 ^ j.toNat))) else none
  | .shr, .int i, .int j => if decide (0 ≤ j) then some (.val (.int (i / 2 ^ j.toNat))) else none
  | .band, .int i, .int j => some (.val (.int (Builtin.bitAnd i j)))
  | _, _, _ => none
def negD : D → Option R
  | .int i => some (.val (.int (-i)))
  | _ => none
def isNon : D → Bool
  | .non => true
  | _ => false
def hasKey (kvs : List (NestedKey × D)) (k : NestedKey) : Bool := kvs.any fun p => decide (p.1 = k)
def cmpD : COp → D → D → Option Bool
  | .eq, .dic kvs, .dic [] => some kvs.isEmpty
  | .eq, a, b => pyEq a b
  | .ne, a, b => (pyEq a b).map (!·)
  | .lt, .int i, .int j => some (decide (i < j))
  | .le, .int i, .int j => some (decide (i ≤ j))
  | .gt, .int i, .int j => some (decide (j < i))
  | .ge, .int i, .int j => some (decide (j ≤ i))
  | .lt, .tup xs, .tup ys => pyLt (.tup xs) (.tup ys)
  | .ge, .tup xs, .tup ys => (pyLt (.tup xs) (.tup ys)).map (!·)
  | .isin, a, .lst xs => pyIn a xs
  | .isin, a, .tup xs => pyIn a xs
  | .notin, a, .lst xs => (pyIn a xs).map (!·)
  | .notin, a, .tup xs => (pyIn a xs).map (!·)
  | .isin, .tup ks, .dic kvs => (kOf ks).map fun k => hasKey kvs (.tup k)
  | .notin, .tup ks, .dic kvs => (kOf ks).map fun k => !hasKey kvs (.tup k)
  | .is, a, .non => some (isNon a)
  | .isnot, a, .non => some (!isNon a)
  | _, _, _ => none
def intCmp : COp → Int → Int → Option Bool
  | .lt, i, j => some (decide (i < j))
  | .le, i, j => some (decide (i ≤ j))
  | .gt, i, j => some (decide (j < i))
  | .ge, i, j => some (decide (j ≤ i))
  | _, _, _ => none
def maxL : Int → List Int → Int
  | m, [] => m
  | m, x :: r => maxL (if m < x then x else m) r
def minL : Int → List Int → Int
  | m, [] => m
  | m, x :: r => minL (if x < m then x else m) r
def biD : BI → List D → Option R
  | .abs, [.int i] => some (.val (.int (if i < 0 then -i else i)))
  | .int, [.int i] => some (.val (.int i))
  | .int, [.bl b] => some (.val (.int (if b then 1 else 0)))
  | .len, [.lst xs] => some (.val (.int xs.length))
  | .len, [.tup xs] => some (.val (.int xs.length))
  | .len, [.dic kvs] => some (.val (.int kvs.length))
  | .list, [.lst xs] => some (.tmp (.lst xs))
  | .list, [.tup xs] => some (.tmp (.lst xs))
  | .tuple, [.lst xs] => some (.val (.tup xs))
  | .tuple, [.tup xs] => some (.val (.tup xs))
  | .max, [.int i, .int j] => some (.val (.int (if i < j then j else i)))
  | .min, [.int i, .int j] => some (.val (.int (if j < i then j else i)))
  | .max, [.lst xs] => (match asInts xs with
    | some (n :: ns) => some (.val (.int (maxL n ns)))
    | _ => none)
  | .min, [.lst xs] => (match asInts xs with
    | some (n :: ns) => some (.val (.int (minL n ns)))
    | _ => (minLD xs).map .val)
  | .min, [.tup xs, .tup ys] => (minLD [.tup xs, .tup ys]).map .val
  | .sorted, [.lst xs] => (sortD xs).map fun ys => .tmp (.lst ys)
  | .sum, [.lst xs] => (asInts xs).map fun ns => .val (.int ns.sum)
  | .sum, [.tup xs] => (asInts xs).map fun ns => .val (.int ns.sum)
  | .list, [.dic kvs] => some (.tmp (.lst (kvs.map fun p => ofKey p.1)))
  | _, _ => none
/-- isinstance by the name of the class -/
def isiD (c : Str) : D → Bool
  | .non => false
  | .bl _ => c == "bool" || c == "int"
  | .int _ => c == "int"
  | .str _ => c == "str"
  | .tup _ => c == "tuple"
  | .lst _ => c == "list"
  | .dic _ => c == "dict"
  | .ins k _ => c == k
def truD : D → Bool
  | .non => false
  | .bl b => b
  | .int i => i != 0
  | .str x => x.length != 0
  | .tup xs => !xs.isEmpty
  | .lst xs => !xs.isEmpty
  | .dic kvs => !kvs.isEmpty
  | .ins _ _ => false
/-- what may be asked for its truth -/
def truOk : D → Bool
  | .ins _ _ => false
  | .str x => lineOk x.length
  | _ => true
def atD (xs : List D) (i : Int) : Option D := L2.atI xs i
def subD : D → D → Option D
  | .lst xs, .int i => atD xs i
  | .tup xs, .int i => atD xs i
  | .dic kvs, .tup ks => (kOf ks).bind fun k => (kvs.find? fun p => decide (p.1 = .tup k)).map (·.2)
  | _, _ => none
def cutD (xs : List D) (lo hi : Option Int) : List D := (xs.drop (HT.sIx xs.length 0 lo)).take (HT.sIx xs.length xs.length hi - HT.sIx xs.length 0 lo)
def sliD : D → Option Int → Option Int → Option R
  | .lst xs, lo, hi => some (.tmp (.lst (cutD xs lo hi)))
  | .tup xs, lo, hi => some (.val (.tup (cutD xs lo hi)))
  | _, _, _ => none
def itemsD : D → Option (List D)
  | .lst xs => some xs
  | .tup xs => some xs
  | .dic kvs => some (kvs.map fun p => ofKey p.1)
  | _ => none
def rngD (lo hi : Int) : List D := (List.range (hi - lo).toNat).map fun (k : Nat) => D.int (lo + (k : Int))
/-- i, i - 1, .. down to j + 1 -/
def rngDn (i j : Int) : List D := (List.range (i - j).toNat).map fun (k : Nat) => D.int (i - (k : Int))
def enumFrom : Nat → List D → List D
  | _, [] => []
  | n, x :: r => .tup [.int n, x] :: enumFrom (n + 1) r
def zipD : List D → List D → List D
  | x :: r, y :: q => .tup [x, y] :: zipD r q
  | _, _ => []
def bigI (i : Int) : Bool := decide (-(2 ^ 62) ≤ i) && decide (i < 2 ^ 62)

inductive Arg where
  | v (d : D) | r (i : Nat)
def argC (S : Fr) : Arg → Option Cell
  | .v d => some (.val d)
  | .r i => (getO S i).map .par
def argCs (S : Fr) : List Arg → Option (List Cell)
  | [] => some []
  | a :: r => match argC S a, argCs S r with
    | some c, some cs => some (c :: cs)
    | _, _ => none
def refsOf : List Arg → List Nat
  | [] => []
  | .v _ :: r => refsOf r
  | .r i :: r => i :: refsOf r
def back (S : Fr) : List Nat → List Ob → Fr
  | i :: is, c :: cs => back (putO S i c) is cs
  | _, _ => S
def rcR : RC → R
  | .val d => .val d
  | .own o => .tmp o
def callR (cl : Calls) (f : Str) (as : List Arg) (S : Fr) : Out R := match argCs S as with
  | none => .bad
  | some cs => if (refsOf as).Nodup then (match cl f cs with
    | .ok r outs => .ok (rcR r) (back S (refsOf as) outs)
    | .exc c fs outs => .exc c fs (back S (refsOf as) outs)
    | .bad => .bad) else .bad
/-- where nothing may be raised -/
def noExc {α : Type} : Out α → Out α
  | .ok a S => .ok a S
  | _ => .bad
def isDic : D → Bool
  | .dic _ => true
  | _ => false
def newR (cl : Calls) (c : Str) (as : List D) (S : Fr) : Out R := match cl (c ++ ".__init__") (.par (.ins c []) :: as.map .val) with
  | .ok (.val .non) [o] => .ok (.tmp o) S
  | .exc c fs _ => .exc c fs S
  | _ => .bad
def putVs (S : Fr) : List Nat → List D → Option Fr
  | i :: is, d :: ds => (putC S i (.val d)).bind fun S => putVs S is ds
  | _, _ => some S
def bindT (tg : Tg) (d : D) (S : Fr) : Option Fr := match tg with
  | .one i => putC S i (.val d)
  | .many is => (match d with
    | .tup xs => if xs.length = is.length then putVs S is xs else none
    | .lst xs => if xs.length = is.length then putVs S is xs else none
    | _ => none)
def slotsT : Tg → List Nat
  | .one i => [i]
  | .many is => is
/-- the comprehension's own slots as they stood ahead of it -/
def restore (S0 S : Fr) : List Nat → Fr
  | [] => S
  | i :: is => restore S0 (setC S i (getC S0 i)) is
def noOwn (S : Fr) (is : List Nat) : Bool := is.all fun i => match getC S i with
  | none => true
  | some (.val _) => true
  | _ => false
def lcLoop (tg : Tg) (f : Fr → Out (Option D)) : List D → List D → Fr → Out (List D)
  | [], acc, S => .ok acc S
  | d :: r, acc, S => match bindT tg d S with
    | none => .bad
    | some S1 => match f S1 with
      | .ok (some x) S2 => lcLoop tg f r (acc ++ [x]) (killS S2 (slotsT tg))
      | .ok none S2 => lcLoop tg f r acc (killS S2 (slotsT tg))
      | _ => .bad

/-- two for in one comprehension -/
def lc2Loop (tg : Tg) (kl : List Nat) (f : List D → Fr → Out (List D)) : List D → List D → Fr → Out (List D)
  | [], acc, S => .ok acc S
  | d :: r, acc, S => match bindT tg d S with
    | none => .bad
    | some S1 => match f acc S1 with
      | .ok acc' S2 => lc2Loop tg kl f r acc' (killS S2 kl)
      | _ => .bad
def storeK (kvs : List (NestedKey × D)) (k : NestedKey) (d : D) : List (NestedKey × D) :=
  if hasKey kvs k then kvs.map fun p => if decide (p.1 = k) then (p.1, d) else p else kvs ++ [(k, d)]
/-- a dict comprehension -/
def dcLoop (tg : Tg) (f : Fr → Out (NestedKey × D)) : List D → List (NestedKey × D) → Fr → Out (List (NestedKey × D))
  | [], acc, S => .ok acc S
  | d :: r, acc, S => match bindT tg d S with
    | none => .bad
    | some S1 => match f S1 with
      | .ok p S2 => dcLoop tg f r (storeK acc p.1 p.2) (killS S2 (slotsT tg))
      | _ => .bad
def pairR (k d : D) (S : Fr) : Out (NestedKey × D) := match k with
  | .tup ks => (match kOf ks with
    | some k => .ok (.tup k, d) S
    | none => .bad)
  | _ => .bad
def isDicO : Option D → Bool
  | some (.dic _) => true
  | _ => false
/-- a dict of one pair -/
def oneR (k d : D) (S : Fr) : Out R := match k with
  | .tup ks => (match kOf ks with
    | some k => .ok (.tmp (.dic [(.tup k, d)])) S
    | none => .bad)
  | _ => .bad
def valK (kvs : List (NestedKey × D)) (k : NestedKey) : Option D := (kvs.find? fun p => decide (p.1 = k)).map (·.2)
def getR (o : Option D) (k x : D) (S : Fr) : Out R := match o, k with
  | some (.dic kvs), .tup ks => (match kOf ks with
    | some k => .ok (.val ((valK kvs (.tup k)).getD x)) S
    | none => .bad)
  | _, _ => .bad
/-- list(d.items()) -/
def itD (p : NestedKey × D) : D := .tup [ofKey p.1, p.2]
def itlR : Option D → Fr → Out R
  | some (.dic kvs), S => .ok (.tmp (.lst (kvs.map itD))) S
  | _, _ => .bad
/-! data without a dict in it -/
mutual
def noDic : D → Bool
  | .dic _ => false
  | .tup xs => noDics xs
  | .lst xs => noDics xs
  | .ins _ fs => noDicF fs
  | _ => true
def noDics : List D → Bool
  | [] => true
  | x :: r => noDic x && noDics r
def noDicF : List (Str × D) → Bool
  | [] => true
  | x :: r => noDic x.2 && noDicF r
end
def noDicV : List (Str × FV) → Bool
  | [] => true
  | (_, .v d) :: r => noDic d && noDicV r
  | (_, .l xs) :: r => noDics xs && noDicV r
def noDicK : List (NestedKey × D) → Bool
  | [] => true
  | x :: r => noDic (ofKey x.1) && noDic x.2 && noDicK r
def noDicO : Ob → Bool
  | .lst xs => noDics xs
  | .dic kvs => noDicK kvs
  | .ins _ fs => noDicV fs
  | .ll _ => false
  | _ => true
def noDicC : Option Cell → Bool
  | some (.val d) => noDic d
  | some (.own o) => noDicO o
  | some (.par o) => noDicO o
  | some (.exc _ _) => false
  | none => true
/-- a slot's dict, held as a value for one expression and the slot's own again behind it -/
def freeS : Fr → Nat → Bool
  | [], _ => true
  | _ :: S, 0 => S.all noDicC
  | c :: S, i + 1 => noDicC c && freeS S i
def freeR : R → Bool
  | .val d => noDic d
  | .tmp o => noDicO o
  | .bor _ => false
def thawR (i : Nat) : Out R → Out R
  | .ok x S => (match getC S i with
    | some (.val (.dic kvs)) => if freeS S i && freeR x && noDicK kvs then .ok x (setC S i (some (.own (.dic kvs)))) else .bad
    | _ => .bad)
  | _ => .bad
/-- dict([(k, v), ..]) -/
def pairD : D → Option (List NestedKey × D)
  | .tup [.tup ks, d] => (kOf ks).map fun k => (k, d)
  | _ => none
def foldP (acc : List (NestedKey × D)) : List D → Option (List (NestedKey × D))
  | [] => some acc
  | x :: r => (match pairD x with
    | some q => foldP (storeK acc (.tup q.1) q.2) r
    | none => none)
def dicLR : Option D → Fr → Out R
  | some (.lst ds), S => (match foldP [] ds with
    | some kvs => if decide (ds.length ≤ sizeLine) then .ok (.tmp (.dic kvs)) S else .bad
    | none => .bad)
  | _, _ => .bad
/-- xs.index(x), texts -/
def asStrs : List D → Option (List Str)
  | [] => some []
  | .str x :: r => (asStrs r).map (x :: ·)
  | _ :: _ => none
def idxD (d e : D) : Option Nat := match d, e with
  | .lst xs, .str k => (asStrs xs).bind fun ys => if k ∈ ys then some (ys.idxOf k) else none
  | _, _ => none
def isLstO : Option D → Bool
  | some (.lst _) => true
  | _ => false
def idxR (d e : Option D) (S : Fr) : Out R := match d, e with
  | some d, some e => (match idxD d e with
    | some j => .ok (.val (.int (j : Int))) S
    | none => .bad)
  | _, _ => .bad
/-- which of the functions told -/
def pickF (fs : List Str) (j : Int) : Option Str := if 0 ≤ j then fs[j.toNat]? else none
/-- a comparison of two results; an instance's own == -/
def cmpR (cl : Calls) (op : COp) (x y : R) (S : Fr) : Out Bool := match op, cont S x with
  | .eq, some (.ins c fs) => (esc y S).bind fun e S => (esc x S).bind fun d S => if isDic e then .bad else (match d with
    | .ins c fs => (noExc (callR cl (c ++ ".__eq__") [.v (.ins c fs), .v e] S)).bind fun r S => (match r with
      | .val (.bl b) => .ok b S
      | _ => .bad)
    | _ => .bad)
  | op, some d => (match cont S y with
    | some e => (match cmpD op d e with
      | some b => .ok b S
      | none => .bad)
    | none => .bad)
  | _, none => .bad

/-! texts -/
def joinS (y : Str) (xs : List D) : Option Str := (asStrs xs).bind fun ys => if decide ((ys.map (·.length)).sum + ys.length * y.length ≤ 16777216) then some (Txt.join y ys) else none
def joinD (y : Str) : D → Option Str
  | .lst xs => joinS y xs
  | .tup xs => joinS y xs
  | _ => none
def splitD (y : Str) : D → Option (List Str)
  | .str x => if !(y.length == 0) && decide (x.length + 2 ≤ sizeLine) then some (Txt.split x y) else none
  | _ => none
def rstripD : D → Option Str
  | .str x => if lineOk x.length then some (Txt.rstrip x) else none
  | _ => none
def strD : D → Option Str
  | .int i => if wideI i then some (toString i) else none
  | _ => none
/-- a part of an f-string -/
def fmtD : D → Option Str
  | .str x => if lineOk x.length then some x else none
  | .int i => if wideI i then some (toString i) else none
  | _ => none
def smallN (i : Int) : Bool := decide (0 ≤ i) && decide (i ≤ 1000)
/-! an instance that a slot holds, with a list of its own -/
def noL : List (Str × FV) → Bool
  | [] => true
  | (_, .v _) :: r => noL r
  | (_, .l _) :: _ => false
/-- the list at f, the only one among the fields -/
def lstF (f : Str) : List (Str × FV) → Option (List D)
  | [] => none
  | (g, .v _) :: r => if g = f then none else lstF f r
  | (g, .l xs) :: r => if g = f then (if noL r then some xs else none) else none
def setL (f : Str) (ys : List D) : List (Str × FV) → List (Str × FV)
  | [] => []
  | (g, .v d) :: r => (g, .v d) :: setL f ys r
  | (g, .l _) :: r => (g, .l ys) :: r
/-- a field: the list in hand -/
def putL (f : Str) (ys : List D) : List (Str × FV) → List (Str × FV)
  | [] => [(f, .l ys)]
  | (g, x) :: r => if g = f then (g, .l ys) :: r else (g, x) :: putL f ys r
def MK.ds : MK → List Arg
  | .dfl => [.v .non]
  | _ => []
def insF (S : Fr) (c : Str) (i : Nat) : Option (List (Str × FV)) := match getO S i with
  | some (.ins c' fs) => if c' = c then some fs else none
  | _ => none
def lenR : Out R → Out R
  | .ok (.val (.int n)) S => if decide (0 ≤ n) && bigI n then .ok (.val (.int n)) S else .bad
  | _ => .bad

/-! a list whose items may be lists of its own -/
def fvR : R → Option FV
  | .val d => some (.v d)
  | .tmp (.lst xs) => some (.l xs)
  | _ => none
def fvRs : List R → Option (List FV)
  | [] => some []
  | r :: rs => match fvR r, fvRs rs with
    | some x, some xs => some (x :: xs)
    | _, _ => none
def llC (S : Fr) (i : Nat) : Option (List FV) := match getC S i with
  | some (.own (.ll xs)) => some xs
  | _ => none
def neLR (xs : List FV) (S : Fr) : Option Cell → Out Bool
  | some (.val d) => (match cmpD .ne (.lst (xs.map fvD)) d with
    | some b => .ok b S
    | none => .bad)
  | _ => .bad
def isiLR (S : Fr) (c : Str) : Option FV → Out R
  | some x => if isDic (fvD x) then .bad else .ok (.val (.bl (isiD c (fvD x)))) S
  | none => .bad
def isnLR (S : Fr) : Option FV → Out Bool
  | some x => .ok (!isNon (fvD x)) S
  | none => .bad
mutual
def evE (cl : Calls) (gl : Str → Option D) : E → Fr → Out R
  | .var i, S => (frz S i).bind fun d S => .ok (.val d) S
  | .ref i, S => (match getC S i with
    | some (.own _) => .ok (.bor i) S
    | some (.par _) => .ok (.bor i) S
    | some (.val d) => .ok (.val d) S
    | _ => .bad)
  | .con d, S => .ok (.val d) S
  | .glo x, S => (match gl x with
    | some d => .ok (.val d) S
    | none => .bad)
  | .tup es, S => (evEs cl gl es S).bind fun ds S => if lineOk ds.length then .ok (.val (.tup ds)) S else .bad
  | .lst es, S => (evEs cl gl es S).bind fun ds S => if lineOk ds.length then .ok (.tmp (.lst ds)) S else .bad
  | .bin op a b, S => (evE cl gl a S).bind fun x S => (evE cl gl b S).bind fun y S => (match cont S x, cont S y with
    | some d, some e => (match binD op d e with
      | some r => .ok r S
      | none => .bad)
    | _, _ => .bad)
  | .neg a, S => (evE cl gl a S).bind fun x S => (match cont S x with
    | some d => (match negD d with
      | some r => .ok r S
      | none => .bad)
    | none => .bad)
  | .not a, S => (evE cl gl a S).bind fun x S => (match cont S x with
    | some (.bl b) => .ok (.val (.bl (!b))) S
    | _ => .bad)
  | .cmp op a b, S => (evE cl gl a S).bind fun x S => (evE cl gl b S).bind fun y S => (cmpR cl op x y S).bind fun b S => .ok (.val (.bl b)) S
  | .chain p q a b c, S => (evE cl gl a S).bind fun x S => (evE cl gl b S).bind fun y S => (match x, y with
    | .val (.int i), .val (.int j) => (match intCmp p i j with
      | some true => (evE cl gl c S).bind fun z S => (match z with
        | .val (.int l) => (match intCmp q j l with
          | some t => .ok (.val (.bl t)) S
          | none => .bad)
        | _ => .bad)
      | some false => .ok (.val (.bl false)) S
      | none => .bad)
    | _, _ => .bad)
  | .and es, S => evAnd cl gl es S
  | .or es, S => evOr cl gl es S
  | .ite c a b, S => (evT cl gl c S).bind fun k S => if k then evE cl gl a S else evE cl gl b S
  | .call f es, S => (evAs cl gl es S).bind fun as S => callR cl f as S
  | .new c es, S => (evEs cl gl es S).bind fun ds S => newR cl c ds S
  | .prop c p a, S => (evE cl gl a S).bind fun x S => (esc x S).bind fun d S => (match d with
    | .ins k fs => if k = c then noExc (callR cl (c ++ "." ++ p) [.v (.ins k fs)] S) else .bad
    | _ => .bad)
  | .fld c a f, S => (evE cl gl a S).bind fun x S => (match cont S x with
    | some (.ins k fs) => if k = c then (match fs.lookup f with
      | some d => .ok (.val d) S
      | none => .bad) else .bad
    | _ => .bad)
  | .bi b es, S => (evRs cl gl es S).bind fun rs S => (match rs.mapM (cont S) with
    | some ds => (match biD b ds with
      | some r => .ok r S
      | none => .bad)
    | none => .bad)
  | .isi a c, S => (evE cl gl a S).bind fun x S => (match cont S x with
    | some d => if isDic d then .bad else .ok (.val (.bl (isiD c d))) S
    | none => .bad)
  | .sub a b, S => (evE cl gl a S).bind fun x S => (evE cl gl b S).bind fun y S => (match cont S x, cont S y with
    | some d, some e => (match subD d e with
      | some r => .ok (.val r) S
      | none => .bad)
    | _, _ => .bad)
  | .sli a lo hi, S => (evE cl gl a S).bind fun x S => (evO cl gl lo S).bind fun l S => (evO cl gl hi S).bind fun h S => (match cont S x with
    | some d => (match sliD d l h with
      | some r => .ok r S
      | none => .bad)
    | none => .bad)
  | .lc elt tg it c, S => (evI cl gl it S).bind fun ds S => if noOwn S (slotsT tg) && lineOk ds.length then
      (lcLoop tg (fun S => (evOt cl gl c S).bind fun k S => if k then (evE cl gl elt S).bind fun x S => (esc x S).bind fun d S => .ok (some d) S else .ok none S) ds [] (killS S (slotsT tg))).bind
        fun xs S1 => .ok (.tmp (.lst xs)) (restore S S1 (slotsT tg)) else .bad
  | .lc2 elt tg it tg1 it1, S => (evI cl gl it S).bind fun ds S => if noOwn S (slotsT tg ++ slotsT tg1) then
      (lc2Loop tg (slotsT tg ++ slotsT tg1) (fun acc S => (evI cl gl it1 S).bind fun ds1 S => if decide (acc.length + ds1.length ≤ sizeLine) then
          lcLoop tg1 (fun S => (evE cl gl elt S).bind fun x S => (esc x S).bind fun d S => .ok (some d) S) ds1 acc (killS S (slotsT tg1)) else .bad) ds [] (killS S (slotsT tg ++ slotsT tg1))).bind
        fun xs S1 => .ok (.tmp (.lst xs)) (restore S S1 (slotsT tg ++ slotsT tg1)) else .bad
  | .minN es, S => (evRs cl gl es S).bind fun rs S => (match rs.mapM (cont S) with
    | some ds => (match minNR ds with
      | some d => .ok (.val d) S
      | none => .bad)
    | none => .bad)
  | .itl o, S => (evE cl gl o S).bind fun z S => itlR (cont S z) S
  | .pick fs i, S => (evE cl gl i S).bind fun z S => (match cont S z with
    | some (.int j) => (match pickF fs j with
      | some f => callR cl f [] S
      | none => .bad)
    | _ => .bad)
  | .tupR a, S => (evE cl gl a S).bind fun z S => (match cont S z with
    | some (.int j) => if decide (0 ≤ j) && decide (j ≤ 1000) then .ok (.val (.tup (rngD 0 j))) S else .bad
    | _ => .bad)
  | .idx o a, S => (evE cl gl o S).bind fun z S => if isLstO (cont S z) then (evE cl gl a S).bind fun y S => idxR (cont S z) (cont S y) S else .bad
  | .hold i a, S => (match getC S i with
    | some (.own (.dic kvs)) => thawR i (evE cl gl a (setC S i (some (.val (.dic kvs)))))
    | _ => .bad)
  | .dicL a, S => (evE cl gl a S).bind fun z S => dicLR (cont S z) S
  | .dic0, S => .ok (.tmp (.dic [])) S
  | .dic1 a b, S => (evE cl gl a S).bind fun x S => (esc x S).bind fun k S => (evE cl gl b S).bind fun y S => (esc y S).bind fun d S => oneR k d S
  | .get o a b, S => (evE cl gl o S).bind fun z S => if isDicO (cont S z) then (evE cl gl a S).bind fun x S => (esc x S).bind fun k S => (evE cl gl b S).bind fun y S => (esc y S).bind fun d S => getR (cont S z) k d S else .bad
  | .dc a b tg it, S => (evI cl gl it S).bind fun ds S => if noOwn S (slotsT tg) && lineOk ds.length then
      (dcLoop tg (fun S => (evE cl gl a S).bind fun x S => (esc x S).bind fun k S => (evE cl gl b S).bind fun y S => (esc y S).bind fun d S => pairR k d S) ds [] (killS S (slotsT tg))).bind
        fun kvs S1 => .ok (.tmp (.dic kvs)) (restore S S1 (slotsT tg)) else .bad
  | .ofl c i f, S => (match insF S c i with
    | some fs => (match fs.lookup f with
      | some (.v d) => .ok (.val d) S
      | _ => .bad)
    | none => .bad)
  | .olc c i f, S => (match insF S c i with
    | some fs => (match lstF f fs with
      | some xs => .ok (.tmp (.lst xs)) S
      | none => .bad)
    | none => .bad)
  | .oprop c p i, S => (match insF S c i with
    | some _ => noExc (callR cl (c ++ "." ++ p) [.r i] S)
    | none => .bad)
  | .omet c m i es mk, S => (match insF S c i with
    | some fs => if (fs.lookup m).isNone then (evEs cl gl es S).bind fun ds S => callR cl (c ++ "." ++ m) (.r i :: (ds.map .v ++ mk.ds)) S else .bad
    | none => .bad)
  | .olen c i, S => (match insF S c i with
    | some _ => lenR (callR cl (c ++ ".__len__") [.r i] S)
    | none => .bad)
  | .opop c i f, S => (match insF S c i with
    | some fs => (match lstF f fs with
      | some xs => (match xs[xs.length - 1]? with
        | some d => .ok (.val d) (putO S i (.ins c (setL f xs.dropLast fs)))
        | none => .bad)
      | none => .bad)
    | none => .bad)
  | .lpop i, S => (match getO S i with
    | some (.lst xs) => (match xs[xs.length - 1]? with
      | some d => .ok (.val d) (putO S i (.lst xs.dropLast))
      | none => .bad)
    | _ => .bad)
  | .join y a, S => (evE cl gl a S).bind fun x S => (match (cont S x).bind (joinD y) with
    | some z => .ok (.val (.str z)) S
    | none => .bad)
  | .split a y, S => (evE cl gl a S).bind fun x S => (match (cont S x).bind (splitD y) with
    | some ys => .ok (.tmp (.lst (ys.map .str))) S
    | none => .bad)
  | .rstrip a, S => (evE cl gl a S).bind fun x S => (match (cont S x).bind rstripD with
    | some z => .ok (.val (.str z)) S
    | none => .bad)
  | .strI a, S => (evE cl gl a S).bind fun x S => (match (cont S x).bind strD with
    | some z => .ok (.val (.str z)) S
    | none => .bad)
  | .fstr es, S => (evFs cl gl es Str.empty S).bind fun z S => .ok (.val (.str z)) S
  | .lrg1 a, S => (evE cl gl a S).bind fun x S => (match cont S x with
    | some (.int j) => if smallN j then .ok (.tmp (.lst (rngD 0 j))) S else .bad
    | _ => .bad)
  | .lrg2 a b, S => (evE cl gl a S).bind fun x S => (match cont S x with
    | some (.int i) => (evE cl gl b S).bind fun y S => (match cont S y with
      | some (.int j) => if smallN i && smallN j then .ok (.tmp (.lst (rngD i j))) S else .bad
      | _ => .bad)
    | _ => .bad)
  | .fz a, S => (evE cl gl a S).bind fun x S => (esc x S).bind fun d S => .ok (.val d) S
  | .lstL es, S => (evRs cl gl es S).bind fun rs S => (match fvRs rs with
    | some xs => if lineOk rs.length then .ok (.tmp (.ll xs)) S else .bad
    | none => .bad)
  | .isiL i k c, S => (match llC S i with
    | some xs => isiLR S c xs[k]?
    | none => .bad)
  | .pickA fs i es, S => (evE cl gl i S).bind fun z S => (match cont S z with
    | some (.int j) => (match pickF fs j with
      | some f => (evAs cl gl es S).bind fun as S => callR cl f as S
      | none => .bad)
    | _ => .bad)
def evT (cl : Calls) (gl : Str → Option D) : T → Fr → Out Bool
  | .e a, S => (evE cl gl a S).bind fun x S => (match cont S x with
    | some d => if truOk d then .ok (truD d) S else .bad
    | none => .bad)
  | .cmp op a b, S => (evE cl gl a S).bind fun x S => (evE cl gl b S).bind fun y S => cmpR cl op x y S
  | .otr c i f, S => (match insF S c i with
    | some fs => (match lstF f fs with
      | some xs => .ok (!xs.isEmpty) S
      | none => .bad)
    | none => .bad)
  | .inR neg a b, S => (evE cl gl a S).bind fun x S => (match cont S x with
    | some (.int i) => (evE cl gl b S).bind fun y S => (match cont S y with
      | some (.int n) => .ok (inRg neg i n) S
      | _ => .bad)
    | _ => .bad)
  | .chain p q a b c, S => (evE cl gl a S).bind fun x S => (evE cl gl b S).bind fun y S => (match x, y with
    | .val (.int i), .val (.int j) => (match intCmp p i j with
      | some true => (evE cl gl c S).bind fun z S => (match z with
        | .val (.int l) => (match intCmp q j l with
          | some t => .ok t S
          | none => .bad)
        | _ => .bad)
      | some false => .ok false S
      | none => .bad)
    | _, _ => .bad)
  | .not t, S => (evT cl gl t S).bind fun b S => .ok (!b) S
  | .neL i j, S => (match llC S i with
    | some xs => neLR xs S (getC S j)
    | none => .bad)
  | .isnL i k, S => (match llC S i with
    | some xs => isnLR S xs[k]?
    | none => .bad)
  | .and ts, S => evAndT cl gl ts S
  | .or ts, S => evOrT cl gl ts S
def evAndT (cl : Calls) (gl : Str → Option D) : Ts → Fr → Out Bool
  | .nil, S => .ok true S
  | .cons t ts, S => (evT cl gl t S).bind fun b S => if b then evAndT cl gl ts S else .ok false S
def evOrT (cl : Calls) (gl : Str → Option D) : Ts → Fr → Out Bool
  | .nil, S => .ok false S
  | .cons t ts, S => (evT cl gl t S).bind fun b S => if b then .ok true S else evOrT cl gl ts S
/-- and, or as values: truth values all -/
def evAnd (cl : Calls) (gl : Str → Option D) : Es → Fr → Out R
  | .nil, _ => .bad
  | .cons e .nil, S => evE cl gl e S
  | .cons e es, S => (evE cl gl e S).bind fun x S => (match cont S x with
    | some (.bl true) => evAnd cl gl es S
    | some (.bl false) => .ok (.val (.bl false)) S
    | _ => .bad)
def evOr (cl : Calls) (gl : Str → Option D) : Es → Fr → Out R
  | .nil, _ => .bad
  | .cons e .nil, S => evE cl gl e S
  | .cons e es, S => (evE cl gl e S).bind fun x S => (match cont S x with
    | some (.bl false) => evOr cl gl es S
    | some (.bl true) => .ok (.val (.bl true)) S
    | _ => .bad)
def evEs (cl : Calls) (gl : Str → Option D) : Es → Fr → Out (List D)
  | .nil, S => .ok [] S
  | .cons e es, S => (evE cl gl e S).bind fun x S => (esc x S).bind fun d S => (evEs cl gl es S).bind fun ds S => .ok (d :: ds) S
def evRs (cl : Calls) (gl : Str → Option D) : Es → Fr → Out (List R)
  | .nil, S => .ok [] S
  | .cons e es, S => (evE cl gl e S).bind fun x S => (evRs cl gl es S).bind fun rs S => .ok (x :: rs) S
def evAs (cl : Calls) (gl : Str → Option D) : Es → Fr → Out (List Arg)
  | .nil, S => .ok [] S
  | .cons e es, S => (evE cl gl e S).bind fun x S => (match x with
    | .bor i => (evAs cl gl es S).bind fun as S => .ok (.r i :: as) S
    | x => (esc x S).bind fun d S => (evAs cl gl es S).bind fun as S => .ok (.v d :: as) S)
/-- the parts of an f-string -/
def evFs (cl : Calls) (gl : Str → Option D) : Es → Str → Fr → Out Str
  | .nil, acc, S => .ok acc S
  | .cons e es, acc, S => (evE cl gl e S).bind fun x S => (match (cont S x).bind fmtD with
    | some y => if lineOk (acc ++ y).length then evFs cl gl es (acc ++ y) S else .bad
    | none => .bad)
def evO (cl : Calls) (gl : Str → Option D) : Oe → Fr → Out (Option Int)
  | .none, S => .ok none S
  | .some e, S => (evE cl gl e S).bind fun x S => (match cont S x with
    | some (.int i) => .ok (some i) S
    | _ => .bad)
def evOt (cl : Calls) (gl : Str → Option D) : Ot → Fr → Out Bool
  | .none, S => .ok true S
  | .some t, S => evT cl gl t S
def evI (cl : Calls) (gl : Str → Option D) : It → Fr → Out (List D)
  | .seq e, S => (evE cl gl e S).bind fun x S => (esc x S).bind fun d S => (match itemsD d with
    | some ds => .ok ds S
    | none => .bad)
  | .rng es, S => (evEs cl gl es S).bind fun ds S => (match ds with
    | [.int j] => if bigI j then .ok (rngD 0 j) S else .bad
    | [.int i, .int j] => if bigI i && bigI j then .ok (rngD i j) S else .bad
    | [.int i, .int j, .int c] => if decide (c = -1) && bigI i && bigI j then .ok (rngDn i j) S else .bad
    | _ => .bad)
  | .enm es, S => (evEs cl gl es S).bind fun ds S => (match ds with
    | [.lst xs] => .ok (enumFrom 0 xs) S
    | [.tup xs] => .ok (enumFrom 0 xs) S
    | _ => .bad)
  | .zip es, S => (evEs cl gl es S).bind fun ds S => (match ds with
    | [.lst xs, .lst ys] => .ok (zipD xs ys) S
    | [.tup xs, .tup ys] => .ok (zipD xs ys) S
    | _ => .bad)
  | .rev e, S => (evE cl gl e S).bind fun x S => (match x with
    | .val (.int j) => if bigI j then .ok (rngD 0 j).reverse S else .bad
    | _ => .bad)
end

/-! ### statements -/
def asgR (fz : Bool) (r : R) (S : Fr) : Out Cell := match fz, r with
  | true, r => (esc r S).bind fun d S => .ok (.val d) S
  | false, .val d => .ok (.val d) S
  | false, .tmp o => .ok (.own o) S
  | false, .bor _ => .bad
def parR (cl : Calls) (gl : Str → Option D) : List Bool → Es → Fr → Out (List Cell)
  | [], .nil, S => .ok [] S
  | z :: zs, .cons e es, S => (evE cl gl e S).bind fun x S => (asgR z x S).bind fun c S => (parR cl gl zs es S).bind fun cs S => .ok (c :: cs) S
  | _, _, _ => .bad
def putCs (S : Fr) : List Nat → List Cell → Option Fr
  | i :: is, c :: cs => (putC S i c).bind fun S => putCs S is cs
  | _, _ => some S
def nodupN (is : List Nat) : Bool := decide is.Nodup
def nxO : Option Fr → Fl
  | some S => .nx S
  | none => .bad
def setIx (o : Ob) (k d : D) : Option Ob := match o, k with
  | .lst xs, .int i => (L2.ixN xs.length i).map fun j => .lst (xs.set j d)
  | .dic kvs, .tup ks => (kOf ks).bind fun k => if kvs.length < sizeLine then some (.dic (storeK kvs (.tup k) d)) else none
  | _, _ => none
def delIx (o : Ob) (k : D) : Option Ob := match o, k with
  | .dic kvs, .tup ks => (kOf ks).bind fun k => if hasKey kvs (.tup k) then some (.dic (kvs.filter fun p => !decide (p.1 = .tup k))) else none
  | _, _ => none
def setFld (fs : List (Str × FV)) (f : Str) (d : D) : List (Str × FV) := match fs with
  | [] => [(f, .v d)]
  | (g, x) :: r => if g = f then (g, .v d) :: r else (g, x) :: setFld r f d
def Fl.bindO {α : Type} (x : Out α) (f : α → Fr → Fl) : Fl := match x with
  | .ok a S => f a S
  | .exc c fs S => .exc c fs S
  | .bad => .bad
def forLoop (tg : Tg) (kl : List Nat) (f : Fr → Fl) : List D → Fr → Fl
  | [], S => .nx (killS S kl)
  | d :: r, S => match bindT tg d S with
    | none => .bad
    | some S1 => match f S1 with
      | .nx S2 => forLoop tg kl f r (killS S2 kl)
      | .cnt S2 => forLoop tg kl f r (killS S2 kl)
      | .brk S2 => .nx (killS S2 kl)
      | x => x
def whlLoop (kl : List Nat) (t : Fr → Out Bool) (f : Fr → Fl) : Nat → Fr → Fl
  | 0, _ => .bad
  | n + 1, S => Fl.bindO (t S) fun b S => if b then (match f S with
      | .nx S2 => whlLoop kl t f n (killS S2 kl)
      | .cnt S2 => whlLoop kl t f n (killS S2 kl)
      | .brk S2 => .nx (killS S2 kl)
      | x => x) else .nx (killS S kl)
/-- an exception and its fields -/
def rseR (cl : Calls) (gl : Str → Option D) (c : Str) (fs : List Str) (es : Es) (S : Fr) : Fl := Fl.bindO (evEs cl gl es S) fun ds S => if ds.length = fs.length then .exc c (fs.zip ds).reverse S else .bad
def findH (c : Str) : List Hdl → Option (Option Nat × HB)
  | [] => none
  | (k, a, i, b) :: r => if a = true ∨ c = k then some (i, b) else findH c r
def htD (fs : List (Str × D)) : HT → Option D
  | .con d => some d
  | .fld f => fs.lookup f
def htDs (fs : List (Str × D)) : List HT → Option (List D)
  | [] => some []
  | x :: r => match htD fs x, htDs fs r with
    | some d, some ds => some (d :: ds)
    | _, _ => none
def isFree (S : Fr) (j : Nat) : Bool := (getC S j).isNone && decide (j < S.length)
/-- a clause's suite with an exception in hand -/
def hbR (c : Str) (fs : List (Str × D)) (S : Fr) : HB → Fl
  | .ret d => .ret (.val d) S
  | .retT xs => (match htDs fs xs with
    | some ds => if ds.length ≤ 1000 then .ret (.val (.tup ds)) S else .bad
    | none => .bad)
  | .asgT j xs => (match htDs fs xs with
      | some ds => if ds.length ≤ 1000 then nxO (putC S j (.val (.tup ds))) else .bad
      | none => .bad)
  | .chn j ws w k => if isFree S j && ws.length ≤ 1000 then .ret (.own (.lst (((ws ++ [(w, k)]).filter fun p => decide (p.2 = c)).map fun p => .str p.1))) S else .bad
def nmFree (S : Fr) : Option Nat → Bool
  | none => true
  | some i => isFree S i
/-- the clauses of a try -/
def catchR (ok : List Str) (hs : List Hdl) (x : Fl) : Fl := match x with
  | .exc c fs S => if ok.contains c then (match findH c hs with
    | some (i, b) => if nmFree S i then hbR c fs S b else .bad
    | none => .exc c fs S) else .bad
  | x => x
open Classical in
/-- what a def must do with the items of a list, so that they may be changed -/
def ChgOk (cl : Calls) (f : Str) (xs : List FV) : Prop := xs.length ≤ 1000 ∧ (∀ ys, FV.l ys ∈ xs → ys.length ≤ 1000000) ∧
  (∀ ys : List D, ys.length ≤ 2000000 → ∃ zs, cl f [.par (.lst ys)] = .ok (.val .non) [.lst zs] ∧ zs.length ≤ ys.length + 1) ∧ ∀ d, FV.v d ∈ xs → cl f [.val d] = .ok (.val .non) []
open Classical in
noncomputable def chgR (cl : Calls) (f : Str) (j i : Nat) (S : Fr) (xs : List FV) : Fl := if isFree S j = true ∧ ChgOk cl f xs then .nx (setC S i none) else .bad
def dselR (k1 k2 : List Str) (d1 d2 : List D) (S : Fr) : Option Cell → Fl
  | some (.val (.str z)) => if d1.length = k1.length ∧ d2.length = k2.length ∧ k1.Nodup ∧ k2.Nodup ∧ k1.length ≤ 15 ∧ k2.length ≤ 15 then
      (match (k1.zip d1).lookup z with
        | some d => .ret (.val d) S
        | none => (match (k2.zip d2).lookup z with
          | some d => .ret (.val d) S
          | none => .bad)) else .bad
  | _ => .bad
mutual
noncomputable def exS (cl : Calls) (gl : Str → Option D) : St → Fr → Fl
  | .asg z i e, S => Fl.bindO (evE cl gl e S) fun x S => Fl.bindO (asgR z x S) fun c S => nxO (putC S i c)
  | .unp is e, S => Fl.bindO (evE cl gl e S) fun x S => Fl.bindO (esc x S) fun d S => (match bindT (.many is) d S with
    | some S => .nx S
    | none => .bad)
  | .par zs is es, S => Fl.bindO (parR cl gl zs es S) fun cs S => if cs.length = is.length ∧ is.Nodup then nxO (putCs S is cs) else .bad
  | .app i e, S => (match getO S i with
    | some (.lst _) => Fl.bindO (evE cl gl e S) fun x S => Fl.bindO (esc x S) fun d S => (match getO S i with
      | some (.lst xs) => if decide (xs.length < sizeLine) then .nx (putO S i (.lst (xs ++ [d]))) else .bad
      | _ => .bad)
    | _ => .bad)
  | .six i k e, S => (match getO S i with
    | some _ => Fl.bindO (evE cl gl e S) fun x S => Fl.bindO (esc x S) fun d S => Fl.bindO (evE cl gl k S) fun y S => Fl.bindO (esc y S) fun k S => (match getO S i with
      | some o => (match setIx o k d with
        | some o => .nx (putO S i o)
        | none => .bad)
      | _ => .bad)
    | none => .bad)
  | .del i k, S => (match getO S i with
    | some _ => Fl.bindO (evE cl gl k S) fun y S => Fl.bindO (esc y S) fun k S => (match getO S i with
      | some o => (match delIx o k with
        | some o => .nx (putO S i o)
        | none => .bad)
      | _ => .bad)
    | none => .bad)
  | .atr c i f e, S => Fl.bindO (evE cl gl e S) fun x S => Fl.bindO (esc x S) fun d S => (match getO S i with
    | some (.ins c' fs) => if c' = c ∧ fs.length < 900 then .nx (putO S i (.ins c' (setFld fs f d))) else .bad
    | _ => .bad)
  | .fap c i f g, S => (match insF S c i with
    | some fs => (match lstF f fs, fs.lookup g with
      | some xs, some (.v d) => if decide (xs.length < sizeLine) then .nx (putO S i (.ins c (setL f (xs ++ [d]) fs))) else .bad
      | _, _ => .bad)
    | none => .bad)
  | .atl c i f e, S => Fl.bindO (evE cl gl e S) fun x S => (match x, insF S c i with
    | .tmp (.lst xs), some fs => if fs.length < 900 then .nx (putO S i (.ins c (putL f xs fs))) else .bad
    | _, _ => .bad)
  | .aug op i e, S => (match getC S i with
    | some (.val (.int _)) => Fl.bindO (evE cl gl e S) fun x S => (match getC S i, cont S x with
      | some (.val (.int a)), some (.int b) => (match op with
        | .add => nxO (putC S i (.val (.int (a + b))))
        | .sub => nxO (putC S i (.val (.int (a - b))))
        | _ => .bad)
      | _, _ => .bad)
    | _ => .bad)
  | .ife c a b, S => Fl.bindO (evT cl gl c S) fun k S => if k then exSs cl gl a S else exSs cl gl b S
  | .whl n c kl b, S => whlLoop kl (fun S => evT cl gl c S) (fun S => exSs cl gl b S) n S
  | .fr tg it kl b, S => Fl.bindO (evI cl gl it S) fun ds S => forLoop tg kl (fun S => exSs cl gl b S) ds S
  | .ret z e, S => Fl.bindO (evE cl gl e S) fun x S => (match z, x with
    | true, x => Fl.bindO (esc x S) fun d S => .ret (.val d) S
    | false, .val d => .ret (.val d) S
    | false, .tmp o => .ret (.own o) S
    | false, .bor i => (match getC S i with
      | some (.own o) => .ret (.own o) (setC S i none)
      | _ => .bad))
  | .retN, S => .ret (.val .non) S
  | .rse c fs es, S => rseR cl gl c fs es S
  | .tr ok b hs, S => catchR ok hs (exSs cl gl b S)
  | .exp e, S => Fl.bindO (evE cl gl e S) fun _ S => .nx S
  | .pas, S => .nx S
  | .brk, S => .brk S
  | .kill is, S => .nx (killS S is)
  | .catL i es, S => (match llC S i with
    | some _ => Fl.bindO (evRs cl gl es S) fun rs S => (match llC S i, fvRs rs with
      | some xs, some ys => if lineOk rs.length && lineOk (xs.length + ys.length) then .nx (setC S i (some (.own (.ll (xs ++ ys))))) else .bad
      | _, _ => .bad)
    | none => .bad)
  | .retL i es, S => (match llC S i with
    | some _ => Fl.bindO (evRs cl gl es S) fun rs S => (match llC S i, fvRs rs with
      | some xs, some ys => if lineOk rs.length && lineOk (xs.length + ys.length) then .ret (.own (.ll (xs ++ ys))) (setC S i none) else .bad
      | _, _ => .bad)
    | none => .bad)
  | .appL i e, S => (match llC S i with
    | some _ => Fl.bindO (evE cl gl e S) fun x S => Fl.bindO (esc x S) fun d S => (match llC S i with
      | some xs => if decide (xs.length < sizeLine) then .nx (setC S i (some (.own (.ll (xs ++ [.v d]))))) else .bad
      | none => .bad)
    | none => .bad)
  | .rev i, S => (match getO S i with
    | some (.lst xs) => .nx (putO S i (.lst xs.reverse))
    | _ => .bad)
  | .chgL j i f, S => (match llC S i with
    | some xs => chgR cl f j i S xs
    | none => .bad)
noncomputable def exSs (cl : Calls) (gl : Str → Option D) : Ss → Fr → Fl
  | .nil, S => .nx S
  | .cons s ss, S => match exS cl gl s S with
    | .nx S => exSs cl gl ss S
    | x => x
  | .dsel i1 k1 e1 i2 k2 e2 y, S => if isFree S i1 && decide (i1 ≠ y) && decide (i2 ≠ y) && decide (i1 ≠ i2) then Fl.bindO (evEs cl gl e1 S) fun d1 S => if isFree S i1 then Fl.bindO (evEs cl gl e2 S) fun d2 S => if isFree S i1 && isFree S i2 then dselR k1 k2 d1 d2 S (getC S y) else .bad else .bad else .bad
end

/-! ### functions -/
structure Fn where
  name : Str
  ps : List Str
  N : List Str
  body : Ss
/-- the objects that came by reference, as they stand at the end -/
def outsOf : List Cell → Fr → Option (List Ob)
  | [], _ => some []
  | .par _ :: as, some (.par o) :: S => (outsOf as S).map (o :: ·)
  | .val _ :: as, _ :: S => outsOf as S
  | _, _ => none
def startF (f : Fn) (as : List Cell) : Fr := as.map some ++ List.replicate (f.N.length - as.length) none
def endF (as : List Cell) (S : Fr) (k : List Ob → FnRes) : FnRes := match outsOf as S with
  | some os => k os
  | none => .bad
noncomputable def runFn (cl : Calls) (gl : Str → Option D) (f : Fn) (as : List Cell) : FnRes := if as.length = f.ps.length then (match exSs cl gl f.body (startF f as) with
    | .nx S => endF as S (.ok (.val .non))
    | .ret r S => endF as S (.ok r)
    | .exc c fs S => endF as S (.exc c fs)
    | _ => .bad) else .bad
abbrev Prims := Str → Option (List Cell → FnRes)
def findFn (Γ : List Fn) (f : Str) : Option Fn := Γ.find? fun g => g.name == f
noncomputable def callN (Γ : List Fn) (pr : Prims) (gl : Str → Option D) : Nat → Calls
  | 0, _, _ => .bad
  | n + 1, f, as => match pr f with
    | some g => g as
    | none => match findFn Γ f with
      | some g => runFn (callN Γ pr gl n) gl g as
      | none => .bad
end Ev

/-! EvB: what a deep value is in the heap; tags; what steps keep. -/
namespace Ev
open PySem L2

/-- who holds an address: nobody may change it; it is out of sight and stays as it is; a new object in hand; a slot -/
inductive Tag where
  | fz | fo | tm | pd (n : Nat) | sl (i : Nat)
  deriving DecidableEq
abbrev Ow := Addr → Tag
/-- the program's world: its text, the written part, the classes' addresses -/
structure Wd where
  P : Program
  w : World
  K : PySem.W.Frag
  cad : Str → Addr
  own : List Str

def noH : Hp := fun _ => none
def objAt (a : Addr) (o : Obj) : HO := .ext fun h => h.get? a = some o
def DObj (P : Program) (w : World) (o : Obj) (es : List (NestedKey × Addr × V)) : Prop :=
  es.length ≤ sizeLine ∧ o.ExactDict ∧ ∃ xs : List (NestedKey × Addr × Value), Paired (fun (p : NestedKey × Addr × V) (q : NestedKey × Addr × Value) => p.1 = q.1 ∧ p.2.1 = q.2.1 ∧ RelV p.2.2 q.2.2) es xs ∧
    ∃ ds ep, o.data = .dict ds ep ∧ ds.toList = xs.map (entryOfKey (nestedKind P w)) ∧ (xs.map (·.1)).Nodup
def TupAt (K : PySem.W.Frag) (ow : Ow) (H : Hp) (a : Addr) (vs : List V) : Prop := (Rd H a (.tup vs) ∧ ow a = .fz) ∨ SqT K noH a vs
def LstAt (ow : Ow) (H : Hp) (a : Addr) (vs : List V) : Prop := H a = some (.lst vs) ∧ ow a = .fz

mutual
inductive Rep (W : Wd) (ow : Ow) (H : Hp) : D → V → Prop
  | non : Rep W ow H .non .non
  | bl (b : Bool) : Rep W ow H (.bl b) (.bl b)
  | int (i : Int) : Rep W ow H (.int i) (.int i)
  | str (x : Str) : Rep W ow H (.str x) (.str x)
  | tup {a : Addr} {vs : List V} {xs : List D} : TupAt W.K ow H a vs → RepL W ow H xs vs → Rep W ow H (.tup xs) (.ref a)
  | lst {a : Addr} {vs : List V} {xs : List D} : LstAt ow H a vs → RepL W ow H xs vs → Rep W ow H (.lst xs) (.ref a)
  | dic {a : Addr} {o : Obj} {es : List (NestedKey × Addr × V)} {kvs : List (NestedKey × D)} : H a = some (objAt a o) → (a == sysModules) = false → ow a = .fz → DObj W.P W.w o es → RepK W ow H kvs es → Rep W ow H (.dic kvs) (.ref a)
  | ins {a dx : Addr} {c : Str} {fs : List (Str × D)} {gs : List (Str × V)} : c ∈ W.own → H a = some (.ins (W.cad c) dx gs) → ow a = .fz → H dx = some (.own a) → ow dx = .fz → RepF W ow H fs gs → Rep W ow H (.ins c fs) (.ref a)
inductive RepL (W : Wd) (ow : Ow) (H : Hp) : List D → List V → Prop
  | nil : RepL W ow H [] []
  | cons {d : D} {v : V} {ds : List D} {vs : List V} : Rep W ow H d v → RepL W ow H ds vs → RepL W ow H (d :: ds) (v :: vs)
inductive RepK (W : Wd) (ow : Ow) (H : Hp) : List (NestedKey × D) → List (NestedKey × Addr × V) → Prop
  | nil : RepK W ow H [] []
  | cons {k : NestedKey} {a : Addr} {d : D} {v : V} {ks : List (NestedKey × D)} {es : List (NestedKey × Addr × V)} : Rep W ow H (ofKey k) (.ref a) → k.depth ≤ 8 → Rep W ow H d v → RepK W ow H ks es → RepK W ow H ((k, d) :: ks) ((k, a, v) :: es)
inductive RepF (W : Wd) (ow : Ow) (H : Hp) : List (Str × D) → List (Str × V) → Prop
  | nil : RepF W ow H [] []
  | cons {f : Str} {d : D} {v : V} {ds : List (Str × D)} {vs : List (Str × V)} : Rep W ow H d v → RepF W ow H ds vs → RepF W ow H ((f, d) :: ds) ((f, v) :: vs)
end
/-- the fields of an instance in hand -/
inductive RepV (W : Wd) (ow : Ow) (H : Hp) (t : Addr → Prop) : List (Str × FV) → List (Str × V) → Prop
  | nil : RepV W ow H t [] []
  | val {f : Str} {d : D} {v : V} {ds : List (Str × FV)} {vs : List (Str × V)} : Rep W ow H d v → RepV W ow H t ds vs → RepV W ow H t ((f, .v d) :: ds) ((f, v) :: vs)
  | lst {f : Str} {xs : List D} {a : Addr} {us : List V} {ds : List (Str × FV)} {vs : List (Str × V)} : H a = some (.lst us) → t a → RepL W ow H xs us → RepV W ow H t ds vs → RepV W ow H t ((f, .l xs) :: ds) ((f, .ref a) :: vs)
/-- items that are values or lists in hand -/
inductive RepX (W : Wd) (ow : Ow) (H : Hp) (t : Addr → Prop) : List FV → List V → Prop
  | nil : RepX W ow H t [] []
  | val {d : D} {v : V} {ds : List FV} {vs : List V} : Rep W ow H d v → RepX W ow H t ds vs → RepX W ow H t (.v d :: ds) (v :: vs)
  | lst {xs : List D} {a : Addr} {us : List V} {ds : List FV} {vs : List V} : H a = some (.lst us) → t a → RepL W ow H xs us → RepX W ow H t ds vs → RepX W ow H t (.l xs :: ds) (.ref a :: vs)

/-- frozen things are kept -/
def Keep (ow : Ow) (H : Hp) (ow' : Ow) (H' : Hp) : Prop := ∀ p, H p ≠ none → ow p = .fz → H' p = H p ∧ ow' p = .fz
/-- all is kept, new things come -/
def Grow (ow : Ow) (H : Hp) (ow' : Ow) (H' : Hp) : Prop := ∀ p, H p ≠ none → H' p = H p ∧ ow' p = ow p
/-- what an evaluation may do -/
def Step (ow : Ow) (H : Hp) (ow' : Ow) (H' : Hp) : Prop := ∀ p, H p ≠ none → H' p ≠ none ∧ ((∀ i, ow p ≠ .sl i) → H' p = H p ∧ ow' p = ow p) ∧ ∀ i, ow p = .sl i → ow' p = .sl i ∨ ow' p = .fz ∨ ow' p = .tm

section
variable {W : Wd} {ow ow1 ow2 : Ow} {H H1 H2 : Hp}
theorem Grow.refl : Grow ow H ow H := fun _ _ => ⟨rfl, rfl⟩
theorem Grow.trans (a : Grow ow H ow1 H1) (b : Grow ow1 H1 ow2 H2) : Grow ow H ow2 H2 := fun p hp => by
  obtain ⟨h1, t1⟩ := a p hp
  obtain ⟨h2, t2⟩ := b p (by rw [h1]; exact hp)
  exact ⟨h2.trans h1, t2.trans t1⟩
theorem Grow.step (a : Grow ow H ow1 H1) : Step ow H ow1 H1 := fun p hp => by
  obtain ⟨h1, t1⟩ := a p hp
  exact ⟨by rw [h1]; exact hp, fun _ => ⟨h1, t1⟩, fun i e => .inl (t1.trans e)⟩
theorem Step.refl : Step ow H ow H := Grow.refl.step
theorem Step.tag (a : Step ow H ow1 H1) {p : Addr} (hp : H p ≠ none) {t : Tag} (e : ow p = t) (ht : ∀ i, t ≠ .sl i) : H1 p = H p ∧ ow1 p = t := by
  obtain ⟨x, y⟩ := (a p hp).2.1 (by rw [e]; exact ht)
  exact ⟨x, y.trans e⟩
theorem Step.keep (a : Step ow H ow1 H1) : Keep ow H ow1 H1 := fun p hp e => a.tag hp e (by simp)
theorem Grow.keep (a : Grow ow H ow1 H1) : Keep ow H ow1 H1 := a.step.keep
theorem Step.trans (a : Step ow H ow1 H1) (b : Step ow1 H1 ow2 H2) : Step ow H ow2 H2 := fun p hp => by
  obtain ⟨n1, f1, s1⟩ := a p hp
  obtain ⟨n2, f2, s2⟩ := b p n1
  refine ⟨n2, fun e => ?_, fun i e => ?_⟩
  · obtain ⟨x, y⟩ := f1 e
    obtain ⟨z, w⟩ := f2 (by rw [y]; exact e)
    exact ⟨z.trans x, w.trans y⟩
  · rcases s1 i e with q | q | q
    · exact s2 i q
    · exact .inr (.inl ((f2 (by rw [q]; simp)).2.trans q))
    · exact .inr (.inr ((f2 (by rw [q]; simp)).2.trans q))
theorem Step.none (a : Step ow H ow1 H1) {p : Addr} (h : H1 p = none) : H p = none := by
  cases e : H p with
  | none => rfl
  | some o => exact absurd h (a p (by rw [e]; simp)).1
/-- a new object -/
theorem Grow.new {p : Addr} {o : HO} {t : Tag} (h : H p = none) : Grow ow H (fun q => if q = p then t else ow q) (upd H p o) := fun q hq => by
  have ne : q ≠ p := fun e => hq (e ▸ h)
  exact ⟨upd_ne ne, if_neg ne⟩

theorem Rd.keep {a : Addr} {u : HO} (k : Keep ow H ow1 H1) (t : ow a = .fz) (r : Rd H a u) : Rd H1 a u ∧ ow1 a = .fz := by
  rcases r with r | ⟨o, r⟩
  · obtain ⟨h, t'⟩ := k a (by rw [r]; simp) t
    exact ⟨.inl (h.trans r), t'⟩
  · obtain ⟨h, t'⟩ := k a (by rw [r]; simp) t
    exact ⟨.inr ⟨o, h.trans r⟩, t'⟩
theorem TupAt.keep {K : PySem.W.Frag} {a : Addr} {vs : List V} (k : Keep ow H ow1 H1) (h : TupAt K ow H a vs) : TupAt K ow1 H1 a vs := by
  rcases h with ⟨r, t⟩ | h
  · exact .inl (Rd.keep k t r)
  · exact .inr h
theorem LstAt.keep {a : Addr} {vs : List V} (k : Keep ow H ow1 H1) (h : LstAt ow H a vs) : LstAt ow1 H1 a vs := by
  obtain ⟨x, y⟩ := k a (by rw [h.1]; simp) h.2
  exact ⟨x.trans h.1, y⟩
theorem TupAt.sq {K : PySem.W.Frag} {a : Addr} {vs : List V} (h : TupAt K ow H a vs) : SqT K H a vs := by
  rcases h with ⟨r, _⟩ | (r | r)
  · exact .inl r
  · rcases r with r | ⟨_, r⟩ <;> cases r
  · exact .inr r
mutual
theorem Rep.keep (k : Keep ow H ow1 H1) : ∀ {d : D} {v : V}, Rep W ow H d v → Rep W ow1 H1 d v
  | _, _, .non => .non
  | _, _, .bl b => .bl b
  | _, _, .int i => .int i
  | _, _, .str x => .str x
  | _, _, .tup h l => .tup (h.keep k) (RepL.keep k l)
  | _, _, .lst h l => .lst (h.keep k) (RepL.keep k l)
  | _, _, .dic (a := a) h n t o l => .dic ((k a (by rw [h]; simp) t).1.trans h) n (k a (by rw [h]; simp) t).2 o (RepK.keep k l)
  | _, _, .ins (a := a) (dx := dx) m h t h2 t2 l => .ins m ((k a (by rw [h]; simp) t).1.trans h) (k a (by rw [h]; simp) t).2 ((k dx (by rw [h2]; simp) t2).1.trans h2) (k dx (by rw [h2]; simp) t2).2 (RepF.keep k l)
theorem RepL.keep (k : Keep ow H ow1 H1) : ∀ {d : List D} {v : List V}, RepL W ow H d v → RepL W ow1 H1 d v
  | _, _, .nil => .nil
  | _, _, .cons h l => .cons (Rep.keep k h) (RepL.keep k l)
theorem RepK.keep (k : Keep ow H ow1 H1) : ∀ {d : List (NestedKey × D)} {v : List (NestedKey × Addr × V)}, RepK W ow H d v → RepK W ow1 H1 d v
  | _, _, .nil => .nil
  | _, _, .cons h n g l => .cons (Rep.keep k h) n (Rep.keep k g) (RepK.keep k l)
theorem RepF.keep (k : Keep ow H ow1 H1) : ∀ {d : List (Str × D)} {v : List (Str × V)}, RepF W ow H d v → RepF W ow1 H1 d v
  | _, _, .nil => .nil
  | _, _, .cons h l => .cons (Rep.keep k h) (RepF.keep k l)
end
theorem RepL.length {d : List D} {v : List V} (h : RepL W ow H d v) : d.length = v.length := by
  induction d generalizing v with
  | nil => cases h; rfl
  | cons _ _ ih => cases h with | cons _ l => simp [ih l]
theorem RepL.get {d : List D} {v : List V} (h : RepL W ow H d v) : ∀ {i : Nat} {x : D}, d[i]? = some x → ∃ u, v[i]? = some u ∧ Rep W ow H x u := by
  induction d generalizing v with
  | nil => intro i x e; simp at e
  | cons y ds ih =>
    intro i x e
    cases h with
    | cons g l =>
      cases i with
      | zero => simp at e; subst e; exact ⟨_, rfl, g⟩
      | succ i => simpa using ih l (by simpa using e)
theorem RepL.append {d e : List D} {v u : List V} (h : RepL W ow H d v) (g : RepL W ow H e u) : RepL W ow H (d ++ e) (v ++ u) := by
  induction d generalizing v with
  | nil => cases h; exact g
  | cons _ _ ih => cases h with | cons a l => exact .cons a (ih l)
theorem RepL.one {d : D} {v : V} (h : Rep W ow H d v) : RepL W ow H [d] [v] := .cons h .nil
theorem RepL.take {d : List D} {v : List V} (h : RepL W ow H d v) : ∀ n, RepL W ow H (d.take n) (v.take n) := by
  induction d generalizing v with
  | nil => cases h; intro n; simp; exact .nil
  | cons _ _ ih => cases h with | cons a l => intro n; cases n with
    | zero => exact .nil
    | succ n => exact .cons a (ih l n)
theorem RepL.drop {d : List D} {v : List V} (h : RepL W ow H d v) : ∀ n, RepL W ow H (d.drop n) (v.drop n) := by
  induction d generalizing v with
  | nil => cases h; intro n; simp; exact .nil
  | cons _ _ ih => cases h with | cons a l => intro n; cases n with
    | zero => exact .cons a l
    | succ n => exact ih l n
theorem RepL.set {d : List D} {v : List V} (h : RepL W ow H d v) {x : D} {u : V} (g : Rep W ow H x u) : ∀ n, RepL W ow H (d.set n x) (v.set n u) := by
  induction d generalizing v with
  | nil => cases h; intro n; exact .nil
  | cons _ _ ih => cases h with | cons a l => intro n; cases n with
    | zero => exact .cons g l
    | succ n => exact .cons a (ih l n)
theorem RepL.ints {d : List D} {v : List V} (h : RepL W ow H d v) : ∀ {ns : List Int}, asInts d = some ns → v = ns.map V.int := by
  induction d generalizing v with
  | nil => intro ns e; cases h; simp [asInts] at e; subst e; rfl
  | cons y ds ih =>
    intro ns e
    cases h with
    | cons g l =>
      cases y <;> simp [asInts] at e
      obtain ⟨ms, e1, e2⟩ := e
      subst e2
      cases g
      rw [ih l e1]; rfl
theorem RepF.lookup {d : List (Str × D)} {v : List (Str × V)} (h : RepF W ow H d v) {f : Str} {x : D} (e : d.lookup f = some x) : ∃ u, v.lookup f = some u ∧ Rep W ow H x u := by
  induction d generalizing v with
  | nil => simp at e
  | cons y ds ih =>
    cases h with
    | cons g l =>
      rw [List.lookup_cons] at e ⊢
      split at e
      · cases e; exact ⟨_, rfl, g⟩
      · exact ih l e
theorem RepF.lookup_none {d : List (Str × D)} {v : List (Str × V)} (h : RepF W ow H d v) {f : Str} (e : d.lookup f = none) : v.lookup f = none := by
  induction d generalizing v with
  | nil => cases h; rfl
  | cons y ds ih =>
    cases h with
    | cons g l =>
      rw [List.lookup_cons] at e ⊢
      split at e
      · cases e
      · exact ih l e

/-! ### objects in hand -/
/-- an object in hand; t: what is true of the addresses that it holds -/
def ObRep (W : Wd) (ow : Ow) (H : Hp) (t : Addr → Prop) : Ob → V → Prop
  | .lst xs, v => ∃ a vs, v = .ref a ∧ H a = some (.lst vs) ∧ t a ∧ RepL W ow H xs vs
  | .dic kvs, v => ∃ a o es, v = .ref a ∧ H a = some (objAt a o) ∧ (a == sysModules) = false ∧ t a ∧ DObj W.P W.w o es ∧ RepK W ow H kvs es
  | .ins c fs, v => ∃ a dx gs, v = .ref a ∧ c ∈ W.own ∧ H a = some (.ins (W.cad c) dx gs) ∧ t a ∧ H dx = some (.own a) ∧ t dx ∧ RepV W ow H t fs gs
  | .rng s cs k, v => ∃ a b, v = .ref a ∧ a ≠ b ∧ H a = some (.lst [.int s, .ref b, .int k]) ∧ H b = some (.lst (cs.map V.int)) ∧ t a ∧ t b
  | .scr ns, v => ∃ a, v = .ref a ∧ ((Rd H a (.lst (ns.map V.int)) ∧ t a) ∨ SqL W.K noH a (ns.map V.int))
  | .ll xs, v => ∃ a vs, v = .ref a ∧ H a = some (.lst vs) ∧ t a ∧ RepX W ow H (fun p => t p ∧ p ≠ a) xs vs
theorem RepX.keep {t t' : Addr → Prop} (k : Keep ow H ow1 H1) (kt : ∀ p, H p ≠ none → t p → H1 p = H p ∧ t' p) : ∀ {d : List FV} {v : List V}, RepX W ow H t d v → RepX W ow1 H1 t' d v
  | _, _, .nil => .nil
  | _, _, .val h l => .val (h.keep k) (RepX.keep k kt l)
  | _, _, .lst (a := a) h g r l => by
    obtain ⟨x, y⟩ := kt a (by rw [h]; simp) g
    exact .lst (x.trans h) y (r.keep k) (RepX.keep k kt l)
theorem RepX.fz {t : Addr → Prop} (ht : ∀ p, t p → ow p = .fz) : ∀ {d : List FV} {v : List V}, RepX W ow H t d v → RepL W ow H (d.map fvD) v
  | _, _, .nil => .nil
  | _, _, .val h l => .cons h (RepX.fz ht l)
  | _, _, .lst h g r l => .cons (.lst ⟨h, ht _ g⟩ r) (RepX.fz ht l)
theorem RepX.append {t : Addr → Prop} {d e : List FV} {v u : List V} (h : RepX W ow H t d v) (g : RepX W ow H t e u) : RepX W ow H t (d ++ e) (v ++ u) := by
  induction h with
  | nil => exact g
  | val a _ ih => exact .val a ih
  | lst a b c _ ih => exact .lst a b c ih
theorem RepX.length {t : Addr → Prop} {d : List FV} {v : List V} (h : RepX W ow H t d v) : d.length = v.length := by
  induction h with
  | nil => rfl
  | val _ _ ih => simp [ih]
  | lst _ _ _ _ ih => simp [ih]
theorem RepX.get {t : Addr → Prop} {d : List FV} {v : List V} (h : RepX W ow H t d v) : ∀ {i : Nat} {x : FV}, d[i]? = some x → ∃ u, v[i]? = some u ∧ RepX W ow H t [x] [u] := by
  induction h with
  | nil => intro i x e; simp at e
  | val a l ih =>
    intro i x e
    cases i with
    | zero => simp at e; subst e; exact ⟨_, rfl, .val a .nil⟩
    | succ i => simpa using ih (by simpa using e)
  | lst a b c l ih =>
    intro i x e
    cases i with
    | zero => simp at e; subst e; exact ⟨_, rfl, .lst a b c .nil⟩
    | succ i => simpa using ih (by simpa using e)
theorem RepV.keep {t t' : Addr → Prop} (k : Keep ow H ow1 H1) (kt : ∀ p, H p ≠ none → t p → H1 p = H p ∧ t' p) : ∀ {d : List (Str × FV)} {v : List (Str × V)}, RepV W ow H t d v → RepV W ow1 H1 t' d v
  | _, _, .nil => .nil
  | _, _, .val h l => .val (h.keep k) (RepV.keep k kt l)
  | _, _, .lst (a := a) h g r l => by
    obtain ⟨x, y⟩ := kt a (by rw [h]; simp) g
    exact .lst (x.trans h) y (r.keep k) (RepV.keep k kt l)
theorem ObRep.keep {t t' : Addr → Prop} {o : Ob} {v : V} (k : Keep ow H ow1 H1) (kt : ∀ p, H p ≠ none → t p → H1 p = H p ∧ t' p) (h : ObRep W ow H t o v) : ObRep W ow1 H1 t' o v := by
  cases o with
  | lst xs =>
    obtain ⟨a, vs, e, h1, h2, h3⟩ := h
    obtain ⟨x, y⟩ := kt a (by rw [h1]; simp) h2
    exact ⟨a, vs, e, x.trans h1, y, h3.keep k⟩
  | dic kvs =>
    obtain ⟨a, o, es, e, h1, hs, h2, h3, h4⟩ := h
    obtain ⟨x, y⟩ := kt a (by rw [h1]; simp) h2
    exact ⟨a, o, es, e, x.trans h1, hs, y, h3, h4.keep k⟩
  | ins c fs =>
    obtain ⟨a, dx, gs, e, hm, h1, h2, h3, h4, h5⟩ := h
    obtain ⟨x, y⟩ := kt a (by rw [h1]; simp) h2
    obtain ⟨x2, y2⟩ := kt dx (by rw [h3]; simp) h4
    exact ⟨a, dx, gs, e, hm, x.trans h1, y, x2.trans h3, y2, h5.keep k kt⟩
  | rng s cs n =>
    obtain ⟨a, b, e, ne, h1, h2, h3, h4⟩ := h
    obtain ⟨x, y⟩ := kt a (by rw [h1]; simp) h3
    obtain ⟨x2, y2⟩ := kt b (by rw [h2]; simp) h4
    exact ⟨a, b, e, ne, x.trans h1, x2.trans h2, y, y2⟩
  | scr ns =>
    obtain ⟨a, e, h⟩ := h
    refine ⟨a, e, ?_⟩
    rcases h with ⟨r, ta⟩ | h
    · left
      rcases r with r | ⟨o, r⟩
      · obtain ⟨x, y⟩ := kt a (by rw [r]; simp) ta
        exact ⟨.inl (x.trans r), y⟩
      · obtain ⟨x, y⟩ := kt a (by rw [r]; simp) ta
        exact ⟨.inr ⟨o, x.trans r⟩, y⟩
    · exact .inr h
  | ll xs =>
    obtain ⟨a, vs, e, h1, h2, h3⟩ := h
    obtain ⟨x, y⟩ := kt a (by rw [h1]; simp) h2
    exact ⟨a, vs, e, x.trans h1, y, h3.keep k fun p hp q => ⟨(kt p hp q.1).1, (kt p hp q.1).2, q.2⟩⟩
/-- the fields of an instance that is a value -/
theorem RepV.fz {t : Addr → Prop} : ∀ {d : List (Str × FV)} {v : List (Str × V)} {fs : List (Str × D)}, RepV W ow H t d v → fvsOf d = some fs → RepF W ow H fs v
  | _, _, _, .nil, e => by simp [fvsOf] at e; subst e; exact .nil
  | _, _, _, .val h l, e => by
    simp [fvsOf] at e
    obtain ⟨gs, e1, e2⟩ := e
    subst e2
    exact .cons h (RepV.fz l e1)
  | _, _, _, .lst _ _ _ _, e => by simp [fvsOf] at e
/-- an object whose addresses are all frozen is a value -/
theorem ObRep.val {o : Ob} {d : D} {v : V} (h : ObRep W ow H (fun p => ow p = .fz) o v) (e : obFz o = some d) : Rep W ow H d v := by
  cases o with
  | lst xs =>
    obtain ⟨a, vs, rfl, h1, h2, h3⟩ := h
    simp [obFz] at e; subst e
    exact .lst ⟨h1, h2⟩ h3
  | dic kvs =>
    obtain ⟨a, o, es, rfl, h1, hs, h2, h3, h4⟩ := h
    simp [obFz] at e; subst e
    exact .dic h1 hs h2 h3 h4
  | ins c fs =>
    obtain ⟨a, dx, gs, rfl, hm, h1, h2, h3, h4, h5⟩ := h
    simp [obFz] at e
    obtain ⟨gs', e1, e2⟩ := e
    subst e2
    exact .ins hm h1 h2 h3 h4 (h5.fz e1)
  | rng s cs n => simp [obFz] at e
  | scr ns => simp [obFz] at e
  | ll xs =>
    obtain ⟨a, vs, rfl, h1, h2, h3⟩ := h
    simp [obFz] at e; subst e
    exact .lst ⟨h1, h2⟩ (h3.fz fun _ q => q.1)

/-! ### slots -/
def CellRep (W : Wd) (ow : Ow) (H : Hp) (i : Nat) : Cell → V → Prop
  | .val d, v => Rep W ow H d v
  | .own o, v => ObRep W ow H (fun p => ow p = .sl i) o v
  | .par o, v => ObRep W ow H (fun p => ow p = .sl i) o v
  | .exc _ _, _ => False
structure Rel (W : Wd) (pv : Nat → Option V) (ow : Ow) (H : Hp) (S : Fr) (σ : L2.St) : Prop where
  len : S.length = σ.length
  cell : ∀ i c, getC S i = some c → ∃ v, σ[i]? = some (some v) ∧ CellRep W ow H i c v
  par : ∀ i v, pv i = some v → ∃ o, getC S i = some (.par o) ∧ σ[i]? = some (some v)
  unpar : ∀ i o, getC S i = some (.par o) → ∃ v, pv i = some v
/-- a result; H0: the heap ahead of the evaluation -/
def RRep (W : Wd) (H0 : Hp) (ow : Ow) (H : Hp) (σ : L2.St) : R → V → Prop
  | .val d, v => Rep W ow H d v
  | .tmp o, v => ObRep W ow H (fun p => ow p = .tm ∧ H0 p = none) o v
  | .bor i, v => σ[i]? = some (some v)
theorem CellRep.grow {i : Nat} {c : Cell} {v : V} (k : Grow ow H ow1 H1) (h : CellRep W ow H i c v) : CellRep W ow1 H1 i c v := by
  cases c with
  | val d => exact Rep.keep k.keep h
  | own o => exact ObRep.keep k.keep (fun p hp e => ⟨(k p hp).1, (k p hp).2.trans e⟩) h
  | par o => exact ObRep.keep k.keep (fun p hp e => ⟨(k p hp).1, (k p hp).2.trans e⟩) h
  | exc _ _ => exact h
theorem Rel.grow {pv : Nat → Option V} {S : Fr} {σ : L2.St} (r : Rel W pv ow H S σ) (k : Grow ow H ow1 H1) : Rel W pv ow1 H1 S σ :=
  ⟨r.len, fun i c e => let ⟨v, e1, h⟩ := r.cell i c e; ⟨v, e1, h.grow k⟩, r.par, r.unpar⟩
theorem RRep.step {H0 : Hp} {σ : L2.St} {r : R} {v : V} (k : Step ow H ow1 H1) (h : RRep W H0 ow H σ r v) : RRep W H0 ow1 H1 σ r v := by
  cases r with
  | val d => exact Rep.keep k.keep h
  | tmp o => exact ObRep.keep k.keep (fun p hp e => let ⟨a, b⟩ := k.tag hp e.1 (by simp); ⟨a, b, e.2⟩) h
  | bor i => exact h
theorem RRep.back {H0 H0' : Hp} {σ : L2.St} {r : R} {v : V} (k : ∀ p, H0 p = none → H0' p = none) (h : RRep W H0 ow H σ r v) : RRep W H0' ow H σ r v := by
  cases r with
  | val d => exact h
  | tmp o => exact ObRep.keep (fun p hp e => ⟨rfl, e⟩) (fun p hp e => ⟨rfl, e.1, k p e.2⟩) h
  | bor i => exact h
/-- what stands there to be read -/
def Rd1 (W : Wd) (ow : Ow) (H : Hp) : D → V → Prop
  | .lst xs, v => ∃ a vs, v = .ref a ∧ H a = some (.lst vs) ∧ RepL W ow H xs vs
  | .dic kvs, v => ∃ a o es, v = .ref a ∧ H a = some (objAt a o) ∧ (a == sysModules) = false ∧ DObj W.P W.w o es ∧ RepK W ow H kvs es
  | .ins c fs, v => ∃ a dx gs, v = .ref a ∧ c ∈ W.own ∧ H a = some (.ins (W.cad c) dx gs) ∧ H dx = some (.own a) ∧ RepF W ow H fs gs
  | d, v => Rep W ow H d v
theorem Rep.rd {d : D} {v : V} (h : Rep W ow H d v) : Rd1 W ow H d v := by
  cases h with
  | non => exact .non
  | bl b => exact .bl b
  | int i => exact .int i
  | str x => exact .str x
  | tup a b => exact .tup a b
  | lst a b => exact ⟨_, _, rfl, a.1, b⟩
  | dic a n t o l => exact ⟨_, _, _, rfl, a, n, o, l⟩
  | ins m a t b t2 l => exact ⟨_, _, _, rfl, m, a, b, l⟩
theorem ObRep.rd {t : Addr → Prop} {o : Ob} {d : D} {v : V} (h : ObRep W ow H t o v) (e : obRd o = some d) : Rd1 W ow H d v := by
  cases o with
  | lst xs =>
    obtain ⟨a, vs, rfl, h1, h2, h3⟩ := h
    simp [obRd, obFz] at e; subst e
    exact ⟨a, vs, rfl, h1, h3⟩
  | dic kvs =>
    obtain ⟨a, o, es, rfl, h1, hs, h2, h3, h4⟩ := h
    simp [obRd, obFz] at e; subst e
    exact ⟨a, o, es, rfl, h1, hs, h3, h4⟩
  | ins c fs =>
    obtain ⟨a, dx, gs, rfl, hm, h1, h2, h3, h4, h5⟩ := h
    simp [obRd, obFz] at e
    obtain ⟨gs', e1, e2⟩ := e
    subst e2
    exact ⟨a, dx, gs, rfl, hm, h1, h3, h5.fz e1⟩
  | rng s cs n => simp [obRd, obFz] at e
  | scr ns => simp [obRd, obFz] at e
  | ll xs => simp [obRd] at e
section
variable {pv : Nat → Option V} {S S' : Fr} {σ : L2.St} {H0 : Hp}
theorem Rel.obj (r : Rel W pv ow H S σ) {i : Nat} {o : Ob} (e : getO S i = some o) : ∃ v, σ[i]? = some (some v) ∧ ObRep W ow H (fun p => ow p = .sl i) o v := by
  unfold getO at e
  split at e
  · next o' h => cases e; exact r.cell i _ h
  · next o' h => cases e; exact r.cell i _ h
  · cases e
theorem reads (r : Rel W pv ow H S σ) {x : R} {v : V} {d : D} (h : RRep W H0 ow H σ x v) (e : cont S x = some d) : Rd1 W ow H d v := by
  cases x with
  | val c => simp [cont] at e; subst e; exact Rep.rd h
  | tmp o => exact ObRep.rd h e
  | bor i =>
    simp only [cont, Option.bind_eq_some_iff] at e
    obtain ⟨o, e1, e2⟩ := e
    obtain ⟨u, hu, ho⟩ := r.obj e1
    have h' : σ[i]? = some (some v) := h
    rw [h'] at hu
    cases hu
    exact ho.rd e2
theorem getC_set_self {S : Fr} {i : Nat} {c : Option Cell} (h : i < S.length) : getC (setC S i c) i = c := by
  unfold getC setC
  rw [List.getElem?_set_self h]
theorem getC_set_ne {S : Fr} {i j : Nat} {c : Option Cell} (h : i ≠ j) : getC (setC S i c) j = getC S j := by
  unfold getC setC
  rw [List.getElem?_set_ne h]
theorem getC_lt {S : Fr} {i : Nat} {c : Cell} (h : getC S i = some c) : i < S.length := by
  unfold getC at h
  split at h
  · next e => exact (List.getElem?_eq_some_iff.mp e).1
  · cases h
open Classical in
/-- the new temporaries become values -/
noncomputable def fzNew (H0 : Hp) (ow : Ow) : Ow := fun p => if ow p = .tm ∧ H0 p = none then .fz else ow p
theorem fzNew_sl {H0 : Hp} {ow : Ow} {p : Addr} {i : Nat} : fzNew H0 ow p = .sl i ↔ ow p = .sl i := by
  unfold fzNew
  split
  · next h => simp [h.1]
  · exact Iff.rfl
theorem fzNew_fz {H0 : Hp} {ow : Ow} {p : Addr} (h : ow p = .fz) : fzNew H0 ow p = .fz := by
  unfold fzNew; split <;> first | rfl | exact h
theorem fzNew_keep {H0 : Hp} : Keep ow H (fzNew H0 ow) H := fun p _ e => ⟨rfl, fzNew_fz e⟩
theorem CellRep.fzNew {i : Nat} {c : Cell} {v : V} (h : CellRep W ow H i c v) : CellRep W (Ev.fzNew H0 ow) H i c v := by
  cases c with
  | val d => exact Rep.keep fzNew_keep h
  | own o => exact ObRep.keep fzNew_keep (fun p hp e => ⟨rfl, fzNew_sl.mpr e⟩) h
  | par o => exact ObRep.keep fzNew_keep (fun p hp e => ⟨rfl, fzNew_sl.mpr e⟩) h
  | exc _ _ => exact h
theorem Step.fzNew {ow0 : Ow} (k : Step ow0 H0 ow H) : Step ow0 H0 (Ev.fzNew H0 ow) H := fun p hp => by
  have e : Ev.fzNew H0 ow p = ow p := by unfold Ev.fzNew; rw [if_neg (fun z => hp z.2)]
  rw [e]
  exact k p hp
open Classical in
/-- a slot's object becomes a value -/
noncomputable def fzSl (i : Nat) (ow : Ow) : Ow := fun p => if ow p = .sl i then .fz else ow p
theorem fzSl_keep {i : Nat} : Keep ow H (fzSl i ow) H := fun p _ e => ⟨rfl, by unfold fzSl; rw [if_neg (by rw [e]; simp)]; exact e⟩
theorem fzSl_step {i : Nat} : Step ow H (fzSl i ow) H := fun p hp => by
  refine ⟨hp, fun e => ⟨rfl, by unfold fzSl; rw [if_neg (e i)]⟩, fun j e => ?_⟩
  unfold fzSl
  split
  · exact .inr (.inl rfl)
  · exact .inl e
theorem CellRep.fzSl {i j : Nat} {c : Cell} {v : V} (ne : j ≠ i) (h : CellRep W ow H j c v) : CellRep W (Ev.fzSl i ow) H j c v := by
  have kt : ∀ p, H p ≠ none → ow p = .sl j → H p = H p ∧ Ev.fzSl i ow p = .sl j := fun p hp e => ⟨rfl, by unfold Ev.fzSl; rw [if_neg (by rw [e]; simp [ne])]; exact e⟩
  cases c with
  | val d => exact Rep.keep fzSl_keep h
  | own o => exact ObRep.keep fzSl_keep kt h
  | par o => exact ObRep.keep fzSl_keep kt h
  | exc _ _ => exact h
/-- a result is made a value -/
theorem esc_ok {ow0 : Ow} (r : Rel W pv ow H S σ) (k : Step ow0 H0 ow H) {x : R} {v : V} {d : D} (h : RRep W H0 ow H σ x v) (e : esc x S = .ok d S') :
    ∃ ow', Step ow0 H0 ow' H ∧ Keep ow H ow' H ∧ Rel W pv ow' H S' σ ∧ Rep W ow' H d v := by
  cases x with
  | val c =>
    simp [esc] at e
    obtain ⟨rfl, rfl⟩ := e
    exact ⟨ow, k, fun _ _ e => ⟨rfl, e⟩, r, h⟩
  | tmp o =>
    simp only [esc] at e
    split at e
    · next c hc =>
      cases e
      refine ⟨fzNew H0 ow, k.fzNew, fzNew_keep, ⟨r.len, fun i c e => let ⟨v, e1, h⟩ := r.cell i c e; ⟨v, e1, h.fzNew⟩, r.par, r.unpar⟩, ?_⟩
      refine ObRep.val (ObRep.keep fzNew_keep (fun p hp z => ⟨rfl, ?_⟩) h) hc
      unfold fzNew; rw [if_pos z]
    · cases e
  | bor i =>
    have hv : σ[i]? = some (some v) := h
    simp only [esc, frz] at e
    split at e
    · next c hc =>
      cases e
      obtain ⟨u, hu, hr⟩ := r.cell i _ hc
      rw [hv] at hu; cases hu
      exact ⟨ow, k, fun _ _ e => ⟨rfl, e⟩, r, hr⟩
    · next o hc =>
      split at e
      · next c hz =>
        cases e
        obtain ⟨u, hu, hr⟩ := r.cell i _ hc
        rw [hv] at hu; cases hu
        have rep : Rep W (fzSl i ow) H d v := ObRep.val (ObRep.keep fzSl_keep (fun p hp z => ⟨rfl, by unfold fzSl; rw [if_pos z]⟩) hr) hz
        refine ⟨fzSl i ow, k.trans fzSl_step, fzSl_keep, ⟨by simp [setC, r.len], fun j c e => ?_, fun j u e => ?_, fun j o e => ?_⟩, rep⟩
        · by_cases hj : i = j
          · subst hj
            rw [getC_set_self (getC_lt hc)] at e
            cases e
            exact ⟨v, hv, rep⟩
          · rw [getC_set_ne hj] at e
            obtain ⟨u, e1, q⟩ := r.cell j c e
            exact ⟨u, e1, q.fzSl (Ne.symm hj)⟩
        · obtain ⟨o', e1, e2⟩ := r.par j u e
          have hj : i ≠ j := fun z => by subst z; rw [hc] at e1; cases e1
          exact ⟨o', by rw [getC_set_ne hj]; exact e1, e2⟩
        · by_cases hj : i = j
          · subst hj
            rw [getC_set_self (getC_lt hc)] at e
            cases e
          · rw [getC_set_ne hj] at e
            exact r.unpar j o e
      · cases e
    · cases e
end
end
end Ev

/-! EvC: the operators. -/
namespace Ev
open PySem PySem.Spec PyProof.Rows L2

section
variable {W : Wd} {ow : Ow} {H : Hp} {X : Cx}
mutual
theorem repDp : ∀ {d : D} {v : V} {p : PyData}, Rep W ow H d v → toPD d = some p → Dp W.K H v p
  | .non, _, _, h, e => by cases h; simp [toPD] at e; subst e; exact .non
  | .bl b, _, _, h, e => by cases h; simp [toPD] at e; subst e; exact .bl b
  | .int b, _, _, h, e => by cases h; simp [toPD] at e; subst e; exact .int b
  | .str b, _, _, h, e => by cases h; simp [toPD] at e; subst e; exact .str b
  | .tup xs, _, _, h, e => by
    cases h with
    | tup a l =>
      simp [toPD] at e
      obtain ⟨ps, e1, e2⟩ := e
      subst e2
      exact .tup a.sq (repDps l e1)
  | .lst xs, _, _, h, e => by
    cases h with
    | lst a l =>
      simp [toPD] at e
      obtain ⟨ps, e1, e2⟩ := e
      subst e2
      exact .lst (SqL.of a.1) (repDps l e1)
  | .dic _, _, _, _, e => by simp [toPD] at e
  | .ins _ _, _, _, _, e => by simp [toPD] at e
theorem repDps : ∀ {d : List D} {v : List V} {p : List PyData}, RepL W ow H d v → toPDs d = some p → DpAll W.K H v p
  | [], _, _, h, e => by cases h; simp [toPDs] at e; subst e; exact .nil
  | x :: xs, _, _, h, e => by
    cases h with
    | cons a l =>
      simp only [toPDs] at e
      split at e
      · next p ps e1 e2 => cases e; exact .cons (repDp a e1) (repDps l e2)
      · cases e
end
theorem rdDp {d : D} {v : V} {p : PyData} (h : Rd1 W ow H d v) (e : toPD d = some p) : Dp W.K H v p := by
  cases d with
  | lst xs =>
    obtain ⟨a, vs, rfl, h1, h2⟩ := h
    simp [toPD] at e
    obtain ⟨ps, e1, e2⟩ := e
    subst e2
    exact .lst (SqL.of h1) (repDps h2 e1)
  | dic _ => simp [toPD] at e
  | ins _ _ => simp [toPD] at e
  | non => exact repDp h e
  | bl _ => exact repDp h e
  | int _ => exact repDp h e
  | str _ => exact repDp h e
  | tup _ => exact repDp h e

def bopO : BOp → Operator
  | .add => .Add | .sub => .Sub | .mul => .Mult | .fdiv => .FloorDiv | .mod => .Mod | .pow => .Pow | .shl => .LShift | .shr => .RShift | .band => .BitAnd
def copO : COp → CmpOp
  | .eq => .Eq | .ne => .NotEq | .lt => .Lt | .le => .LtE | .gt => .Gt | .ge => .GtE | .isin => .In | .notin => .NotIn | .is => .Is | .isnot => .IsNot

/-- t * 1 is t -/
theorem tuple_mul1 (l : Addr) (items : Array Value) (n : Nat) (dd : Option Addr) (sl : Array (Option Value)) (u : Tok) :
    Meets (Builtin.«tuple.__mul__» ⟨[.ref l, .int 1 u], []⟩) (fun _ R s => s.heap.get? l = some { cls := .type "tuple", dict := dd, data := .seq items n, slots := sl } ∧ R (.ok (.ret (Value.ref l))) s) :=
  .of_wp fun prog w A R s h => by
    obtain ⟨hp, g, d, tk, os⟩ := s
    obtain ⟨hl, h⟩ := h
    have f1 := AutoSeq1.idx_int
    wp_walk using wpAny_loadPart' hl
    repeat (first
      | (refine wpAny_ite_false (decide_eq_false (by decide)) ?_; wp_walk using wpAny_loadPart' hl)
      | (refine wpAny_ite_true (decide_eq_true (by simp)) ?_; wp_walk using wpAny_loadPart' hl))
    exact ⟨_, rfl, h⟩
def rRepT1 (K : PySem.W.Frag) : R2 := fun x y H Q => ∃ l xs, x = .ref l ∧ y = .int 1 ∧ SqT K H l xs ∧ Q (.ref l) H
theorem op_repT1 : OpR X (binaryOp .Mult) (rRepT1 X.K) := by
  intro pins s σ H x y v u Q I rx ry h
  obtain ⟨l, xs, rfl, rfl, hT, q⟩ := h
  cases rx
  obtain ⟨t, rfl⟩ := ry
  obtain ⟨its, r, ⟨⟨cls, dd, data, sl⟩, ho, hc, n, hd⟩, hs⟩ := I.tuple hT
  simp only at hc hd
  subst hc hd
  exact wpAny_binaryOp_repeat_ref (T := "tuple") (U := "int") (by decide) ⟨_, ho, rfl⟩ (fun s' => typeIs_int s' 1 t) noFill_tuple_mul F.fills_int_mul F.slot_int_rmul repeat_tuple F.slot_int_index.lookup
    (call_meets F.slot_int_rmul (typeIs_int s 1 t) F.entry_int_rmul (F.args_int_rmul_2 _ _) (int_rmul_tuple 1 t l its.toArray n dd sl)
      ⟨ho, rfl, ⟨_, ho, rfl⟩, call_meets F.slot_tuple_mul ⟨_, ho, rfl⟩ F.entry_tuple_mul (F.args_tuple_mul_2 _ _) (tuple_mul1 l its.toArray n dd sl t) ⟨ho, ⟨.ref l, H, I, rfl, q⟩⟩⟩)

/-- t * 0 is a new () -/
theorem tuple_mul0 (l : Addr) (items : Array Value) (n : Nat) (dd : Option Addr) (sl : Array (Option Value)) (u : Tok) (hi : items.isEmpty = false) :
    Meets (Builtin.«tuple.__mul__» ⟨[.ref l, .int 0 u], []⟩) (fun _ R s => s.heap.get? l = some { cls := .type "tuple", dict := dd, data := .seq items n, slots := sl } ∧
      R (.ok (.ret (Value.ref s.heap.objs.size))) { s with heap := s.heap.push { cls := Value.type "tuple", data := Data.seq #[] }, toks := s.toks }) :=
  .of_wp fun prog w A R s h => by
    obtain ⟨hp, g, d, tk, os⟩ := s
    obtain ⟨hl, h⟩ := h
    have f1 := AutoSeq1.idx_int
    have c0 : (decide ((0 : Int) < -(2 ^ 63)) || decide ((0 : Int) ≥ 2 ^ 63)) = false := by decide
    have c1 : (items.isEmpty || (0 : Int) == 1) = false := by rw [hi]; rfl
    have c2 : (decide ((0 : Int) ≤ 0) || items.isEmpty) = true := by simp
    wp_walk using wpAny_loadPart' hl
    repeat (first
      | (refine wpAny_ite_false (decide_eq_false (by rw [c0]; exact Bool.false_ne_true)) ?_; wp_walk using wpAny_loadPart' hl)
      | (refine wpAny_ite_false (decide_eq_false (by rw [c1]; exact Bool.false_ne_true)) ?_; wp_walk using wpAny_loadPart' hl)
      | (refine wpAny_ite_true (decide_eq_true (by rw [c2])) ?_; wp_walk using wpAny_loadPart' hl))
    exact ⟨_, rfl, h⟩
def rRepT0 (K : PySem.W.Frag) : R2 := fun x y H Q => ∃ l xs, x = .ref l ∧ y = .int 0 ∧ SqT K H l xs ∧ xs ≠ [] ∧ ∀ p, H p = none → Q (.ref p) (upd H p (.tup []))
theorem op_repT0 : OpR X (binaryOp .Mult) (rRepT0 X.K) := by
  intro pins s σ H x y v u Q I rx ry h
  obtain ⟨l, xs, rfl, rfl, hT, hne, q⟩ := h
  cases rx
  obtain ⟨t, rfl⟩ := ry
  obtain ⟨its, r, ⟨⟨cls, dd, data, sl⟩, ho, hc, n, hd⟩, hs⟩ := I.tuple hT
  simp only at hc hd
  subst hc hd
  have hle : its.length = xs.length := r.length.symm
  have hi : its.toArray.isEmpty = false := by
    cases its with
    | nil => exact absurd (List.eq_nil_of_length_eq_zero hle.symm) hne
    | cons a b => rfl
  refine wpAny_binaryOp_repeat_ref (T := "tuple") (U := "int") (by decide) ⟨_, ho, rfl⟩ (fun s' => typeIs_int s' 0 t) noFill_tuple_mul F.fills_int_mul F.slot_int_rmul repeat_tuple F.slot_int_index.lookup
    (call_meets F.slot_int_rmul (typeIs_int s 0 t) F.entry_int_rmul (F.args_int_rmul_2 _ _) (int_rmul_tuple 0 t l its.toArray n dd sl)
      ⟨ho, rfl, ⟨_, ho, rfl⟩, call_meets F.slot_tuple_mul ⟨_, ho, rfl⟩ F.entry_tuple_mul (F.args_tuple_mul_2 _ _) (tuple_mul0 l its.toArray n dd sl t hi) ⟨ho, ?_⟩⟩)
  refine ⟨.ref s.heap.objs.size, _, I.laid (t' := s.toks) (o := .tup []) (fun b ob q => Heap.get?_push_of_some _ q) (Nat.le_refl _) ?_, rfl, q _ (I.hok.fresh (Nat.le_refl _))⟩
  exact ⟨by simp, [], .nil, IsTup.new _ _⟩

/-- the results of an operator -/
def Gives (W : Wd) (ow : Ow) (H : Hp) (r : R) (Q : VK) : Prop := ∀ v ow' H', Grow ow H ow' H' → RRep W H ow' H' [] r v → Q v H'
theorem Gives.same {d : D} {v : V} {Q : VK} (g : Gives W ow H (.val d) Q) (h : Rep W ow H d v) : Q v H := g v ow H Grow.refl h
theorem Gives.tup {xs : List D} {vs : List V} {Q : VK} (g : Gives W ow H (.val (.tup xs)) Q) (h : RepL W ow H xs vs) {p : Addr} (hp : H p = none) : Q (.ref p) (upd H p (.tup vs)) := by
  refine g _ (fun q => if q = p then .fz else ow q) _ (Grow.new hp) ?_
  exact .tup (.inl ⟨.inl upd_same, if_pos rfl⟩) (h.keep (Grow.new hp).keep)
theorem Gives.lst {xs : List D} {vs : List V} {Q : VK} (g : Gives W ow H (.tmp (.lst xs)) Q) (h : RepL W ow H xs vs) {p : Addr} (hp : H p = none) : Q (.ref p) (upd H p (.lst vs)) := by
  refine g _ (fun q => if q = p then .tm else ow q) _ (Grow.new hp) ?_
  exact ⟨p, vs, rfl, upd_same, ⟨if_pos rfl, hp⟩, h.keep (Grow.new hp).keep⟩
theorem RepL.rep {xs : List D} {vs : List V} (h : RepL W ow H xs vs) : ∀ n : Nat, RepL W ow H (List.replicate n xs).flatten (List.replicate n vs).flatten
  | 0 => .nil
  | n + 1 => by rw [List.replicate_succ, List.replicate_succ, List.flatten_cons, List.flatten_cons]; exact h.append (RepL.rep h n)
theorem intRd {i : Int} {v : V} (h : Rd1 W ow H (.int i) v) : v = .int i := by cases (show Rep W ow H (.int i) v from h); rfl
theorem smallI_ok {i : Int} (h : smallI i = true) : -(2 ^ 64) < i ∧ i < 2 ^ 64 := by
  unfold smallI at h
  simpa using h
theorem wideI_ok {i : Int} (h : wideI i = true) : i.natAbs < 2 ^ 128 := by
  unfold wideI at h
  simp only [Bool.and_eq_true, decide_eq_true_eq] at h
  omega
theorem natAbs_small {i : Int} (h : smallI i = true) : i.natAbs < 2 ^ 64 := by
  have := smallI_ok h
  omega
theorem lineOk_ok {n : Nat} (h : lineOk n = true) : n ≤ sizeLine := by unfold lineOk at h; simpa using h

theorem binD_ok (hK : X.K = W.K) {op : BOp} {d e : D} {r : R} {x y : V} {Q : VK} (h : binD op d e = some r) (rx : Rd1 W ow H d x) (ry : Rd1 W ow H e y) (g : Gives W ow H r Q) :
    ∃ rr, OpR X (binaryOp (bopO op)) rr ∧ rr x y H Q := by
  unfold binD at h
  split at h
  · cases h; cases intRd rx; cases intRd ry; exact ⟨_, op_add, _, _, rfl, rfl, g.same (.int _)⟩
  · split at h
    · next hz => cases h; cases (show Rep W ow H _ x from rx); cases (show Rep W ow H _ y from ry); exact ⟨_, op_add_str, _, _, rfl, rfl, lineOk_ok hz, g.same (.str _)⟩
    · cases h
  · next xs ys =>
    split at h
    · next hz =>
      cases h
      cases (show Rep W ow H _ x from rx) with
      | @tup a vs _ ha la =>
      cases (show Rep W ow H _ y from ry) with
      | @tup b us _ hb lb =>
      refine ⟨_, op_catA, a, b, vs, us, rfl, rfl, hK ▸ ha.sq, hK ▸ hb.sq, ?_, fun e => ?_, fun _ e => ?_, fun _ _ p hp => ?_⟩
      · rw [← la.length, ← lb.length]; exact lineOk_ok hz
      · subst e; cases la; exact g.same (.tup hb lb)
      · subst e; cases lb; rw [List.append_nil] at g; exact g.same (.tup ha la)
      · exact g.tup (la.append lb) hp
    · cases h
  · split at h
    · next hz =>
      cases h
      obtain ⟨a, vs, rfl, ha, la⟩ := rx
      obtain ⟨b, us, rfl, hb, lb⟩ := ry
      refine ⟨_, op_cat, a, b, vs, us, rfl, rfl, ha, hb, ?_, fun p hp => g.lst (la.append lb) hp⟩
      rw [← la.length, ← lb.length]; exact lineOk_ok hz
    · cases h
  · cases h; cases intRd rx; cases intRd ry; exact ⟨_, op_sub, _, _, rfl, rfl, g.same (.int _)⟩
  · split at h
    · next hz =>
      cases h; cases intRd rx; cases intRd ry
      rcases Bool.or_eq_true_iff.mp hz with z | z
      · refine ⟨_, op_mul, _, _, rfl, rfl, ?_, g.same (.int _)⟩
        rcases Bool.or_eq_true_iff.mp z with z | z
        · exact .inl (smallI_ok z)
        · exact .inr (smallI_ok z)
      · simp only [Bool.and_eq_true] at z
        exact ⟨_, op_mulW, _, _, rfl, rfl, wide_mul (a := 128) (b := 128) (wideI_ok z.1) (wideI_ok z.2) (by decide) (by decide) (by decide), g.same (.int _)⟩
    · cases h
  · next xs k =>
    split at h
    · next hz =>
      cases h
      simp only [Bool.and_eq_true, decide_eq_true_eq, Bool.not_eq_true'] at hz
      obtain ⟨⟨⟨h1, h2⟩, h3⟩, h4⟩ := hz
      cases intRd ry
      cases (show Rep W ow H _ x from rx) with
      | @tup a vs _ ha la =>
      by_cases hk : k = 1
      · subst hk
        refine ⟨_, op_repT1, a, vs, rfl, rfl, hK ▸ ha.sq, ?_⟩
        have e : (List.replicate (1 : Int).toNat xs).flatten = xs := by simp
        rw [e] at g
        exact g.same (.tup ha la)
      · refine ⟨_, op_repT, a, k, vs, rfl, rfl, hK ▸ ha.sq, ?_, by omega, h2, by rw [← la.length]; exact h3, fun p hp => g.tup (la.rep _) hp⟩
        intro e
        subst e
        cases la
        simp at h4
    · split at h
      · next hz =>
        cases h
        simp only [Bool.and_eq_true, decide_eq_true_eq, Bool.not_eq_true'] at hz
        obtain ⟨rfl, h4⟩ := hz
        cases intRd ry
        cases (show Rep W ow H _ x from rx) with
        | @tup a vs _ ha la =>
        refine ⟨_, op_repT0, a, vs, rfl, rfl, hK ▸ ha.sq, ?_, fun p hp => g.tup .nil hp⟩
        intro e
        subst e
        cases la
        simp at h4
      · cases h
  · next xs k =>
    split at h
    · next hz =>
      cases h
      simp only [Bool.and_eq_true, decide_eq_true_eq] at hz
      obtain ⟨⟨h1, h2⟩, h3⟩ := hz
      cases intRd ry
      obtain ⟨a, vs, rfl, ha, la⟩ := rx
      refine ⟨_, op_rep, a, k, vs, rfl, rfl, ha, by omega, by omega, ?_, fun p hp => g.lst (la.rep _) hp⟩
      rw [← la.length]; exact lineOk_ok h3
    · cases h
  · split at h
    · next hz =>
      cases h; cases intRd rx; cases intRd ry
      simp only [Bool.and_eq_true, decide_eq_true_eq] at hz
      exact ⟨_, op_fdivW, _, _, rfl, rfl, wide_div (b := 128) hz.1 (by omega) (by decide) (by decide), g.same (.int _)⟩
    · cases h
  · split at h
    · next hz =>
      cases h; cases intRd rx; cases intRd ry
      simp only [decide_eq_true_eq] at hz
      exact ⟨_, op_mod, _, _, rfl, rfl, hz, g.same (.int _)⟩
    · cases h
  · split at h
    · next hz =>
      cases h; cases intRd rx; cases intRd ry
      simp only [Bool.and_eq_true, decide_eq_true_eq] at hz
      exact ⟨_, op_pow, _, _, rfl, rfl, ⟨hz.1.1, by omega, natAbs_small hz.2⟩, g.same (.int _)⟩
    · cases h
  · split at h
    · next hz =>
      cases h; cases intRd rx; cases intRd ry
      simp only [Bool.and_eq_true, decide_eq_true_eq] at hz
      exact ⟨_, op_shl, _, _, rfl, rfl, ⟨hz.1.1, by omega, natAbs_small hz.2⟩, g.same (.int _)⟩
    · cases h
  · split at h
    · next hz =>
      cases h; cases intRd rx; cases intRd ry
      simp only [decide_eq_true_eq] at hz
      exact ⟨_, op_shr, _, _, rfl, rfl, hz, g.same (.int _)⟩
    · cases h
  · cases h; cases intRd rx; cases intRd ry; exact ⟨_, op_and, _, _, rfl, rfl, g.same (.int _)⟩
  · cases h
end
end Ev

/-! EvC1: the least of data, data sorted. -/
namespace Ev
open PySem PySem.Spec PyProof.Rows L2
theorem toPDs_enc : ∀ {ds : List D} {ps : List PyData}, toPDs ds = some ps → ps = ds.map encP
  | [], ps, h => by simp only [toPDs, Option.some.injEq] at h; subst h; rfl
  | d :: ds, ps, h => by
    simp only [toPDs] at h
    split at h
    · next p qs h1 h2 => cases h; simp only [List.map_cons, toPDs_enc h2]; simp [encP, h1]
    · cases h
theorem getD_enc {ds : List D} {i : Nat} : (ds.map encP).getD i .none = encP (ds.getD i .non) := by
  simp only [List.getD_eq_getElem?_getD, List.getElem?_map]
  cases ds[i]? <;> rfl
theorem isTup_enc {d : D} {p : PyData} (h : isTup d = true) (e : toPD d = some p) : p ≠ .none := by
  cases d <;> simp only [isTup] at h <;> try (cases h)
  simp only [toPD, Option.map_eq_some_iff] at e
  obtain ⟨_, _, rfl⟩ := e
  simp
theorem tups_enc : ∀ {ds : List D} {ps : List PyData}, ds.all isTup = true → toPDs ds = some ps → ∀ p ∈ ps, p ≠ .none
  | [], ps, _, h => by simp only [toPDs, Option.some.injEq] at h; subst h; simp
  | d :: ds, ps, ha, h => by
    simp only [List.all_cons, Bool.and_eq_true] at ha
    simp only [toPDs] at h
    split at h
    · next p qs h1 h2 =>
      cases h
      intro q hq
      rcases List.mem_cons.mp hq with e | hq
      · subst e; exact isTup_enc ha.1 h1
      · exact tups_enc ha.2 h2 q hq
    · cases h
theorem cmpAll_inv {ds : List D} (h : cmpAll ds = true) : ∃ ps, toPDs ds = some ps ∧ PySem.W.AlikeAll ps ∧ PyData.depthAll ps ≤ 60 := by
  unfold cmpAll at h
  simp only [Bool.and_eq_true] at h
  obtain ⟨h0, h⟩ := h
  split at h
  · next ps e =>
    simp only [Bool.and_eq_true, decide_eq_true_eq, List.all_eq_true] at h
    exact ⟨ps, e, ⟨fun x hx y hy => h.2 x hx y hy, tups_enc h0 e⟩, h.1.2⟩
  · cases h
section
variable {W : Wd} {ow : Ow} {H : Hp} {X : Cx}
/-- which of them is the least -/
abbrev leastAt (ds : List D) (k : Nat) : Nat := argBest (fun i j => ltB (ds.getD i .non) (ds.getD j .non)) k
theorem leastAt_ok {x : D} {xs : List D} : (x :: xs)[leastAt (x :: xs) xs.length]? = some (minF x xs) := by
  obtain ⟨h1, h2⟩ := PySem.W.argBest_fold ltB D.non x xs xs.length (Nat.le_refl _)
  rw [List.take_length] at h2
  have hlt : leastAt (x :: xs) xs.length < (x :: xs).length := by
    have : leastAt (x :: xs) xs.length ≤ xs.length := h1
    simp only [List.length_cons]
    omega
  rw [List.getElem?_eq_getElem hlt]
  congr 1
  have h3 : (x :: xs).getD (leastAt (x :: xs) xs.length) .non = minF x xs := h2
  rw [← h3, List.getD_eq_getElem?_getD, List.getElem?_eq_getElem hlt]
  rfl
def rMinT (K : PySem.W.Frag) : List V → Hp → VK → Prop := fun vs H Q => ∃ (a : Addr) (us : List V) (x : D) (xs : List D) (ps : List PyData), vs = [V.ref a] ∧ SqL K H a us ∧ toPDs (x :: xs) = some ps ∧ DpAll K H us ps ∧ PySem.W.AlikeAll ps ∧ PyData.depthAll ps ≤ 60 ∧ ∀ u, us[leastAt (x :: xs) xs.length]? = some u → Q u H
theorem cr_minT (hc : X.calm = true) (hu : X.A.units + 100 < cLine) : CallR X (.builtin "min") (rMinT X.K) := by
  intro pins s σ H vs us Q I r h
  obtain ⟨a, us', x, xs, ps, rfl, hs, hps, hd, ha, hdp, q⟩ := h
  obtain ⟨its, rv, hl, _⟩ := I.list hs
  rw [Vals.ref1 r]
  obtain ⟨as, hr⟩ := Dp.readsAll I _ _ _ hd rv
  have hr' : ReadsAll s.heap its.toArray.toList ps as := by simpa using hr
  have hps' := toPDs_enc hps
  have hlen : its.toArray.size = xs.length + 1 := by
    rw [PySem.W.readsAll_len hr', hps', List.length_map, List.length_cons]
  refine call_min_walkH (PySem.W.iter_listW (A := X.A.in1) (I.ok.hd hc) hl.isList fun s₂ e W st hfp hw hk => ?_)
  refine ⟨_, _, _, _, _, _, _, s.heap, _, rfl, W, st, hfp, by omega, hw, hk, PySem.W.cmpIn_lt (A := X.A.in1) hr' ha (by show X.A.units + 1 + _ < _; omega), fun v s' hP m => ?_⟩
  obtain ⟨h', tk, rfl, hk'⟩ := PySem.W.moved_old e rfl m
  have hbt : (fun i j => PySem.W.dataLt (ps.getD i PyData.none) (ps.getD j PyData.none)) = fun i j => ltB ((x :: xs).getD i .non) ((x :: xs).getD j .non) := by
    funext i j
    rw [hps', getD_enc, getD_enc]
    rfl
  rw [hbt, hlen, Nat.add_sub_cancel] at hP
  have hP2 : its[leastAt (x :: xs) xs.length]? = some v := by rw [← List.getElem?_toArray]; exact hP
  obtain ⟨u, hu1⟩ : ∃ u, us'[leastAt (x :: xs) xs.length]? = some u := by
    have := (List.getElem?_eq_some_iff.mp hP2).1
    rw [← rv.length] at this
    exact ⟨_, List.getElem?_eq_getElem this⟩
  obtain ⟨w, hw1, rw1⟩ := rv.get hu1
  rw [hP2] at hw1
  cases hw1
  exact ⟨u, H, I.kept hk', rw1, q u hu1⟩
/-- min(xs, default=None) -/
def rMinN (K : PySem.W.Frag) : List V → List V → Hp → VK → Prop := fun vs zs H Q => zs = [.non] ∧ ∃ (a : Addr) (us : List V), vs = [V.ref a] ∧ SqL K H a us ∧ ((us = [] ∧ Q .non H) ∨ ∃ (x : D) (xs : List D) (ps : List PyData), toPDs (x :: xs) = some ps ∧ DpAll K H us ps ∧ PySem.W.AlikeAll ps ∧ PyData.depthAll ps ≤ 60 ∧ ∀ u, us[leastAt (x :: xs) xs.length]? = some u → Q u H)
theorem cr_minN (hc : X.calm = true) (hu : X.A.units + 100 < cLine) : CallRK X (.builtin "min") [Str.ofString "default"] (rMinN X.K) := by
  intro pins s σ H vs zs us ws Q I r rz h
  obtain ⟨rfl, a, us', rfl, hs, h⟩ := h
  obtain ⟨its, rv, hl, _⟩ := I.list hs
  rw [Vals.ref1 r]
  obtain ⟨w1, rfl, e1⟩ : ∃ w, ws = [w] ∧ RelV V.non w := by
    cases rz with
    | cons a l => cases l; exact ⟨_, rfl, a⟩
  obtain rfl : w1 = Value.none := e1
  show wpAny _ _ (call (.builtin "min") [.ref a] [(Str.ofString "default", .none)]) _ _ _
  rcases h with ⟨rfl, q⟩ | ⟨x, xs, ps, hps, hd, ha, hdp, q⟩
  · cases rv
    refine call_min_walkD (PySem.W.iter_listW (A := X.A.in1) (I.ok.hd hc) hl.isList fun s₂ e W st hfp hw hk => ?_)
    refine ⟨_, _, _, _, _, _, _, s.heap, fun _ _ => false, rfl, W, st, hfp, hw, hk, fun _ s' m => ?_, fun hp => absurd hp (by simp)⟩
    obtain ⟨h', tk, rfl, hk'⟩ := PySem.W.moved_old e rfl m
    exact ⟨.non, H, I.kept hk', rfl, q⟩
  · obtain ⟨as, hr⟩ := Dp.readsAll I _ _ _ hd rv
    have hr' : ReadsAll s.heap its.toArray.toList ps as := by simpa using hr
    have hps' := toPDs_enc hps
    have hlen : its.toArray.size = xs.length + 1 := by
      rw [PySem.W.readsAll_len hr', hps', List.length_map, List.length_cons]
    refine call_min_walkD (PySem.W.iter_listW (A := X.A.in1) (I.ok.hd hc) hl.isList fun s₂ e W st hfp hw hk => ?_)
    refine ⟨_, _, _, _, _, _, _, s.heap, (fun i j => ltB ((x :: xs).getD i .non) ((x :: xs).getD j .non)), rfl, W, st, hfp, hw, hk, fun hz => absurd hz (by rw [hlen]; omega), fun _ => ?_⟩
    have hbt : (fun i j => PySem.W.dataLt (ps.getD i PyData.none) (ps.getD j PyData.none)) = fun i j => ltB ((x :: xs).getD i .non) ((x :: xs).getD j .non) := by
      funext i j
      rw [hps', getD_enc, getD_enc]
      rfl
    refine ⟨hbt ▸ PySem.W.cmpIn_lt (A := X.A.in1) hr' ha (by show X.A.units + 1 + _ < _; omega), fun v s' hP m => ?_⟩
    obtain ⟨h', tk, rfl, hk'⟩ := PySem.W.moved_old e rfl m
    rw [hlen, Nat.add_sub_cancel] at hP
    have hP2 : its[leastAt (x :: xs) xs.length]? = some v := by rw [← List.getElem?_toArray]; exact hP
    obtain ⟨u, hu1⟩ : ∃ u, us'[leastAt (x :: xs) xs.length]? = some u := by
      have := (List.getElem?_eq_some_iff.mp hP2).1
      rw [← rv.length] at this
      exact ⟨_, List.getElem?_eq_getElem this⟩
    obtain ⟨w, hw1, rw1⟩ := rv.get hu1
    rw [hP2] at hw1
    cases hw1
    exact ⟨u, H, I.kept hk', rw1, q u hu1⟩
/-- sorted(xs) of data -/
def rSrt (K : PySem.W.Frag) : List V → Hp → VK → Prop := fun vs H Q => ∃ (a : Addr) (bs : List (D × V)) (ps : List PyData), vs = [V.ref a] ∧ SqL K H a (bs.map (·.2)) ∧ toPDs (bs.map (·.1)) = some ps ∧ DpAll K H (bs.map (·.2)) ps ∧ PySem.W.AllAlike ps ∧ PySem.W.Sortable ps ∧ PyData.depthAll ps ≤ 60 ∧ bs.length ≤ sizeLine ∧
  ∀ p, H p = none → Q (.ref p) (upd H p (.lst ((bs.mergeSort (PySem.W.dataLe false fun b => encP b.1)).map (·.2))))
theorem depth_mem : ∀ {ps : List PyData} {p : PyData}, p ∈ ps → p.depth ≤ PyData.depthAll ps
  | q :: ps, p, h => by
    simp only [PyData.depthAll]
    rcases List.mem_cons.mp h with e | e
    · subst e; omega
    · have := depth_mem e; omega
theorem each_rel : ∀ {bs : List (D × V)} {its : List Value}, Vals (bs.map (·.2)) its → PySem.W.EachIs (fun (v : Value) (b : D × V) => RelV b.2 v) its bs
  | [], _, h => by cases h; exact .nil
  | b :: bs, _, h => by
    cases h with
    | cons a l => exact .cons a (each_rel l)
theorem each_vals : ∀ {bs : List (D × V)} {its : List Value}, PySem.W.EachIs (fun (v : Value) (b : D × V) => RelV b.2 v) its bs → Vals (bs.map (·.2)) its
  | _, _, .nil => .nil
  | _, _, .cons a l => .cons a (each_vals l)
theorem each_reads {s : Shared} : ∀ {bs : List (D × V)} {its : List Value} {as : List Addr}, ReadsAll s.heap its (bs.map fun b => encP b.1) as → PySem.W.EachIs (fun (v : Value) (b : D × V) => ∃ as, Reads s.heap v (encP b.1) as) its bs
  | [], _, _, h => by cases h; exact .nil
  | b :: bs, _, _, h => by
    cases h with
    | cons a l => exact .cons ⟨_, a⟩ (each_reads l)
theorem cr_srt (hu : X.A.units + 100 < cLine) : CallR X (.builtin "sorted") (rSrt X.K) := by
  intro pins s σ H vs us Q I r h
  obtain ⟨a, bs, ps, rfl, hs, hps, hd, ha, hk, hdp, hL, q⟩ := h
  obtain ⟨its, rv, hl, _⟩ := I.list hs
  rw [Vals.ref1 r]
  obtain ⟨as, hr⟩ := Dp.readsAll I _ _ _ hd rv
  have hps' : ps = bs.map fun b => encP b.1 := by rw [toPDs_enc hps, List.map_map]; rfl
  subst hps'
  refine PySem.W.sorted_data hl.isList (each_rel rv) (each_reads hr) ha hk hL (fun b hb => ?_) fun out ho eo => ?_
  · have := depth_mem (List.mem_map.mpr ⟨b, hb, rfl⟩ : encP b.1 ∈ bs.map fun b => encP b.1)
    omega
  · obtain ⟨ep, he'⟩ := PyProof.Rows.sortedAll_at s.heap its out.toArray
    have hlen : ((bs.mergeSort (PySem.W.dataLe false fun b => encP b.1)).map (·.2)).length ≤ sizeLine := by
      rw [List.length_map, List.length_mergeSort]; exact hL
    exact ⟨.ref _, upd H (s.heap.objs.size + 1) (.lst _), I.laid (t' := s.toks) (fun _ _ => PyProof.Rows.sortedAll_old) (Nat.le_succ _) ⟨hlen, out, ep, each_vals eo, he'⟩, rfl, q _ (I.hok.fresh (Nat.le_succ _))⟩
end
section
variable {prog : Program} {w : World} {A : Around} {E : Value → Shared → Prop} {s : Shared}
/-- min(a, b), the two compared where they stand -/
theorem min_pair {va vb : Value} {Q : Value → Shared → Prop}
    (h : wpAny (model prog w) A.in1 (pyIter (.ref s.heap.objs.size)) (fun it s1 => ∃ I fp wr G n P St H bt, it = .ref I ∧ WalksS prog w A.in1 I fp wr G n P St ∧ St 0 s1 ∧ (∀ b ∈ fp, b < s1.heap.objs.size) ∧ 0 < n ∧
      (∀ b o, H.get? b = some o → b ∉ wr) ∧ (∀ b o, H.get? b = some o → s1.heap.get? b = some o) ∧ CmpIn prog w A.in1 .Lt H P bt ∧ ∀ v s', P (argBest bt (n - 1)) v → Moved wr G s1 s' → Q v s') E
      { s with heap := s.heap.push { cls := .type "tuple", data := .seq #[va, vb] } }) : wpAny (model prog w) A (call (.builtin "min") [va, vb]) Q E s := by
  have nm : (toString "min" ++ toString ".loop" : String) = "min.loop" := by decide
  refine call_function_tree (F.kind_min) (F.plain_min) (F.entry_min) (F.args_min2 va vb) ?_
  show wpAny _ A.in1 ((Builtin.Builtins.bindParams "min" ["key", "default"] 0 ⟨[], []⟩) >>= _) _ _ s
  refine wpAny_bind (wpAny_of_eq (a := [none, none]) rfl ?_)
  show wpAny _ A.in1 (newTuple [va, vb] >>= _) _ _ s
  refine wpAny_bind (wpAny_newObj_type (wpAny_bind (wpAny_mono h (fun it s1 h1 => ?_) fun _ _ e => e)))
  obtain ⟨I, fp, wr, G, n, P, St, H, bt, rfl, Wk, st, lt, pos, nw, keep, cmp, q⟩ := h1
  refine wpAny_bind (wpAny_newObj_type ?_)
  rw [nm]
  have notin : s1.heap.objs.size ∉ fp := fun hm => absurd (lt _ hm) (Nat.lt_irrefl _)
  refine wpAny_pure ⟨plainId_quiet (F.plain_min_loop) _, codeAny_min_loop_firstH Wk H nw bt cmp (s1.heap.objs.size) notin (fresh_in keep) _ pos (fun b o e => Heap.get?_push_of_some _ (keep b o e)) (Wk.frame 0 s1 _ s1.toks st (Nat.le_refl _) fun b _ o e => Heap.get?_push_of_some _ e) (Heap.get?_push_size _ rfl) fun v s' hP hm => ?_⟩
  exact q v s' hP (Moved.drop_new (tk := s1.toks) hm (Nat.le_refl _))
end
section
variable {W : Wd} {ow : Ow} {H : Hp} {X : Cx}
def rMin2T (K : PySem.W.Frag) : List V → Hp → VK → Prop := fun vs H Q => ∃ (x y : V) (d e : D) (ps : List PyData), vs = [x, y] ∧ toPDs [d, e] = some ps ∧ DpAll K H [x, y] ps ∧ PySem.W.AlikeAll ps ∧ PyData.depthAll ps ≤ 60 ∧ Q (if ltB e d then y else x) H
theorem cr_min2T (hc : X.calm = true) (hu : X.A.units + 100 < cLine) : CallR X (.builtin "min") (rMin2T X.K) := by
  intro pins s σ H vs us Q I r h
  obtain ⟨x, y, d, e, ps, rfl, hps, hd, ha, hdp, q⟩ := h
  obtain ⟨as, hr⟩ := Dp.readsAll I _ _ _ hd r
  cases r with
  | cons ru l => cases l with
    | cons rw l =>
      cases l
      next u w =>
      have hT : (s.heap.push { cls := .type "tuple", data := .seq #[u, w] }).IsTuple s.heap.objs.size #[u, w] := ⟨_, Heap.get?_push_size _ rfl, rfl, 0, rfl⟩
      have hk0 : ∀ b o, s.heap.get? b = some o → (s.heap.push { cls := .type "tuple", data := .seq #[u, w] }).get? b = some o := fun b o e => Heap.get?_push_of_some _ e
      have hr' : ReadsAll (s.heap.push { cls := .type "tuple", data := .seq #[u, w] }) (#[u, w] : Array Value).toList ps as := PyProof.Rows.ReadsAll.keeps hk0 hr
      have hps' := toPDs_enc hps
      refine min_pair (PySem.W.iter_tupleW (A := X.A.in1) (s := { s with heap := s.heap.push { cls := .type "tuple", data := .seq #[u, w] } }) (I.ok.hd hc) hT fun s₂ e2 Wk st hfp hw hk => ?_)
      refine ⟨_, _, _, _, _, _, _, s.heap.push { cls := .type "tuple", data := .seq #[u, w] }, _, rfl, Wk, st, hfp, by simp, hw, hk, PySem.W.cmpIn_lt (s := { s with heap := s.heap.push { cls := .type "tuple", data := .seq #[u, w] } }) (A := X.A.in1) hr' ha (by show X.A.units + 1 + _ < _; omega), fun v s' hP m => ?_⟩
      obtain ⟨h', tk, rfl, hk'⟩ := PySem.W.moved_old e2 rfl m
      have hk2 : ∀ b o, s.heap.get? b = some o → h'.get? b = some o := fun b o e => hk' b o (hk0 b o e)
      have hbt : (fun i j => PySem.W.dataLt (ps.getD i PyData.none) (ps.getD j PyData.none)) = fun i j => ltB ([d, e].getD i .non) ([d, e].getD j .non) := by
        funext i j
        rw [hps', getD_enc, getD_enc]
        rfl
      rw [hbt] at hP
      have hP2 : (#[u, w] : Array Value)[argBest (fun i j => ltB ([d, e].getD i .non) ([d, e].getD j .non)) 1]? = some v := hP
      cases hlt : ltB e d with
      | true =>
        rw [hlt] at q
        have e1 : argBest (fun i j => ltB ([d, e].getD i .non) ([d, e].getD j .non)) 1 = 1 := by simp [argBest, hlt]
        rw [e1] at hP2
        simp at hP2
        subst hP2
        exact ⟨y, H, I.kept hk2, rw, q⟩
      | false =>
        rw [hlt] at q
        have e1 : argBest (fun i j => ltB ([d, e].getD i .non) ([d, e].getD j .non)) 1 = 0 := by simp [argBest, hlt]
        rw [e1] at hP2
        simp at hP2
        subst hP2
        exact ⟨x, H, I.kept hk2, ru, q⟩
end
end Ev

/-! EvC2: comparisons, built-ins, subscripts, truth. -/
namespace Ev
open PySem PySem.Spec PyProof.Rows L2

section
variable {W : Wd} {ow : Ow} {H : Hp} {X : Cx}
def rInT (K : PySem.W.Frag) (neg : Bool) : R2 := fun x y H Q => ∃ d ds, Dp K H x d ∧ Dp K H y (.tuple ds) ∧ SeqAt.shaped d = true ∧ PyData.canLayAll0 ds = true ∧ Q (.bl (if neg then !ds.any fun z => PyData.eqv z d else ds.any fun z => PyData.eqv z d)) H
theorem op_inT (hu : X.A.units + 65 < cLine) : OpR X (compareOp .In) (rInT X.K false) := by
  intro pins s σ H x y v u Q I rx ry h
  obtain ⟨d, ds, hd, he, sd, se, q⟩ := h
  obtain ⟨as, r1⟩ := Dp.reads I d x v hd rx
  obtain ⟨bs, r2⟩ := Dp.reads I (.tuple ds) y u he ry
  exact SeqAt.in_tuple_reads r2 r1 se (SeqAt.canLay_of_shaped sd) (room_in_shaped sd hu) ⟨.bl _, H, I, rfl, q⟩
theorem op_notInT (hu : X.A.units + 65 < cLine) : OpR X (compareOp .NotIn) (rInT X.K true) := by
  intro pins s σ H x y v u Q I rx ry h
  obtain ⟨d, ds, hd, he, sd, se, q⟩ := h
  obtain ⟨as, r1⟩ := Dp.reads I d x v hd rx
  obtain ⟨bs, r2⟩ := Dp.reads I (.tuple ds) y u he ry
  exact SeqAt.notIn_tuple_reads r2 r1 se (SeqAt.canLay_of_shaped sd) (room_in_shaped sd hu) ⟨.bl _, H, I, rfl, q⟩
theorem isNon_ok {d : D} {v : V} (h : Rd1 W ow H d v) : decide (v = .non) = isNon d := by
  cases d with
  | lst xs => obtain ⟨a, vs, rfl, _⟩ := h; simp [isNon]
  | dic kvs => obtain ⟨a, o, es, rfl, _⟩ := h; simp [isNon]
  | ins c fs => obtain ⟨a, o, es, rfl, _⟩ := h; simp [isNon]
  | non => cases (show Rep W ow H _ v from h); simp [isNon]
  | bl _ => cases (show Rep W ow H _ v from h); simp [isNon]
  | int _ => cases (show Rep W ow H _ v from h); simp [isNon]
  | str _ => cases (show Rep W ow H _ v from h); simp [isNon]
  | tup _ => cases (show Rep W ow H _ v from h); simp [isNon]
theorem pyIn_lst {a : D} {xs : List D} {b : Bool} (h : pyIn a xs = some b) : ∃ p qs, toPD a = some p ∧ toPDs xs = some qs ∧ SeqAt.shaped p = true ∧ SeqAt.shaped (.list qs) = true ∧ b = qs.any fun z => PyData.eqv z p := by
  unfold pyIn at h
  split at h
  · next p qs e1 e2 =>
    split at h
    · next hs =>
      cases h
      simp only [Bool.and_eq_true] at hs
      exact ⟨p, qs, e1, e2, hs.1, hs.2, rfl⟩
    · cases h
  · cases h
theorem rd_list {xs : List D} {v : V} {qs : List PyData} (h : Rd1 W ow H (.lst xs) v) (e : toPDs xs = some qs) : Dp W.K H v (.list qs) := rdDp h (by simp [toPD, e])
theorem rd_tuple {xs : List D} {v : V} {qs : List PyData} (h : Rd1 W ow H (.tup xs) v) (e : toPDs xs = some qs) : Dp W.K H v (.tuple qs) := rdDp h (by simp [toPD, e])
theorem canLay_list {qs : List PyData} (h : SeqAt.shaped (.list qs) = true) : PyData.canLayAll0 qs = true := SeqAt.canLay_of_shaped h

def rLtD (K : PySem.W.Frag) (neg : Bool) : R2 := fun x y H Q => ∃ d e, Dp K H x d ∧ Dp K H y e ∧ SeqAt.shaped d = true ∧ SeqAt.shaped e = true ∧ PySem.W.alike d e = true ∧ d ≠ .none ∧ Q (.bl (if neg then !PySem.W.dataLt d e else PySem.W.dataLt d e)) H
theorem shaped_depth {p : PyData} (h : SeqAt.shaped p = true) : p.depth ≤ 64 := by
  unfold SeqAt.shaped at h
  simp only [Bool.and_eq_true, decide_eq_true_eq] at h
  exact h.2
theorem op_ltDt (hu : X.A.units + 65 < cLine) : OpR X (compareOp .Lt) (rLtD X.K false) := by
  intro pins s σ H x y v u Q I rx ry h
  obtain ⟨d, e, hd, he, sd, se, ha, hn, q⟩ := h
  obtain ⟨as, r1⟩ := Dp.reads I d x v hd rx
  obtain ⟨bs, r2⟩ := Dp.reads I e y u he ry
  have := shaped_depth sd
  have := shaped_depth se
  exact PySem.W.lt_data r1 r2 ha hn (by omega) ⟨.bl _, H, I, rfl, q⟩
theorem op_geDt (hu : X.A.units + 65 < cLine) : OpR X (compareOp .GtE) (rLtD X.K true) := by
  intro pins s σ H x y v u Q I rx ry h
  obtain ⟨d, e, hd, he, sd, se, ha, hn, q⟩ := h
  obtain ⟨as, r1⟩ := Dp.reads I d x v hd rx
  obtain ⟨bs, r2⟩ := Dp.reads I e y u he ry
  have := shaped_depth sd
  have := shaped_depth se
  exact PySem.W.ge_data r1 r2 ha hn (by omega) ⟨.bl _, H, I, rfl, q⟩
theorem pyLt_inv {a b : D} {c : Bool} (h : pyLt a b = some c) : ∃ p q, toPD a = some p ∧ toPD b = some q ∧ SeqAt.shaped p = true ∧ SeqAt.shaped q = true ∧ PySem.W.alike p q = true ∧ c = PySem.W.dataLt p q := by
  unfold pyLt at h
  split at h
  · next p q e1 e2 =>
    split at h
    · next hs =>
      cases h
      simp only [Bool.and_eq_true] at hs
      exact ⟨p, q, e1, e2, hs.1.1, hs.1.2, hs.2, rfl⟩
    · cases h
  · cases h
theorem toPD_tup {xs : List D} {p : PyData} (h : toPD (.tup xs) = some p) : p ≠ .none := by
  simp only [toPD, Option.map_eq_some_iff] at h
  obtain ⟨_, _, rfl⟩ := h
  simp

/-- a dict's key: by the dict's rules -/
def DicIn0 (X : Cx) (W : Wd) : Prop := ∀ (ow : Ow) (H : Hp) (ks : List D) (kvs : List (NestedKey × D)) (k : List NestedKey) (x y : V) (Q : VK), kOf ks = some k → Rd1 W ow H (.tup ks) x → Rd1 W ow H (.dic kvs) y →
  (Q (.bl (hasKey kvs (.tup k))) H → ∃ rr, OpR X (compareOp .In) rr ∧ rr x y H Q) ∧ (Q (.bl (!hasKey kvs (.tup k))) H → ∃ rr, OpR X (compareOp .NotIn) rr ∧ rr x y H Q)

/-- d == {} -/
def DicEq0 (X : Cx) (W : Wd) : Prop := ∀ (ow : Ow) (H : Hp) (kvs : List (NestedKey × D)) (x y : V) (Q : VK), Rd1 W ow H (.dic kvs) x → Rd1 W ow H (.dic []) y → Q (.bl kvs.isEmpty) H → ∃ rr, OpR X (compareOp .Eq) rr ∧ rr x y H Q
def DicIn (X : Cx) (W : Wd) : Prop := DicIn0 X W ∧ DicEq0 X W
theorem cmpD_ok (hK : X.K = W.K) (hu : X.A.units + 65 < cLine) (hd : DicIn X W) {op : COp} {d e : D} {b : Bool} {x y : V} {Q : VK} (h : cmpD op d e = some b) (rx : Rd1 W ow H d x) (ry : Rd1 W ow H e y) (q : Q (.bl b) H) :
    ∃ rr, OpR X (compareOp (copO op)) rr ∧ rr x y H Q := by
  have eqs : ∀ {d e : D} {b : Bool}, pyEq d e = some b → Rd1 W ow H d x → Rd1 W ow H e y → ∃ p p', Dp X.K H x p ∧ Dp X.K H y p' ∧ SeqAt.shaped p = true ∧ SeqAt.shaped p' = true ∧ PyData.eqv p p' = b := by
    intro d e b h rx ry
    unfold pyEq at h
    split at h
    · next p p' e1 e2 =>
      split at h
      · next hs =>
        cases h
        simp only [Bool.and_eq_true] at hs
        exact ⟨p, p', hK ▸ rdDp rx e1, hK ▸ rdDp ry e2, hs.1, hs.2, rfl⟩
      · cases h
    · cases h
  unfold cmpD at h
  split at h
  · cases h; exact hd.2 ow H _ x y Q rx ry q
  · obtain ⟨p, p', h1, h2, h3, h4, rfl⟩ := eqs h rx ry
    exact ⟨_, op_eqD (by omega), p, p', h1, h2, h3, h4, q⟩
  · simp only [Option.map_eq_some_iff] at h
    obtain ⟨c, h, rfl⟩ := h
    obtain ⟨p, p', h1, h2, h3, h4, rfl⟩ := eqs h rx ry
    exact ⟨_, op_neD (by omega), p, p', h1, h2, h3, h4, q⟩
  · cases h; cases intRd rx; cases intRd ry; exact ⟨_, op_lt, _, _, rfl, rfl, q⟩
  · cases h; cases intRd rx; cases intRd ry; exact ⟨_, op_le, _, _, rfl, rfl, q⟩
  · cases h; cases intRd rx; cases intRd ry; exact ⟨_, op_gt, _, _, rfl, rfl, q⟩
  · cases h; cases intRd rx; cases intRd ry; exact ⟨_, op_ge, _, _, rfl, rfl, q⟩
  · obtain ⟨p, p', e1, e2, s1, s2, s3, rfl⟩ := pyLt_inv h
    exact ⟨_, op_ltDt hu, p, p', hK ▸ rdDp rx e1, hK ▸ rdDp ry e2, s1, s2, s3, toPD_tup e1, q⟩
  · simp only [Option.map_eq_some_iff] at h
    obtain ⟨c, h, rfl⟩ := h
    obtain ⟨p, p', e1, e2, s1, s2, s3, rfl⟩ := pyLt_inv h
    exact ⟨_, op_geDt hu, p, p', hK ▸ rdDp rx e1, hK ▸ rdDp ry e2, s1, s2, s3, toPD_tup e1, q⟩
  · obtain ⟨p, qs, e1, e2, s1, s2, rfl⟩ := pyIn_lst h
    exact ⟨_, op_inD hu, p, qs, hK ▸ rdDp rx e1, hK ▸ rd_list ry e2, s1, s2, q⟩
  · obtain ⟨p, qs, e1, e2, s1, s2, rfl⟩ := pyIn_lst h
    exact ⟨_, op_inT hu, p, qs, hK ▸ rdDp rx e1, hK ▸ rd_tuple ry e2, s1, canLay_list s2, q⟩
  · simp only [Option.map_eq_some_iff] at h
    obtain ⟨c, h, rfl⟩ := h
    obtain ⟨p, qs, e1, e2, s1, s2, rfl⟩ := pyIn_lst h
    exact ⟨_, op_notInD hu, p, qs, hK ▸ rdDp rx e1, hK ▸ rd_list ry e2, s1, s2, q⟩
  · simp only [Option.map_eq_some_iff] at h
    obtain ⟨c, h, rfl⟩ := h
    obtain ⟨p, qs, e1, e2, s1, s2, rfl⟩ := pyIn_lst h
    exact ⟨_, op_notInT hu, p, qs, hK ▸ rdDp rx e1, hK ▸ rd_tuple ry e2, s1, canLay_list s2, q⟩
  · simp only [Option.map_eq_some_iff] at h
    obtain ⟨k, h, rfl⟩ := h
    exact (hd.1 ow H _ _ k x y Q h rx ry).1 q
  · simp only [Option.map_eq_some_iff] at h
    obtain ⟨k, h, rfl⟩ := h
    exact (hd.1 ow H _ _ k x y Q h rx ry).2 q
  · cases h
    cases (show Rep W ow H _ y from ry)
    exact ⟨_, op_isN, rfl, by rw [isNon_ok rx]; exact q⟩
  · cases h
    cases (show Rep W ow H _ y from ry)
    exact ⟨_, op_notN, rfl, by rw [isNon_ok rx]; exact q⟩
  · cases h

theorem negD_ok {d : D} {r : R} {x : V} {Q : VK} (h : negD d = some r) (rx : Rd1 W ow H d x) (g : Gives W ow H r Q) : ∃ rr, UnR X (unaryOp .USub) rr ∧ rr x H Q := by
  unfold negD at h
  split at h
  · cases h; cases intRd rx; exact ⟨_, un_neg, _, rfl, g.same (.int _)⟩
  · cases h

def biV : BI → Value
  | .abs => .builtin "abs" | .int => .type "int" | .len => .builtin "len" | .list => .type "list" | .tuple => .type "tuple" | .max => .builtin "max" | .min => .builtin "min" | .sum => .builtin "sum" | .sorted => .builtin "sorted" | .str => .type "str"
def biN : BI → Str
  | .abs => "abs" | .int => "int" | .len => "len" | .list => "list" | .tuple => "tuple" | .max => "max" | .min => "min" | .sum => "sum" | .sorted => "sorted" | .str => "str"
inductive RdL (W : Wd) (ow : Ow) (H : Hp) : List D → List V → Prop
  | nil : RdL W ow H [] []
  | cons {d : D} {v : V} {ds : List D} {vs : List V} : Rd1 W ow H d v → RdL W ow H ds vs → RdL W ow H (d :: ds) (v :: vs)
theorem maxL_spec : ∀ (ns : List Int) (m : Int), maxL m ns ∈ m :: ns ∧ ∀ y ∈ m :: ns, y ≤ maxL m ns
  | [], m => by simp [maxL]
  | x :: r, m => by
    obtain ⟨h1, h2⟩ := maxL_spec r (if m < x then x else m)
    unfold maxL
    refine ⟨?_, fun y hy => ?_⟩
    · rcases List.mem_cons.mp h1 with e | e
      · rw [e]; split <;> simp
      · simp [e]
    · have hm := h2 _ List.mem_cons_self
      have k1 : m ≤ (if m < x then x else m) := by split <;> omega
      have k2 : x ≤ (if m < x then x else m) := by split <;> omega
      rcases List.mem_cons.mp hy with e | e
      · subst e; exact Int.le_trans k1 hm
      · rcases List.mem_cons.mp e with e | e
        · subst e; exact Int.le_trans k2 hm
        · exact h2 y (List.mem_cons_of_mem _ e)
theorem minL_spec : ∀ (ns : List Int) (m : Int), minL m ns ∈ m :: ns ∧ ∀ y ∈ m :: ns, minL m ns ≤ y
  | [], m => by simp [minL]
  | x :: r, m => by
    obtain ⟨h1, h2⟩ := minL_spec r (if x < m then x else m)
    unfold minL
    refine ⟨?_, fun y hy => ?_⟩
    · rcases List.mem_cons.mp h1 with e | e
      · rw [e]; split <;> simp
      · simp [e]
    · have hm := h2 _ List.mem_cons_self
      have k1 : (if x < m then x else m) ≤ m := by split <;> omega
      have k2 : (if x < m then x else m) ≤ x := by split <;> omega
      rcases List.mem_cons.mp hy with e | e
      · subst e; exact Int.le_trans hm k1
      · rcases List.mem_cons.mp e with e | e
        · subst e; exact Int.le_trans hm k2
        · exact h2 y (List.mem_cons_of_mem _ e)
theorem RdL.one {d : D} {vs : List V} (h : RdL W ow H [d] vs) : ∃ v, vs = [v] ∧ Rd1 W ow H d v := by
  cases h with
  | cons a l => cases l; exact ⟨_, rfl, a⟩
theorem RdL.two {d e : D} {vs : List V} (h : RdL W ow H [d, e] vs) : ∃ v u, vs = [v, u] ∧ Rd1 W ow H d v ∧ Rd1 W ow H e u := by
  cases h with
  | cons a l => cases l with
    | cons b l => cases l; exact ⟨_, _, rfl, a, b⟩
/-- list(d) -/
def DicLst0 (X : Cx) (W : Wd) : Prop := ∀ (ow : Ow) (H : Hp) (kvs : List (NestedKey × D)) (x : V) (Q : VK), Rd1 W ow H (.dic kvs) x → (∀ p us, H p = none → RepL W ow H (kvs.map fun p => ofKey p.1) us → Q (.ref p) (upd H p (.lst us))) → ∃ rr, CallR X (.type "list") rr ∧ rr [x] H Q
/-- len(d) -/
def DicLen (X : Cx) (W : Wd) : Prop := ∀ (ow : Ow) (H : Hp) (kvs : List (NestedKey × D)) (x : V) (Q : VK), Rd1 W ow H (.dic kvs) x → Q (.int ((kvs.length : Nat) : Int)) H → ∃ rr, CallR X (.builtin "len") rr ∧ rr [x] H Q
def DicLst (X : Cx) (W : Wd) : Prop := DicLst0 X W ∧ DicLen X W
theorem minLD_inv {ds : List D} {d : D} (h : minLD ds = some d) : ∃ x xs, ds = x :: xs ∧ cmpAll (x :: xs) = true ∧ d = minF x xs := by
  cases ds with
  | nil => cases h
  | cons x xs =>
    simp only [minLD] at h
    by_cases hz : cmpAll (x :: xs) = true
    · rw [if_pos hz] at h
      injection h with h
      exact ⟨x, xs, rfl, hz, h.symm⟩
    · rw [if_neg hz] at h
      cases h
theorem repL_pairs : ∀ {ds : List D} {us : List V}, RepL W ow H ds us → ∃ bs : List (D × V), bs.map (·.1) = ds ∧ bs.map (·.2) = us ∧ ∀ b ∈ bs, Rep W ow H b.1 b.2
  | [], [], .nil => ⟨[], rfl, rfl, by simp⟩
  | d :: ds, u :: us, .cons a l => by
    obtain ⟨bs, h1, h2, h3⟩ := repL_pairs l
    refine ⟨(d, u) :: bs, by simp [h1], by simp [h2], fun b hb => ?_⟩
    rcases List.mem_cons.mp hb with e | hb
    · subst e; exact a
    · exact h3 b hb
theorem pairs_repL : ∀ {bs : List (D × V)}, (∀ b ∈ bs, Rep W ow H b.1 b.2) → RepL W ow H (bs.map (·.1)) (bs.map (·.2))
  | [], _ => .nil
  | b :: bs, h => .cons (h b List.mem_cons_self) (pairs_repL fun c hc => h c (List.mem_cons_of_mem _ hc))
theorem neTup_enc : ∀ {ds : List D} {ps : List PyData}, ds.all neTup = true → toPDs ds = some ps → ∀ p ∈ ps, ∃ x r, p = .tuple (x :: r)
  | [], ps, _, h => by simp only [toPDs, Option.some.injEq] at h; subst h; simp
  | d :: ds, ps, ha, h => by
    simp only [List.all_cons, Bool.and_eq_true] at ha
    simp only [toPDs] at h
    split at h
    · next p qs h1 h2 =>
      cases h
      intro q hq
      rcases List.mem_cons.mp hq with e | hq
      · subst e
        have ha1 := ha.1
        unfold neTup at ha1
        split at ha1
        · next y ys =>
          simp only [toPD, toPDs, Option.map_eq_some_iff] at h1
          obtain ⟨zs, h3, rfl⟩ := h1
          split at h3
          · cases h3; exact ⟨_, _, rfl⟩
          · cases h3
        · cases ha1
      · exact neTup_enc ha.2 h2 q hq
    · cases h
theorem ints_enc : ∀ {ds : List D}, ds.all isIntD = true → ∃ ns : List Int, ds = ns.map .int
  | [], _ => ⟨[], rfl⟩
  | d :: ds, h => by
    simp only [List.all_cons, Bool.and_eq_true] at h
    obtain ⟨ns, h1⟩ := ints_enc h.2
    cases d <;> simp only [isIntD] at h <;> try (cases h.1)
    next i => exact ⟨i :: ns, by rw [h1]; rfl⟩
theorem pdInts : ∀ (ns : List Int), toPDs (ns.map .int) = some (ns.map .int)
  | [] => rfl
  | n :: ns => by simp only [List.map_cons, toPDs, toPD, pdInts ns]
theorem depInts : ∀ (ns : List Int), PyData.depthAll (ns.map .int) ≤ 1
  | [] => by simp [PyData.depthAll]
  | n :: ns => by
    have := depInts ns
    simp only [List.map_cons, PyData.depthAll, PyData.depth]
    omega
theorem sortD_inv {ds ys : List D} (h : sortD ds = some ys) : ys = ds.mergeSort leB ∧ ds.length ≤ sizeLine ∧ ∃ ps, toPDs ds = some ps ∧ PySem.W.AllAlike ps ∧ PySem.W.Sortable ps ∧ PyData.depthAll ps ≤ 60 := by
  unfold sortD at h
  split at h
  case isFalse => cases h
  next hz =>
  cases h
  simp only [Bool.and_eq_true, Bool.or_eq_true, decide_eq_true_eq] at hz
  refine ⟨rfl, hz.2, ?_⟩
  rcases hz.1 with hz | hz
  · obtain ⟨ps, h1, h2, h3⟩ := cmpAll_inv hz.1
    exact ⟨ps, h1, fun d hd e he => h2.1 d hd e he, .inl (neTup_enc hz.2 h1), h3⟩
  · obtain ⟨ns, rfl⟩ := ints_enc hz
    refine ⟨_, pdInts ns, fun d hd e he => ?_, .inr fun d hd => ?_, by have := depInts ns; omega⟩
    · obtain ⟨i, _, rfl⟩ := List.mem_map.mp hd
      obtain ⟨j, _, rfl⟩ := List.mem_map.mp he
      rfl
    · obtain ⟨i, _, rfl⟩ := List.mem_map.mp hd
      exact ⟨by simp, by simp⟩
theorem cr_sumT {X : Cx} (hc : X.calm = true) : CallR X (.builtin "sum") (fun vs H Q => ∃ (a : Addr) (ns : List Int), vs = [V.ref a] ∧ SqT X.K H a (ns.map V.int) ∧ Q (.int ns.sum) H) := by
  intro pins s σ H vs us Q I r h
  obtain ⟨a, ns, rfl, hs, q⟩ := h
  obtain ⟨its, rv, hl, _⟩ := I.tuple hs
  rw [Vals.ref1 r]
  have hi := rv.ints
  have ht : s.heap.IsTuple a its.toArray := hl
  obtain ⟨xs, hx⟩ := hi.allInts.items
  have hn : numsOf its.toArray.toList = ns := by rw [show its.toArray.toList = its from rfl, hi.numsOf]
  rw [hx] at ht hn
  rw [nums_intItems] at hn
  refine PySem.W.ktm_sumG (I.ok.hd hc) ht fun h' tk t' hk => ⟨.int _, H, I.kept hk, ⟨_, rfl⟩, ?_⟩
  rw [preSum_eq, List.take_of_length_le (by simp), hn]
  exact q
theorem biD_ok (hK : X.K = W.K) (hc : X.calm = true) (hu : X.A.units + 100 < cLine) (hdl : DicLst X W) {b : BI} {ds : List D} {r : R} {vs : List V} {Q : VK} (h : biD b ds = some r) (rs : RdL W ow H ds vs) (g : Gives W ow H r Q) :
    ∃ rr, CallR X (biV b) rr ∧ rr vs H Q := by
  unfold biD at h
  split at h
  · cases h; obtain ⟨v, rfl, rv⟩ := rs.one; cases intRd rv; exact ⟨_, call_abs, _, rfl, g.same (.int _)⟩
  · cases h; obtain ⟨v, rfl, rv⟩ := rs.one; cases intRd rv; exact ⟨_, call_int1, .inl ⟨_, rfl, g.same (.int _)⟩⟩
  · cases h; obtain ⟨v, rfl, rv⟩ := rs.one; cases (show Rep W ow H _ v from rv); exact ⟨_, call_int1, .inr ⟨_, rfl, g.same (.int _)⟩⟩
  · cases h; obtain ⟨v, rfl, a, us, rfl, ha, la⟩ := rs.one; exact ⟨_, call_len_seq, a, us, rfl, .inl (SqL.of ha), by rw [← la.length]; exact g.same (.int _)⟩
  · cases h
    obtain ⟨v, rfl, rv⟩ := rs.one
    cases (show Rep W ow H _ v from rv) with
    | @tup a us _ ha la => exact ⟨_, call_len_seq, a, us, rfl, .inr (hK ▸ ha.sq), by rw [← la.length]; exact g.same (.int _)⟩
  · cases h; obtain ⟨v, rfl, rv⟩ := rs.one; exact hdl.2 ow H _ v Q rv (g.same (.int _))
  · cases h; obtain ⟨v, rfl, a, us, rfl, ha, la⟩ := rs.one; exact ⟨_, call_list_of, a, us, rfl, .inl (SqL.of ha), fun p hp => g.lst la hp⟩
  · cases h
    obtain ⟨v, rfl, rv⟩ := rs.one
    cases (show Rep W ow H _ v from rv) with
    | @tup a us _ ha la => exact ⟨_, call_list_of, a, us, rfl, .inr (hK ▸ ha.sq), fun p hp => g.lst la hp⟩
  · cases h; obtain ⟨v, rfl, a, us, rfl, ha, la⟩ := rs.one; exact ⟨_, call_tuple_of, a, us, rfl, .inl ⟨SqL.of ha, fun p hp => g.tup la hp⟩⟩
  · cases h
    obtain ⟨v, rfl, rv⟩ := rs.one
    cases (show Rep W ow H _ v from rv) with
    | @tup a us _ ha la => exact ⟨_, call_tuple_of, a, us, rfl, .inr ⟨hK ▸ ha.sq, g.same (.tup ha la)⟩⟩
  · cases h; obtain ⟨v, u, rfl, rv, ru⟩ := rs.two; cases intRd rv; cases intRd ru; exact ⟨_, call_max2 hc, _, _, rfl, g.same (.int _)⟩
  · cases h; obtain ⟨v, u, rfl, rv, ru⟩ := rs.two; cases intRd rv; cases intRd ru; exact ⟨_, call_min2 hc, _, _, rfl, g.same (.int _)⟩
  · split at h
    · next n ns e =>
      cases h
      obtain ⟨v, rfl, a, us, rfl, ha, la⟩ := rs.one
      rw [la.ints e] at ha
      refine ⟨_, cr_max hc, a, n :: ns, rfl, SqL.of ha, by simp, fun m hm hle => ?_⟩
      obtain ⟨s1, s2⟩ := maxL_spec ns n
      have em : m = maxL n ns := Int.le_antisymm (s2 m hm) (hle _ s1)
      rw [em]; exact g.same (.int _)
    · cases h
  · split at h
    · next n ns e =>
      cases h
      obtain ⟨v, rfl, a, us, rfl, ha, la⟩ := rs.one
      rw [la.ints e] at ha
      refine ⟨_, cr_min hc, a, n :: ns, rfl, SqL.of ha, by simp, fun m hm hle => ?_⟩
      obtain ⟨s1, s2⟩ := minL_spec ns n
      have em : m = minL n ns := Int.le_antisymm (hle _ s1) (s2 m hm)
      rw [em]; exact g.same (.int _)
    · simp only [Option.map_eq_some_iff] at h
      obtain ⟨d, h, rfl⟩ := h
      obtain ⟨x, xs, rfl, hz, rfl⟩ := minLD_inv h
      obtain ⟨ps, e1, e2, e3⟩ := cmpAll_inv hz
      obtain ⟨v, rfl, a, us, rfl, ha, la⟩ := rs.one
      refine ⟨_, cr_minT hc hu, a, us, x, xs, ps, rfl, SqL.of ha, e1, hK ▸ repDps la e1, e2, e3, fun u hu1 => ?_⟩
      obtain ⟨u', hu2, ru⟩ := la.get leastAt_ok
      rw [hu1] at hu2
      cases hu2
      exact g.same ru
  · simp only [Option.map_eq_some_iff] at h
    obtain ⟨d, h, rfl⟩ := h
    obtain ⟨x, xs, he, hz, rfl⟩ := minLD_inv h
    obtain ⟨ps, e1, e2, e3⟩ := cmpAll_inv hz
    obtain ⟨v, u, rfl, rv, ru⟩ := rs.two
    rw [← he] at e1
    injection he with he1 he2
    subst he1 he2
    have rv' : Rep W ow H _ v := rv
    have ru' : Rep W ow H _ u := ru
    refine ⟨_, cr_min2T hc hu, v, u, _, _, ps, rfl, e1, hK ▸ repDps (.cons rv' (.cons ru' .nil)) e1, e2, e3, ?_⟩
    refine g.same ?_
    simp only [minF, List.foldl_cons, List.foldl_nil]
    split
    · exact ru'
    · exact rv'
  · simp only [Option.map_eq_some_iff] at h
    obtain ⟨ys, h, rfl⟩ := h
    obtain ⟨rfl, hL, ps, e1, e2, e3, e4⟩ := sortD_inv h
    obtain ⟨v, rfl, a, us, rfl, ha, la⟩ := rs.one
    obtain ⟨bs, rfl, rfl, hb⟩ := repL_pairs la
    refine ⟨_, cr_srt hu, a, bs, ps, rfl, SqL.of ha, e1, hK ▸ repDps la e1, e2, e3, e4, by simpa using hL, fun p hp => ?_⟩
    have hsrt : (bs.map (·.1)).mergeSort leB = (bs.mergeSort (PySem.W.dataLe false fun b => encP b.1)).map (·.1) := by
      rw [List.map_mergeSort (s := leB)]
      intro a _ b _
      rfl
    rw [hsrt] at g
    refine g.lst (pairs_repL fun b hb' => hb b ?_) hp
    exact (List.mergeSort_perm bs _).mem_iff.mp hb'
  · simp only [Option.map_eq_some_iff] at h
    obtain ⟨ns, e, rfl⟩ := h
    obtain ⟨v, rfl, a, us, rfl, ha, la⟩ := rs.one
    rw [la.ints e] at ha
    exact ⟨_, cr_sum hc, a, ns, rfl, SqL.of ha, g.same (.int _)⟩
  · simp only [Option.map_eq_some_iff] at h
    obtain ⟨ns, e, rfl⟩ := h
    obtain ⟨v, rfl, rv⟩ := rs.one
    cases (show Rep W ow H _ v from rv) with
    | @tup a us _ ha la =>
      rw [la.ints e] at ha
      exact ⟨_, cr_sumT hc, a, ns, rfl, hK ▸ ha.sq, g.same (.int _)⟩
  · cases h; obtain ⟨v, rfl, rv⟩ := rs.one; exact hdl.1 ow H _ v Q rv fun p us hp ru => g.lst ru hp
  · cases h

/-! ### isinstance -/
def clsV (W : Wd) (own : Str → Bool) (c : Str) : V := if own c then .ref (W.cad c) else .ty c.toString
def tyV (W : Wd) : D → Value
  | .non => .type "NoneType" | .bl _ => .type "bool" | .int _ => .type "int" | .str _ => .type "str" | .tup _ => .type "tuple" | .lst _ => .type "list" | .dic _ => .type "dict" | .ins c _ => .ref (W.cad c)
theorem tyX_ok (hi : ∀ c ∈ W.own, C8.InsC W.K (W.cad c)) (hn : ∀ kvs, d ≠ .dic kvs) {v : V} (h : Rd1 W ow H d v) : TyX W.K H v (tyV W d) := by
  cases d with
  | lst xs => obtain ⟨a, vs, rfl, h1, _⟩ := h; exact .base (.lst h1)
  | dic kvs => exact absurd rfl (hn kvs)
  | ins c fs =>
    obtain ⟨a, dx, gs, rfl, hm, h1, _⟩ := h
    have I := hi c hm
    exact .base (.ins h1 I.cl I.ha I.hn I.htk I.hm)
  | non => cases (show Rep W ow H _ v from h); exact .base .non
  | bl _ => cases (show Rep W ow H _ v from h); exact .base (.bl _)
  | int _ => cases (show Rep W ow H _ v from h); exact .base (.int _)
  | str _ => cases (show Rep W ow H _ v from h); exact .base (.str _)
  | tup xs =>
    cases (show Rep W ow H _ v from h) with
    | tup ha la =>
      rcases ha with ⟨r | ⟨o, r⟩, _⟩ | (r | ⟨o, its, n, hk, hc, _⟩)
      · exact .base (.tup r)
      · exact .fTuple r
      · rcases r with r | ⟨_, r⟩ <;> cases r
      · exact .kTuple hk hc

/-! ### truth -/
def DicTru (X : Cx) (W : Wd) : Prop := ∀ (ow : Ow) (H : Hp) (kvs : List (NestedKey × D)) (x : V) (Q : Bool → Hp → Prop), Rd1 W ow H (.dic kvs) x → Q (!kvs.isEmpty) H → ∃ rr, TruR X rr ∧ rr x H Q
theorem truD_ok (hK : X.K = W.K) (hd : DicTru X W) {d : D} {x : V} {Q : Bool → Hp → Prop} (h : truOk d = true) (rx : Rd1 W ow H d x) (q : Q (truD d) H) : ∃ rr, TruR X rr ∧ rr x H Q := by
  cases d with
  | lst xs => obtain ⟨a, vs, rfl, h1, la⟩ := rx; exact ⟨_, tru_ok, _, .inl ⟨vs, SqL.of h1, rfl⟩, by cases la <;> exact q⟩
  | dic kvs => exact hd ow H kvs x Q rx q
  | ins c fs => simp [truOk] at h
  | non => cases (show Rep W ow H _ x from rx); exact ⟨_, tru_ok, _, rfl, q⟩
  | bl _ => cases (show Rep W ow H _ x from rx); exact ⟨_, tru_ok, _, rfl, q⟩
  | int _ => cases (show Rep W ow H _ x from rx); exact ⟨_, tru_ok, _, rfl, q⟩
  | str z =>
    cases (show Rep W ow H _ x from rx)
    refine ⟨_, tru_ok, _, ⟨lineOk_ok h, rfl⟩, ?_⟩
    have e : (((z.length : Nat) : Int) != 0) = (z.length != 0) := by
      cases hz : z.length with
      | zero => rfl
      | succ n =>
        have h1 : (((n + 1 : Nat) : Int) != 0) = true := by simp; omega
        rw [h1]; simp
    rw [e]; exact q
  | tup xs =>
    cases (show Rep W ow H _ x from rx) with
    | @tup a vs _ ha la => exact ⟨_, tru_ok, _, .inr (.inl ⟨vs, hK ▸ ha.sq, rfl⟩), by cases la <;> exact q⟩

/-! ### subscripts -/
theorem atD_ok {xs : List D} {vs : List V} {i : Int} {d : D} (l : RepL W ow H xs vs) (h : atD xs i = some d) : ∃ v, atI vs i = some v ∧ Rep W ow H d v := by
  unfold atD atI at h
  simp only [Option.bind_eq_some_iff] at h
  obtain ⟨j, h1, h2⟩ := h
  obtain ⟨v, e, r⟩ := l.get h2
  refine ⟨v, ?_, r⟩
  unfold atI
  rw [← l.length, h1]
  exact e
def DicGet (X : Cx) (W : Wd) : Prop := ∀ (ow : Ow) (H : Hp) (ks : List D) (kvs : List (NestedKey × D)) (k : List NestedKey) (d : D) (x y : V) (Q : VK), kOf ks = some k → (kvs.find? fun p => decide (p.1 = .tup k)).map (·.2) = some d → Rd1 W ow H (.dic kvs) x → Rd1 W ow H (.tup ks) y →
  (∀ v, Rep W ow H d v → Q v H) → ∃ rr, IxR X rr ∧ rr x y H Q
theorem subD_ok (hK : X.K = W.K) (hd : DicGet X W) {d e f : D} {x y : V} {Q : VK} (h : subD d e = some f) (rx : Rd1 W ow H d x) (ry : Rd1 W ow H e y) (q : ∀ v, Rep W ow H f v → Q v H) : ∃ rr, IxR X rr ∧ rr x y H Q := by
  unfold subD at h
  split at h
  · cases intRd ry
    obtain ⟨a, vs, rfl, ha, la⟩ := rx
    obtain ⟨v, e, r⟩ := atD_ok la h
    exact ⟨_, ix_list, a, vs, _, v, rfl, rfl, SqL.of ha, e, q v r⟩
  · cases intRd ry
    cases (show Rep W ow H _ x from rx) with
    | @tup a vs _ ha la =>
    obtain ⟨v, e, r⟩ := atD_ok la h
    exact ⟨_, ix_tup, a, vs, _, v, rfl, rfl, hK ▸ ha.sq, e, q v r⟩
  · simp only [Option.bind_eq_some_iff] at h
    obtain ⟨k, h1, h2⟩ := h
    exact hd ow H _ _ k f x y Q h1 h2 rx ry q
  · cases h
theorem cutD_ok {xs : List D} {vs : List V} {lo hi : Option Int} (l : RepL W ow H xs vs) : RepL W ow H (cutD xs lo hi) (cutV vs lo hi) := by
  unfold cutD cutV
  rw [l.length]
  exact (l.drop _).take _
theorem sliD_ok (hK : X.K = W.K) {d : D} {lo hi : Option Int} {r : R} {x : V} {Q : VK} (h : sliD d lo hi = some r) (rx : Rd1 W ow H d x) (g : Gives W ow H r Q) : ∃ rr, SlR X rr ∧ rr x lo hi H Q := by
  unfold sliD at h
  split at h
  · cases h
    obtain ⟨a, vs, rfl, ha, la⟩ := rx
    exact ⟨_, sl_list, a, vs, rfl, SqL.of ha, fun p hp => g.lst (cutD_ok la) hp⟩
  · cases h
    cases (show Rep W ow H _ x from rx) with
    | @tup a vs _ ha la =>
    refine ⟨_, sl_tupA, a, vs, rfl, hK ▸ ha.sq, fun e => ?_, fun _ p hp => g.tup (cutD_ok la) hp⟩
    have ec : ∀ ys : List D, ys.length = vs.length → cutD ys lo hi = ys := fun ys hl => by
      unfold cutD
      rw [hl, e.1, e.2, List.drop_zero, Nat.sub_zero, ← hl, List.take_length]
    rw [ec _ la.length] at g
    exact g.same (.tup ha la)
  · cases h
end
end Ev

/-! EvD: what an evaluation promises; a def's promise; the call. -/
namespace Ev
open PySem PySem.Spec PyProof.Rows L2

/-! ### the judgements at one state -/
def RE (X : Cx) (e : Expr) (σ : L2.St) (H : Hp) (Q : VK) : Prop := ∀ (pins : List (Addr × Obj)) (s : Shared), Inv X pins σ H s → wpAny (model X.prog X.w) X.A (eval e X.env) (EP X pins σ Q) X.xe s
def RT (X : Cx) (e : Expr) (σ : L2.St) (H : Hp) (Q : Bool → Hp → Prop) : Prop := ∀ (pins : List (Addr × Obj)) (s : Shared), Inv X pins σ H s → wpAny (model X.prog X.w) X.A (isTrue e X.env (eval e X.env)) (TP X pins σ Q) X.xe s
def RA (X : Cx) (es : List Expr) (σ : L2.St) (H : Hp) (Q : List V → Hp → Prop) : Prop := ∀ (pos : Pos) (pins : List (Addr × Obj)) (s : Shared), Inv X pins σ H s → wpAny (model X.prog X.w) X.A (spliced (backTo pos (starEach es X.env))) (AP X pins σ Q) X.xe s
def RS (X : Cx) (st : Stmt) (D : Ends) (σ : L2.St) (H : Hp) : Prop := ∀ (pins : List (Addr × Obj)) (s : Shared), Inv X pins σ H s → wpAny (model X.prog X.w) X.A (exec st X.env) (SP X pins D) X.xe s
def RSs (X : Cx) (st : List Stmt) (D : Ends) (σ : L2.St) (H : Hp) : Prop := ∀ (pins : List (Addr × Obj)) (s : Shared), Inv X pins σ H s → wpAny (model X.prog X.w) X.A (execs st X.env) (SP X pins D) X.xe s
def RI (X : Cx) (tg iter : Expr) (σ : L2.St) (H : Hp) (R : L2.It → Hp → Prop) : Prop := ∀ (pins : List (Addr × Obj)) (s : Shared), Inv X pins σ H s →
  wpAny (model X.prog X.w) X.A (eval iter X.env) (fun v s1 => wpAny (model X.prog X.w) X.A (pyIter v) (PIE X pins σ tg R) X.xe s1) X.xe s
section
variable {X : Cx} {e tg : Expr} {es : List Expr} {st : Stmt} {sts : List Stmt} {σ : L2.St} {H : Hp}
theorem pe_RE : PE X e (RE X e) := ⟨fun pins s σ H Q I h => h pins s I⟩
theorem pt_RT : PT X e (RT X e) := ⟨fun pins s σ H Q I h => h pins s I⟩
theorem pa_RA : PA X es (RA X es) := ⟨fun pos pins s σ H Q I h => h pos pins s I⟩
theorem ps_RS : PS X st (RS X st) := ⟨fun pins s σ H D I h => h pins s I⟩
theorem pss_RS : PSs X sts (RSs X sts) := ⟨fun pins s σ H D I h => h pins s I⟩
theorem pi_RI : PI X tg e (RI X tg e) := ⟨fun pins s σ H R I h => h pins s I⟩
theorem RE.of {t : TE} {Q : VK} (h : PE X e t) (q : t σ H Q) : RE X e σ H Q := fun pins s I => h.run pins s σ H Q I q
theorem RT.of {t : TT} {Q : Bool → Hp → Prop} (h : PT X e t) (q : t σ H Q) : RT X e σ H Q := fun pins s I => h.run pins s σ H Q I q
theorem RA.of {t : TA} {Q : List V → Hp → Prop} (h : PA X es t) (q : t σ H Q) : RA X es σ H Q := fun pos pins s I => h.run pos pins s σ H Q I q
theorem RS.of {t : TS} {D : Ends} (h : PS X st t) (q : t D σ H) : RS X st D σ H := fun pins s I => h.run pins s σ H D I q
theorem RSs.of {t : TS} {D : Ends} (h : PSs X sts t) (q : t D σ H) : RSs X sts D σ H := fun pins s I => h.run pins s σ H D I q
theorem RI.of {t : TI} {R : L2.It → Hp → Prop} (h : PI X tg e t) (q : t σ H R) : RI X tg e σ H R := fun pins s I => h.run pins s σ H R I q
theorem RE.mono {Q Q' : VK} (h : RE X e σ H Q) (k : ∀ v H', Q v H' → Q' v H') : RE X e σ H Q' := fun pins s I => thn (h pins s I) fun _ _ ⟨v, H', I', r, q⟩ => ⟨v, H', I', r, k v H' q⟩
theorem RT.mono {Q Q' : Bool → Hp → Prop} (h : RT X e σ H Q) (k : ∀ v H', Q v H' → Q' v H') : RT X e σ H Q' := fun pins s I => thn (h pins s I) fun _ _ ⟨H', I', q⟩ => ⟨H', I', k _ H' q⟩
theorem RA.mono {Q Q' : List V → Hp → Prop} (h : RA X es σ H Q) (k : ∀ v H', Q v H' → Q' v H') : RA X es σ H Q' := fun pos pins s I => thn (h pos pins s I) fun _ _ ⟨v, H', I', r, q⟩ => ⟨v, H', I', r, k v H' q⟩
end

/-! ### what is promised of an outcome -/
/-- an exception: its class, its own dict -/
def ExRep (W : Wd) (ow : Ow) (H : Hp) (c : Str) (fs : List (Str × D)) (cls : Value) (d : Option Addr) : Prop :=
  cls = .ref (W.cad c) ∧ ((fs = [] ∧ d = none) ∨ (fs ≠ [] ∧ ∃ a gs, d = some a ∧ H a = some (.xd gs) ∧ RepF W ow H fs gs))
def Post {α β : Type} (W : Wd) (pv : Nat → Option V) (ow : Ow) (H : Hp) (σ : L2.St) (Wx : WX) (rep : Ow → Hp → α → β → Prop) (o : Out α) (Q : β → Hp → Prop) : Prop := match o with
  | .ok a S' => ∀ b ow' H', Step ow H ow' H' → Rel W pv ow' H' S' σ → rep ow' H' a b → Q b H'
  | .exc c fs S' => ∀ cls d ow' H', Step ow H ow' H' → Rel W pv ow' H' S' σ → ExRep W ow' H' c fs cls d → Wx cls d σ H'
  | .bad => False
abbrev PostE (W : Wd) (pv : Nat → Option V) (ow : Ow) (H : Hp) (σ : L2.St) (Wx : WX) (o : Out R) (Q : VK) : Prop := Post W pv ow H σ Wx (fun ow' H' r v => RRep W H ow' H' σ r v) o Q
abbrev PostB (W : Wd) (pv : Nat → Option V) (ow : Ow) (H : Hp) (σ : L2.St) (Wx : WX) (o : Out Bool) (Q : Bool → Hp → Prop) : Prop := Post W pv ow H σ Wx (fun _ _ (a b : Bool) => a = b) o Q
abbrev PostD (W : Wd) (pv : Nat → Option V) (ow : Ow) (H : Hp) (σ : L2.St) (Wx : WX) (o : Out D) (Q : VK) : Prop := Post W pv ow H σ Wx (fun ow' H' d v => Rep W ow' H' d v) o Q
section
variable {W : Wd} {pv : Nat → Option V} {ow ow1 : Ow} {H H1 : Hp} {σ : L2.St} {Wx : WX} {α β γ δ : Type}
theorem Post.seq {rep1 : Ow → Hp → α → β → Prop} {rep2 : Ow → Hp → γ → δ → Prop} {x : Out α} {f : α → Fr → Out γ} {Q : δ → Hp → Prop} (h : Post W pv ow H σ Wx rep2 (x.bind f) Q) :
    Post W pv ow H σ Wx rep1 x (fun b H1 => ∃ a S1 ow1, x = .ok a S1 ∧ Step ow H ow1 H1 ∧ Rel W pv ow1 H1 S1 σ ∧ rep1 ow1 H1 a b ∧ Post W pv ow H σ Wx rep2 (f a S1) Q) := by
  cases x with
  | ok a S1 => exact fun b ow' H' k r p => ⟨a, S1, ow', rfl, k, r, p, h⟩
  | exc c fs S1 => exact h
  | bad => exact h
theorem Post.seq2 {rep1 : Ow → Hp → α → β → Prop} {rep2 : Ow → Hp → γ → δ → Prop} {x : Out α} {f : α → Fr → Out γ} {Q : δ → Hp → Prop} (h : Post W pv ow H σ Wx rep2 (x.bind f) Q) (k1 : Step ow H ow1 H1) :
    Post W pv ow1 H1 σ Wx rep1 x (fun b H2 => ∃ a S1 ow2, x = .ok a S1 ∧ Step ow1 H1 ow2 H2 ∧ Rel W pv ow2 H2 S1 σ ∧ rep1 ow2 H2 a b ∧ Post W pv ow H σ Wx rep2 (f a S1) Q) := by
  cases x with
  | ok a S1 => exact fun b ow' H' k r p => ⟨a, S1, ow', rfl, k, r, p, h⟩
  | exc c fs S1 => exact fun cls d ow' H' k' r p => h cls d ow' H' (k1.trans k') r p
  | bad => exact h
theorem Post.rebase {rep rep' : Ow → Hp → α → β → Prop} {o : Out α} {Q : β → Hp → Prop} (h : Post W pv ow H σ Wx rep o Q) (k : Step ow H ow1 H1) (hr : ∀ ow' H' a b, Step ow1 H1 ow' H' → rep' ow' H' a b → rep ow' H' a b) :
    Post W pv ow1 H1 σ Wx rep' o Q := by
  cases o with
  | ok a S1 => exact fun b ow' H' k' r p => h b ow' H' (k.trans k') r (hr _ _ _ _ k' p)
  | exc c fs S1 => exact fun cls d ow' H' k' r p => h cls d ow' H' (k.trans k') r p
  | bad => exact h
theorem Post.reE {o : Out R} {Q : VK} (h : PostE W pv ow H σ Wx o Q) (k : Step ow H ow1 H1) : PostE W pv ow1 H1 σ Wx o Q :=
  Post.rebase h k fun _ _ _ _ _ p => RRep.back (fun _ e => k.none e) p
theorem Post.re {rep : Ow → Hp → α → β → Prop} {o : Out α} {Q : β → Hp → Prop} (h : Post W pv ow H σ Wx rep o Q) (k : Step ow H ow1 H1) : Post W pv ow1 H1 σ Wx rep o Q := Post.rebase h k fun _ _ _ _ _ p => p
theorem Out.bind_assoc (x : Out α) (f : α → Fr → Out β) (g : β → Fr → Out γ) : (x.bind f).bind g = x.bind fun a S => (f a S).bind g := by cases x <;> rfl
theorem esc_noexc {x : R} {S S' : Fr} {c : Str} {fs : List (Str × D)} : esc x S ≠ .exc c fs S' := by
  cases x with
  | val d => simp [esc]
  | tmp o => simp only [esc]; split <;> simp
  | bor i => simp only [esc, frz]; split <;> (try split) <;> simp
/-- .. and made a value -/
theorem Post.esc2 {rep2 : Ow → Hp → γ → δ → Prop} {ow0 owa : Ow} {H0 Ha : Hp} {x : R} {S : Fr} {v : V} {f : D → Fr → Out γ} {Q : δ → Hp → Prop} (r : Rel W pv ow H S σ) (k : Step owa Ha ow H) (p : RRep W Ha ow H σ x v)
    (h : Post W pv ow0 H0 σ Wx rep2 ((esc x S).bind f) Q) : ∃ d S1 ow1, Step owa Ha ow1 H ∧ Keep ow H ow1 H ∧ Rel W pv ow1 H S1 σ ∧ Rep W ow1 H d v ∧ Post W pv ow0 H0 σ Wx rep2 (f d S1) Q := by
  cases e : Ev.esc x S with
  | ok d S1 =>
    obtain ⟨ow1, k1, kp, r1, p1⟩ := esc_ok r k p e
    rw [e] at h
    exact ⟨d, S1, ow1, k1, kp, r1, p1, h⟩
  | exc c fs S1 => exact absurd e esc_noexc
  | bad => rw [e] at h; exact False.elim h
theorem Post.esc {rep2 : Ow → Hp → γ → δ → Prop} {ow0 : Ow} {H0 : Hp} {x : R} {S : Fr} {v : V} {f : D → Fr → Out γ} {Q : δ → Hp → Prop} (r : Rel W pv ow H S σ) (k : Step ow0 H0 ow H) (p : RRep W H0 ow H σ x v)
    (h : Post W pv ow0 H0 σ Wx rep2 ((esc x S).bind f) Q) : ∃ d S1 ow1, Step ow0 H0 ow1 H ∧ Rel W pv ow1 H S1 σ ∧ Rep W ow1 H d v ∧ Post W pv ow0 H0 σ Wx rep2 (f d S1) Q :=
  let ⟨d, S1, ow1, k1, _, r1, p1, h1⟩ := Post.esc2 r k p h
  ⟨d, S1, ow1, k1, r1, p1, h1⟩
end

/-! ### a def's promise -/
def ArgsRep (W : Wd) (ow : Ow) (H : Hp) : Nat → List Cell → List V → Prop
  | _, [], [] => True
  | i, c :: cs, v :: vs => CellRep W ow H i c v ∧ ArgsRep W ow H (i + 1) cs vs
  | _, _, _ => False
def isPar : Option Cell → Bool
  | some (.par _) => true
  | _ => false
def isArg : Cell → Bool
  | .val _ => true
  | .par _ => true
  | _ => false
def EntryOk (ow : Ow) (H : Hp) (cs : List Cell) : Prop := ∀ p, H p ≠ none → ow p = .fz ∨ ow p = .fo ∨ ∃ i, isPar cs[i]? = true ∧ ow p = .sl i
def RCRep (W : Wd) (H0 : Hp) (ow : Ow) (H : Hp) : RC → V → Prop
  | .val d, v => Rep W ow H d v
  | .own o, v => ObRep W ow H (fun p => ow p = .tm ∧ H0 p = none) o v
def OutsRep (W : Wd) (ow : Ow) (H : Hp) : Nat → List Cell → List V → List Ob → Prop
  | i, .par _ :: cs, v :: vs, o :: os => ObRep W ow H (fun p => ow p = .sl i) o v ∧ OutsRep W ow H (i + 1) cs vs os
  | i, .val _ :: cs, _ :: vs, os => OutsRep W ow H (i + 1) cs vs os
  | _, [], [], [] => True
  | _, _, _, _ => False
def PostF (W : Wd) (ow : Ow) (H : Hp) (cs : List Cell) (vs : List V) (r : FnRes) (Q : VK) (E : XK) : Prop := match r with
  | .ok r os => ∀ v ow' H', Step ow H ow' H' → RCRep W H ow' H' r v → OutsRep W ow' H' 0 cs vs os → Q v H'
  | .exc c fs os => ∀ cls d ow' H', Step ow H ow' H' → ExRep W ow' H' c fs cls d → OutsRep W ow' H' 0 cs vs os → E cls d H'
  | .bad => False
def spOf (W : Wd) (cl : Calls) (f : Str) : Sp := fun vs H Q E => ∃ ow cs, ArgsRep W ow H 0 cs vs ∧ (cs.all isArg = true) ∧ EntryOk ow H cs ∧ PostF W ow H cs vs (cl f cs) Q E

/-! ### the arguments of a call -/
def ArgV (W : Wd) (ow : Ow) (H : Hp) (σ : L2.St) : Arg → V → Prop
  | .v d, v => Rep W ow H d v
  | .r i, v => σ[i]? = some (some v)
inductive ArgVs (W : Wd) (ow : Ow) (H : Hp) (σ : L2.St) : List Arg → List V → Prop
  | nil : ArgVs W ow H σ [] []
  | cons {a : Arg} {v : V} {as : List Arg} {vs : List V} : ArgV W ow H σ a v → ArgVs W ow H σ as vs → ArgVs W ow H σ (a :: as) (v :: vs)
/-- the place of a slot among the arguments by reference -/
def posOf : List Arg → Nat → Nat → Option Nat
  | [], _, _ => none
  | .v _ :: r, n, j => posOf r (n + 1) j
  | .r i :: r, n, j => if i = j then some n else posOf r (n + 1) j
theorem posOf_none : ∀ {as : List Arg} {n j : Nat}, j ∉ refsOf as → posOf as n j = none
  | [], _, _, _ => rfl
  | .v _ :: r, n, j, h => posOf_none (as := r) h
  | .r i :: r, n, j, h => by
    simp only [refsOf, List.mem_cons, not_or] at h
    unfold posOf
    rw [if_neg (fun e => h.1 e.symm)]
    exact posOf_none h.2
theorem posOf_ge : ∀ {as : List Arg} {n j m : Nat}, posOf as n j = some m → n ≤ m
  | .v _ :: r, n, j, m, h => Nat.le_of_succ_le (posOf_ge (as := r) h)
  | .r i :: r, n, j, m, h => by
    unfold posOf at h
    split at h
    · cases h; exact Nat.le_refl _
    · exact Nat.le_of_succ_le (posOf_ge (as := r) h)
theorem posOf_inj : ∀ {as : List Arg} {n i j m : Nat}, posOf as n i = some m → posOf as n j = some m → i = j
  | .v _ :: r, n, i, j, m, h, g => posOf_inj (as := r) h g
  | .r k :: r, n, i, j, m, h, g => by
    unfold posOf at h g
    split at h
    · next e1 =>
      cases h
      split at g
      · next e2 => exact e1.symm.trans e2
      · exact absurd (posOf_ge g) (Nat.not_succ_le_self _)
    · split at g
      · cases g
        exact absurd (posOf_ge h) (Nat.not_succ_le_self _)
      · exact posOf_inj (as := r) h g

section
variable {W : Wd} {pv : Nat → Option V} {ow : Ow} {H : Hp} {S : Fr} {σ : L2.St}
/-- the callee's tags -/
def owIn (as : List Arg) (ow : Ow) : Ow := fun p => match ow p with
  | .fz => .fz
  | .sl j => (match posOf as 0 j with
    | some n => .sl n
    | none => .fo)
  | _ => .fo
open Classical in
/-- the caller's tags behind the call -/
noncomputable def owOut (as : List Arg) (H : Hp) (ow owc : Ow) : Ow := fun p => if H p = none then (match owc p with
    | .tm => .tm
    | .sl n => if h : ∃ j, posOf as 0 j = some n then .sl (Classical.choose h) else .fz
    | _ => .fz)
  else (match ow p with
    | .sl j => (match posOf as 0 j with
      | some n => if owc p = .sl n then .sl j else .fz
      | none => .sl j)
    | t => t)
theorem owIn_fz {as : List Arg} {p : Addr} (h : ow p = .fz) : owIn as ow p = .fz := by unfold owIn; rw [h]
theorem owIn_fz_iff {as : List Arg} {p : Addr} (h : owIn as ow p = .fz) : ow p = .fz := by
  unfold owIn at h
  split at h
  · assumption
  · split at h <;> cases h
  · cases h
theorem owIn_tm {as : List Arg} {p : Addr} : owIn as ow p ≠ .tm := by
  unfold owIn
  split
  · simp
  · split <;> simp
  · simp
theorem owIn_sl {as : List Arg} {p : Addr} {n : Nat} (h : owIn as ow p = .sl n) : ∃ j, ow p = .sl j ∧ posOf as 0 j = some n := by
  unfold owIn at h
  split at h
  · cases h
  · next j e =>
    split at h
    · next m e2 => cases h; exact ⟨j, e, e2⟩
    · cases h
  · cases h
theorem owIn_pos {as : List Arg} {p : Addr} {j n : Nat} (h : ow p = .sl j) (e : posOf as 0 j = some n) : owIn as ow p = .sl n := by
  unfold owIn; rw [h]; simp only [e]
theorem owIn_keep {as : List Arg} : Keep ow H (owIn as ow) H := fun p _ e => ⟨rfl, owIn_fz e⟩
theorem owOut_new {as : List Arg} {owc : Ow} {p : Addr} {j n : Nat} (h : H p = none) (e : owc p = .sl n) (hj : posOf as 0 j = some n) : owOut as H ow owc p = .sl j := by
  unfold owOut
  rw [if_pos h, e]
  have ex : ∃ j, posOf as 0 j = some n := ⟨j, hj⟩
  simp only [dif_pos ex]
  rw [posOf_inj (Classical.choose_spec ex) hj]

/-- the callee's arguments -/
theorem args_in (r : Rel W pv ow H S σ) : ∀ {as all : List Arg} {vs : List V} {cs : List Cell} {n : Nat}, ArgVs W ow H σ as vs → argCs S as = some cs → (∀ j m, posOf as n j = some m → posOf all 0 j = some m) → (refsOf as).Nodup →
    ArgsRep W (owIn all ow) H n cs vs ∧ cs.all isArg = true ∧ cs.length = vs.length
  | [], _, _, _, _, h, e, _, _ => by cases h; simp [argCs] at e; subst e; exact ⟨trivial, rfl, rfl⟩
  | a :: as, all, _, cs, n, h, e, hp, nd => by
    cases h with
    | @cons _ v _ vs h1 h2 =>
      simp only [argCs] at e
      split at e
      · next c cs' e1 e2 =>
        cases e
        cases a with
        | v d =>
          simp only [argC, Option.some.injEq] at e1
          subst e1
          obtain ⟨k1, k2, k3⟩ := args_in r (n := n + 1) h2 e2 (fun j m q => hp j m q) nd
          exact ⟨⟨Rep.keep owIn_keep h1, k1⟩, by simp [isArg, k2], by simp [k3]⟩
        | r i =>
          simp only [argC, Option.map_eq_some_iff] at e1
          obtain ⟨o, e1, rfl⟩ := e1
          simp only [refsOf, List.nodup_cons] at nd
          obtain ⟨u, hu, ho⟩ := r.obj e1
          have h1' : σ[i]? = some (some v) := h1
          rw [h1'] at hu
          cases hu
          have hpi : posOf all 0 i = some n := hp i n (by unfold posOf; rw [if_pos rfl])
          obtain ⟨k1, k2, k3⟩ := args_in r (n := n + 1) h2 e2 (fun j m q => hp j m (by
            unfold posOf
            rw [if_neg ?_]
            · exact q
            · intro z
              subst z
              rw [posOf_none nd.1] at q
              cases q)) nd.2
          exact ⟨⟨ObRep.keep owIn_keep (fun p _ z => ⟨rfl, owIn_pos z hpi⟩) ho, k1⟩, by simp [isArg, k2], by simp [k3]⟩
      · cases e
theorem argCs_get : ∀ {as : List Arg} {cs : List Cell} {n j m : Nat}, argCs S as = some cs → posOf as n j = some m → n ≤ m ∧ isPar cs[m - n]? = true
  | [], _, _, _, _, _, q => by simp [posOf] at q
  | a :: as, cs, n, j, m, e, q => by
    simp only [argCs] at e
    split at e
    · next c cs' e1 e2 =>
      cases e
      cases a with
      | v d =>
        obtain ⟨h1, h2⟩ := argCs_get (n := n + 1) e2 q
        refine ⟨by omega, ?_⟩
        have : m - n = (m - (n + 1)) + 1 := by omega
        rw [this]
        simpa using h2
      | r i =>
        unfold posOf at q
        split at q
        · cases q
          simp only [argC, Option.map_eq_some_iff] at e1
          obtain ⟨o, _, rfl⟩ := e1
          exact ⟨Nat.le_refl _, by simp [isPar]⟩
        · obtain ⟨h1, h2⟩ := argCs_get (n := n + 1) e2 q
          refine ⟨by omega, ?_⟩
          have : m - n = (m - (n + 1)) + 1 := by omega
          rw [this]
          simpa using h2
    · cases e
theorem entry_in {as : List Arg} {cs : List Cell} (e : argCs S as = some cs) : EntryOk (owIn as ow) H cs := fun p hp => by
  unfold owIn
  split
  · exact .inl rfl
  · split
    · next j _ n q => exact .inr (.inr ⟨n, (argCs_get e q).2, rfl⟩)
    · exact .inr (.inl rfl)
  · exact .inr (.inl rfl)
/-- the step of a call, seen by the caller -/
theorem step_out {as : List Arg} {owc : Ow} {H' : Hp} (k : Step (owIn as ow) H owc H') : Step ow H (owOut as H ow owc) H' := fun p hp => by
  obtain ⟨n, f, s⟩ := k p hp
  refine ⟨n, fun e => ?_, fun i e => ?_⟩
  · have e2 : ∀ i, owIn as ow p ≠ .sl i := fun i z => by
      obtain ⟨j, z1, _⟩ := owIn_sl z
      exact e j z1
    refine ⟨(f e2).1, ?_⟩
    unfold owOut
    rw [if_neg hp]
    split
    · next j z => exact absurd z (e j)
    · rfl
  · unfold owOut
    rw [if_neg hp, e]
    simp only
    split
    · split
      · exact .inl rfl
      · exact .inr (.inl rfl)
    · exact .inl rfl
theorem keep_out {as : List Arg} {owc : Ow} {H' : Hp} (k : Step (owIn as ow) H owc H') : Keep owc H' (owOut as H ow owc) H' := fun p hp e => by
  refine ⟨rfl, ?_⟩
  unfold owOut
  split
  · rw [e]
  · next hn =>
    obtain ⟨_, f, s⟩ := k p hn
    split
    · next j z =>
      split
      · next n q =>
        rw [if_neg (by rw [e]; simp)]
      · next q =>
        have e1 : owIn as ow p = .fo := by unfold owIn; rw [z]; simp only [q]
        have := (f (by rw [e1]; simp)).2
        rw [e, e1] at this
        cases this
    · next t z =>
      by_cases ht : ow p = .fz
      · exact ht
      · have e1 : owIn as ow p = .fo := by
          unfold owIn
          split
          · next q => exact absurd q ht
          · next j q => exact absurd q (z j)
          · rfl
        have := (f (by rw [e1]; simp)).2
        rw [e, e1] at this
        cases this
theorem sl_out {as : List Arg} {owc : Ow} {H' : Hp} (k : Step (owIn as ow) H owc H') {p : Addr} {n j : Nat} (e : owc p = .sl n) (hj : posOf as 0 j = some n) : owOut as H ow owc p = .sl j := by
  by_cases hp : H p = none
  · exact owOut_new hp e hj
  · obtain ⟨_, f, s⟩ := k p hp
    by_cases hs : ∃ m, owIn as ow p = .sl m
    · obtain ⟨m, hm⟩ := hs
      obtain ⟨j', e1, e2⟩ := owIn_sl hm
      rcases s m hm with q | q | q
      · rw [q] at e
        cases e
        have := posOf_inj e2 hj
        subst this
        unfold owOut
        rw [if_neg hp, e1]
        simp only [e2]
        rw [if_pos q]
      · rw [q] at e; cases e
      · rw [q] at e; cases e
    · have := (f (fun i z => hs ⟨i, z⟩)).2
      rw [e] at this
      exact absurd ⟨n, this.symm⟩ hs
theorem tm_out {as : List Arg} {owc : Ow} {p : Addr} (e : owc p = .tm) (hp : H p = none) : owOut as H ow owc p = .tm := by unfold owOut; rw [if_pos hp, e]

theorem getC_putO_ne {S : Fr} {i j : Nat} {o : Ob} (h : i ≠ j) : getC (putO S i o) j = getC S j := by
  unfold putO
  split <;> exact getC_set_ne h
theorem back_ne : ∀ {S : Fr} {is : List Nat} {os : List Ob} {j : Nat}, j ∉ is → getC (back S is os) j = getC S j
  | _, [], _, _, _ => by unfold back; rfl
  | _, _ :: _, [], _, _ => by unfold back; rfl
  | S, i :: is, o :: os, j, h => by
    simp only [List.mem_cons, not_or] at h
    unfold back
    rw [back_ne h.2, getC_putO_ne (Ne.symm h.1)]
theorem back_len : ∀ {S : Fr} {is : List Nat} {os : List Ob}, (back S is os).length = S.length
  | _, [], _ => by unfold back; rfl
  | _, _ :: _, [] => by unfold back; rfl
  | S, i :: is, o :: os => by
    unfold back
    rw [back_len]
    unfold putO setC
    split <;> simp
/-- the slots that were handed over, behind the call -/
theorem outs_in (r : Rel W pv ow H S σ) {owc : Ow} {H' : Hp} {all : List Arg} (k : Step (owIn all ow) H owc H') :
    ∀ {as : List Arg} {vs : List V} {cs : List Cell} {os : List Ob} {n : Nat} {S0 : Fr}, ArgVs W ow H σ as vs → argCs S as = some cs → OutsRep W owc H' n cs vs os → (∀ j m, posOf as n j = some m → posOf all 0 j = some m) → (refsOf as).Nodup →
      (∀ j ∈ refsOf as, getC S0 j = getC S j) →
      ∀ j ∈ refsOf as, ∃ c, getC (back S0 (refsOf as) os) j = some c ∧ (∀ v, σ[j]? = some (some v) → CellRep W (owOut all H ow owc) H' j c v) ∧ ((∃ o, c = .par o) ↔ ∃ o, getC S j = some (.par o)) ∧ ∃ v, σ[j]? = some (some v)
  | [], _, _, _, _, _, _, _, _, _, _, _, j, hj => by simp [refsOf] at hj
  | a :: as, _, cs, os, n, S0, h, e, ho, hp, nd, hs, j, hj => by
    cases h with
    | @cons _ v _ vs h1 h2 =>
      simp only [argCs] at e
      split at e
      · next c cs' e1 e2 =>
        cases e
        cases a with
        | v d =>
          simp only [argC, Option.some.injEq] at e1
          subst e1
          exact outs_in r k (n := n + 1) h2 e2 ho (fun j m q => hp j m q) nd hs j hj
        | r i =>
          simp only [argC, Option.map_eq_some_iff] at e1
          obtain ⟨o0, e1, rfl⟩ := e1
          simp only [refsOf, List.nodup_cons] at nd
          cases os with
          | nil => exact False.elim ho
          | cons o os =>
            obtain ⟨ho1, ho2⟩ := ho
            have hpi : posOf all 0 i = some n := hp i n (by unfold posOf; rw [if_pos rfl])
            have hcell : getC S0 i = getC S i := hs i (by simp [refsOf])
            have hset : ∃ c0, getC S i = some c0 ∧ (c0 = .own o0 ∨ c0 = .par o0) := by
              unfold getO at e1
              split at e1
              · next o' z => cases e1; exact ⟨_, z, .inl rfl⟩
              · next o' z => cases e1; exact ⟨_, z, .inr rfl⟩
              · cases e1
            obtain ⟨c0, z0, z1⟩ := hset
            have hlt : i < S0.length := getC_lt (hcell.trans z0)
            simp only [refsOf, List.mem_cons] at hj
            by_cases hji : j = i
            · subst hji
              have hv : σ[j]? = some (some v) := h1
              have rep : ObRep W (owOut all H ow owc) H' (fun p => owOut all H ow owc p = .sl j) o v := ObRep.keep (keep_out k) (fun p _ z => ⟨rfl, sl_out k z hpi⟩) ho1
              have hb : getC (back S0 (refsOf (Arg.r j :: as)) (o :: os)) j = getC (putO S0 j o) j := by
                show getC (back (putO S0 j o) (refsOf as) os) j = _
                exact back_ne nd.1
              rw [hb]
              unfold putO
              rw [hcell, z0]
              rcases z1 with rfl | rfl
              · refine ⟨.own o, getC_set_self hlt, fun u hu => ?_, by simp, v, hv⟩
                rw [hv] at hu; cases hu; exact rep
              · refine ⟨.par o, getC_set_self hlt, fun u hu => ?_, by simp, v, hv⟩
                rw [hv] at hu; cases hu; exact rep
            · have hj' : j ∈ refsOf as := by
                rcases hj with z | z
                · exact absurd z hji
                · exact z
              show ∃ c, getC (back (putO S0 i o) (refsOf as) os) j = some c ∧ _
              exact outs_in r k (n := n + 1) h2 e2 ho2 (fun j m q => hp j m (by
                unfold posOf
                rw [if_neg ?_]
                · exact q
                · intro z
                  subst z
                  rw [posOf_none nd.1] at q
                  cases q)) nd.2 (fun j' hj'' => by
                    have hne : i ≠ j' := fun z => nd.1 (by rw [z]; exact hj'')
                    rw [getC_putO_ne hne]
                    exact hs j' (by simp [refsOf, hj''])) j hj'
      · cases e
/-- the caller's slots behind the call -/
theorem rel_out (r : Rel W pv ow H S σ) {as : List Arg} {vs : List V} {cs : List Cell} {os : List Ob} {owc : Ow} {H' : Hp} (k : Step (owIn as ow) H owc H') (ha : ArgVs W ow H σ as vs) (e : argCs S as = some cs) (nd : (refsOf as).Nodup) (ho : OutsRep W owc H' 0 cs vs os) :
    Rel W pv (owOut as H ow owc) H' (back S (refsOf as) os) σ := by
  have st := step_out k
  have outs := outs_in r k (S0 := S) ha e ho (fun _ _ q => q) nd (fun _ _ => rfl)
  refine ⟨back_len.trans r.len, fun j c hc => ?_, fun j v hv => ?_, fun j o hc => ?_⟩
  · by_cases hj : j ∈ refsOf as
    · obtain ⟨c', h1, h2, _, v, hv⟩ := outs j hj
      rw [h1] at hc
      cases hc
      exact ⟨v, hv, h2 v hv⟩
    · rw [back_ne hj] at hc
      obtain ⟨v, hv, h⟩ := r.cell j c hc
      refine ⟨v, hv, ?_⟩
      have kt : ∀ p, H p ≠ none → ow p = .sl j → H' p = H p ∧ owOut as H ow owc p = .sl j := fun p hp z => by
        have q : posOf as 0 j = none := posOf_none hj
        have e1 : owIn as ow p = .fo := by unfold owIn; rw [z]; simp only [q]
        refine ⟨((k p hp).2.1 (by rw [e1]; simp)).1, ?_⟩
        unfold owOut
        rw [if_neg hp, z]
        simp only [q]
      cases c with
      | val d => exact Rep.keep st.keep h
      | own o => exact ObRep.keep st.keep kt h
      | par o => exact ObRep.keep st.keep kt h
      | exc _ _ => exact h
  · obtain ⟨o, h1, h2⟩ := r.par j v hv
    by_cases hj : j ∈ refsOf as
    · obtain ⟨c', g1, _, g3, _⟩ := outs j hj
      obtain ⟨o', rfl⟩ := g3.mpr ⟨o, h1⟩
      exact ⟨o', g1, h2⟩
    · exact ⟨o, by rw [back_ne hj]; exact h1, h2⟩
  · by_cases hj : j ∈ refsOf as
    · obtain ⟨c', g1, _, g3, _⟩ := outs j hj
      rw [g1] at hc
      cases hc
      obtain ⟨o', h⟩ := g3.mp ⟨o, rfl⟩
      exact r.unpar j o' h
    · rw [back_ne hj] at hc
      exact r.unpar j o hc
/-- from the caller's promise to the callee's -/
theorem call_sp {cl : Calls} {f : Str} {as : List Arg} {vs : List V} {Wx : WX} {Q : VK} (r : Rel W pv ow H S σ) (ha : ArgVs W ow H σ as vs) (h : PostE W pv ow H σ Wx (callR cl f as S) Q) :
    spOf W cl f vs H Q (fun cls d H' => Wx cls d σ H') := by
  unfold callR at h
  split at h
  · exact False.elim h
  · next cs e =>
    split at h
    · next nd =>
      obtain ⟨k1, k2, k3⟩ := args_in r (n := 0) (all := as) ha e (fun _ _ q => q) nd
      refine ⟨owIn as ow, cs, k1, k2, entry_in e, ?_⟩
      split at h
      · next rc os ec =>
        rw [ec]
        intro v owc H' k hr ho
        refine h v (owOut as H ow owc) H' (step_out k) (rel_out r k ha e nd ho) ?_
        cases rc with
        | val d => exact Rep.keep (keep_out k) hr
        | own o => exact ObRep.keep (keep_out k) (fun p _ z => ⟨rfl, tm_out z.1 z.2, z.2⟩) hr
      · next c fs os ec =>
        rw [ec]
        intro cls d owc H' k hr ho
        refine h cls d (owOut as H ow owc) H' (step_out k) (rel_out r k ha e nd ho) ?_
        obtain ⟨h1, h2⟩ := hr
        refine ⟨h1, ?_⟩
        rcases h2 with h2 | ⟨h2, a, gs, h3, h4, h5⟩
        · exact .inl h2
        · exact .inr ⟨h2, a, gs, h3, h4, h5.keep (keep_out k)⟩
      · exact False.elim h
    · exact False.elim h
end
end Ev

/-! EvD1: exception classes with an __init__ that stores its arguments. -/
namespace Ev
open PySem PySem.Spec PyProof.Rows L2

/-- what such an __init__ promises -/
def spIni (C : Addr) (fs : List Str) : Sp := fun vs H Q _ => ∃ (a : Addr) (ws : List V), vs = .ref a :: ws ∧ ws.length = fs.length ∧ H a = some (exo a C none) ∧
  ∀ dx, H dx = none → Q .non (upd (upd H dx (exd dx (fs.zip ws).reverse)) a (exo a C (some dx)))
structure IniOk (P : Program) (w : World) (K : PySem.W.Frag) (mg : Str → Option Value) (base : Heap) (C : Addr) (fs : List Str) : Prop where
  oex : OexC K C
  xf : XfC K C
  no : ∀ f ∈ fs, PySem.W.findIn K (.ref C) f = some none
  ini : ∃ fI fd ps, PySem.W.findIn K (.ref C) "__init__" = some (some (.ref fI)) ∧ PySem.W.typeIn K (.ref fI) = some (.type "function") ∧ Binds K fd ps [] ∧ FnOk P w K mg base (L2.CX P w) 1 fI fd ps (spIni C fs)

/-! ### the class, looked at -/
def oexB (K : PySem.W.Frag) (C : Addr) : Bool := PySem.W.excInitIn K C [.type "ValueError", .type "Exception", .type "BaseException", .type "object"] "ValueError.__new__" && (match K.lookup C with
    | some ⟨_, _, .cls cd, _⟩ => cd.hasDict && (match cd.mro with
      | _ :: bm => PySem.HandSPX.refsVE bm
      | [] => false)
    | _ => false) && decide (PySem.W.findIn K (.ref C) "__setattr__" = some (some (.builtin "object.__setattr__"))) && decide (PySem.W.subIn K (.ref C) (.type "BaseException") = some true) && decide (PySem.W.typeIn K (.ref C) = some (.type "type")) && PySem.W.keepIn K (.ref C)
theorem oexB_ok {K : PySem.W.Frag} {h : Heap} {C : Addr} (X : K.In h) (e : oexB K C = true) : OexC K C := by
  unfold oexB at e
  simp only [Bool.and_eq_true, decide_eq_true_eq] at e
  obtain ⟨⟨⟨⟨⟨e1, e2⟩, e3⟩, e4⟩, e5⟩, e6⟩ := e
  refine ⟨?_, e3, e4, e5, e6⟩
  obtain ⟨nm, N, qn, bs, bm, hdct, sn, sub, ab, col, dd, k0, k1, k2, k3, k5, hC, _⟩ := PySem.W.excInit_of X e1
  split at e2
  · next o1 o2 cd o3 ho =>
    have e7 := X _ _ ho
    rw [hC] at e7
    injection e7 with e7
    have e8 := e7
    simp only [Bool.and_eq_true] at e2
    injection e8 with q1 q2 q3 q4
    injection q3 with q3
    subst q3
    obtain ⟨z1, z2⟩ := e2
    have z1 : hdct = true := z1
    subst z1
    refine ⟨nm, qn, N, bs, bm, sn, sub, ab, col, dd, k0, k1, k2, k3, k5, ?_, z2⟩
    rw [ho, ← e7]
  · cases e2

/-! ### the __init__ -/
section
variable {W : Wd} {mg : Str → Option Value} {base : Heap} {x qual : Str} {params : Arguments} {scope : Scope} {f : Addr} {fd : FuncData} {p1 p2 p3 p4 p5 p6 p7 p8 : Pos} {C : Addr} {sf g1 g2 : Str}
def nmOk (x : Str) : Bool := !(x == ("__debug__" : Str)) && !(x == ("__classdict__" : Str))
theorem re_nm {X : Cx} {σ : L2.St} {H : Hp} {Q : VK} {p : Pos} {i : Nat} {y : Str} {v : V} (hN : X.N[i]? = some y) (hl : X.env.scope.names.lookup y = some .local) (hs : σ[i]? = some (some v)) (q : Q v H) (hd : nmOk y = true) : RE X (.Name y p) σ H Q := by
  unfold nmOk at hd
  simp only [Bool.and_eq_true, Bool.not_eq_true'] at hd
  exact RE.of (pe_var hN (.inl hl) hd.1 hd.2) ⟨v, hs, q⟩
theorem upd_two {H : Hp} {a d : Addr} {o1 o2 o3 : HO} (h : d ≠ a) : upd (upd (upd H d o1) a o2) d o3 = upd (upd H d o3) a o2 := by
  funext p
  unfold upd
  by_cases h1 : p = d
  · subst h1; simp [h]
  · by_cases h2 : p = a
    · subst h2; simp [h1]
    · simp [h1, h2]
theorem ini1_ok {n : Nat} (F : FunD W.K x qual params [.Assign [.Attribute (.Name sf p1) g1 p2] (.Name g2 p3) p4] scope [] [] f fd) (S : FnScope [sf, g2] [sf, g2] scope) (h0 : scope.names.lookup sf = some .local) (h1 : scope.names.lookup g2 = some .local) (d0 : nmOk sf = true) (d1 : nmOk g2 = true)
    (T : OexC W.K C) (no : PySem.W.findIn W.K (.ref C) g1 = some none) : FnOk W.P W.w W.K mg base (L2.CX W.P W.w) (n + 1) f fd [sf, g2] (spIni C [g1]) := by
  refine F.ok (k := n) (N := [sf, g2]) S (fun vs H Q E h => ?_) (fun cdv A outer s H vs Q E hr h => ?_)
  · obtain ⟨a, ws, rfl, hl, _⟩ := h
    simp [hl]
  · obtain ⟨a, ws, rfl, hl, ha, hq⟩ := h
    obtain ⟨y, rfl⟩ : ∃ y, ws = [y] := by
      cases ws with
      | nil => simp at hl
      | cons y r => cases r with
        | nil => exact ⟨y, rfl⟩
        | cons _ _ => simp at hl
    refine ⟨_, pss_RS, RSs.of (pss_cons ps_RS pss_RS) (RS.of (ps_ost pe_RE pe_RE) ?_)⟩
    refine re_nm (i := 1) rfl h1 rfl (re_nm (i := 0) rfl h0 rfl ?_ d0) d1
    refine ⟨a, C, rfl, T, no, .inl ⟨ha, fun dx hd hne => RSs.of pss_nil (hq dx hd)⟩⟩
theorem ini2_ok {n : Nat} {g3 g4 : Str} (F : FunD W.K x qual params [.Assign [.Attribute (.Name sf p1) g1 p2] (.Name g3 p3) p4, .Assign [.Attribute (.Name sf p5) g2 p6] (.Name g4 p7) p8] scope [] [] f fd) (S : FnScope [sf, g3, g4] [sf, g3, g4] scope) (h0 : scope.names.lookup sf = some .local) (h1 : scope.names.lookup g3 = some .local) (h2 : scope.names.lookup g4 = some .local) (d0 : nmOk sf = true) (d1 : nmOk g3 = true) (d2 : nmOk g4 = true)
    (T : OexC W.K C) (no : PySem.W.findIn W.K (.ref C) g1 = some none) (no2 : PySem.W.findIn W.K (.ref C) g2 = some none) : FnOk W.P W.w W.K mg base (L2.CX W.P W.w) (n + 1) f fd [sf, g3, g4] (spIni C [g1, g2]) := by
  refine F.ok (k := n) (N := [sf, g3, g4]) S (fun vs H Q E h => ?_) (fun cdv A outer s H vs Q E hr h => ?_)
  · obtain ⟨a, ws, rfl, hl, _⟩ := h
    simp [hl]
  · obtain ⟨a, ws, rfl, hl, ha, hq⟩ := h
    obtain ⟨y, z, rfl⟩ : ∃ y z, ws = [y, z] := by
      cases ws with
      | nil => simp at hl
      | cons y r => cases r with
        | nil => simp at hl
        | cons z r => cases r with
          | nil => exact ⟨y, z, rfl⟩
          | cons _ _ => simp at hl
    refine ⟨_, pss_RS, RSs.of (pss_cons ps_RS pss_RS) (RS.of (ps_ost pe_RE pe_RE) ?_)⟩
    refine re_nm (i := 1) rfl h1 rfl (re_nm (i := 0) rfl h0 rfl ?_ d0) d1
    refine ⟨a, C, rfl, T, no, .inl ⟨ha, fun dx hd hne => RSs.of (pss_cons ps_RS pss_RS) (RS.of (ps_ost pe_RE pe_RE) ?_)⟩⟩
    refine re_nm (i := 2) rfl h2 rfl (re_nm (i := 0) rfl h0 rfl ?_ d0) d2
    refine ⟨a, C, rfl, T, no2, .inr ⟨dx, [(g1, y)], upd_same, by rw [upd_ne hne, upd_same], by simp, RSs.of pss_nil ?_⟩⟩
    rw [upd_two hne]
    exact hq dx hd
end
end Ev

/-! EvD2: isinstance of a caught exception, with a dict of its own or without. -/
namespace Ev
open PySem PySem.Spec PyProof.Rows L2
theorem fdS {K : PySem.W.Frag} {C : Addr} {od : Option Obj} {nm : Str} {a g : Value} (hc : (PySem.W.clsIn K C).isSome = true) (ha : PySem.W.findIn K (.ref C) nm = some (some a)) (hg : PySem.W.specialIn K a "__get__" = some (some g)) (ht : PySem.W.takesIn K a = some true) :
    PySem.W.findObj K C od nm = some (.bind g a) := by
  obtain ⟨cd, e1⟩ := Option.isSome_iff_exists.mp hc
  simp [PySem.W.findObj, e1, ha, hg, ht]
theorem hdSome {K : PySem.W.Frag} {D : Addr} (h : PySem.W.hasDictIn K D = true) : (PySem.W.clsIn K D).isSome = true := by
  obtain ⟨cd, e1, _⟩ := PySem.W.any_some h
  simp [e1]
/-- e.__class__ -/
theorem cls_ask {prog : Program} {w : World} {A : Around} {E : Value → Shared → Prop} {K : PySem.W.Frag} {s : Shared} {x D : Addr} {ox : Obj} {od : Option Obj} {Q : Option Value → Shared → Prop} (T : ExcC K D) (X : K.In s.heap) (I : PySem.W.InstAt s.heap x ox D od)
    (q : Q (some (.ref D)) { s with toks := s.toks + 1 }) : wpAny (model prog w) A (getAttr? (.ref x) "__class__") Q E s := by
  obtain ⟨hp, gg, dd, t, os⟩ := s
  have L0 := I.type (M := model prog w)
  have L1 := PySem.W.looks_findIn (M := model prog w) X T.hg
  have L2 := PySem.W.looks_findIn (M := model prog w) X T.hk
  have L3 := PySem.W.looks_find (M := model prog w) X I (fdS (hdSome T.hd) T.ha T.hn T.ht)
  have sb : PySem.W.Looks (model prog w) hp (isInstance (.ref x)
      (.type "BaseException")) true :=
    L0.andThen (PySem.W.looks_subIn X T.hs)
  have b0 : (Value.builtin "BaseException.__getattribute__" == .builtin "object.__getattribute__") = false := by decide +kernel
  have b1 : (onTheHeap (Value.ref D) && Value.builtin "BaseException.__getattribute__" == .builtin "object.__getattribute__") = false := by
    rw [b0]
    rfl
  have b2 : (false && onTheHeap (Value.builtin "BaseException.__getattribute__")) = false := rfl
  unfold getAttr? getAttrBy? getAttrBy
  apply wpAny_bind
  apply wpAny_mkText
  apply wpAny_bind
  apply wpAny_attempt
  apply wpAny_holding
  apply wpAny_bind
  apply L0.at
  apply wpAny_bind
  apply L1.at
  show wpAny _ _ (ite _ _ _) _ _ _
  erw [b1, if_neg Bool.false_ne_true]
  unfold getAttrByItsOwn hookBefore
  apply wpAny_bind
  rw [if_pos (show onTheHeap (.ref D) = true from rfl)]
  apply L2.at
  apply wpAny_bind
  apply wpAny_attempt
  apply wpAny_holding
  unfold callGetattribute
  erw [b2, if_neg Bool.false_ne_true]
  unfold boundAndCalled
  rw [PySem.F.excAttr_ValueError.ga.bind (.ref x)]
  apply wpAny_bind
  apply wpAny_pure
  show wpAny _ _ (call _ [.ref x, .str "__class__" t]) _ _ _
  apply wpAny_call
  apply codeAny_call_builtin PySem.F.excAttr_ValueError.ga.plain PySem.F.entry_bexc_ga
  apply @PySem.W.check_slot (model prog w) _ _ ⟨hp, gg, dd, t + 1, os⟩ "BaseException.__getattribute__" "BaseException" "__getattribute__" (.ref x) [.str "__class__" t] [] _ (by decide +kernel) (by decide +kernel) sb (PySem.F.args_bexc_ga (.ref x) (.str "__class__" t))
  unfold Builtin.«object.__getattribute__»
  apply wpAny_bind
  apply wpAny_of_eq (a := ((Value.ref x : Value), [Value.str "__class__" t])) (by first | rfl | (simp only [slotArgs]; rfl))
  apply wpAny_bind
  apply wpAny_pure
  apply wpAny_bind
  apply L0.at
  apply wpAny_bind
  apply L3.at
  show wpAny _ _ (holding [.builtin "object.__class__"] _ >>= ret) _ _ _
  apply wpAny_bind
  apply wpAny_holding
  apply wpAny_call
  apply PySem.W.class_get (s := ⟨hp, gg, dd, t + 1, os⟩) (ox := ox) (od := od) X I T.hm
  apply wpAny_pure
  show wpAny _ _ (handedOut (.ref D)) _ _ _
  rw [PySem.W.handedOut_of (v := .ref D) rfl]
  first
    | exact wpAny_pure q
    | exact wpAny_pure (wpAny_pure q)
    | exact wpAny_pure (wpAny_bind (wpAny_pure (wpAny_pure q)))
theorem kit_exc {K : PySem.W.Frag} {x D : Addr} {ox : Obj} {od : Option Obj} (T : ExcC K D) : PySem.W.KitX K (.ref x) (.ref D) fun h => PySem.W.InstAt h x ox D od := by
  have hc := hdSome T.hd
  refine ⟨fun _ _ _ I => I.type, fun M h X _ => ?_, fun h tp dd its n sl X htp => ?_, fun X I q => cls_ask T X I q⟩
  · obtain ⟨cd, e1⟩ := Option.isSome_iff_exists.mp hc
    unfold PySem.W.clsIn at e1
    split at e1
    · rename_i q1 q2 q3 q4 ho
      intro A' Q' E' s' kk q
      unfold isType loadHead
      apply wpAny_bind
      apply wpAny_loadPart (kk _ _ (X _ _ ho))
      exact wpAny_pure q
    · cases e1
  · obtain ⟨cd, e1⟩ := Option.isSome_iff_exists.mp hc
    cases hb : (Value.ref D == .ref tp)
    · rfl
    · exfalso
      cases (beq_iff_eq.mp hb)
      unfold PySem.W.clsIn at e1
      split at e1
      · rename_i q1 q2 q3 q4 ho
        cases (X _ _ ho).symm.trans htp
      · cases e1
/-- isinstance(e, c), e the exception that the suite holds -/
def rIsX (K : PySem.W.Frag) (D a : Addr) (d : Option Addr) : List V → Hp → VK → Prop := fun xs H Q => ∃ (c : V) (cv : Value) (b : Bool), xs = [.ref a, c] ∧ (∀ u, RelV c u → u = cv) ∧ PySem.W.kitOne K (.ref D) cv = some b ∧ (∀ dd, d = some dd → ∃ fs, H dd = some (.xd fs)) ∧ Q (.bl b) H
theorem call_isX {X : Cx} {a D : Addr} {oe : Obj} {d : Option Addr} {pn : List (Addr × Obj)} (T : ExcC X.K D) (hz : Zc (.ref D) d oe) (hf : ∃ vs, oe.data = .fields vs) : CallR (X.suite a ((a, oe) :: pn)) (.builtin "isinstance") (rIsX X.K D a d) := by
  intro pins s σ H xs us Q I r h
  obtain ⟨c, cv, b, rfl, hcv, e, hd, q⟩ := h
  cases r with
  | cons rx rr =>
    cases rr with
    | cons rt rr =>
      cases rr
      cases rx
      cases (hcv _ rt)
      obtain ⟨hget, _⟩ := I.pin (a, oe) (List.mem_append_left _ List.mem_cons_self)
      obtain ⟨vs, hv⟩ := hf
      have J : ∃ od, PySem.W.InstAt s.heap a oe D od := by
        cases d with
        | none => exact ⟨none, hget, hz.1, by unfold PySem.W.notCls; rw [hv] <;> rfl, by rw [hz.2]; trivial⟩
        | some dd =>
          obtain ⟨fs, hx⟩ := hd dd rfl
          have ho : ObjOk X.prog X.w H s.heap dd (.xd fs) := I.hok dd _ hx
          obtain ⟨mA, hns, hr⟩ := ho
          obtain ⟨od, ho, hl⟩ := lookIn_ns hns
          exact ⟨some od, hget, hz.1, by unfold PySem.W.notCls; rw [hv] <;> rfl, by rw [hz.2]; exact ho⟩
      obtain ⟨od, J⟩ := J
      exact PySem.W.kia_one (kit_exc T) I.kIn J e (fun z => nomatch z) fun tk => ⟨.bl b, H, I.kept (t' := tk) fun _ _ z => z, rfl, q⟩
def excCB (K : PySem.W.Frag) (D : Addr) : Bool := decide (PySem.W.findIn K (.ref D) "__getattribute__" = some (some (.builtin "BaseException.__getattribute__"))) && decide (PySem.W.findIn K (.ref D) "__getattr__" = some none) && decide (PySem.W.subIn K (.ref D) (.type "BaseException") = some true) && PySem.W.hasDictIn K D &&
  decide (PySem.W.findIn K (.ref D) "__class__" = some (some (.builtin "object.__class__"))) && decide (PySem.W.specialIn K (.builtin "object.__class__") "__get__" = some (some (.builtin "getset_descriptor.__get__"))) && decide (PySem.W.takesIn K (.builtin "object.__class__") = some true) && decide (PySem.W.mroIn K D (.type "object") = some true)
theorem excCB_ok {K : PySem.W.Frag} {D : Addr} (h : excCB K D = true) : ExcC K D := by
  unfold excCB at h
  simp only [Bool.and_eq_true, decide_eq_true_eq] at h
  obtain ⟨⟨⟨⟨⟨⟨⟨h1, h2⟩, h3⟩, h4⟩, h5⟩, h6⟩, h7⟩, h8⟩ := h
  exact ⟨h1, h2, h3, h4, h5, h6, h7, h8⟩
theorem kitOne_exm {K : PySem.W.Frag} {c c' : Value} {b : Bool} (h : PySem.W.exmOne K c c' = some b) (h2 : (c == c') = true → b = true) : PySem.W.kitOne K c c' = some b := by
  unfold PySem.W.kitOne
  unfold PySem.W.exmOne at h
  split at h
  · split
    · next e => rw [h2 e]
    · exact h
  · cases h
end Ev

/-! EvE: each expression, by its parts. -/
namespace Ev
open PySem PySem.Spec PyProof.Rows L2

/-- what the text has: slots, defs, own classes, constants, fields, properties -/
structure MC where
  N : List Str
  fns : List Str
  cons : List Str
  flds : List (Str × Str)
  props : List (Str × Str)
  made : List Str
  excs : List Str := []
  exi : List (Str × List Str) := []
  base : Option Str := none
  mets : List (Str × Str) := []
  kwd : List (Str × Str) := []
  lens : List Str := []
def MC.allx (M : MC) : List Str := M.excs ++ M.exi.map (·.1)
def freeNames : List Str := ["abs", "int", "len", "list", "tuple", "max", "min", "sum", "sorted", "str", "isinstance", "range", "enumerate", "zip", "reversed", "bool", "dict", "ValueError"]
def biCls : List (Str × String) := [("int", "int"), ("bool", "bool"), ("str", "str"), ("tuple", "tuple"), ("list", "list")]
/-- a def of the text: where it stands and that it keeps its promise -/
def FnAt (W : Wd) (cl : Calls) (k : Nat) (X : Cx) (fa : Addr) (f : Str) : Prop := ∃ fd ps, PySem.W.keepIn X.K (.ref fa) = true ∧ Binds X.K fd ps [] ∧ FnOk X.prog X.w X.K X.mg X.base (L2.CX X.prog X.w) k fa fd ps (spOf W cl f)
/-- how a def's parameters are bound: all are written; or the last is a keyword that may be left out (None) -/
def BindF (K : PySem.W.Frag) (fd : FuncData) (ps : List Str) : Option Str → Prop
  | none => Binds K fd ps []
  | some y => (∃ ds, Vals [V.non] ds ∧ Binds K fd ps ds) ∧ KBn K fd ps (ps.length - 1) [y] (fun us ws => us ++ ws) (fun vs zs => vs ++ zs)
def FnAtK (W : Wd) (cl : Calls) (k : Nat) (X : Cx) (fa : Addr) (f : Str) (y : Option Str) : Prop := ∃ fd ps, PySem.W.keepIn X.K (.ref fa) = true ∧ BindF X.K fd ps y ∧ FnOk X.prog X.w X.K X.mg X.base (L2.CX X.prog X.w) k fa fd ps (spOf W cl f)
/-- J walks ds as long as frozen things stand -/
def Walk (W : Wd) (ow : Ow) (H : Hp) (J : L2.It) (ds : List D) : Prop := ∀ ow' H', Keep ow H ow' H' → ∀ i,
  (∀ d, ds[i]? = some d → J.go i H' ∧ ∀ x H'', J.yld i H' x H'' → ∃ ow'', Grow ow' H' ow'' H'' ∧ Rep W ow'' H'' d x) ∧ (i = ds.length → J.stop i H')
def DicWalk (X : Cx) (W : Wd) : Prop := ∀ (tg e : Expr) (σ : L2.St) (H : Hp) (R : L2.It → Hp → Prop), RE X e σ H (fun x H1 => ∃ ow kvs, Rep W ow H1 (.dic kvs) x ∧ ∀ J, Walk W ow H1 J (kvs.map fun p => ofKey p.1) → R J H1) → RI X tg e σ H R
/-- {} -/
def dict0 : Obj := { cls := .type "dict", data := .dict #[] }
def DicNew (X : Cx) (W : Wd) : Prop := ∀ (pos : Pos) (σ : L2.St) (H : Hp) (Q : VK), (∀ p, H p = none → (p == sysModules) = false → DObj W.P W.w dict0 [] → Q (.ref p) (upd H p (objAt p dict0))) → RE X (.Dict [] [] pos) σ H Q
/-- {k: v} -/
def DicOne (X : Cx) (W : Wd) : Prop := ∀ (ke ve : Expr) (pos : Pos) (σ : L2.St) (H : Hp) (Q : VK), (∀ p, H p = none → (p == sysModules) = false → RE X ke σ (upd H p (objAt p dict0)) fun x H1 => RE X ve σ H1 fun y H2 => H2 p = some (objAt p dict0) ∧
    ∃ ow ks k d b, x = .ref b ∧ kOf ks = some k ∧ Rep W ow H2 (.tup ks) x ∧ Rep W ow H2 d y ∧ ow p ≠ .fz ∧ ∀ o es, DObj W.P W.w o es → RepK W ow H2 [(.tup k, d)] es → Q (.ref p) (upd H2 p (objAt p o))) → RE X (.Dict [some ke] [ve] pos) σ H Q
/-- d[k] = v -/
def DicSet (X : Cx) (W : Wd) : Prop := ∀ (ow : Ow) (H : Hp) (ks : List D) (kvs : List (NestedKey × D)) (k : List NestedKey) (d : D) (a b : Addr) (v : V) (Q : Hp → Prop), kOf ks = some k → Rd1 W ow H (.dic kvs) (.ref a) → Rep W ow H (.tup ks) (.ref b) → Rep W ow H d v → kvs.length < sizeLine →
  (∀ o es, (a == sysModules) = false → DObj W.P W.w o es → RepK W ow H (storeK kvs (.tup k) d) es → Q (upd H a (objAt a o))) →
  ∀ (pins : List (Addr × Obj)) (s : Shared) (σ : L2.St) (u : Value), Inv X pins σ H s → RelV v u → wpAny (model X.prog X.w) X.A (setItem (.ref a) (.ref b) u) (fun _ s' => ∃ H', Inv X pins σ H' s' ∧ Q H') X.xe s
/-- d.get(k, x) -/
def DicGo (X : Cx) (W : Wd) : Prop := (∀ (pins : List (Addr × Obj)) (s : Shared) (σ : L2.St) (H : Hp) (ow : Ow) (kvs : List (NestedKey × D)) (x : V), Inv X pins σ H s → Rd1 W ow H (.dic kvs) x → ∃ a, x = .ref a ∧ s.TypeIs (.ref a) "dict" ∧ ∀ b, Value.ref a = .ref b → ∃ ob, s.heap.get? b = some ob ∧ ob.dict = none) ∧
  ∀ (ow : Ow) (H : Hp) (ks : List D) (kvs : List (NestedKey × D)) (k : List NestedKey) (a b : Addr) (x : D) (z : V) (Q : VK), kOf ks = some k → Rd1 W ow H (.dic kvs) (.ref a) → Rep W ow H (.tup ks) (.ref b) → Rep W ow H x z → (∀ r, Rep W ow H ((valK kvs (.tup k)).getD x) r → Q r H) →
  ∀ (pins : List (Addr × Obj)) (s : Shared) (σ : L2.St) (u : Value), Inv X pins σ H s → RelV z u → wpAny (model X.prog X.w) X.A (call (.builtin "dict.get") [.ref a, .ref b, u]) (EP X pins σ Q) X.xe s
/-- the rules of dicts -/
def DicAll (W : Wd) : Prop := ∀ X : Cx, X.prog = W.P → X.w = W.w → X.K = W.K → X.calm = true → X.A.units + 100 < cLine → DicIn X W ∧ DicTru X W ∧ DicGet X W ∧ DicWalk X W ∧ DicLst X W ∧ DicNew X W ∧ DicOne X W ∧ DicSet X W ∧ DicGo X W
/-- an exception class of the text, without an __init__ -/
def ExcOk (K : PySem.W.Frag) (C : Addr) : Prop := PySem.W.excIn K C [.type "ValueError", .type "Exception", .type "BaseException", .type "object"] "ValueError.__new__" = true ∧ PySem.W.keepIn K (.ref C) = true ∧ PySem.W.subIn K (.ref C) (.type "BaseException") = some true ∧ PySem.W.typeIn K (.ref C) = some (.type "type")
structure CxG (W : Wd) (M : MC) (cl : Calls) (gl : Str → Option D) (k : Nat) (X : Cx) (sc : Scope) (Wx : WX) : Prop where
  prog : X.prog = W.P
  w : X.w = W.w
  K : X.K = W.K
  N : X.N = M.N
  nd : M.N.Nodup
  sc : X.env.scope = sc
  calm : X.calm = true
  room : Room (k + 2) X.A
  tk : Takes X Wx
  pw : PassesOwn (model X.prog X.w) X.A X.env X.xe
  free : ∀ x ∈ freeNames, X.mg x = none
  fn : ∀ f ∈ M.fns, ∃ fa, X.mg f = some (.ref fa) ∧ FnAt W cl k X fa f
  con : ∀ x ∈ M.cons, ∃ d v u, gl x = some d ∧ X.mg x = some u ∧ RelV v u ∧ ∀ ow H, Rep W ow H d v
  cls : ∀ c ∈ W.own, X.mg c = some (.ref (W.cad c)) ∧ C8.InsC W.K (W.cad c)
  kit : ∀ c ∈ biCls, ∀ d, isDic d = false → (∀ k fs, d = .ins k fs → k ∈ W.own) → PySem.W.kitOne W.K (tyV W d) (.type c.2) = some (isiD c.1 d)
  kitO : ∀ c ∈ W.own, ∀ d, isDic d = false → (∀ k fs, d = .ins k fs → k ∈ W.own) → PySem.W.kitOne W.K (tyV W d) (.ref (W.cad c)) = some (isiD c d)
  fld : ∀ q ∈ M.flds, q.1 ∈ W.own ∧ NoAttr W.K (W.cad q.1) q.2
  prop : ∀ q ∈ M.props, q.1 ∈ W.own ∧ ∃ p g, PropOf W.K (W.cad q.1) q.2 p g ∧ FnAt W cl k X g (q.1 ++ "." ++ q.2)
  made : ∀ c ∈ M.made, c ∈ W.own ∧ ∃ g, Mk W.K (W.cad c) g ∧ FnAt W cl k X g (c ++ ".__init__")
  eq : ∀ c ∈ W.own, (∀ as, cl (c ++ ".__eq__") as = .bad) ∨ ∃ g, PySem.W.findIn W.K (.ref (W.cad c)) "__eq__" = some (some (.ref g)) ∧ PySem.W.isFn W.K (.ref g) = true ∧ FnAt W cl k X g (c ++ ".__eq__") ∧
    ∀ d, isDic d = false → (∀ k fs, d = .ins k fs → k ∈ W.own) → PySem.W.notFirst W.K (W.cad c) (tyV W d) = true
  dic : DicAll W
  exc : ∀ c ∈ M.excs, X.mg c = some (.ref (W.cad c)) ∧ ExcOk W.K (W.cad c)
  exi : ∀ q ∈ M.exi, X.mg q.1 = some (.ref (W.cad q.1)) ∧ IniOk X.prog X.w X.K X.mg X.base (W.cad q.1) q.2
  exm : ∀ c ∈ M.allx, ∀ c' ∈ M.allx, PySem.W.exmOne W.K (.ref (W.cad c)) (.ref (W.cad c')) = some (decide (c = c'))
  exb : ∀ h, M.base = some h → X.mg h = some (.ref (W.cad h)) ∧ ∀ c ∈ M.allx, PySem.W.exmOne W.K (.ref (W.cad c)) (.ref (W.cad h)) = some true
  exC : ∀ c ∈ M.allx, ExcC W.K (W.cad c)
  met : ∀ q ∈ M.mets, q.1 ∈ W.own ∧ ∃ g, Meth W.K (W.cad q.1) q.2 g ∧ FnAtK W cl k X g (q.1 ++ "." ++ q.2) (M.kwd.lookup (q.1 ++ "." ++ q.2))
  len : ∀ c ∈ M.lens, c ∈ W.own ∧ ∃ g, PySem.W.findIn W.K (.ref (W.cad c)) "__len__" = some (some (.ref g)) ∧ PySem.W.isFn W.K (.ref g) = true ∧ FnAt W cl k X g (c ++ ".__len__")

def SndE (W : Wd) (cl : Calls) (gl : Str → Option D) (X : Cx) (Wx : WX) (e : Expr) (ie : E) : Prop := ∀ (pv : Nat → Option V) (ow : Ow) (H : Hp) (S : Fr) (σ : L2.St) (Q : VK), Rel W pv ow H S σ → PostE W pv ow H σ Wx (evE cl gl ie S) Q → RE X e σ H Q
def SndT (W : Wd) (cl : Calls) (gl : Str → Option D) (X : Cx) (Wx : WX) (e : Expr) (it : T) : Prop := ∀ (pv : Nat → Option V) (ow : Ow) (H : Hp) (S : Fr) (σ : L2.St) (Q : Bool → Hp → Prop), Rel W pv ow H S σ → PostB W pv ow H σ Wx (evT cl gl it S) Q → RT X e σ H Q
def SndEs (W : Wd) (cl : Calls) (gl : Str → Option D) (X : Cx) (Wx : WX) (es : List Expr) (ies : Es) : Prop := ∀ (pv : Nat → Option V) (ow : Ow) (H : Hp) (S : Fr) (σ : L2.St) (Q : List V → Hp → Prop), Rel W pv ow H S σ → Post W pv ow H σ Wx (fun ow' H' ds vs => RepL W ow' H' ds vs) (evEs cl gl ies S) Q → RA X es σ H Q
inductive RRepL (W : Wd) (H0 : Hp) (ow : Ow) (H : Hp) (σ : L2.St) : List R → List V → Prop
  | nil : RRepL W H0 ow H σ [] []
  | cons {r : R} {v : V} {rs : List R} {vs : List V} : RRep W H0 ow H σ r v → RRepL W H0 ow H σ rs vs → RRepL W H0 ow H σ (r :: rs) (v :: vs)
def SndRs (W : Wd) (cl : Calls) (gl : Str → Option D) (X : Cx) (Wx : WX) (es : List Expr) (ies : Es) : Prop := ∀ (pv : Nat → Option V) (ow : Ow) (H : Hp) (S : Fr) (σ : L2.St) (Q : List V → Hp → Prop), Rel W pv ow H S σ → Post W pv ow H σ Wx (fun ow' H' rs vs => RRepL W H ow' H' σ rs vs) (evRs cl gl ies S) Q → RA X es σ H Q
def SndAs (W : Wd) (cl : Calls) (gl : Str → Option D) (X : Cx) (Wx : WX) (es : List Expr) (ies : Es) : Prop := ∀ (pv : Nat → Option V) (ow : Ow) (H : Hp) (S : Fr) (σ : L2.St) (Q : List V → Hp → Prop), Rel W pv ow H S σ → Post W pv ow H σ Wx (fun ow' H' as vs => ArgVs W ow' H' σ as vs) (evAs cl gl ies S) Q → RA X es σ H Q

/-! ### shapes of the text -/
def noStar : Expr → Bool
  | .Starred _ _ => false
  | _ => true
theorem star_cons {e : Expr} {es : List Expr} {env : Env} (h : noStar e = true) : starEach (e :: es) env = (false, eval e env) :: starEach es env := by
  cases e <;> first | rfl | (simp [noStar] at h)
theorem star_any {pos : Pos} {env : Env} : ∀ {es : List Expr}, es.all noStar = true → (backTo pos (starEach es env)).any (·.1) = false
  | [], _ => rfl
  | e :: es, h => by
    simp only [List.all_cons, Bool.and_eq_true] at h
    rw [star_cons h.1]
    show (false || (backTo pos (starEach es env)).any (·.1)) = false
    rw [star_any h.2]; rfl
def attrB : Expr → Bool
  | .Call (.Name _ _) [] [] _ => false
  | _ => true
theorem attr_base {e : Expr} {f : Str} {env : Env} {x : Sem Value} (h : attrB e = true) : attributeBase e f env x = x := by
  unfold attributeBase
  split
  · simp [attrB] at h
  · rfl
def plainT : Expr → Bool
  | .UnaryOp .Not _ _ => false
  | .BoolOp _ _ _ => false
  | .IfExp _ _ _ _ => false
  | .Compare _ _ _ _ => false
  | _ => true
theorem isTrue_of {e : Expr} {env : Env} (h : plainT e = true) (whole : Sem Value) : isTrue e env whole = (do let v ← whole; standAt e.pos; holding [v] (truthy v)) := by
  cases e <;> first | rfl | (simp [plainT] at h) | skip
  next op x p => cases op <;> first | rfl | (simp [plainT] at h)
def plainS : Expr → Bool
  | .Slice _ _ _ _ => false
  | _ => true
theorem plain_ix {b : Expr} (h : plainS b = true) : PlainIx b := by
  intro o i
  cases b <;> first | rfl | (simp [plainS] at h)

section
variable {W : Wd} {M : MC} {cl : Calls} {gl : Str → Option D} {k : Nat} {X : Cx} {sc : Scope} {Wx : WX} {e a b c : Expr} {ia ib ic : E} {pos p1 p2 : Pos}
theorem CxG.dicX (G : CxG W M cl gl k X sc Wx) : DicIn X W ∧ DicTru X W ∧ DicGet X W ∧ DicWalk X W ∧ DicLst X W ∧ DicNew X W ∧ DicOne X W ∧ DicSet X W ∧ DicGo X W := G.dic X G.prog G.w G.K G.calm (by have := G.room.un; omega)
theorem CxG.di (G : CxG W M cl gl k X sc Wx) : DicIn X W := G.dicX.1
theorem CxG.dt (G : CxG W M cl gl k X sc Wx) : DicTru X W := G.dicX.2.1
theorem CxG.dg (G : CxG W M cl gl k X sc Wx) : DicGet X W := G.dicX.2.2.1
theorem CxG.dw (G : CxG W M cl gl k X sc Wx) : DicWalk X W := G.dicX.2.2.2.1
theorem CxG.dl (G : CxG W M cl gl k X sc Wx) : DicLst X W := G.dicX.2.2.2.2.1
theorem CxG.dn (G : CxG W M cl gl k X sc Wx) : DicNew X W := G.dicX.2.2.2.2.2.1
theorem CxG.d1 (G : CxG W M cl gl k X sc Wx) : DicOne X W := G.dicX.2.2.2.2.2.2.1
theorem CxG.ds (G : CxG W M cl gl k X sc Wx) : DicSet X W := G.dicX.2.2.2.2.2.2.2.1
theorem CxG.dgo (G : CxG W M cl gl k X sc Wx) : DicGo X W := G.dicX.2.2.2.2.2.2.2.2
theorem CxG.units (G : CxG W M cl gl k X sc Wx) : X.A.units + 65 < cLine := by have := G.room.un; omega

theorem snd_ref {i : Nat} {x : Str} (hN : X.N[i]? = some x) (hv : Vis X.env.scope x) (hd : (x == ("__debug__" : Str)) = false) (hcd : (x == ("__classdict__" : Str)) = false) : SndE W cl gl X Wx (.Name x pos) (.ref i) := by
  intro pv ow H S σ Q r h
  refine RE.of (pe_var hN hv hd hcd) ?_
  simp only [evE] at h
  split at h
  · next o hc =>
    obtain ⟨v, hv, _⟩ := r.cell i _ hc
    exact ⟨v, hv, h v ow H Step.refl r hv⟩
  · next o hc =>
    obtain ⟨v, hv, _⟩ := r.cell i _ hc
    exact ⟨v, hv, h v ow H Step.refl r hv⟩
  · next d hc =>
    obtain ⟨v, hv, hr⟩ := r.cell i _ hc
    exact ⟨v, hv, h v ow H Step.refl r hr⟩
  · exact False.elim h
theorem snd_var {i : Nat} {x : Str} (hN : X.N[i]? = some x) (hv : Vis X.env.scope x) (hd : (x == ("__debug__" : Str)) = false) (hcd : (x == ("__classdict__" : Str)) = false) : SndE W cl gl X Wx (.Name x pos) (.var i) := by
  intro pv ow H S σ Q r h
  refine RE.of (pe_var hN hv hd hcd) ?_
  simp only [evE] at h
  have hs : ∃ c v, getC S i = some c ∧ σ[i]? = some (some v) := by
    unfold frz at h
    split at h
    · next d hc => obtain ⟨v, hv, _⟩ := r.cell i _ hc; exact ⟨_, v, hc, hv⟩
    · next d hc => obtain ⟨v, hv, _⟩ := r.cell i _ hc; exact ⟨_, v, hc, hv⟩
    · exact False.elim h
  obtain ⟨c, v, _, hv⟩ := hs
  refine ⟨v, hv, ?_⟩
  obtain ⟨d, S1, ow1, k1, r1, p1, h1⟩ := Post.esc (x := .bor i) (v := v) r Step.refl hv h
  exact h1 v ow1 H k1 r1 p1
def conOk : D → Const → Bool
  | .non, .none => true
  | .bl b, .bool c => b == c
  | .int i, .int j => decide (i = j)
  | .str x, .str y => decide (x = y)
  | _, _ => false
theorem snd_con {d : D} {cn : Const} {j : Nat} (hc : conOk d cn = true) : SndE W cl gl X Wx (.Constant cn j pos) (.con d) := by
  intro pv ow H S σ Q r h
  simp only [evE] at h
  cases d with
  | non => cases cn <;> simp [conOk] at hc; exact RE.of pe_non (h .non ow H Step.refl r .non)
  | bl b => cases cn <;> simp [conOk] at hc; subst hc; exact RE.of pe_bl (h (.bl b) ow H Step.refl r (.bl b))
  | int b => cases cn <;> simp [conOk] at hc; subst hc; exact RE.of pe_int (h (.int b) ow H Step.refl r (.int b))
  | str b => cases cn <;> simp [conOk] at hc; subst hc; exact RE.of pe_str (h (.str b) ow H Step.refl r (.str b))
  | _ => simp [conOk] at hc
theorem snd_glo (G : CxG W M cl gl k X sc Wx) {x : Str} (hx : x ∈ M.cons) (hg : Gl X x) (hd : (x == ("__debug__" : Str)) = false) : SndE W cl gl X Wx (.Name x pos) (.glo x) := by
  intro pv ow H S σ Q r h
  obtain ⟨d, v, u, e1, e2, rv, rep⟩ := G.con x hx
  simp only [evE, e1] at h
  exact RE.of (pe_glob hg e2 rv hd) (h v ow H Step.refl r (rep ow H))

/-! ### argument lists -/
theorem snd_nil : SndEs W cl gl X Wx [] .nil := by
  intro pv ow H S σ Q r h
  exact RA.of pa_nil (h [] ow H Step.refl r .nil)
theorem snd_cons {es : List Expr} {ies : Es} (hs : noStar e = true) (ha : SndE W cl gl X Wx e ia) (hes : SndEs W cl gl X Wx es ies) : SndEs W cl gl X Wx (e :: es) (.cons ia ies) := by
  intro pv ow H S σ Q r h
  refine RA.of (pa_cons pe_RE pa_RA (star_cons hs)) ?_
  simp only [evEs] at h
  refine RE.mono (ha pv ow H S σ _ r (Post.seq h)) ?_
  rintro v H1 ⟨x, S1, ow1, _, k1, r1, p1, h1⟩
  obtain ⟨d, S2, ow2, k2, r2, p2, h2⟩ := Post.esc r1 k1 p1 h1
  refine RA.mono (hes pv ow2 H1 S2 σ _ r2 (Post.seq (h2.re k2))) ?_
  rintro vs H2 ⟨ds, S3, ow3, _, k3, r3, p3, h3⟩
  exact h3 (v :: vs) ow3 H2 k3 r3 (.cons (Rep.keep k3.keep p2) p3)
theorem snd_nilR : SndRs W cl gl X Wx [] .nil := by
  intro pv ow H S σ Q r h
  exact RA.of pa_nil (h [] ow H Step.refl r .nil)
theorem RRepL.back {H0 H0' H : Hp} {ow : Ow} {σ : L2.St} {rs : List R} {vs : List V} (k : ∀ p, H0 p = none → H0' p = none) (h : RRepL W H0 ow H σ rs vs) : RRepL W H0' ow H σ rs vs := by
  induction h with
  | nil => exact .nil
  | cons a l ih => exact .cons (RRep.back k a) ih
theorem snd_consR {es : List Expr} {ies : Es} (hs : noStar e = true) (ha : SndE W cl gl X Wx e ia) (hes : SndRs W cl gl X Wx es ies) : SndRs W cl gl X Wx (e :: es) (.cons ia ies) := by
  intro pv ow H S σ Q r h
  refine RA.of (pa_cons pe_RE pa_RA (star_cons hs)) ?_
  simp only [evRs] at h
  refine RE.mono (ha pv ow H S σ _ r (Post.seq h)) ?_
  rintro v H1 ⟨x, S1, ow1, _, k1, r1, p1, h1⟩
  refine RA.mono (hes pv ow1 H1 S1 σ _ r1 (Post.seq (rep1 := fun ow' H' rs vs => RRepL W H1 ow' H' σ rs vs) (Post.rebase (rep' := fun ow' H' (rs : List R) vs => RRepL W H ow' H' σ rs vs) h1 k1 fun _ _ _ _ _ q => q))) ?_
  rintro vs H2 ⟨ds, S3, ow3, _, k3, r3, p3, h3⟩
  exact h3 (v :: vs) ow3 H2 k3 r3 (.cons (RRep.step k3 p1) (p3.back fun _ z => k1.none z))
theorem snd_nilA : SndAs W cl gl X Wx [] .nil := by
  intro pv ow H S σ Q r h
  exact RA.of pa_nil (h [] ow H Step.refl r .nil)
theorem snd_consA {es : List Expr} {ies : Es} (hs : noStar e = true) (ha : SndE W cl gl X Wx e ia) (hes : SndAs W cl gl X Wx es ies) : SndAs W cl gl X Wx (e :: es) (.cons ia ies) := by
  intro pv ow H S σ Q r h
  refine RA.of (pa_cons pe_RE pa_RA (star_cons hs)) ?_
  simp only [evAs] at h
  refine RE.mono (ha pv ow H S σ _ r (Post.seq h)) ?_
  rintro v H1 ⟨x, S1, ow1, _, k1, r1, p1, h1⟩
  have main : ∀ {x : R} (p1 : RRep W H ow1 H1 σ x v), Post W pv ow H σ Wx (fun ow' H' as vs => ArgVs W ow' H' σ as vs) ((esc x S1).bind fun d S => (evAs cl gl ies S).bind fun as S => .ok (.v d :: as) S) Q → RA X es σ H1 fun xs H2 => Q (v :: xs) H2 := by
    intro x p1 h1
    obtain ⟨d, S2, ow2, k2, r2, p2, h2⟩ := Post.esc r1 k1 p1 h1
    refine RA.mono (hes pv ow2 H1 S2 σ _ r2 (Post.seq (h2.re k2))) ?_
    rintro vs H2 ⟨ds, S3, ow3, _, k3, r3, p3, h3⟩
    exact h3 (v :: vs) ow3 H2 k3 r3 (.cons (Rep.keep k3.keep p2) p3)
  cases x with
  | val d => exact main p1 h1
  | tmp o => exact main p1 h1
  | bor i =>
    simp only at h1
    refine RA.mono (hes pv ow1 H1 S1 σ _ r1 (Post.seq (h1.re k1))) ?_
    rintro vs H2 ⟨ds, S3, ow3, _, k3, r3, p3, h3⟩
    exact h3 (v :: vs) ow3 H2 k3 r3 (.cons p1 p3)

/-! ### displays -/
theorem snd_tup {es : List Expr} {ies : Es} {n : Nat} (h : SndEs W cl gl X Wx es ies) : SndE W cl gl X Wx (.Tuple es n pos) (.tup ies) := by
  intro pv ow H S σ Q r hp
  refine RE.of (pe_tup pa_RA) ?_
  simp only [evE] at hp
  refine RA.mono (h pv ow H S σ _ r (Post.seq hp)) ?_
  rintro vs H1 ⟨ds, S1, ow1, _, k1, r1, p1, h1⟩
  split at h1
  · next hz =>
    refine ⟨by rw [← p1.length]; exact lineOk_ok hz, fun p hn => ?_⟩
    have g := Grow.new (ow := ow1) (o := .tup vs) (t := .fz) hn
    exact h1 (.ref p) _ _ (k1.trans g.step) (r1.grow g) (.tup (.inl ⟨.inl upd_same, if_pos rfl⟩) (p1.keep g.keep))
  · exact False.elim h1
theorem snd_lst {es : List Expr} {ies : Es} (h : SndEs W cl gl X Wx es ies) : SndE W cl gl X Wx (.List es pos) (.lst ies) := by
  intro pv ow H S σ Q r hp
  refine RE.of (pe_lst pa_RA) ?_
  simp only [evE] at hp
  refine RA.mono (h pv ow H S σ _ r (Post.seq hp)) ?_
  rintro vs H1 ⟨ds, S1, ow1, _, k1, r1, p1, h1⟩
  split at h1
  · next hz =>
    refine ⟨by rw [← p1.length]; exact lineOk_ok hz, fun p hn => ?_⟩
    have g := Grow.new (ow := ow1) (o := .lst vs) (t := .tm) hn
    exact h1 (.ref p) _ _ (k1.trans g.step) (r1.grow g) ⟨p, vs, rfl, upd_same, ⟨if_pos rfl, k1.none hn⟩, p1.keep g.keep⟩
  · exact False.elim h1

/-! ### operators -/
theorem gives_of {pv : Nat → Option V} {ow ow1 : Ow} {H H1 : Hp} {S1 : Fr} {σ : L2.St} {r : R} {Q : VK} (k : Step ow H ow1 H1) (rl : Rel W pv ow1 H1 S1 σ) (hb : ∀ i, r ≠ .bor i) (h : PostE W pv ow H σ Wx (.ok r S1) Q) : Gives W ow1 H1 r Q := by
  intro v ow' H' g p
  refine h v ow' H' (k.trans g.step) (rl.grow g) ?_
  have p' : RRep W H1 ow' H' σ r v := by
    cases r with
    | val d => exact p
    | tmp o => exact p
    | bor i => exact absurd rfl (hb i)
  exact RRep.back (fun _ z => k.none z) p'
theorem binD_nobor {op : BOp} {d e : D} {r : R} (h : binD op d e = some r) : ∀ i, r ≠ .bor i := by
  intro i hr
  subst hr
  unfold binD at h
  split at h <;> (try split at h) <;> (try split at h) <;> cases h
theorem snd_bin (G : CxG W M cl gl k X sc Wx) {op : BOp} (ha : SndE W cl gl X Wx a ia) (hb : SndE W cl gl X Wx b ib) : SndE W cl gl X Wx (.BinOp a (bopO op) b pos) (.bin op ia ib) := by
  intro pv ow H S σ Q r h
  simp only [evE] at h
  refine RE.of (pe_op (r := fun x y H Q => ∃ rr, OpR X (binaryOp (bopO op)) rr ∧ rr x y H Q) (fun pins s σ H x y v u Q I rx ry q => let ⟨rr, ho, q⟩ := q; ho pins s σ H x y v u Q I rx ry q) pe_RE pe_RE) ?_
  refine RE.mono (ha pv ow H S σ _ r (Post.seq h)) ?_
  rintro x H1 ⟨rx, S1, ow1, _, k1, r1, p1, h1⟩
  refine RE.mono (hb pv ow1 H1 S1 σ _ r1 (Post.seq (h1.reE k1))) ?_
  rintro y H2 ⟨ry, S2, ow2, _, k2, r2, p2, h2⟩
  split at h2
  · next d e e1 e2 =>
    split at h2
    · next rr e3 =>
      have q1 := reads r2 (RRep.step k2 p1) e1
      have q2 := reads r2 p2 e2
      exact binD_ok G.K e3 q1 q2 (gives_of k2 r2 (binD_nobor e3) h2)
    · exact False.elim h2
  · exact False.elim h2
theorem snd_neg (ha : SndE W cl gl X Wx a ia) : SndE W cl gl X Wx (.UnaryOp .USub a pos) (.neg ia) := by
  intro pv ow H S σ Q r h
  simp only [evE] at h
  refine RE.of (pe_un (r := fun x H Q => ∃ rr, UnR X (unaryOp .USub) rr ∧ rr x H Q) (fun pins s σ H x v Q I rx q => let ⟨rr, ho, q⟩ := q; ho pins s σ H x v Q I rx q) pe_RE) ?_
  refine RE.mono (ha pv ow H S σ _ r (Post.seq h)) ?_
  rintro x H1 ⟨rx, S1, ow1, _, k1, r1, p1, h1⟩
  split at h1
  · next d e1 =>
    split at h1
    · next rr e3 =>
      refine negD_ok e3 (reads r1 p1 e1) (gives_of k1 r1 ?_ h1)
      intro i z
      subst z
      unfold negD at e3
      split at e3 <;> cases e3
    · exact False.elim h1
  · exact False.elim h1
theorem snd_not (ha : SndE W cl gl X Wx a ia) : SndE W cl gl X Wx (.UnaryOp .Not a pos) (.not ia) := by
  intro pv ow H S σ Q r h
  simp only [evE] at h
  refine RE.of (pe_not pe_RE) ?_
  refine RE.mono (ha pv ow H S σ _ r (Post.seq h)) ?_
  rintro x H1 ⟨rx, S1, ow1, _, k1, r1, p1, h1⟩
  split at h1
  · next b e1 =>
    cases (show Rep W ow1 H1 (.bl b) x from reads r1 p1 e1)
    exact ⟨b, rfl, h1 _ ow1 H1 k1 r1 (.bl _)⟩
  · exact False.elim h1

/-! ### comparisons -/
theorem noExc_post {pv : Nat → Option V} {ow : Ow} {H : Hp} {σ : L2.St} {Wx' : WX} {α β : Type} {rep : Ow → Hp → α → β → Prop} {o : Out α} {Q : β → Hp → Prop} (h : Post W pv ow H σ Wx rep (noExc o) Q) : Post W pv ow H σ Wx' rep o Q := by
  cases o with
  | ok a S => exact h
  | exc _ _ _ => exact False.elim h
  | bad => exact False.elim h
theorem looks_of {pins : List (Addr × Obj)} {σ : L2.St} {H : Hp} {s : Shared} {ow : Ow} {d : D} {v : V} {u : Value} (G : CxG W M cl gl k X sc Wx) (I : Inv X pins σ H s) (hd : isDic d = false) (h : Rd1 W ow H d v) (r : RelV v u) : PySem.W.Looks (model X.prog X.w) s.heap (typeOf u) (tyV W d) := by
  have ty := tyX_ok (fun c hc => (G.cls c hc).2) (fun kvs z => by subst z; simp [isDic] at hd) h
  rw [← G.K] at ty
  obtain ⟨P, Z, p, _⟩ := kit_of I r ty
  exact Z.ty _ _ I.kIn p
end
end Ev

/-! EvF: comparisons, truth, calls, fields, built-ins, subscripts. -/
namespace Ev
open PySem PySem.Spec PyProof.Rows L2

section
variable {W : Wd} {M : MC} {cl : Calls} {gl : Str → Option D} {k : Nat} {X : Cx} {sc : Scope} {Wx : WX} {e a b c : Expr} {ia ib ic : E} {pos p1 p2 : Pos}
theorem passF : Passes (L2.CX X.prog X.w) X (fun _ _ _ => False) := fun _ _ _ _ _ _ _ z => by
  obtain ⟨_, _, _, _, _, _, _, _, _, _, _, _, h⟩ := z
  exact h.elim
theorem passF' : Passes (L2.CX X.prog X.w) X.nox (fun _ _ _ => False) := fun _ _ _ _ _ _ _ z => by
  obtain ⟨_, _, _, _, _, _, _, _, _, _, _, _, h⟩ := z
  exact h.elim
theorem insOk_of {ow : Ow} {H : Hp} {d : D} {v : V} (h : Rd1 W ow H d v) : ∀ j fs, d = .ins j fs → j ∈ W.own := by
  rintro j fs rfl
  obtain ⟨_, _, _, _, hm, _⟩ := h
  exact hm
/-- an own == -/
def rOwn (W : Wd) (cl : Calls) (X : Cx) (k : Nat) : R2 := fun x y H Q => ∃ (c : Str) (fs : List (Str × D)) (d : D) (ow : Ow) (g : Addr), Rd1 W ow H (.ins c fs) x ∧ Rd1 W ow H d y ∧ isDic d = false ∧
  PySem.W.findIn W.K (.ref (W.cad c)) "__eq__" = some (some (.ref g)) ∧ PySem.W.isFn W.K (.ref g) = true ∧ PySem.W.notFirst W.K (W.cad c) (tyV W d) = true ∧
  ∃ fd ps, Binds X.K fd ps [] ∧ FnOk X.prog X.w X.K X.mg X.base (L2.CX X.prog X.w) k g fd ps (spOf W cl (c ++ ".__eq__")) ∧
    spOf W cl (c ++ ".__eq__") [x, y] H (fun v H' => ∃ b, v = .bl b ∧ Q v H') (fun _ _ _ => False)
theorem op_own (G : CxG W M cl gl k X sc Wx) : OpR X (compareOp .Eq) (rOwn W cl X k) := by
  intro pins s σ H x y v u Q I rx ry h
  obtain ⟨c, fs, d, ow, g, hx, hy, nd, hs, hf, hn, fd, ps, hb, hF, hsp⟩ := h
  have ly := looks_of G I nd hy ry
  obtain ⟨a, dx, gs, rfl, hm, ha, hdx, _⟩ := hx
  obtain rfl : v = Value.ref a := rx
  obtain ⟨mA, J, _⟩ := ins_get I.hok ha
  obtain ⟨od, J, _⟩ := J.look
  obtain ⟨m, hFr⟩ := I.fr
  show wpAny (model X.prog X.w) X.A (richCompare .Eq (.ref a) u) (EP X pins σ Q) X.xe s
  refine PySem.W.cmp_K (op := .Eq) (K := X.K) (tb := tyV W d) (by have := G.room.un; omega) hFr I.ok.mod.kin J ly (by rw [G.K]; exact hn) (by rw [G.K]; exact hs) (by rw [G.K]; exact hf) ?_
  refine thn (run_fn (dvs := []) (ds := []) (vs := [.ref a, y]) hF (G.room.mono (by omega)) hb .nil passF I (.cons rfl (.cons ry .nil)) hsp) ?_
  rintro r s' ⟨z, H', I', rz, b, rfl, q⟩
  cases rz
  exact ⟨.bl b, H', I', rfl, q⟩
/-- a comparison of two results -/
theorem cmpR_ok (G : CxG W M cl gl k X sc Wx) {op : COp} {pv : Nat → Option V} {ow0 ow1 ow : Ow} {H0 H1 H : Hp} {S : Fr} {σ : L2.St} {x y : R} {vx vy : V} {Q : Bool → Hp → Prop} (k01 : Step ow0 H0 ow1 H1) (k12 : Step ow1 H1 ow H)
    (r : Rel W pv ow H S σ) (px : RRep W H0 ow1 H1 σ x vx) (py : RRep W H1 ow H σ y vy) {Q' : VK} (hQ : ∀ b H', Q b H' → Q' (.bl b) H') (h : PostB W pv ow0 H0 σ Wx (cmpR cl op x y S) Q) :
    ∃ rr, OpR X (compareOp (copO op)) rr ∧ rr vx vy H Q' := by
  unfold cmpR at h
  split at h
  · next e1 =>
    obtain ⟨e, S2, ow2, k2, kp2, r2, q2, h2⟩ := Post.esc2 r k12 py h
    have px2 := RRep.step k2 px
    obtain ⟨d, S3, ow3, k3, kp3, r3, q3, h3⟩ := Post.esc2 r2 (k01.trans k2) px2 h2
    split at h3
    · exact False.elim h3
    · next hd =>
      have hd : isDic e = false := by simpa using hd
      have he := Rep.keep kp3 q2
      split at h3
      · next c fs =>
        have h4 := Post.reE (noExc_post (Wx' := fun _ _ _ _ => False) (Post.seq (rep1 := fun ow' H' r v => RRep W H0 ow' H' σ r v) h3)) k3
        have sp := call_sp r3 (.cons (a := .v (.ins c fs)) q3 (.cons (a := .v e) he .nil)) h4
        rcases G.eq c (insOk_of q3.rd _ _ rfl) with hb | ⟨g, hg, hf, ⟨fd, ps, kp, hb, hF⟩, hn⟩
        · obtain ⟨_, cs, _, _, _, z⟩ := sp
          rw [hb cs] at z
          exact False.elim z
        · refine ⟨_, op_own G, c, fs, e, ow3, g, q3.rd, he.rd, hd, hg, hf, hn e hd (insOk_of he.rd), fd, ps, hb, hF, ?_⟩
          obtain ⟨owc, cs, z1, z2, z3, z4⟩ := sp
          refine ⟨owc, cs, z1, z2, z3, ?_⟩
          revert z4
          unfold PostF
          split
          · intro z4 v ow' H' a1 a2 a3
            obtain ⟨rr, S5, ow5, e5, k5, r5, p5, h5⟩ := z4 v ow' H' a1 a2 a3
            clear e5
            split at h5
            · next b => cases (show Rep W ow5 H' (.bl b) v from p5); exact ⟨b, rfl, hQ _ _ (h5 b ow5 H' k5 r5 rfl)⟩
            · exact False.elim h5
          · exact fun z4 => z4
          · exact fun z4 => z4
      · exact False.elim h3
  · next op' d _ e1 =>
    split at h
    · next e2 hy =>
      split at h
      · next b hb => exact cmpD_ok G.K G.units G.di hb (reads r (RRep.step k12 px) e1) (reads r py hy) (hQ _ _ (h b ow H (k01.trans k12) r rfl))
      · exact False.elim h
    · exact False.elim h
  · exact False.elim h

theorem op_best {f : Value → Value → Sem Value} : OpR X f (fun x y H Q => ∃ rr, OpR X f rr ∧ rr x y H Q) := fun pins s σ H x y v u Q I rx ry q => let ⟨_, ho, q⟩ := q; ho pins s σ H x y v u Q I rx ry q
theorem un_best {f : Value → Sem Value} : UnR X f (fun x H Q => ∃ rr, UnR X f rr ∧ rr x H Q) := fun pins s σ H x v Q I rx q => let ⟨_, ho, q⟩ := q; ho pins s σ H x v Q I rx q
theorem call_best {f : Value} : CallR X f (fun x H Q => ∃ rr, CallR X f rr ∧ rr x H Q) := fun pins s σ H x v Q I rx q => let ⟨_, ho, q⟩ := q; ho pins s σ H x v Q I rx q
theorem ix_best : IxR X (fun x y H Q => ∃ rr, IxR X rr ∧ rr x y H Q) := fun va sl pins s σ H x y v u Q I rx ry q hs => let ⟨_, ho, q⟩ := q; ho va sl pins s σ H x y v u Q I rx ry q hs
theorem sl_best : SlR X (fun x lo hi H Q => ∃ rr, SlR X rr ∧ rr x lo hi H Q) := fun pins s σ H x v vl vu lo hi sl Q I rx hs pl pu q => let ⟨_, ho, q⟩ := q; ho pins s σ H x v vl vu lo hi sl Q I rx hs pl pu q
theorem tru_best : TruR X (fun x H Q => ∃ rr, TruR X rr ∧ rr x H Q) := fun pins s σ H x v Q I rx q => let ⟨_, ho, q⟩ := q; ho pins s σ H x v Q I rx q
theorem boolV {pv : Nat → Option V} {ow : Ow} {H : Hp} {σ : L2.St} {o : Out Bool} {Q : VK} (h : PostE W pv ow H σ Wx (o.bind fun b S => .ok (.val (.bl b)) S) Q) : PostB W pv ow H σ Wx o (fun b H' => Q (.bl b) H') := by
  cases o with
  | ok b S => exact fun b' ow' H' k r e => h (.bl b') ow' H' k r (by subst e; exact .bl _)
  | exc c fs S => exact h
  | bad => exact h
theorem snd_cmp (G : CxG W M cl gl k X sc Wx) {op : COp} (hm : behindInMarks (copO op) b = false) (ha : SndE W cl gl X Wx a ia) (hb : SndE W cl gl X Wx b ib) : SndE W cl gl X Wx (.Compare a [copO op] [b] pos) (.cmp op ia ib) := by
  intro pv ow H S σ Q r h
  simp only [evE] at h
  refine RE.of (pe_cmpR op_best pe_RE pe_RE hm) ?_
  refine RE.mono (ha pv ow H S σ _ r (Post.seq h)) ?_
  rintro x H1 ⟨rx, S1, ow1, -, k1, r1, p1, h1⟩
  refine RE.mono (hb pv ow1 H1 S1 σ _ r1 (Post.seq2 h1 k1)) ?_
  rintro y H2 ⟨ry, S2, ow2, -, k2, r2, p2, h2⟩
  exact cmpR_ok G k1 k2 r2 p1 p2 (fun _ _ z => z) (boolV h2)
theorem snd_cmpT (G : CxG W M cl gl k X sc Wx) {op : COp} (hm : behindInMarks (copO op) b = false) (ha : SndE W cl gl X Wx a ia) (hb : SndE W cl gl X Wx b ib) : SndT W cl gl X Wx (.Compare a [copO op] [b] pos) (.cmp op ia ib) := by
  intro pv ow H S σ Q r h
  simp only [evT] at h
  refine RT.of (pt_cmpR op_best pe_RE pe_RE hm) ?_
  refine RE.mono (ha pv ow H S σ _ r (Post.seq h)) ?_
  rintro x H1 ⟨rx, S1, ow1, -, k1, r1, p1, h1⟩
  refine RE.mono (hb pv ow1 H1 S1 σ _ r1 (Post.seq2 h1 k1)) ?_
  rintro y H2 ⟨ry, S2, ow2, -, k2, r2, p2, h2⟩
  exact cmpR_ok G k1 k2 r2 p1 p2 (fun b _ z => ⟨b, rfl, z⟩) h2
theorem intCmp_ok {op : COp} {i j : Int} {b : Bool} {H : Hp} {Q : VK} (h : intCmp op i j = some b) (q : Q (.bl b) H) : ∃ rr, OpR X (compareOp (copO op)) rr ∧ rr (.int i) (.int j) H Q := by
  cases op <;> simp [intCmp] at h <;> subst h
  · exact ⟨_, op_lt, _, _, rfl, rfl, q⟩
  · exact ⟨_, op_le, _, _, rfl, rfl, q⟩
  · exact ⟨_, op_gt, _, _, rfl, rfl, q⟩
  · exact ⟨_, op_ge, _, _, rfl, rfl, q⟩
theorem snd_chain {p q : COp} (hm : lastMarks [copO p, copO q] [b, c] = false) (ha : SndE W cl gl X Wx a ia) (hb : SndE W cl gl X Wx b ib) (hc : SndE W cl gl X Wx c ic) : SndE W cl gl X Wx (.Compare a [copO p, copO q] [b, c] pos) (.chain p q ia ib ic) := by
  intro pv ow H S σ Q r h
  simp only [evE] at h
  refine RE.of (pe_chain op_best op_best pe_RE pe_RE pe_RE hm) ?_
  refine RE.mono (ha pv ow H S σ _ r (Post.seq h)) ?_
  rintro x H1 ⟨rx, S1, ow1, -, k1, r1, p1, h1⟩
  refine RE.mono (hb pv ow1 H1 S1 σ _ r1 (Post.seq2 h1 k1)) ?_
  rintro y H2 ⟨ry, S2, ow2, -, k2, r2, p2, h2⟩
  split at h2
  · next i j =>
    cases (show Rep W ow1 H1 (.int i) x from p1)
    cases (show Rep W ow2 H2 (.int j) y from p2)
    split at h2
    · next e =>
      refine intCmp_ok e ⟨true, rfl, ?_⟩
      rw [if_pos rfl]
      refine RE.mono (hc pv ow2 H2 S2 σ _ r2 (Post.seq2 h2 (k1.trans k2))) ?_
      rintro z H3 ⟨rz, S3, ow3, -, k3, r3, p3, h3⟩
      split at h3
      · next l =>
        cases (show Rep W ow3 H3 (.int l) z from p3)
        split at h3
        · next t e2 => exact intCmp_ok e2 (h3 (.bl t) ow3 H3 ((k1.trans k2).trans k3) r3 (.bl t))
        · exact False.elim h3
      · exact False.elim h3
    · next e =>
      refine intCmp_ok e ⟨false, rfl, ?_⟩
      rw [if_neg (by simp)]
      exact h2 (.bl false) ow2 H2 (k1.trans k2) r2 (.bl false)
    · exact False.elim h2
  · exact False.elim h2
theorem snd_chainT {p q : COp} (hm : lastMarks [copO p, copO q] [b, c] = false) (ha : SndE W cl gl X Wx a ia) (hb : SndE W cl gl X Wx b ib) (hc : SndE W cl gl X Wx c ic) : SndT W cl gl X Wx (.Compare a [copO p, copO q] [b, c] pos) (.chain p q ia ib ic) := by
  intro pv ow H S σ Q r h
  simp only [evT] at h
  refine RT.of (pt_chain op_best op_best pe_RE pe_RE pe_RE hm) ?_
  refine RE.mono (ha pv ow H S σ _ r (Post.seq h)) ?_
  rintro x H1 ⟨rx, S1, ow1, -, k1, r1, p1, h1⟩
  refine RE.mono (hb pv ow1 H1 S1 σ _ r1 (Post.seq2 h1 k1)) ?_
  rintro y H2 ⟨ry, S2, ow2, -, k2, r2, p2, h2⟩
  split at h2
  · next i j =>
    cases (show Rep W ow1 H1 (.int i) x from p1)
    cases (show Rep W ow2 H2 (.int j) y from p2)
    split at h2
    · next e =>
      refine intCmp_ok e ⟨true, rfl, ?_⟩
      rw [if_pos rfl]
      refine RE.mono (hc pv ow2 H2 S2 σ _ r2 (Post.seq2 h2 (k1.trans k2))) ?_
      rintro z H3 ⟨rz, S3, ow3, -, k3, r3, p3, h3⟩
      split at h3
      · next l =>
        cases (show Rep W ow3 H3 (.int l) z from p3)
        split at h3
        · next t e2 => exact intCmp_ok e2 ⟨t, rfl, h3 t ow3 H3 ((k1.trans k2).trans k3) r3 rfl⟩
        · exact False.elim h3
      · exact False.elim h3
    · next e =>
      refine intCmp_ok e ⟨false, rfl, ?_⟩
      rw [if_neg (by simp)]
      exact ⟨false, rfl, h2 false ow2 H2 (k1.trans k2) r2 rfl⟩
    · exact False.elim h2
  · exact False.elim h2

/-! ### tests -/
theorem snd_tru (G : CxG W M cl gl k X sc Wx) (hp : plainT a = true) (ha : SndE W cl gl X Wx a ia) : SndT W cl gl X Wx a (.e ia) := by
  intro pv ow H S σ Q r h pins s I
  simp only [evT] at h
  refine isTrue_plain (thn (ha pv ow H S σ _ r (Post.seq h) pins s I) ?_) (isTrue_of hp _)
  rintro v s1 ⟨x, H1, I1, rx, rr, S1, ow1, _, k1, r1, p1, h1⟩
  split at h1
  · next d e1 =>
    split at h1
    · next ht => exact tru_best pins s1 σ H1 x v Q I1 rx (truD_ok G.K G.dt ht (reads r1 p1 e1) (h1 _ ow1 H1 k1 r1 rfl))
    · exact False.elim h1
  · exact False.elim h1
theorem snd_notT {it : T} (ha : SndT W cl gl X Wx a it) : SndT W cl gl X Wx (.UnaryOp .Not a pos) (.not it) := by
  intro pv ow H S σ Q r h
  simp only [evT] at h
  refine RT.of (pt_not pt_RT) ?_
  refine RT.mono (ha pv ow H S σ _ r (Post.seq h)) ?_
  rintro b H1 ⟨x, S1, ow1, _, k1, r1, p1, h1⟩
  subst p1
  exact h1 _ ow1 H1 k1 r1 rfl
/-- and, or as tests -/
def SndW (W : Wd) (cl : Calls) (gl : Str → Option D) (X : Cx) (Wx : WX) (e : Expr) (ev : Fr → Out Bool) : Prop := ∀ (pv : Nat → Option V) (ow : Ow) (H : Hp) (S : Fr) (σ : L2.St) (Q : Bool → Hp → Prop), Rel W pv ow H S σ → PostB W pv ow H σ Wx (ev S) Q →
  ∀ (whole : Sem Value) (pins : List (Addr × Obj)) (s : Shared), Inv X pins σ H s → wpAny (model X.prog X.w) X.A (isTrue e X.env whole) (TP X pins σ Q) X.xe s
theorem pw_RW : PW X e (fun σ H Q => ∀ (whole : Sem Value) (pins : List (Addr × Obj)) (s : Shared), Inv X pins σ H s → wpAny (model X.prog X.w) X.A (isTrue e X.env whole) (TP X pins σ Q) X.xe s) := ⟨fun whole pins s σ H Q I h => h whole pins s I⟩
theorem snd_and1 {it : T} (ha : SndT W cl gl X Wx a it) : SndW W cl gl X Wx (.BoolOp .And [a] pos) (evAndT cl gl (.cons it .nil)) := by
  intro pv ow H S σ Q r h whole pins s I
  refine (pw_and1 pt_RT).run whole pins s σ H Q I (RT.mono (ha pv ow H S σ _ r (Post.seq (by simpa only [evAndT] using h))) ?_)
  rintro b H1 ⟨x, S1, ow1, _, k1, r1, p1, h1⟩
  subst p1
  cases x with
  | false => exact h1 false ow1 H1 k1 r1 rfl
  | true => exact h1 true ow1 H1 k1 r1 rfl
theorem snd_or1 {it : T} (ha : SndT W cl gl X Wx a it) : SndW W cl gl X Wx (.BoolOp .Or [a] pos) (evOrT cl gl (.cons it .nil)) := by
  intro pv ow H S σ Q r h whole pins s I
  refine (pw_or1 pt_RT).run whole pins s σ H Q I (RT.mono (ha pv ow H S σ _ r (Post.seq (by simpa only [evOrT] using h))) ?_)
  rintro b H1 ⟨x, S1, ow1, _, k1, r1, p1, h1⟩
  subst p1
  cases x with
  | false => exact h1 false ow1 H1 k1 r1 rfl
  | true => exact h1 true ow1 H1 k1 r1 rfl
theorem snd_andT {it : T} {ts : Ts} {rest : List Expr} (ha : SndT W cl gl X Wx a it) (hb : SndW W cl gl X Wx (.BoolOp .And (b :: rest) pos) (evAndT cl gl ts)) : SndW W cl gl X Wx (.BoolOp .And (a :: b :: rest) pos) (evAndT cl gl (.cons it ts)) := by
  intro pv ow H S σ Q r h whole pins s I
  simp only [evAndT] at h
  refine (pw_and pt_RT pw_RW).run whole pins s σ H Q I (RT.mono (ha pv ow H S σ _ r (Post.seq h)) ?_)
  rintro c H1 ⟨x, S1, ow1, _, k1, r1, p1, h1⟩
  subst p1
  cases x with
  | false => exact h1 false ow1 H1 k1 r1 rfl
  | true => exact hb pv ow1 H1 S1 σ Q r1 (h1.re k1)
theorem snd_orT {it : T} {ts : Ts} {rest : List Expr} (ha : SndT W cl gl X Wx a it) (hb : SndW W cl gl X Wx (.BoolOp .Or (b :: rest) pos) (evOrT cl gl ts)) : SndW W cl gl X Wx (.BoolOp .Or (a :: b :: rest) pos) (evOrT cl gl (.cons it ts)) := by
  intro pv ow H S σ Q r h whole pins s I
  simp only [evOrT] at h
  refine (pw_or pt_RT pw_RW).run whole pins s σ H Q I (RT.mono (ha pv ow H S σ _ r (Post.seq h)) ?_)
  rintro c H1 ⟨x, S1, ow1, _, k1, r1, p1, h1⟩
  subst p1
  cases x with
  | true => exact h1 true ow1 H1 k1 r1 rfl
  | false => exact hb pv ow1 H1 S1 σ Q r1 (h1.re k1)
theorem SndW.t {ev : Fr → Out Bool} (h : SndW W cl gl X Wx e ev) {it : T} (hi : ∀ S, evT cl gl it S = ev S) : SndT W cl gl X Wx e it := fun pv ow H S σ Q r hp pins s I => h pv ow H S σ Q r (by rw [← hi]; exact hp) _ pins s I

/-! ### and, or, if .. else as values -/
def SndV (W : Wd) (X : Cx) (Wx : WX) (e : Expr) (ev : Fr → Out R) : Prop := ∀ (pv : Nat → Option V) (ow : Ow) (H : Hp) (S : Fr) (σ : L2.St) (Q : VK), Rel W pv ow H S σ → PostE W pv ow H σ Wx (ev S) Q → RE X e σ H Q
theorem snd_one {op : BoolOp} (ha : SndE W cl gl X Wx a ia) : SndV W X Wx (.BoolOp op [a] pos) (evE cl gl ia) := fun pv ow H S σ Q r h => RE.of (pe_one pe_RE) (ha pv ow H S σ Q r h)
theorem snd_and {i2 : E} {es : Es} {rest : List Expr} (ha : SndE W cl gl X Wx a ia) (hb : SndV W X Wx (.BoolOp .And (b :: rest) pos) (evAnd cl gl (.cons i2 es))) : SndV W X Wx (.BoolOp .And (a :: b :: rest) pos) (evAnd cl gl (.cons ia (.cons i2 es))) := by
  intro pv ow H S σ Q r h
  simp only [evAnd] at h
  refine RE.of (pe_and pe_RE pe_RE) (RE.mono (ha pv ow H S σ _ r (Post.seq h)) ?_)
  rintro x H1 ⟨rx, S1, ow1, -, k1, r1, p1, h1⟩
  split at h1
  · next e1 =>
    cases (show Rep W ow1 H1 (.bl true) x from reads r1 p1 e1)
    refine ⟨true, rfl, ?_⟩
    rw [if_pos rfl]
    exact hb pv ow1 H1 S1 σ Q r1 (by simpa only [evAnd] using h1.reE k1)
  · next e1 =>
    cases (show Rep W ow1 H1 (.bl false) x from reads r1 p1 e1)
    refine ⟨false, rfl, ?_⟩
    rw [if_neg (by simp)]
    exact h1 _ ow1 H1 k1 r1 (.bl false)
  · exact False.elim h1
theorem snd_or {i2 : E} {es : Es} {rest : List Expr} (ha : SndE W cl gl X Wx a ia) (hb : SndV W X Wx (.BoolOp .Or (b :: rest) pos) (evOr cl gl (.cons i2 es))) : SndV W X Wx (.BoolOp .Or (a :: b :: rest) pos) (evOr cl gl (.cons ia (.cons i2 es))) := by
  intro pv ow H S σ Q r h
  simp only [evOr] at h
  refine RE.of (pe_or pe_RE pe_RE) (RE.mono (ha pv ow H S σ _ r (Post.seq h)) ?_)
  rintro x H1 ⟨rx, S1, ow1, -, k1, r1, p1, h1⟩
  split at h1
  · next e1 =>
    cases (show Rep W ow1 H1 (.bl false) x from reads r1 p1 e1)
    refine ⟨false, rfl, ?_⟩
    rw [if_neg (by simp)]
    exact hb pv ow1 H1 S1 σ Q r1 (by simpa only [evOr] using h1.reE k1)
  · next e1 =>
    cases (show Rep W ow1 H1 (.bl true) x from reads r1 p1 e1)
    refine ⟨true, rfl, ?_⟩
    rw [if_pos rfl]
    exact h1 _ ow1 H1 k1 r1 (.bl true)
  · exact False.elim h1
theorem snd_ite {it : T} (hc : SndT W cl gl X Wx c it) (ha : SndE W cl gl X Wx a ia) (hb : SndE W cl gl X Wx b ib) : SndE W cl gl X Wx (.IfExp c a b pos) (.ite it ia ib) := by
  intro pv ow H S σ Q r h
  simp only [evE] at h
  refine RE.of (pe_ifExp pt_RT pe_RE pe_RE) (RT.mono (hc pv ow H S σ _ r (Post.seq h)) ?_)
  rintro x H1 ⟨rx, S1, ow1, -, k1, r1, p1, h1⟩
  subst p1
  cases rx with
  | true => rw [if_pos rfl] at h1 ⊢; exact ha pv ow1 H1 S1 σ Q r1 (h1.reE k1)
  | false => rw [if_neg (by simp)] at h1 ⊢; exact hb pv ow1 H1 S1 σ Q r1 (h1.reE k1)

/-! ### built-ins, isinstance, subscripts, fields -/
theorem rdL_of {pv : Nat → Option V} {H0 : Hp} {ow : Ow} {H : Hp} {S : Fr} {σ : L2.St} (r : Rel W pv ow H S σ) : ∀ {rs : List R} {vs : List V} {ds : List D}, RRepL W H0 ow H σ rs vs → rs.mapM (cont S) = some ds → RdL W ow H ds vs
  | [], _, _, h, e => by cases h; simp at e; subst e; exact .nil
  | x :: rs, _, _, h, e => by
    cases h with
    | cons a l =>
      simp only [List.mapM_cons, bind, Option.bind_eq_some_iff, pure, Option.some.injEq] at e
      obtain ⟨d, e1, ds, e2, rfl⟩ := e
      exact .cons (reads r a e1) (rdL_of r l e2)
theorem biD_nobor {bi : BI} {ds : List D} {r : R} (h : biD bi ds = some r) : ∀ i, r ≠ .bor i := by
  intro i hr
  subst hr
  unfold biD at h
  split at h <;> (try split at h) <;> simp at h <;> (try (obtain ⟨_, _, h⟩ := h; cases h))
theorem snd_bi (G : CxG W M cl gl k X sc Wx) {bi : BI} {e0 : Expr} {es : List Expr} {ies : Es} (hg : Gl X (biN bi)) (hs : (e0 :: es).all noStar = true) (ha : SndRs W cl gl X Wx (e0 :: es) ies) : SndE W cl gl X Wx (.Call (.Name (biN bi) p1) (e0 :: es) [] pos) (.bi bi ies) := by
  intro pv ow H S σ Q r h
  simp only [evE] at h
  simp only [List.all_cons, Bool.and_eq_true] at hs
  have hm : X.mg (biN bi) = none := G.free _ (by cases bi <;> decide)
  have key : ∀ (σ : L2.St) (H : Hp) (Q : VK), RA X (e0 :: es) σ H (fun vs H1 => ∃ rr, CallR X (biV bi) rr ∧ rr vs H1 Q) → RE X (.Call (.Name (biN bi) p1) (e0 :: es) [] pos) σ H Q := by
    intro σ H Q q
    cases bi with
    | abs => exact RE.of (pe_callB (x := "abs") call_best hg hm (by decide +kernel) pa_RA (he := star_cons hs.1) (hpl := star_any hs.2)) q
    | len => exact RE.of (pe_callB (x := "len") call_best hg hm (by decide +kernel) pa_RA (he := star_cons hs.1) (hpl := star_any hs.2)) q
    | max => exact RE.of (pe_callB (x := "max") call_best hg hm (by decide +kernel) pa_RA (he := star_cons hs.1) (hpl := star_any hs.2)) q
    | min => exact RE.of (pe_callB (x := "min") call_best hg hm (by decide +kernel) pa_RA (he := star_cons hs.1) (hpl := star_any hs.2)) q
    | sum => exact RE.of (pe_callB (x := "sum") call_best hg hm (by decide +kernel) pa_RA (he := star_cons hs.1) (hpl := star_any hs.2)) q
    | sorted => exact RE.of (pe_callB (x := "sorted") call_best hg hm (by decide +kernel) pa_RA (he := star_cons hs.1) (hpl := star_any hs.2)) q
    | int => exact RE.of (pe_callTy (x := "int") call_best hg hm (by decide +kernel) pa_RA (he := star_cons hs.1) (hpl := star_any hs.2)) q
    | list => exact RE.of (pe_callTy (x := "list") call_best hg hm (by decide +kernel) pa_RA (he := star_cons hs.1) (hpl := star_any hs.2)) q
    | tuple => exact RE.of (pe_callTy (x := "tuple") call_best hg hm (by decide +kernel) pa_RA (he := star_cons hs.1) (hpl := star_any hs.2)) q
    | str => exact RE.of (pe_callTy (x := "str") call_best hg hm (by decide +kernel) pa_RA (he := star_cons hs.1) (hpl := star_any hs.2)) q
  refine key σ H Q (RA.mono (ha pv ow H S σ _ r (Post.seq h)) ?_)
  rintro vs H1 ⟨rs, S1, ow1, _, k1, r1, p1, h1⟩
  split at h1
  · next ds e1 =>
    split at h1
    · next rr e3 => exact biD_ok G.K G.calm (by have := G.room.un; omega) G.dl e3 (rdL_of r1 p1 e1) (gives_of k1 r1 (biD_nobor e3) h1)
    · exact False.elim h1
  · exact False.elim h1
theorem minNR_inv {ds : List D} {d : D} (h : minNR ds = some d) : (ds = [.lst []] ∧ d = .non) ∨ ∃ y ys, ds = [.lst (y :: ys)] ∧ minLD (y :: ys) = some d := by
  unfold minNR at h
  split at h
  · cases h; exact .inl ⟨rfl, rfl⟩
  · exact .inr ⟨_, _, rfl, h⟩
  · cases h
theorem snd_minN (G : CxG W M cl gl k X sc Wx) {e0 : Expr} {ies : Es} {jj : Nat} {cp kp : Pos} (hg : Gl X "min") (hs : noStar e0 = true) (ha : SndRs W cl gl X Wx [e0] ies) : SndE W cl gl X Wx (.Call (.Name "min" p1) [e0] [⟨some (Str.ofString "default"), .Constant .none jj cp, kp⟩] pos) (.minN ies) := by
  intro pv ow H S σ Q r h
  simp only [evE] at h
  refine RE.of (pe_callBK (x := "min") (ks := [Str.ofString "default"]) (cr_minN G.calm (by have := G.room.un; omega)) hg (G.free _ (by decide)) (by decide +kernel) pa_RA (pk_cons pe_RE pk_nil) (he := by rw [star_cons hs]; rfl) (hpl := by rw [star_cons hs]; rfl)) ?_
  refine RA.mono (ha pv ow H S σ _ r (Post.seq h)) ?_
  rintro vs H1 ⟨rs, S1, ow1, _, k1, r1, p1, h1⟩
  refine RE.of pe_non ?_
  show rMinN X.K vs [.non] H1 Q
  refine ⟨rfl, ?_⟩
  split at h1
  · next ds e1 =>
    split at h1
    · next d e3 =>
      have rd := rdL_of r1 p1 e1
      have g := gives_of (r := .val d) k1 r1 (by intro i z; cases z) h1
      rcases minNR_inv e3 with ⟨rfl, rfl⟩ | ⟨y, ys, rfl, e4⟩
      · obtain ⟨v, rfl, a, us, rfl, ha', la⟩ := rd.one
        cases la
        exact ⟨a, [], rfl, SqL.of ha', .inl ⟨rfl, g.same .non⟩⟩
      · obtain ⟨x, xs, e5, hz, rfl⟩ := minLD_inv e4
        injection e5 with e6 e7
        subst e6 e7
        obtain ⟨ps, f1, f2, f3⟩ := cmpAll_inv hz
        obtain ⟨v, rfl, a, us, rfl, ha', la⟩ := rd.one
        refine ⟨a, us, rfl, SqL.of ha', .inr ⟨y, ys, ps, f1, G.K ▸ repDps la f1, f2, f3, fun u hu1 => ?_⟩⟩
        obtain ⟨u', hu2, ru⟩ := la.get leastAt_ok
        rw [hu1] at hu2
        cases hu2
        exact g.same ru
    · exact False.elim h1
  · exact False.elim h1
theorem snd_sub (G : CxG W M cl gl k X sc Wx) (hb' : plainS b = true) (ha : SndE W cl gl X Wx a ia) (hb : SndE W cl gl X Wx b ib) : SndE W cl gl X Wx (.Subscript a b pos) (.sub ia ib) := by
  intro pv ow H S σ Q r h
  simp only [evE] at h
  refine RE.of (pe_ix ix_best pe_RE pe_RE (plain_ix hb')) ?_
  refine RE.mono (ha pv ow H S σ _ r (Post.seq h)) ?_
  rintro x H1 ⟨rx, S1, ow1, -, k1, r1, p1, h1⟩
  refine RE.mono (hb pv ow1 H1 S1 σ _ r1 (Post.seq2 h1 k1)) ?_
  rintro y H2 ⟨ry, S2, ow2, -, k2, r2, p2, h2⟩
  split at h2
  · next d e e1 e2 =>
    split at h2
    · next rr e3 => exact subD_ok G.K G.dg e3 (reads r2 (RRep.step k2 p1) e1) (reads r2 p2 e2) fun v rep => h2 v ow2 H2 (k1.trans k2) r2 rep
    · exact False.elim h2
  · exact False.elim h2
theorem snd_fld (G : CxG W M cl gl k X sc Wx) {c f : Str} (hq : (c, f) ∈ M.flds) (hb : attrB a = true) (ha : SndE W cl gl X Wx a ia) : SndE W cl gl X Wx (.Attribute a f pos) (.fld c ia f) := by
  intro pv ow H S σ Q r h
  simp only [evE] at h
  obtain ⟨hm, hn⟩ := G.fld _ hq
  refine RE.of (pe_fld pe_RE (attr_base hb)) ?_
  refine RE.mono (ha pv ow H S σ _ r (Post.seq h)) ?_
  rintro x H1 ⟨rx, S1, ow1, -, k1, r1, p1, h1⟩
  split at h1
  · next c' fs e1 =>
    split at h1
    · next ec =>
      subst ec
      split at h1
      · next d e2 =>
        obtain ⟨ad, dx, gs, rfl, _, g1, _, g2⟩ := reads r1 p1 e1
        obtain ⟨u, e3, rep⟩ := g2.lookup e2
        exact ⟨ad, _, dx, gs, u, rfl, g1, by rw [G.K]; exact (G.cls _ hm).2.cl, by rw [G.K]; exact hn, e3, h1 u ow1 H1 k1 r1 rep⟩
      · exact False.elim h1
    · exact False.elim h1
  · exact False.elim h1
theorem snd_prop (G : CxG W M cl gl k X sc Wx) {c f : Str} (hq : (c, f) ∈ M.props) (hb : attrB a = true) (ha : SndE W cl gl X Wx a ia) : SndE W cl gl X Wx (.Attribute a f pos) (.prop c f ia) := by
  intro pv ow H S σ Q r h
  simp only [evE] at h
  obtain ⟨hm, p, g, hp, fd, ps, kp, hbd, hF⟩ := G.prop _ hq
  refine RE.of (pe_prop (X := X) (C := W.cad c) pe_RE (by rw [G.K]; exact (G.cls _ hm).2.cl) (by rw [G.K]; exact hp) hF (G.room.mono (by omega)) hbd .nil passF' (attr_base hb)) ?_
  refine RE.mono (ha pv ow H S σ _ r (Post.seq h)) ?_
  rintro x H1 ⟨rx, S1, ow1, -, k1, r1, p1, h1⟩
  obtain ⟨d, S2, ow2, k2, r2, q2, h2⟩ := Post.esc r1 k1 p1 h1
  split at h2
  · next c' fs =>
    split at h2
    · next ec =>
      subst ec
      have h3 := Post.reE (noExc_post (Wx' := fun _ _ _ _ => False) h2) k2
      have sp := call_sp r2 (.cons (a := .v (.ins c' fs)) q2 .nil) h3
      obtain ⟨ad, dx, gs, rfl, _, g1, _, g2⟩ := q2.rd
      exact ⟨ad, dx, gs, rfl, g1, sp⟩
    · exact False.elim h2
  · exact False.elim h2
end
end Ev

/-! EvG: what loops walk. -/
namespace Ev
open PySem PySem.Spec PyProof.Rows L2

theorem enum_new1 {v : Value} {o : Obj} {H : Heap → Prop} (B : Begins v o H) :
    Meets (Builtin.«enumerate.__new__» ⟨[.type "enumerate", v], []⟩) (fun _ R s => H s.heap ∧ R (.ok (.ret (.ref (s.heap.push o).objs.size))) { s with heap := (s.heap.push o).push { cls := .type "enumerate", data := .fields #[.none, .bool false, .ref s.heap.objs.size, rawInt 0, .none, .none] } }) :=
  .of_wp fun prog w A R s h => by
    obtain ⟨hp, g, d, tk, os⟩ := s
    obtain ⟨h1, h⟩ := h
    have hsub := sub_enumerate
    have begin_ : ∀ {A' : Around} {E : Value → Shared → Prop} {Q : Value → Shared → Prop}, Q (.ref hp.objs.size) ⟨hp.push o, g, d, tk, os⟩ → wpAny (model prog w) A' (pyIter v) Q E ⟨hp, g, d, tk, os⟩ := fun q => B.iter prog w _ _ _ _ h1 q
    wp_walk using begin_
    refine wpAny_stack_any fun _ => (wpAny_pure ?_)
    split
    · rename_i c _ _ _ _ _
      cases (c == Value.type "enumerate") <;> (wp_walk using begin_; exact ⟨_, rfl, h⟩)
    · (wp_walk using begin_; exact ⟨_, rfl, h⟩)
theorem enum_call1 {prog : Program} {w : World} {A : Around} {E : Value → Shared → Prop} {s : Shared} {v : Value} {o : Obj} {H : Heap → Prop} {Q : Value → Shared → Prop} (B : Begins v o H) (h1 : H s.heap)
    (h : ∀ h', IsEnum h' (s.heap.objs.size + 1) s.heap.objs.size 0 .none → h'.get? s.heap.objs.size = some o → h'.objs.size = s.heap.objs.size + 2 → (∀ b o, s.heap.get? b = some o → h'.get? b = some o) → Q (.ref (s.heap.objs.size + 1)) { s with heap := h' }) :
    wpAny (model prog w) A (call (.type "enumerate") [v]) Q E s := by
  refine callType_new F.called_enumerate (by decide) (F.typeCall_enumerate_1 _) (F.newCall_enumerate_1 _) (fun ob => F.args_object_init_2 ob _) F.entry_enumerate_new (enum_new1 B) ⟨h1, ?_⟩
  have hz : (s.heap.push o).objs.size = s.heap.objs.size + 1 := Heap.size_push ..
  show _ ∧ _
  rw [hz]
  have he := Heap.get?_push_size (s.heap.push o) (o := { cls := .type "enumerate", data := .fields #[.none, .bool false, .ref s.heap.objs.size, rawInt 0, .none, .none] }) rfl
  rw [hz] at he
  exact ⟨⟨_, he, rfl⟩, h _ he (Heap.get?_push_of_some _ (Heap.get?_push_size _ B.free)) (by rw [Heap.size_push, hz]) fun b o x => Heap.get?_push_of_some _ (Heap.get?_push_of_some _ x)⟩

/-- the tuple at a, each item in a new pair with its place -/
def IteT (K : PySem.W.Frag) (a : Addr) : L2.It :=
  ⟨fun i H => ∃ (xs : List V) (x : V), SqT K H a xs ∧ xs[i]? = some x, fun i H v H' => ∃ T x, v = .ref T ∧ H T = none ∧ H' = upd H T (.tup [.int (i : Nat), x]) ∧ ∀ xs, SqT K H a xs → xs[i]? = some x, fun i H => ∃ xs : List V, SqT K H a xs ∧ xs.length = i⟩
theorem turn_enumT {P : Program} {w : World} {K : PySem.W.Frag} {elts : List Expr} {kk : Nat} {tpos : Pos} (a e it : Addr) :
    Turn P w K (.Tuple elts kk tpos) (IteT K a) [e, it] e (fun i h => (∃ old, IsEnum h e it ((i : Nat) : Int) old) ∧ h.IsTupleIter it a i ∧ e ≠ it) where
  mem := by simp
  obj := fun i h st b hb => by
    obtain ⟨⟨old, he⟩, ⟨o, ho, hc, hd⟩, _⟩ := st
    rcases (by simpa using hb : b = e ∨ b = it) with rfl | rfl
    · exact ⟨_, he, fun v q => nomatch q⟩
    · exact ⟨o, ho, fun v q => by rw [hd] at q; cases q⟩
  keep := fun i h h' ⟨⟨old, he⟩, hi, hne⟩ k => ⟨⟨old, k e (by simp) _ he⟩, hi.at fun o q => k it (by simp) o q, hne⟩
  item := by
    intro X hP hw hK hc i pins s σ H E I hf st hg
    subst hP hw hK
    obtain ⟨⟨old, he⟩, hit, hne⟩ := st
    obtain ⟨xs, x, hq, hx⟩ := hg
    obtain ⟨its, rv, p, hz⟩ := I.tuple hq
    obtain ⟨u, hu, ru⟩ := rv.get hx
    have hilt : i < its.length := (List.getElem?_eq_some_iff.mp hu).1
    have hel : e < s.heap.objs.size := Heap.lt_size he
    have hil : it < s.heap.objs.size := let ⟨_, q, _⟩ := hit; Heap.lt_size q
    have hai : a ≠ it := fun z => by
      obtain ⟨o1, q1, _, q2⟩ := hit
      obtain ⟨o2, q3, _, n, q4⟩ := p
      rw [z, q1] at q3
      cases q3
      rw [q2] at q4
      cases q4
    have hae : e ≠ a := fun z => by
      obtain ⟨o2, q3, _, n, q4⟩ := p
      rw [← z, show s.heap.get? e = _ from he] at q3
      cases q3
      cases q4
    refine wpAny_pyNext_enum_itemD (Draws.tuple (prog := X.prog) (w := X.w) (A := X.A.in1) (I.ok.hd hc) it a hai its.toArray) he ⟨hit, p⟩ (by simpa using hilt) hne (by simp [hne, hae]) fun y h' tk hy ho hit' hT hsz hk => ?_
    have ey : y = u := by
      have := hy.symm.trans (show its.toArray[i]? = some u by simpa using hu)
      exact Option.some.inj this
    subst ey
    refine ⟨_, rfl, wpAny_letOwnedTupleGo_enum (s := { s with heap := h', toks := tk + 1 }) ho fun h'' he' sb => ?_⟩
    have hT2 : h''.get? s.heap.objs.size = some { cls := .type "tuple", data := .seq #[.int i tk, y] } := (sb.2 _ (Nat.ne_of_gt hel)).trans hT
    have new : ObjOk X.prog X.w (upd H s.heap.objs.size (.tup [.int (i : Nat), x])) h'' s.heap.objs.size (.tup [.int (i : Nat), x]) := ⟨by show 2 ≤ sizeLine; decide, [.int i tk, y], .cons ⟨_, rfl⟩ (.cons ru .nil), ⟨_, hT2, rfl, _, rfl⟩⟩
    have I1 : Inv X pins σ (upd H s.heap.objs.size (.tup [.int (i : Nat), x])) { s with heap := h'', toks := tk + 1 } :=
      I.turnedNew (ch := [e, it]) (fun b ob hb q => (sb.2 b (fun z => hb (by simp [z]))).trans (hk b ob (fun z => hb (by simp [z])) (fun z => hb (by simp [z])) q)) hf (Nat.le_refl _) new
    refine ⟨.ref s.heap.objs.size, _, I1, rfl, ⟨_, x, rfl, I.hok.fresh (Nat.le_refl _), rfl, fun ys hy => by rw [I.tuple_inj hy hq]; exact hx⟩, ⟨⟨y, ?_⟩, hit'.1.at fun o q => (sb.2 it (Ne.symm hne)).trans q, hne⟩, fun b hb => ?_⟩
    · rw [show ((i + 1 : Nat) : Int) = (i : Int) + 1 by omega]; exact he'
    · have hb' : b < s.heap.objs.size := by
        rcases (by simpa using hb : b = e ∨ b = it) with rfl | rfl
        · exact hel
        · exact hil
      rw [upd_ne (Nat.ne_of_lt hb')]; exact (hf b hb).1
  done := by
    intro X hP hw hK hc i pins s σ H E I hf st hg
    subst hP hw hK
    obtain ⟨⟨old, he⟩, hit, hne⟩ := st
    obtain ⟨xs, hq, hx⟩ := hg
    obtain ⟨its, rv, p, hz⟩ := I.tuple hq
    obtain ⟨f0, f1, f2, f3, f4, f5⟩ := hf it (by simp)
    have hl := rv.length
    have hai : a ≠ it := fun z => by
      obtain ⟨o1, q1, _, q2⟩ := hit
      obtain ⟨o2, q3, _, n, q4⟩ := p
      rw [z, q1] at q3
      cases q3
      rw [q2] at q4
      cases q4
    have hn : i = its.toArray.size := by simp; omega
    rw [hn] at hit
    exact wpAny_pyNext_enum_endD (Draws.tuple (prog := X.prog) (w := X.w) (A := X.A.in1) (I.ok.hd hc) it a hai its.toArray) he ⟨hit, p⟩ fun h' eb => ⟨rfl, I.turned (t' := s.toks) (fun b o hb q => eb b o hb q) f0 f1 f3 f4 f5⟩
  self := fun A i s Q E ⟨⟨_, he⟩, _⟩ h => wpAny_pyIter_enum he h
def iEnumT (K : PySem.W.Frag) (ta : TA) : TI := fun σ H R => ta σ H fun vs H1 => ∃ a xs, vs = [.ref a] ∧ SqT K H1 a xs ∧ R (IteT K a) H1
theorem pi_enumT {X : Cx} {e : Expr} {ta : TA} {p pos tpos : Pos} {elts : List Expr} {kk : Nat} (hg : Gl X "enumerate") (hm : X.mg "enumerate" = none) (ha : PA X [e] ta) (hs : starEach [e] X.env = [(false, eval e X.env)]) :
    PI X (.Tuple elts kk tpos) (.Call (.Name "enumerate" p) [e] [] pos) (iEnumT X.K ta) := by
  refine ⟨fun pins s σ H R I h => ?_⟩
  refine Call_ (ld_blt I hg hm boot_enumerate (PyProof.Rows.callWith_type1 (thn (ha.run pos pins s σ H _ I h) fun us s1 ⟨vs, H1, I1, r1, q1⟩ => ?_) hs rfl))
  obtain ⟨a, xs, rfl, hq, q⟩ := q1
  cases r1 with
  | cons r rr =>
    cases rr
    cases r
    obtain ⟨its, rv, p', hz⟩ := I1.tuple hq
    refine enum_call1 (begins_tuple a its.toArray) p' fun h' he hit hsz hk => wpAny_pyIter_enum he ?_
    have I2 : Inv X pins σ H1 { s1 with heap := h' } := I1.kept (t' := s1.toks) hk
    refine ⟨s1.heap.objs.size + 1, [s1.heap.objs.size + 1, s1.heap.objs.size], _, _, H1, rfl, I2, turn_enumT a (s1.heap.objs.size + 1) s1.heap.objs.size, ⟨⟨.none, he⟩, ⟨_, hit, rfl, rfl⟩, Nat.succ_ne_self _⟩, fun b hb => ?_, q⟩
    have hle : s1.heap.objs.size ≤ b := by
      rcases (by simpa using hb : b = s1.heap.objs.size + 1 ∨ b = s1.heap.objs.size) with rfl | rfl
      · exact Nat.le_add_right _ _
      · exact Nat.le_refl _
    exact I1.fpOk hle (I1.hok.fresh hle)
end Ev

/-! EvH: iterables, targets, slices, isinstance, calls, new instances. -/
namespace Ev
open PySem PySem.Spec PyProof.Rows L2

def SndI (W : Wd) (cl : Calls) (gl : Str → Option D) (X : Cx) (Wx : WX) (tg e : Expr) (it : It) : Prop := ∀ (pv : Nat → Option V) (ow : Ow) (H : Hp) (S : Fr) (σ : L2.St) (R : L2.It → Hp → Prop), Rel W pv ow H S σ →
  Post W pv ow H σ Wx (fun ow' H' ds J => Walk W ow' H' J ds) (evI cl gl it S) R → RI X tg e σ H R
section
variable {W : Wd} {M : MC} {cl : Calls} {gl : Str → Option D} {k : Nat} {X : Cx} {sc : Scope} {Wx : WX} {e a b c tg : Expr} {ia ib ic : E} {pos p1 p2 : Pos} {ow : Ow} {H : Hp}
theorem walk_lst {a : Addr} {vs : List V} {xs : List D} (h : LstAt ow H a vs) (l : RepL W ow H xs vs) : Walk W ow H (Itl W.K a) xs := by
  intro ow' H' kp i
  have h' := h.keep kp
  have l' := l.keep kp
  refine ⟨fun d hd => ?_, fun hi => ⟨vs, SqL.of h'.1, by rw [← l.length]; omega⟩⟩
  obtain ⟨u, hu, ru⟩ := l'.get hd
  refine ⟨⟨vs, u, SqL.of h'.1, hu⟩, ?_⟩
  rintro x H'' ⟨rfl, hx⟩
  have := hx vs (SqL.of h'.1)
  rw [hu] at this
  cases this
  exact ⟨ow', Grow.refl, ru⟩
theorem walk_tup {a : Addr} {vs : List V} {xs : List D} (h : TupAt W.K ow H a vs) (l : RepL W ow H xs vs) : Walk W ow H (Itt W.K a) xs := by
  intro ow' H' kp i
  have h' := h.keep kp
  have l' := l.keep kp
  refine ⟨fun d hd => ?_, fun hi => ⟨vs, h'.sq, by rw [← l.length]; omega⟩⟩
  obtain ⟨u, hu, ru⟩ := l'.get hd
  refine ⟨⟨vs, u, h'.sq, hu⟩, ?_⟩
  rintro x H'' ⟨rfl, hx⟩
  have := hx vs h'.sq
  rw [hu] at this
  cases this
  exact ⟨ow', Grow.refl, ru⟩
theorem rngD_len {lo hi : Int} : (rngD lo hi).length = (hi - lo).toNat := by simp [rngD]
theorem rngD_get {lo hi : Int} {i : Nat} {d : D} (h : (rngD lo hi)[i]? = some d) : i < (hi - lo).toNat ∧ d = .int (lo + (i : Int)) := by
  unfold rngD at h
  rw [List.getElem?_map] at h
  cases e : (List.range (hi - lo).toNat)[i]? with
  | none => rw [e] at h; cases h
  | some j =>
    rw [e] at h
    obtain ⟨h1, h2⟩ := List.getElem?_eq_some_iff.mp e
    simp only [List.getElem_range] at h2
    subst h2
    cases h
    exact ⟨by simpa using h1, rfl⟩
theorem walk_rng {lo hi : Int} : Walk W ow H (Itr lo (hi - lo).toNat) (rngD lo hi) := by
  intro ow' H' kp i
  refine ⟨fun d hd => ?_, fun he => by rw [rngD_len] at he; exact Nat.le_of_eq he.symm⟩
  obtain ⟨h1, rfl⟩ := rngD_get hd
  refine ⟨h1, ?_⟩
  rintro x H'' ⟨rfl, rfl⟩
  exact ⟨ow', Grow.refl, .int _⟩
theorem rngDn_len {i j : Int} : (rngDn i j).length = (i - j).toNat := by simp [rngDn]
theorem walk_dn {i j : Int} : Walk W ow H (Itc i (-1) (i - j).toNat) (rngDn i j) := by
  intro ow' H' kp n
  refine ⟨fun d hd => ?_, fun he => by rw [rngDn_len] at he; exact Nat.le_of_eq he.symm⟩
  have hlt : n < (rngDn i j).length := (List.getElem?_eq_some_iff.mp hd).1
  rw [rngDn_len] at hlt
  have hd' : d = .int (i - (n : Int)) := by
    unfold rngDn at hd
    rw [List.getElem?_map, List.getElem?_eq_getElem (by simpa using hlt)] at hd
    simp at hd
    exact hd.symm
  subst hd'
  refine ⟨hlt, ?_⟩
  rintro x H'' ⟨rfl, rfl⟩
  refine ⟨ow', Grow.refl, ?_⟩
  have e : i - (n : Int) = i + (n : Nat) * (-1) := by omega
  rw [e]
  exact .int _
theorem walk_rev {j : Int} : Walk W ow H (Itc (0 + (((j - 0).toNat : Nat) : Int) - 1) (-1) (j - 0).toNat) (rngD 0 j).reverse := by
  intro ow' H' kp i
  refine ⟨fun d hd => ?_, fun he => by rw [List.length_reverse, rngD_len] at he; exact Nat.le_of_eq he.symm⟩
  have hlt : i < (rngD 0 j).reverse.length := (List.getElem?_eq_some_iff.mp hd).1
  rw [List.length_reverse, rngD_len] at hlt
  rw [List.getElem?_reverse (by rw [rngD_len]; exact hlt), rngD_len] at hd
  obtain ⟨h1, rfl⟩ := rngD_get hd
  refine ⟨hlt, ?_⟩
  rintro x H'' ⟨rfl, rfl⟩
  refine ⟨ow', Grow.refl, ?_⟩
  have e : (0 : Int) + (((j - 0).toNat - 1 - i : Nat) : Int) = 0 + (((j - 0).toNat : Nat) : Int) - 1 + (i : Nat) * (-1) := by omega
  rw [e]
  exact .int _
theorem enum_get {xs : List D} : ∀ {n i : Nat} {d : D}, (enumFrom n xs)[i]? = some d → ∃ x, xs[i]? = some x ∧ d = .tup [.int ((n + i : Nat) : Int), x] := by
  induction xs with
  | nil => intro n i d h; simp [enumFrom] at h
  | cons y r ih =>
    intro n i d h
    cases i with
    | zero => simp [enumFrom] at h; exact ⟨y, rfl, h.symm⟩
    | succ i =>
      simp only [enumFrom, List.getElem?_cons_succ] at h
      obtain ⟨x, h1, h2⟩ := ih h
      exact ⟨x, by simpa using h1, by rw [h2]; congr 3; omega⟩
theorem enum_len {xs : List D} : ∀ {n : Nat}, (enumFrom n xs).length = xs.length := by
  induction xs with
  | nil => intro n; rfl
  | cons y r ih => intro n; simp [enumFrom, ih]
theorem zip_get : ∀ {xs ys : List D} {i : Nat} {d : D}, (zipD xs ys)[i]? = some d → ∃ x y, xs[i]? = some x ∧ ys[i]? = some y ∧ d = .tup [x, y]
  | [], _, _, _, h => by simp [zipD] at h
  | _ :: _, [], _, _, h => by simp [zipD] at h
  | x :: xs, y :: ys, i, d, h => by
    cases i with
    | zero => simp [zipD] at h; exact ⟨x, y, rfl, rfl, h.symm⟩
    | succ i => simp only [zipD, List.getElem?_cons_succ] at h ⊢; exact zip_get h
theorem zip_len : ∀ {xs ys : List D}, (zipD xs ys).length = min xs.length ys.length
  | [], _ => by simp [zipD]
  | _ :: _, [] => by simp [zipD]
  | x :: xs, y :: ys => by simp [zipD, zip_len]
/-- a new pair -/
theorem pair_new {x y : V} {dx dy : D} {T : Addr} (hT : H T = none) (hx : Rep W ow H dx x) (hy : Rep W ow H dy y) : ∃ ow', Grow ow H ow' (upd H T (.tup [x, y])) ∧ Rep W ow' (upd H T (.tup [x, y])) (.tup [dx, dy]) (.ref T) := by
  have g := Grow.new (ow := ow) (o := .tup [x, y]) (t := .fz) hT
  exact ⟨_, g, .tup (.inl ⟨.inl upd_same, if_pos rfl⟩) (.cons (hx.keep g.keep) (.cons (hy.keep g.keep) .nil))⟩
theorem walk_enumL {a : Addr} {vs : List V} {xs : List D} (h : LstAt ow H a vs) (l : RepL W ow H xs vs) : Walk W ow H (Ite W.K a) (enumFrom 0 xs) := by
  intro ow' H' kp i
  have h' := h.keep kp
  have l' := l.keep kp
  refine ⟨fun d hd => ?_, fun hi => ⟨vs, SqL.of h'.1, by rw [enum_len, l.length] at hi; omega⟩⟩
  obtain ⟨y, hy, rfl⟩ := enum_get hd
  obtain ⟨u, hu, ru⟩ := l'.get hy
  refine ⟨⟨vs, u, SqL.of h'.1, hu⟩, ?_⟩
  rintro x H'' ⟨T, z, rfl, hT, rfl, hx⟩
  have := hx vs (SqL.of h'.1)
  rw [hu] at this
  cases this
  rw [Nat.zero_add]
  exact pair_new hT (.int _) ru
theorem walk_enumT {a : Addr} {vs : List V} {xs : List D} (h : TupAt W.K ow H a vs) (l : RepL W ow H xs vs) : Walk W ow H (IteT W.K a) (enumFrom 0 xs) := by
  intro ow' H' kp i
  have h' := h.keep kp
  have l' := l.keep kp
  refine ⟨fun d hd => ?_, fun hi => ⟨vs, h'.sq, by rw [enum_len, l.length] at hi; omega⟩⟩
  obtain ⟨y, hy, rfl⟩ := enum_get hd
  obtain ⟨u, hu, ru⟩ := l'.get hy
  refine ⟨⟨vs, u, h'.sq, hu⟩, ?_⟩
  rintro x H'' ⟨T, z, rfl, hT, rfl, hx⟩
  have := hx vs h'.sq
  rw [hu] at this
  cases this
  rw [Nat.zero_add]
  exact pair_new hT (.int _) ru
theorem walk_zipL {a b : Addr} {vs us : List V} {xs ys : List D} (h : LstAt ow H a vs) (l : RepL W ow H xs vs) (g : LstAt ow H b us) (m : RepL W ow H ys us) : Walk W ow H (Itz W.K a b) (zipD xs ys) := by
  intro ow' H' kp i
  have h' := h.keep kp
  have g' := g.keep kp
  refine ⟨fun d hd => ?_, fun hi => ⟨vs, us, SqL.of h'.1, SqL.of g'.1, by rw [zip_len, l.length, m.length] at hi; omega⟩⟩
  obtain ⟨x, y, hx, hy, rfl⟩ := zip_get hd
  obtain ⟨u, hu, ru⟩ := (l.keep kp).get hx
  obtain ⟨w, hw, rw_⟩ := (m.keep kp).get hy
  refine ⟨⟨vs, us, u, w, SqL.of h'.1, SqL.of g'.1, hu, hw⟩, ?_⟩
  rintro z H'' ⟨T, z1, z2, rfl, hT, rfl, q1, q2⟩
  have e1 := q1 vs (SqL.of h'.1)
  have e2 := q2 us (SqL.of g'.1)
  rw [hu] at e1
  rw [hw] at e2
  cases e1
  cases e2
  exact pair_new hT ru rw_
theorem walk_zipT {a b : Addr} {vs us : List V} {xs ys : List D} (h : TupAt W.K ow H a vs) (l : RepL W ow H xs vs) (g : TupAt W.K ow H b us) (m : RepL W ow H ys us) : Walk W ow H (RZ.ItzT W.K a b) (zipD xs ys) := by
  intro ow' H' kp i
  have h' := (h.keep kp).sq
  have g' := (g.keep kp).sq
  refine ⟨fun d hd => ?_, fun hi => ⟨vs, us, h', g', by rw [zip_len, l.length, m.length] at hi; omega⟩⟩
  obtain ⟨x, y, hx, hy, rfl⟩ := zip_get hd
  obtain ⟨u, hu, ru⟩ := (l.keep kp).get hx
  obtain ⟨w, hw, rw_⟩ := (m.keep kp).get hy
  refine ⟨⟨vs, us, u, w, h', g', hu, hw⟩, ?_⟩
  rintro z H'' ⟨T, z1, z2, rfl, hT, rfl, q1, q2⟩
  have e1 := q1 vs h'
  have e2 := q2 us g'
  rw [hu] at e1
  rw [hw] at e2
  cases e1
  cases e2
  exact pair_new hT ru rw_

theorem snd_seq (G : CxG W M cl gl k X sc Wx) (ha : SndE W cl gl X Wx a ia) : SndI W cl gl X Wx tg a (.seq ia) := by
  intro pv ow H S σ R r h
  simp only [evI] at h
  cases hx : evE cl gl ia S with
  | bad => rw [hx] at h; exact False.elim h
  | exc c fs S1 =>
    refine RI.of (pi_list pe_RE) (RE.mono (ha pv ow H S σ (fun _ _ => False) r ?_) fun _ _ z => z.elim)
    rw [hx] at h ⊢
    exact h
  | ok x S1 =>
    have key : RE X a σ H (fun v H1 => ∃ d ow1 S2, esc x S1 = .ok d S2 ∧ Step ow H ow1 H1 ∧ Rel W pv ow1 H1 S2 σ ∧ Rep W ow1 H1 d v ∧ Post W pv ow H σ Wx (fun ow' H' ds J => Walk W ow' H' J ds) (match itemsD d with | some ds => .ok ds S2 | none => .bad) R) := by
      refine RE.mono (ha pv ow H S σ _ r (Post.seq h)) ?_
      rintro v H1 ⟨x', S1', ow1, e1, k1, r1, p1, h1⟩
      rw [hx] at e1
      cases e1
      cases he : esc x S1 with
      | ok d S2 =>
        obtain ⟨ow2, k2, _, r2, p2⟩ := esc_ok r1 k1 p1 he
        rw [he] at h1
        exact ⟨d, ow2, S2, rfl, k2, r2, p2, h1⟩
      | exc c fs S2 => exact absurd he esc_noexc
      | bad => rw [he] at h1; exact False.elim h1
    cases he : esc x S1 with
    | bad => rw [hx] at h; simp only [Out.bind, he] at h; exact False.elim h
    | exc c fs S2 => exact absurd he esc_noexc
    | ok d S2 =>
      cases d with
      | lst xs =>
        refine RI.of (pi_list pe_RE) (RE.mono key ?_)
        rintro v H1 ⟨d, ow1, S3, e1, k1, r1, p1, h1⟩
        rw [he] at e1
        cases e1
        cases p1 with
        | lst q l => exact ⟨_, rfl, ⟨_, SqL.of q.1⟩, by rw [G.K]; exact h1 _ ow1 H1 k1 r1 (walk_lst q l)⟩
      | tup xs =>
        refine RI.of (pi_tup pe_RE) (RE.mono key ?_)
        rintro v H1 ⟨d, ow1, S3, e1, k1, r1, p1, h1⟩
        rw [he] at e1
        cases e1
        cases p1 with
        | tup q l => exact ⟨_, rfl, ⟨_, by rw [G.K]; exact q.sq⟩, by rw [G.K]; exact h1 _ ow1 H1 k1 r1 (walk_tup q l)⟩
      | dic kvs =>
        refine G.dw tg a σ H R (RE.mono key ?_)
        rintro v H1 ⟨d, ow1, S3, e1, k1, r1, p1, h1⟩
        rw [he] at e1
        cases e1
        exact ⟨ow1, kvs, p1, fun J w => h1 J ow1 H1 k1 r1 w⟩
      | _ => rw [hx] at h; simp only [Out.bind, he, itemsD] at h; exact False.elim h
theorem bigI_ok {i : Int} (h : bigI i = true) : -(2 ^ 62) ≤ i ∧ i < 2 ^ 62 := by unfold bigI at h; simpa using h
def esLen : Es → Nat
  | .nil => 0
  | .cons _ es => esLen es + 1
theorem evEs_len : ∀ {ies : Es} {S S' : Fr} {ds : List D}, evEs cl gl ies S = .ok ds S' → ds.length = esLen ies
  | .nil, S, S', ds, h => by simp [evEs] at h; rw [h.1]; rfl
  | .cons e es, S, S', ds, h => by
    simp only [evEs] at h
    cases h1 : evE cl gl e S with
    | ok x S1 =>
      rw [h1] at h
      simp only [Out.bind] at h
      cases h2 : esc x S1 with
      | ok d S2 =>
        rw [h2] at h
        simp only at h
        cases h3 : evEs cl gl es S2 with
        | ok es' S3 =>
          rw [h3] at h
          cases h
          simp [esLen, evEs_len h3]
        | exc c fs S3 => rw [h3] at h; cases h
        | bad => rw [h3] at h; cases h
      | exc c fs S2 => rw [h2] at h; cases h
      | bad => rw [h2] at h; cases h
    | exc c fs S1 => rw [h1] at h; cases h
    | bad => rw [h1] at h; cases h
theorem snd_rng1 (G : CxG W M cl gl k X sc Wx) {ies : Es} (hl : esLen ies = 1) (hg : Gl X "range") (hs : noStar a = true) (ha : SndEs W cl gl X Wx [a] ies) : SndI W cl gl X Wx tg (.Call (.Name "range" p1) [a] [] pos) (.rng ies) := by
  intro pv ow H S σ R r h
  simp only [evI] at h
  refine RI.of (pi_range1 hg (G.free _ (by decide)) pa_RA (star_cons hs)) (RA.mono (ha pv ow H S σ _ r (Post.seq h)) ?_)
  rintro vs H1 ⟨ds, S1, ow1, e1, k1, r1, p1, h1⟩
  have hn := (evEs_len e1).trans hl
  clear e1
  split at h1
  · next j =>
    split at h1
    · next hb =>
      cases p1 with
      | cons q l =>
        cases l
        cases q
        exact ⟨j, rfl, (bigI_ok hb).1, (bigI_ok hb).2, h1 _ ow1 H1 k1 r1 (by simpa using walk_rng (lo := 0) (hi := j))⟩
    · exact False.elim h1
  · simp at hn
  · simp at hn
  · exact False.elim h1
theorem snd_rng2 (G : CxG W M cl gl k X sc Wx) {ies : Es} (hl : esLen ies = 2) (hg : Gl X "range") (hs : noStar a = true) (hs2 : noStar b = true) (ha : SndEs W cl gl X Wx [a, b] ies) : SndI W cl gl X Wx tg (.Call (.Name "range" p1) [a, b] [] pos) (.rng ies) := by
  intro pv ow H S σ R r h
  simp only [evI] at h
  refine RI.of (pi_range2 hg (G.free _ (by decide)) pa_RA (by rw [star_cons hs, star_cons hs2]; rfl) (star_cons hs2)) (RA.mono (ha pv ow H S σ _ r (Post.seq h)) ?_)
  rintro vs H1 ⟨ds, S1, ow1, e1, k1, r1, p1, h1⟩
  have hn := (evEs_len e1).trans hl
  clear e1
  split at h1
  · simp at hn
  · next i j =>
    split at h1
    · next hb =>
      simp only [Bool.and_eq_true] at hb
      cases p1 with
      | cons q l =>
        cases l with
        | cons q2 l =>
          cases l
          cases q
          cases q2
          exact ⟨i, j, rfl, ⟨(bigI_ok hb.1).1, (bigI_ok hb.1).2, (bigI_ok hb.2).1, (bigI_ok hb.2).2⟩, h1 _ ow1 H1 k1 r1 walk_rng⟩
    · exact False.elim h1
  · simp at hn
  · exact False.elim h1
theorem snd_rng3 (G : CxG W M cl gl k X sc Wx) {ies : Es} {c : Expr} (hl : esLen ies = 3) (hg : Gl X "range") (hs : noStar a = true) (hs2 : noStar b = true) (hs3 : noStar c = true) (ha : SndEs W cl gl X Wx [a, b, c] ies) : SndI W cl gl X Wx tg (.Call (.Name "range" p1) [a, b, c] [] pos) (.rng ies) := by
  intro pv ow H S σ R r h
  simp only [evI] at h
  refine RI.of (pi_range3 hg (G.free _ (by decide)) pa_RA (star_cons hs) (by rw [star_cons hs2, star_cons hs3]; rfl)) (RA.mono (ha pv ow H S σ _ r (Post.seq h)) ?_)
  rintro vs H1 ⟨ds, S1, ow1, e1, k1, r1, p1, h1⟩
  have hn := (evEs_len e1).trans hl
  clear e1
  split at h1
  · simp at hn
  · simp at hn
  · next i j c =>
    split at h1
    · next hb =>
      simp only [Bool.and_eq_true, decide_eq_true_eq] at hb
      obtain ⟨⟨rfl, hb1⟩, hb2⟩ := hb
      cases p1 with
      | cons q l =>
        cases l with
        | cons q2 l =>
          cases l with
          | cons q3 l =>
            cases l
            cases q
            cases q2
            cases q3
            exact ⟨i, j, -1, (i - j).toNat, rfl, RgC.neg (bigI_ok hb1).1 (bigI_ok hb1).2 (bigI_ok hb2).1 (bigI_ok hb2).2, h1 _ ow1 H1 k1 r1 walk_dn⟩
    · exact False.elim h1
  · exact False.elim h1
theorem snd_enm (G : CxG W M cl gl k X sc Wx) {ies : Es} {elts : List Expr} {kk : Nat} (hg : Gl X "enumerate") (hs : noStar a = true) (ha : SndEs W cl gl X Wx [a] ies) : SndI W cl gl X Wx (.Tuple elts kk p2) (.Call (.Name "enumerate" p1) [a] [] pos) (.enm ies) := by
  intro pv ow H S σ R r h
  simp only [evI] at h
  cases hx : evEs cl gl ies S with
  | bad => rw [hx] at h; exact False.elim h
  | exc c fs S1 =>
    refine RI.of (pi_enum hg (G.free _ (by decide)) pa_RA (star_cons hs)) (RA.mono (ha pv ow H S σ (fun _ _ => False) r ?_) fun _ _ z => z.elim)
    rw [hx] at h ⊢
    exact h
  | ok ds S1 =>
    have key := ha pv ow H S σ _ r (Post.seq h)
    have h' := h
    rw [hx] at h'
    simp only [Out.bind] at h'
    split at h'
    · next xs =>
      refine RI.of (pi_enum hg (G.free _ (by decide)) pa_RA (star_cons hs)) (RA.mono key ?_)
      rintro vs H1 ⟨ds', S1', ow1, e1, k1, r1, p1, h1⟩
      rw [hx] at e1
      cases e1
      cases p1 with
      | cons q l =>
        cases l
        cases q with
        | lst q l => exact ⟨_, _, rfl, SqL.of q.1, by rw [G.K]; exact h1 _ ow1 H1 k1 r1 (walk_enumL q l)⟩
    · next xs =>
      refine RI.of (pi_enumT hg (G.free _ (by decide)) pa_RA (star_cons hs)) (RA.mono key ?_)
      rintro vs H1 ⟨ds', S1', ow1, e1, k1, r1, p1, h1⟩
      rw [hx] at e1
      cases e1
      cases p1 with
      | cons q l =>
        cases l
        cases q with
        | tup q l => exact ⟨_, _, rfl, by rw [G.K]; exact q.sq, by rw [G.K]; exact h1 _ ow1 H1 k1 r1 (walk_enumT q l)⟩
    · exact False.elim h'
theorem snd_zip (G : CxG W M cl gl k X sc Wx) {ies : Es} {elts : List Expr} {kk : Nat} (hg : Gl X "zip") (hs : noStar a = true) (hs2 : noStar b = true) (ha : SndEs W cl gl X Wx [a, b] ies) : SndI W cl gl X Wx (.Tuple elts kk p2) (.Call (.Name "zip" p1) [a, b] [] pos) (.zip ies) := by
  intro pv ow H S σ R r h
  simp only [evI] at h
  refine RI.of (RZ.pi_zipA hg (G.free _ (by decide)) pa_RA (star_cons hs) (star_any (by simp [hs2]))) (RA.mono (ha pv ow H S σ _ r (Post.seq h)) ?_)
  rintro vs H1 ⟨ds, S1, ow1, -, k1, r1, p1, h1⟩
  split at h1
  · next xs ys =>
    cases p1 with
    | cons q l =>
      cases l with
      | cons q2 l =>
        cases l
        cases q with
        | lst qa la =>
          cases q2 with
          | lst qb lb => exact ⟨_, _, _, _, rfl, .inl ⟨SqL.of qa.1, SqL.of qb.1, by rw [G.K]; exact h1 _ ow1 H1 k1 r1 (walk_zipL qa la qb lb)⟩⟩
  · next xs ys =>
    cases p1 with
    | cons q l =>
      cases l with
      | cons q2 l =>
        cases l
        cases q with
        | tup qa la =>
          cases q2 with
          | tup qb lb => exact ⟨_, _, _, _, rfl, .inr ⟨by rw [G.K]; exact qa.sq, by rw [G.K]; exact qb.sq, by rw [G.K]; exact h1 _ ow1 H1 k1 r1 (walk_zipT qa la qb lb)⟩⟩
  · exact False.elim h1
theorem snd_rev (G : CxG W M cl gl k X sc Wx) (hg : Gl X "reversed") (hg2 : Gl X "range") (hs : noStar a = true) (ha : SndE W cl gl X Wx a ia) : SndI W cl gl X Wx tg (.Call (.Name "reversed" p1) [.Call (.Name "range" p2) [a] [] pos] [] pos') (.rev ia) := by
  intro pv ow H S σ R r h
  simp only [evI] at h
  refine RI.of (pi_revR hg (G.free _ (by decide)) (prg_1 hg2 (G.free _ (by decide)) pe_RE (star_cons hs)) rfl) (RE.mono (ha pv ow H S σ _ r (Post.seq h)) ?_)
  rintro v H1 ⟨x, S1, ow1, -, k1, r1, p1, h1⟩
  split at h1
  · next j =>
    split at h1
    · next hb =>
      cases (show Rep W ow1 H1 (.int j) v from p1)
      exact ⟨j, rfl, by decide, by decide, (bigI_ok hb).1, (bigI_ok hb).2, h1 _ ow1 H1 k1 r1 walk_rev⟩
    · exact False.elim h1
  · exact False.elim h1
end
end Ev

/-! EvI: targets, comprehensions, slices, isinstance, calls, new instances. -/
namespace Ev
open PySem PySem.Spec PyProof.Rows L2

def gNames : List Nat → TGs
  | [] => gNil
  | i :: is => gCons (gName i) (gNames is)
def gSeq (K : PySem.W.Frag) (n : Nat) (t : TGs) : TG := fun v σ H Q => gTup K n t v σ H Q ∨ gUnl K n t v σ H Q
theorem pg_seq {X : Cx} {pos : Pos} {es : List Expr} {k : Nat} {t : TGs} {n : Nat} (hc : X.calm = true) (h : PGs X es t)
    (hn : (assignEach es X.env).length = n) (hst : (assignEach es X.env).findIdx? (·.1) = none) : PG X (.Tuple es k pos) (gSeq X.K n t) := by
  refine ⟨fun pins s σ H v u Q I r hw => ?_⟩
  rcases hw with hw | hw
  · exact (pg_tup (k := k) (pos := pos) hc h hn hst).run pins s σ H v u Q I r hw
  · exact (pg_unl (k := k) (pos := pos) hc h hn hst).run pins s σ H v u Q I r hw
def gOf (K : PySem.W.Frag) : Tg → TG
  | .one i => gName i
  | .many is => gSeq K is.length (gNames is)
theorem RI.mono {X : Cx} {tg e : Expr} {σ : L2.St} {H : Hp} {R R' : L2.It → Hp → Prop} (h : RI X tg e σ H R) (k : ∀ J H', R J H' → R' J H') : RI X tg e σ H R' := fun pins s I =>
  thn (h pins s I) fun _ _ q => thn q fun _ _ ⟨it, fp, tn, J, H', e1, I1, T, t0, f, r⟩ => ⟨it, fp, tn, J, H', e1, I1, T, t0, f, k J H' r⟩

section
variable {W : Wd} {pv : Nat → Option V} {ow : Ow} {H : Hp} {S S1 : Fr} {σ : L2.St}
theorem put_rel (r : Rel W pv ow H S σ) {i : Nat} {d : D} {v : V} (h : Rep W ow H d v) (e : putC S i (.val d) = some S1) : Rel W pv ow H S1 (σ.set i (some v)) := by
  unfold putC at e
  split at e
  · cases e
  · next hn =>
    cases e
    refine ⟨by simp [setC, r.len], fun j c hc => ?_, fun j u hu => ?_, fun j o hc => ?_⟩
    · by_cases hj : i = j
      · subst hj
        have hlt : i < S.length := by
          have := getC_lt hc
          simpa [setC] using this
        rw [getC_set_self hlt] at hc
        cases hc
        exact ⟨v, List.getElem?_set_self (by rw [← r.len]; exact hlt), h⟩
      · rw [getC_set_ne hj] at hc
        obtain ⟨u, hu, q⟩ := r.cell j c hc
        exact ⟨u, by rw [List.getElem?_set_ne hj]; exact hu, q⟩
    · obtain ⟨o, h1, h2⟩ := r.par j u hu
      have hj : i ≠ j := fun z => hn o (z ▸ h1)
      exact ⟨o, by rw [getC_set_ne hj]; exact h1, by rw [List.getElem?_set_ne hj]; exact h2⟩
    · by_cases hj : i = j
      · subst hj
        have hlt : i < S.length := by
          have := getC_lt hc
          simpa [setC] using this
        rw [getC_set_self hlt] at hc
        cases hc
      · rw [getC_set_ne hj] at hc
        exact r.unpar j o hc
theorem names_ok {K : PySem.W.Frag} : ∀ {is : List Nat} {xs : List D} {vs : List V} {S S1 : Fr} {σ : L2.St} {Q : L2.St → Hp → Prop}, Rel W pv ow H S σ → RepL W ow H xs vs → xs.length = is.length → putVs S is xs = some S1 →
    (∀ σ1, Rel W pv ow H S1 σ1 → σ1.length = σ.length → (∀ j, j ∉ is → σ1[j]? = σ[j]?) → Q σ1 H) → gNames is vs σ H Q
  | [], _, _, _, _, _, _, r, l, hl, e, q => by
    cases l with
    | nil => simp [putVs] at e; subst e; exact ⟨rfl, q _ r rfl fun _ _ => rfl⟩
    | cons _ _ => simp at hl
  | i :: is, _, _, S, S1, σ, Q, r, l, hl, e, q => by
    cases l with
    | nil => simp at hl
    | @cons d v ds vs h l =>
      simp only [putVs, Option.bind_eq_some_iff] at e
      obtain ⟨S2, e1, e2⟩ := e
      refine ⟨v, vs, rfl, names_ok (K := K) (put_rel r h e1) l (by simpa using hl) e2 fun σ1 r1 l1 h1 => q σ1 r1 (by simpa using l1) fun j hj => ?_⟩
      simp only [List.mem_cons, not_or] at hj
      rw [h1 j hj.2, List.getElem?_set_ne (Ne.symm hj.1)]
theorem g_ok {tg : Tg} {d : D} {x : V} {Q : L2.St → Hp → Prop} (r : Rel W pv ow H S σ) (h : Rep W ow H d x) (e : bindT tg d S = some S1)
    (q : ∀ σ1, Rel W pv ow H S1 σ1 → σ1.length = σ.length → (∀ j, j ∉ slotsT tg → σ1[j]? = σ[j]?) → Q σ1 H) : gOf W.K tg x σ H Q := by
  cases tg with
  | one i =>
    refine q _ (put_rel r h e) (by simp) fun j hj => ?_
    simp only [slotsT, List.mem_singleton] at hj
    exact List.getElem?_set_ne (Ne.symm hj)
  | many is =>
    simp only [bindT] at e
    split at e
    · next xs =>
      split at e
      · next hl =>
        cases h with
        | @tup a vs _ ha la => exact .inl ⟨a, vs, rfl, ha.sq, by rw [← la.length]; exact hl, names_ok (K := W.K) r la hl e q⟩
      · cases e
    · next xs =>
      split at e
      · next hl =>
        cases h with
        | @lst a vs _ ha la => exact .inr ⟨a, vs, rfl, SqL.of ha.1, by rw [← la.length]; exact hl, names_ok (K := W.K) r la hl e q⟩
      · cases e
    · cases e

/-! ### slots wiped -/
theorem wipe_get : ∀ {is : List Nat} {σ : L2.St} {j : Nat}, (wipe σ is)[j]? = if j ∈ is ∧ j < σ.length then some none else σ[j]?
  | [], σ, j => by simp [wipe]
  | i :: is, σ, j => by
    unfold wipe
    by_cases hij : i = j
    · subst hij
      by_cases hlt : i < σ.length
      · rw [List.getElem?_set_self (by rw [wipe_length]; exact hlt), if_pos ⟨by simp, hlt⟩]
      · rw [List.getElem?_eq_none (by rw [List.length_set, wipe_length]; omega), if_neg (fun z => hlt z.2), List.getElem?_eq_none (by omega)]
    · rw [List.getElem?_set_ne hij, wipe_get]
      simp only [List.mem_cons]
      by_cases h : j ∈ is ∧ j < σ.length
      · rw [if_pos h, if_pos ⟨.inr h.1, h.2⟩]
      · rw [if_neg h, if_neg]
        rintro ⟨z | z, w⟩
        · exact hij z.symm
        · exact h ⟨z, w⟩
theorem wipe_ext {σ τ : L2.St} {is : List Nat} (hl : σ.length = τ.length) (h : ∀ j, j ∉ is → σ[j]? = τ[j]?) : wipe σ is = wipe τ is := by
  refine List.ext_getElem? fun j => ?_
  rw [wipe_get, wipe_get]
  by_cases hj : j ∈ is
  · by_cases hlt : j < σ.length
    · rw [if_pos ⟨hj, hlt⟩, if_pos ⟨hj, by omega⟩]
    · rw [if_neg (fun z => hlt z.2), if_neg (fun z => hlt (by omega)), List.getElem?_eq_none (by omega), List.getElem?_eq_none (by omega)]
  · rw [if_neg (fun z => hj z.1), if_neg (fun z => hj z.1), h j hj]
theorem kill_get : ∀ {is : List Nat} {S : Fr} {j : Nat} {c : Cell}, getC (killS S is) j = some c → getC S j = some c ∧ (j ∈ is → ∃ o, c = .par o)
  | [], _, _, _, h => ⟨h, fun z => by simp at z⟩
  | i :: is, S, j, c, h => by
    unfold killS at h
    obtain ⟨h1, h2⟩ := kill_get h
    have key : getC S j = some c ∧ (i = j → ∃ o, c = .par o) := by
      unfold kill1 at h1
      split at h1
      · next o hp => exact ⟨h1, fun z => by subst z; rw [hp] at h1; cases h1; exact ⟨o, rfl⟩⟩
      · by_cases hij : i = j
        · subst hij
          have hlt : i < S.length := by
            have := getC_lt h1
            simpa [setC] using this
          rw [getC_set_self hlt] at h1
          cases h1
        · rw [getC_set_ne hij] at h1
          exact ⟨h1, fun z => absurd z hij⟩
    refine ⟨key.1, fun hj => ?_⟩
    rcases List.mem_cons.mp hj with z | z
    · exact key.2 z.symm
    · exact h2 z
theorem kill_par : ∀ {is : List Nat} {S : Fr} {j : Nat} {o : Ob}, getC S j = some (.par o) → getC (killS S is) j = some (.par o)
  | [], _, _, _, h => h
  | i :: is, S, j, o, h => by
    unfold killS
    refine kill_par ?_
    unfold kill1
    split
    · exact h
    · next hn =>
      have hij : i ≠ j := fun z => hn o (z ▸ h)
      rw [getC_set_ne hij]; exact h
theorem kill_len : ∀ {is : List Nat} {S : Fr}, (killS S is).length = S.length
  | [], _ => rfl
  | i :: is, S => by
    unfold killS
    rw [kill_len]
    unfold kill1
    split <;> simp [setC]
theorem Rel.kill (r : Rel W pv ow H S σ) (is : List Nat) : Rel W pv ow H (killS S is) σ :=
  ⟨kill_len.trans r.len, fun j c hc => r.cell j c (kill_get hc).1, fun j v hv => let ⟨o, h1, h2⟩ := r.par j v hv; ⟨o, kill_par h1, h2⟩, fun j o hc => r.unpar j o (kill_get hc).1⟩
theorem Rel.wipe (r : Rel W pv ow H S σ) {is : List Nat} (hp : ∀ i ∈ is, pv i = none) : Rel W pv ow H (killS S is) (L2.wipe σ is) := by
  have r' := r.kill is
  have keep : ∀ j v, j ∉ is → σ[j]? = some (some v) → (L2.wipe σ is)[j]? = some (some v) := fun j v hj h => by rw [wipe_get, if_neg (fun z => hj z.1)]; exact h
  refine ⟨by rw [wipe_length]; exact r'.len, fun j c hc => ?_, fun j v hv => ?_, r'.unpar⟩
  · have hj : j ∉ is := fun z => by
      obtain ⟨o, rfl⟩ := (kill_get hc).2 z
      obtain ⟨v, hv⟩ := r'.unpar j o hc
      rw [hp j z] at hv
      cases hv
    obtain ⟨v, hv, q⟩ := r'.cell j c hc
    exact ⟨v, keep j v hj hv, q⟩
  · have hj : j ∉ is := fun z => by rw [hp j z] at hv; cases hv
    obtain ⟨o, h1, h2⟩ := r'.par j v hv
    exact ⟨o, h1, keep j v hj h2⟩
theorem noOwn_par (r : Rel W pv ow H S σ) {is : List Nat} (h : noOwn S is = true) : ∀ i ∈ is, pv i = none := fun i hi => by
  cases e : pv i with
  | none => rfl
  | some v =>
    obtain ⟨o, h1, _⟩ := r.par i v e
    unfold noOwn at h
    rw [List.all_eq_true] at h
    have := h i hi
    rw [h1] at this
    cases this
theorem restore_get : ∀ {is : List Nat} {S0 S : Fr} {j : Nat}, S0.length = S.length → getC (restore S0 S is) j = if j ∈ is then getC S0 j else getC S j
  | [], _, _, _, _ => by simp [restore]
  | i :: is, S0, S, j, hl => by
    unfold restore
    rw [restore_get (by simp [setC, hl])]
    simp only [List.mem_cons]
    by_cases hj : j ∈ is
    · rw [if_pos hj, if_pos (.inr hj)]
    · rw [if_neg hj]
      by_cases hij : i = j
      · subst hij
        rw [if_pos (.inl rfl)]
        by_cases hlt : i < S.length
        · rw [getC_set_self hlt]
        · have e1 : setC S i (getC S0 i) = S := by unfold setC; exact List.set_eq_of_length_le (by omega)
          rw [e1]
          unfold getC
          rw [List.getElem?_eq_none (by omega), List.getElem?_eq_none (by omega)]
      · rw [if_neg (fun z => z.elim (fun z => hij z.symm) hj), getC_set_ne hij]
theorem restore_len : ∀ {is : List Nat} {S0 S : Fr}, (restore S0 S is).length = S.length
  | [], _, _ => rfl
  | i :: is, S0, S => by unfold restore; rw [restore_len]; simp [setC]
/-- behind a comprehension -/
theorem Rel.unwipe {ow1 : Ow} {H1 : Hp} {S2 : Fr} (r0 : Rel W pv ow H S σ) (k : Step ow H ow1 H1) {is : List Nat} (hn : noOwn S is = true) (r : Rel W pv ow1 H1 S2 (L2.wipe σ is)) : Rel W pv ow1 H1 (restore S S2 is) σ := by
  have hl : S.length = S2.length := by rw [r0.len, r.len, wipe_length]
  have back : ∀ j v, j ∉ is → (L2.wipe σ is)[j]? = some (some v) → σ[j]? = some (some v) := fun j v hj h => by rw [wipe_get, if_neg (fun z => hj z.1)] at h; exact h
  refine ⟨by rw [restore_len, ← hl]; exact r0.len, fun j c hc => ?_, fun j v hv => ?_, fun j o hc => ?_⟩
  · rw [restore_get hl] at hc
    split at hc
    · next hj =>
      obtain ⟨v, hv, q⟩ := r0.cell j c hc
      unfold noOwn at hn
      rw [List.all_eq_true] at hn
      have := hn j hj
      rw [hc] at this
      cases c with
      | val d => exact ⟨v, hv, Rep.keep k.keep q⟩
      | own o => cases this
      | par o => cases this
      | exc _ _ => cases this
    · next hj =>
      obtain ⟨v, hv, q⟩ := r.cell j c hc
      exact ⟨v, back j v hj hv, q⟩
  · have hj : j ∉ is := fun z => by rw [noOwn_par r0 hn j z] at hv; cases hv
    obtain ⟨o, h1, h2⟩ := r.par j v hv
    exact ⟨o, by rw [restore_get hl, if_neg hj]; exact h1, back j v hj h2⟩
  · rw [restore_get hl] at hc
    split at hc
    · exact r0.unpar j o hc
    · exact r.unpar j o hc
/-- an object in hand that is no slot's is changed -/
theorem Rel.upd (r : Rel W pv ow H S σ) {p : Addr} {o : HO} (ht : ow p = .tm) : Rel W pv ow (L2.upd H p o) S σ := by
  have kp : Keep ow H ow (L2.upd H p o) := fun q hq e => ⟨upd_ne (fun z => by rw [z, ht] at e; cases e), e⟩
  have kt : ∀ i q, H q ≠ none → ow q = .sl i → L2.upd H p o q = H q ∧ ow q = .sl i := fun i q _ e => ⟨upd_ne (fun z => by rw [z, ht] at e; cases e), e⟩
  refine ⟨r.len, fun j c hc => ?_, r.par, r.unpar⟩
  obtain ⟨v, hv, q⟩ := r.cell j c hc
  refine ⟨v, hv, ?_⟩
  cases c with
  | val d => exact Rep.keep kp q
  | own o => exact ObRep.keep kp (kt j) q
  | par o => exact ObRep.keep kp (kt j) q
  | exc _ _ => exact q
theorem lc_noexc {tg : Tg} {f : Fr → Out (Option D)} {c : Str} {fs : List (Str × D)} {S' : Fr} : ∀ {ds acc : List D} {S : Fr}, lcLoop tg f ds acc S ≠ .exc c fs S'
  | [], acc, S => by simp [lcLoop]
  | d :: r, acc, S => by
    unfold lcLoop
    split
    · simp
    · split
      · exact lc_noexc
      · exact lc_noexc
      · simp
end

/-- the tests of a comprehension -/
def RTs (X : Cx) (ifs : List Expr) (σ : L2.St) (H : Hp) (Q : Bool → Hp → Prop) : Prop := ∀ (pins : List (Addr × Obj)) (s : Shared), Inv X pins σ H s →
  wpAny (model X.prog X.w) X.A (forIn ifs true fun c r => if r = true then do let ok ← isTrue c X.env (eval c X.env); pure (ForInStep.yield ok) else pure (ForInStep.yield r)) (TP X pins σ Q) X.xe s
theorem pts_RTs {X : Cx} {ifs : List Expr} : PTs X ifs (RTs X ifs) := ⟨fun pins s σ H Q I h => h pins s I⟩
theorem RTs.of {X : Cx} {ifs : List Expr} {t : TT} {σ : L2.St} {H : Hp} {Q : Bool → Hp → Prop} (h : PTs X ifs t) (q : t σ H Q) : RTs X ifs σ H Q := fun pins s I => h.run pins s σ H Q I q
def noWx : WX := fun _ _ _ _ => False
abbrev blkOf (X : Cx) (scope : Scope) (s : Shared) (H : Hp) (C : Addr) (cl : List (Str × Addr)) (fp : List Addr) : Cx := X.blk s H scope (compEnvC scope cl C X.env) fp
def SndOt (W : Wd) (cl : Calls) (gl : Str → Option D) (X : Cx) (Wx : WX) (ifs : List Expr) (c : Ot) : Prop := ∀ (pv : Nat → Option V) (ow : Ow) (H : Hp) (S : Fr) (σ : L2.St) (Q : Bool → Hp → Prop), Rel W pv ow H S σ → PostB W pv ow H σ Wx (evOt cl gl c S) Q → RTs X ifs σ H Q
section
variable {W : Wd} {M : MC} {cl : Calls} {gl : Str → Option D} {k : Nat} {X : Cx} {sc : Scope} {Wx : WX} {e a b c tgE iter elt : Expr} {ia ib ic : E} {pos p1 p2 : Pos}
theorem snd_ot0 : SndOt W cl gl X Wx [] .none := fun pv ow H S σ Q r h => RTs.of pts_nil (h true ow H Step.refl r rfl)
theorem snd_ot1 {it : T} (h : SndT W cl gl X Wx a it) : SndOt W cl gl X Wx [a] (.some it) := fun pv ow H S σ Q r hp => RTs.of (pts_one pt_RT) (h pv ow H S σ Q r hp)
def ttLc (X : Cx) (scope : Scope) (ifs : List Expr) : TT := fun σ H Q => ∀ s0 H0 C cc fp, RTs (blkOf X scope s0 H0 C cc fp) ifs σ H Q
def teLc (X : Cx) (scope : Scope) (elt : Expr) : TE := fun σ H Q => ∀ s0 H0 C cc fp, RE (blkOf X scope s0 H0 C cc fp) elt σ H Q
theorem lc_read (G : CxG W M cl gl k X sc Wx) {scope : Scope} {tg : Tg} {it : It} {ot : Ot} {ifs : List Expr} (hi : SndI W cl gl X Wx tgE iter it) (ht : ∀ s H C cc fp, SndOt W cl gl (blkOf X scope s H C cc fp) noWx ifs ot) (he : ∀ s H C cc fp, SndE W cl gl (blkOf X scope s H C cc fp) noWx elt ia)
    {pv : Nat → Option V} {ow : Ow} {H : Hp} {S : Fr} {σ : L2.St} {Q : VK} (r : Rel W pv ow H S σ) (h : PostE W pv ow H σ Wx (evE cl gl (.lc ia tg it ot) S) Q) : tLc (RI X tgE iter) (gOf X.K tg) (ttLc X scope ifs) (teLc X scope elt) (slotsT tg) σ H Q := by
  simp only [evE] at h
  refine RI.mono (hi pv ow H S σ _ r (Post.seq h)) ?_
  rintro J H1 ⟨ds, S1, ow1, -, k1, r1, wk, h1⟩ D hD
  split at h1
  · next hc =>
    simp only [Bool.and_eq_true] at hc
    obtain ⟨hn, hz⟩ := hc
    have hpv := noOwn_par r1 hn
    revert h1
    generalize hfd : (fun S => (evOt cl gl ot S).bind fun k S => if k = true then (evE cl gl ia S).bind fun x S => (esc x S).bind fun d S => Out.ok (some d) S else Out.ok none S) = f
    intro h1
    cases hl : lcLoop tg f ds [] (killS S1 (slotsT tg)) with
    | bad => rw [hl] at h1; exact False.elim h1
    | exc c fs S2 => exact absurd hl lc_noexc
    | ok xs Sx =>
      rw [hl] at h1
      simp only [Out.bind] at h1
      refine ⟨fun i m H' => m = ds.length - i ∧ i ≤ ds.length ∧ ∃ ow' S' acc vs, Step ow1 H1 ow' H' ∧ ow' D = .tm ∧ H' D = some (.lst vs) ∧ RepL W ow' H' acc vs ∧ acc.length ≤ i ∧ Rel W pv ow' H' S' (wipe σ (slotsT tg)) ∧ lcLoop tg f (ds.drop i) acc S' = .ok xs Sx, ?_, ?_⟩
      · have g := Grow.new (ow := ow1) (o := .lst []) (t := .tm) hD
        exact ⟨ds.length, by simp, Nat.zero_le _, _, killS S1 (slotsT tg), [], [], g.step, if_pos rfl, upd_same, .nil, Nat.le_refl _, Rel.wipe (r1.grow g) hpv, by simpa using hl⟩
      · rintro i m H' ⟨rfl, hi', ow', S', acc, vs, st, tD, eD, ra, la, r', hl'⟩
        by_cases hlt : i < ds.length
        · right
          have hd : ds[i]? = some ds[i] := List.getElem?_eq_getElem hlt
          obtain ⟨go, yl⟩ := (wk ow' H' st.keep i).1 _ hd
          refine ⟨go, fun H2 => (ds.length - (i + 1) = ds.length - (i + 1) ∧ i + 1 ≤ ds.length ∧ ∃ ow' S' acc vs, Step ow1 H1 ow' H2 ∧ ow' D = .tm ∧ H2 D = some (.lst vs) ∧ RepL W ow' H2 acc vs ∧ acc.length ≤ i + 1 ∧ Rel W pv ow' H2 S' (wipe σ (slotsT tg)) ∧ lcLoop tg f (ds.drop (i + 1)) acc S' = .ok xs Sx), fun H2 q => ⟨_, by omega, q⟩, fun x H2 hy => ?_⟩
          obtain ⟨ow2, g2, rx⟩ := yl x H2 hy
          rw [List.drop_eq_getElem_cons hlt] at hl'
          unfold lcLoop at hl'
          split at hl'
          · cases hl'
          · next S3 hb =>
            have hnD : H' D ≠ none := by rw [eD]; simp
            rw [G.K]
            refine g_ok (r'.grow g2) rx hb fun σ1 r3 l3 e3 => ⟨?_, fun s0 H0 C cc fp => ?_⟩
            · have e4 : wipe (wipe σ (slotsT tg)) (slotsT tg) = wipe σ (slotsT tg) := wipe_ext (wipe_length _ _) fun j hj => by rw [wipe_get, if_neg (fun z => hj z.1)]
              rw [← e4]
              exact wipe_ext l3 e3
            · have ew : wipe σ1 (slotsT tg) = wipe σ (slotsT tg) := by
                have e4 : wipe (wipe σ (slotsT tg)) (slotsT tg) = wipe σ (slotsT tg) := wipe_ext (wipe_length _ _) fun j hj => by rw [wipe_get, if_neg (fun z => hj z.1)]
                rw [← e4]
                exact wipe_ext l3 e3
              have st2 : Step ow1 H1 ow2 H2 := st.trans g2.step
              have tD2 : ow2 D = .tm := (g2 D hnD).2.trans tD
              have eD2 : H2 D = some (.lst vs) := (g2 D hnD).1.trans eD
              have ra2 := ra.keep g2.keep
              rw [← hfd] at hl'
              refine ht s0 H0 C cc fp pv ow2 H2 S3 σ1 _ r3 ?_
              simp only at hl'
              cases ho : evOt cl gl ot S3 with
              | bad => rw [ho] at hl'; simp only [Out.bind] at hl'; cases hl'
              | exc c fs S4 => rw [ho] at hl'; simp only [Out.bind] at hl'; cases hl'
              | ok kb S4 =>
                rw [ho] at hl'
                simp only [Out.bind] at hl'
                intro b ow3 H3 st3 r4 eb
                subst eb
                have hnD2 : H2 D ≠ none := by rw [eD2]; simp
                obtain ⟨eD3, tD3⟩ := st3.tag hnD2 tD2 (by simp)
                have ra3 := ra2.keep st3.keep
                cases kb with
                | false =>
                  rw [if_neg (by simp)]
                  simp only [Bool.false_eq_true, if_false] at hl'
                  refine ⟨rfl, hlt, ow3, killS S4 (slotsT tg), acc, vs, st2.trans st3, tD3, eD3.trans eD2, ra3, by omega, ?_, by rw [hfd] at hl'; exact hl'⟩
                  have := Rel.wipe r4 hpv
                  rw [ew] at this
                  exact this
                | true =>
                  rw [if_pos rfl]
                  intro s0 H0 C cc fp
                  simp only [if_true] at hl'
                  refine he s0 H0 C cc fp pv ow3 H3 S4 σ1 _ r4 ?_
                  cases hv : evE cl gl ia S4 with
                  | bad => rw [hv] at hl'; simp only at hl'; cases hl'
                  | exc c fs S5 => rw [hv] at hl'; simp only at hl'; cases hl'
                  | ok y S5 =>
                    rw [hv] at hl'
                    simp only at hl'
                    intro v ow4 H4 st4 r5 rv
                    cases hes : esc y S5 with
                    | bad => rw [hes] at hl'; simp only at hl'; cases hl'
                    | exc c fs S6 => exact absurd hes esc_noexc
                    | ok d S6 =>
                      rw [hes] at hl'
                      simp only at hl'
                      obtain ⟨ow5, st5, kp5, r6, rd⟩ := esc_ok r5 st4 rv hes
                      have hnD3 : H3 D ≠ none := by rw [eD3]; exact hnD2
                      obtain ⟨eD5, tD5⟩ := st5.tag hnD3 tD3 (by simp)
                      have eD5' : H4 D = some (.lst vs) := eD5.trans (eD3.trans eD2)
                      have ra5 := ra3.keep st5.keep
                      have kpD : Keep ow5 H4 ow5 (upd H4 D (.lst (vs ++ [v]))) := fun q hq e => ⟨upd_ne (fun z => by rw [z, tD5] at e; cases e), e⟩
                      refine ⟨vs, eD5', by rw [← ra5.length]; have := lineOk_ok hz; omega, rfl, hlt, ow5, killS S6 (slotsT tg), acc ++ [d], vs ++ [v], ?_, tD5, upd_same, (ra5.append (.one rd)).keep kpD, by simp; omega, ?_, by rw [hfd] at hl'; exact hl'⟩
                      · intro q hq
                        have ne : q ≠ D := fun z => hq (z ▸ hD)
                        rw [upd_ne ne]
                        exact ((st2.trans st3).trans st5) q hq
                      · have := Rel.wipe (r6.upd (p := D) (o := .lst (vs ++ [v])) tD5) hpv
                        rw [ew] at this
                        exact this
        · left
          have e : i = ds.length := by omega
          subst e
          refine ⟨(wk ow' H' st.keep ds.length).2 rfl, ?_⟩
          rw [List.drop_length] at hl'
          simp only [lcLoop, Out.ok.injEq] at hl'
          obtain ⟨rfl, rfl⟩ := hl'
          exact h1 (.ref D) ow' H' (k1.trans st) (Rel.unwipe r1 st hn r') ⟨D, vs, rfl, eD, ⟨tD, k1.none hD⟩, ra⟩
  · exact False.elim h1
theorem snd_lc (G : CxG W M cl gl k X sc Wx) {scope : Scope} {own : List (Str × Nat)} {tg : Tg} {it : It} {ot : Ot} {ifs : List Expr} (ok : BlkOk X.N X.env.scope scope own) (hown : own.map (·.2) = slotsT tg) (hi : SndI W cl gl X Wx tgE iter it)
    (hg : ∀ s H C cc fp, PG (blkOf X scope s H C cc fp) tgE (gOf X.K tg)) (ht : ∀ s H C cc fp, SndOt W cl gl (blkOf X scope s H C cc fp) noWx ifs ot) (he : ∀ s H C cc fp, SndE W cl gl (blkOf X scope s H C cc fp) noWx elt ia)
    (hf : ∀ x, foldedSetIterable iter X.env x = pure x) : SndE W cl gl X Wx (.ListComp elt [⟨tgE, iter, ifs, 0⟩] scope pos) (.lc ia tg it ot) := by
  intro pv ow H S σ Q r h
  refine RE.of (pe_lc (tt := ttLc X scope ifs) (te := teLc X scope elt) G.calm (by rw [G.N]; exact G.nd) pi_RI ok hg (fun s H C cc fp => ⟨fun pins s1 σ H1 Q I q => q s H C cc fp pins s1 I⟩) (fun s H C cc fp => ⟨fun pins s1 σ H1 Q I q => q s H C cc fp pins s1 I⟩) hf) ?_
  rw [hown]
  exact lc_read G hi ht he r h

/-! ### two for -/
theorem Keep.trans {ow ow1 ow2 : Ow} {H H1 H2 : Hp} (a : Keep ow H ow1 H1) (b : Keep ow1 H1 ow2 H2) : Keep ow H ow2 H2 := fun p hp e => by
  obtain ⟨h1, t1⟩ := a p hp e
  obtain ⟨h2, t2⟩ := b p (by rw [h1]; exact hp) t1
  exact ⟨h2.trans h1, t2⟩
theorem lc2_noexc {tg : Tg} {kl : List Nat} {f : List D → Fr → Out (List D)} {c : Str} {fs : List (Str × D)} {S' : Fr} : ∀ {ds acc : List D} {S : Fr}, lc2Loop tg kl f ds acc S ≠ .exc c fs S'
  | [], acc, S => by simp [lc2Loop]
  | d :: r, acc, S => by
    unfold lc2Loop
    split
    · simp
    · split
      · exact lc2_noexc
      · simp
def riLc (X : Cx) (scope : Scope) (tg iter : Expr) : TI := fun σ H R => ∀ s0 H0 C cc fp, RI (blkOf X scope s0 H0 C cc fp) tg iter σ H R
theorem wipe_again {σ σ1 : L2.St} {vs vs1 : List Nat} (h : L2.wipe σ1 vs = L2.wipe σ vs) (hv : ∀ i ∈ vs1, i ∈ vs) : L2.wipe (L2.wipe σ1 vs1) vs = L2.wipe σ vs := by
  rw [← h]
  exact wipe_ext (wipe_length _ _) fun j hj => by rw [wipe_get, if_neg (fun z => hj (hv j z.1))]
theorem lc2_read (G : CxG W M cl gl k X sc Wx) {scope : Scope} {tg tg1 : Tg} {it it1 : It} {tgE1 iter1 : Expr} (hi : SndI W cl gl X Wx tgE iter it) (hi1 : ∀ s H C cc fp, SndI W cl gl (blkOf X scope s H C cc fp) noWx tgE1 iter1 it1) (he : ∀ s H C cc fp, SndE W cl gl (blkOf X scope s H C cc fp) noWx elt ia)
    {pv : Nat → Option V} {ow : Ow} {H : Hp} {S : Fr} {σ : L2.St} {Q : VK} (r : Rel W pv ow H S σ) (h : PostE W pv ow H σ Wx (evE cl gl (.lc2 ia tg it tg1 it1) S) Q) : tLc2 (RI X tgE iter) (gOf X.K tg) (ttLc X scope []) (riLc X scope tgE1 iter1) (gOf X.K tg1) (ttLc X scope []) (teLc X scope elt) (slotsT tg ++ slotsT tg1) (slotsT tg1) σ H Q := by
  simp only [evE] at h
  refine RI.mono (hi pv ow H S σ _ r (Post.seq h)) ?_
  rintro J H1 ⟨ds, S1, ow1, -, k1, r1, wk, h1⟩ D hD
  split at h1
  · next hn =>
    have hpv := noOwn_par r1 hn
    have hpv1 : ∀ i ∈ slotsT tg1, pv i = none := fun i hi => hpv i (List.mem_append_right _ hi)
    revert h1
    generalize hgd : (fun S => (evE cl gl ia S).bind fun x S => (esc x S).bind fun d S => Out.ok (some d) S) = g1
    generalize hfd : (fun (acc : List Ev.D) S => (evI cl gl it1 S).bind fun ds1 S => if decide (acc.length + ds1.length ≤ sizeLine) = true then lcLoop tg1 g1 ds1 acc (killS S (slotsT tg1)) else Out.bad) = f
    intro h1
    cases hl : lc2Loop tg (slotsT tg ++ slotsT tg1) f ds [] (killS S1 (slotsT tg ++ slotsT tg1)) with
    | bad => rw [hl] at h1; exact False.elim h1
    | exc c fs S2 => exact absurd hl lc2_noexc
    | ok xs Sx =>
      rw [hl] at h1
      simp only [Out.bind] at h1
      refine ⟨fun i m H' => m = ds.length - i ∧ i ≤ ds.length ∧ ∃ ow' S' acc vs, Step ow1 H1 ow' H' ∧ ow' D = .tm ∧ H' D = some (.lst vs) ∧ RepL W ow' H' acc vs ∧ Rel W pv ow' H' S' (wipe σ (slotsT tg ++ slotsT tg1)) ∧ lc2Loop tg (slotsT tg ++ slotsT tg1) f (ds.drop i) acc S' = .ok xs Sx, ?_, ?_⟩
      · have g := Grow.new (ow := ow1) (o := .lst []) (t := .tm) hD
        exact ⟨ds.length, by simp, Nat.zero_le _, _, killS S1 (slotsT tg ++ slotsT tg1), [], [], g.step, if_pos rfl, upd_same, .nil, Rel.wipe (r1.grow g) hpv, by simpa using hl⟩
      · rintro i m H' ⟨rfl, hi', ow', S', acc, vs, st, tD, eD, ra, r', hl'⟩
        by_cases hlt : i < ds.length
        · right
          have hd : ds[i]? = some ds[i] := List.getElem?_eq_getElem hlt
          obtain ⟨go, yl⟩ := (wk ow' H' st.keep i).1 _ hd
          refine ⟨go, fun H2 => (ds.length - (i + 1) = ds.length - (i + 1) ∧ i + 1 ≤ ds.length ∧ ∃ ow' S' acc vs, Step ow1 H1 ow' H2 ∧ ow' D = .tm ∧ H2 D = some (.lst vs) ∧ RepL W ow' H2 acc vs ∧ Rel W pv ow' H2 S' (wipe σ (slotsT tg ++ slotsT tg1)) ∧ lc2Loop tg (slotsT tg ++ slotsT tg1) f (ds.drop (i + 1)) acc S' = .ok xs Sx), fun H2 q => ⟨_, by omega, q⟩, fun x H2 hy => ?_⟩
          obtain ⟨ow2, g2, rx⟩ := yl x H2 hy
          rw [List.drop_eq_getElem_cons hlt] at hl'
          unfold lc2Loop at hl'
          split at hl'
          · cases hl'
          · next S3 hb =>
            have hnD : H' D ≠ none := by rw [eD]; simp
            rw [G.K]
            refine g_ok (r'.grow g2) rx hb fun σ1 r3 l3 e3 => ?_
            have ew : wipe σ1 (slotsT tg ++ slotsT tg1) = wipe σ (slotsT tg ++ slotsT tg1) := by
              have e4 : wipe (wipe σ (slotsT tg ++ slotsT tg1)) (slotsT tg ++ slotsT tg1) = wipe σ (slotsT tg ++ slotsT tg1) := wipe_ext (wipe_length _ _) fun j hj => by rw [wipe_get, if_neg (fun z => hj z.1)]
              rw [← e4]
              exact wipe_ext l3 fun j hj => e3 j fun z => hj (List.mem_append_left _ z)
            refine ⟨ew, fun s0 H0 C cc fp => RTs.of pts_nil ?_⟩
            simp only [tYes, if_true]
            intro s0 H0 C cc fp
            have st2 : Step ow1 H1 ow2 H2 := st.trans g2.step
            have tD2 : ow2 D = .tm := (g2 D hnD).2.trans tD
            have eD2 : H2 D = some (.lst vs) := (g2 D hnD).1.trans eD
            have ra2 := ra.keep g2.keep
            split at hl'
            case h_2 => cases hl'
            next acc' S6 hf =>
            rw [← hfd] at hf
            simp only at hf
            cases ho : evI cl gl it1 S3 with
            | bad => rw [ho] at hf; simp only [Out.bind] at hf; cases hf
            | exc c fs S4 => rw [ho] at hf; simp only [Out.bind] at hf; cases hf
            | ok ds1 S4 =>
              rw [ho] at hf
              simp only [Out.bind] at hf
              split at hf
              case isFalse => cases hf
              next hsz =>
              have hsz := of_decide_eq_true hsz
              refine RI.mono (hi1 s0 H0 C cc fp pv ow2 H2 S3 σ1 (fun J1 H4 => ∃ ow3, Step ow2 H2 ow3 H4 ∧ Rel W pv ow3 H4 S4 σ1 ∧ Walk W ow3 H4 J1 ds1) r3 ?_) ?_
              · rw [ho]
                exact fun J1 ow3 H4 st3 r4 w1 => ⟨ow3, st3, r4, w1⟩
              rintro J1 H4 ⟨ow3, st3, r4, w1⟩
              have hnD2 : H2 D ≠ none := by rw [eD2]; simp
              obtain ⟨eD3, tD3⟩ := st3.tag hnD2 tD2 (by simp)
              have ra3 := ra2.keep st3.keep
              refine ⟨fun j kk Hj => kk = ds1.length - j ∧ j ≤ ds1.length ∧ ∃ ow' S' ac us, Step ow1 H1 ow' Hj ∧ Keep ow3 H4 ow' Hj ∧ ow' D = .tm ∧ Hj D = some (.lst us) ∧ RepL W ow' Hj ac us ∧ ac.length ≤ acc.length + j ∧ Rel W pv ow' Hj S' (wipe σ1 (slotsT tg1)) ∧ lcLoop tg1 g1 (ds1.drop j) ac S' = .ok acc' S6, ?_, ?_⟩
              · exact ⟨ds1.length, by simp, Nat.zero_le _, ow3, killS S4 (slotsT tg1), acc, vs, st2.trans st3, fun _ _ z => ⟨rfl, z⟩, tD3, eD3.trans eD2, ra3, Nat.le_refl _, Rel.wipe r4 hpv1, by simpa using hf⟩
              · rintro j kk Hj ⟨rfl, hj', owj, Sj, ac, us, stj, kpj, tDj, eDj, raj, laj, rj, hlj⟩
                by_cases hjl : j < ds1.length
                · right
                  have hd1 : ds1[j]? = some ds1[j] := List.getElem?_eq_getElem hjl
                  obtain ⟨go1, yl1⟩ := (w1 owj Hj kpj j).1 _ hd1
                  refine ⟨go1, fun H5 => (ds1.length - (j + 1) = ds1.length - (j + 1) ∧ j + 1 ≤ ds1.length ∧ ∃ ow' S' ac us, Step ow1 H1 ow' H5 ∧ Keep ow3 H4 ow' H5 ∧ ow' D = .tm ∧ H5 D = some (.lst us) ∧ RepL W ow' H5 ac us ∧ ac.length ≤ acc.length + (j + 1) ∧ Rel W pv ow' H5 S' (wipe σ1 (slotsT tg1)) ∧ lcLoop tg1 g1 (ds1.drop (j + 1)) ac S' = .ok acc' S6), fun H5 q => ⟨_, by omega, q⟩, fun y H5 hy1 => ?_⟩
                  obtain ⟨ow5, g5, ry⟩ := yl1 y H5 hy1
                  rw [List.drop_eq_getElem_cons hjl] at hlj
                  unfold lcLoop at hlj
                  split at hlj
                  · cases hlj
                  · next S7 hb1 =>
                    have hnDj : Hj D ≠ none := by rw [eDj]; simp
                    refine g_ok (rj.grow g5) ry hb1 fun σ3 r7 l7 e7 => ?_
                    have ew3 : wipe σ3 (slotsT tg1) = wipe σ1 (slotsT tg1) := by
                      have e4 : wipe (wipe σ1 (slotsT tg1)) (slotsT tg1) = wipe σ1 (slotsT tg1) := wipe_ext (wipe_length _ _) fun j hj => by rw [wipe_get, if_neg (fun z => hj z.1)]
                      rw [← e4]
                      exact wipe_ext l7 e7
                    refine ⟨ew3, fun s0 H0 C cc fp => RTs.of pts_nil ?_⟩
                    simp only [tYes, if_true]
                    intro s0 H0 C cc fp
                    have st5 : Step ow1 H1 ow5 H5 := stj.trans g5.step
                    have tD5 : ow5 D = .tm := (g5 D hnDj).2.trans tDj
                    have eD5 : H5 D = some (.lst us) := (g5 D hnDj).1.trans eDj
                    have ra5 := raj.keep g5.keep
                    have kp5 := kpj.trans g5.keep
                    rw [← hgd] at hlj
                    simp only at hlj
                    refine he s0 H0 C cc fp pv ow5 H5 S7 σ3 _ r7 ?_
                    cases hv : evE cl gl ia S7 with
                    | bad => rw [hv] at hlj; simp only [Out.bind] at hlj; cases hlj
                    | exc c fs S5 => rw [hv] at hlj; simp only [Out.bind] at hlj; cases hlj
                    | ok yy S8 =>
                      rw [hv] at hlj
                      simp only [Out.bind] at hlj
                      intro v ow8 H8 st8 r8 rv
                      cases hes : esc yy S8 with
                      | bad => rw [hes] at hlj; simp only at hlj; cases hlj
                      | exc c fs S6 => exact absurd hes esc_noexc
                      | ok d S9 =>
                        rw [hes] at hlj
                        simp only at hlj
                        obtain ⟨ow9, st9, kp9, r9, rd⟩ := esc_ok r8 st8 rv hes
                        have hnD5 : H5 D ≠ none := by rw [eD5]; simp
                        obtain ⟨eD9, tD9⟩ := st9.tag hnD5 tD5 (by simp)
                        have eD9' : H8 D = some (.lst us) := eD9.trans eD5
                        have ra9 := ra5.keep st9.keep
                        have kpD : Keep ow9 H8 ow9 (upd H8 D (.lst (us ++ [v]))) := fun q hq e => ⟨upd_ne (fun z => by rw [z, tD9] at e; cases e), e⟩
                        refine ⟨us, eD9', by rw [← ra9.length]; omega, trivial, hjl, ow9, killS S9 (slotsT tg1), ac ++ [d], us ++ [v], ?_, (kp5.trans st9.keep).trans kpD, tD9, upd_same, (ra9.append (.one rd)).keep kpD, by simp; omega, ?_, by rw [hgd] at hlj; exact hlj⟩
                        · intro q hq
                          have ne : q ≠ D := fun z => hq (z ▸ hD)
                          rw [upd_ne ne]
                          exact (st5.trans st9) q hq
                        · have := Rel.wipe (r9.upd (p := D) (o := .lst (us ++ [v])) tD9) hpv1
                          rw [ew3] at this
                          exact this
                · left
                  have e : j = ds1.length := by omega
                  subst e
                  refine ⟨(w1 owj Hj kpj ds1.length).2 rfl, ?_⟩
                  rw [List.drop_length] at hlj
                  simp only [lcLoop, Out.ok.injEq] at hlj
                  obtain ⟨rfl, rfl⟩ := hlj
                  refine ⟨trivial, hlt, owj, killS Sj (slotsT tg ++ slotsT tg1), ac, us, stj, tDj, eDj, raj, ?_, hl'⟩
                  have := Rel.wipe rj hpv
                  rw [wipe_again ew fun i hi => List.mem_append_right _ hi] at this
                  exact this
        · left
          have e : i = ds.length := by omega
          subst e
          refine ⟨(wk ow' H' st.keep ds.length).2 rfl, ?_⟩
          rw [List.drop_length] at hl'
          simp only [lc2Loop, Out.ok.injEq] at hl'
          obtain ⟨rfl, rfl⟩ := hl'
          exact h1 (.ref D) ow' H' (k1.trans st) (Rel.unwipe r1 st hn r') ⟨D, vs, rfl, eD, ⟨tD, k1.none hD⟩, ra⟩
  · exact False.elim h1
theorem snd_lc2 (G : CxG W M cl gl k X sc Wx) {scope : Scope} {own : List (Str × Nat)} {tg tg1 : Tg} {it it1 : It} {tgE1 iter1 : Expr} (ok : BlkOk X.N X.env.scope scope own) (hown : own.map (·.2) = slotsT tg ++ slotsT tg1) (hi : SndI W cl gl X Wx tgE iter it)
    (hg : ∀ s H C cc fp, PG (blkOf X scope s H C cc fp) tgE (gOf X.K tg)) (hi1 : ∀ s H C cc fp, SndI W cl gl (blkOf X scope s H C cc fp) noWx tgE1 iter1 it1) (hg1 : ∀ s H C cc fp, PG (blkOf X scope s H C cc fp) tgE1 (gOf X.K tg1)) (he : ∀ s H C cc fp, SndE W cl gl (blkOf X scope s H C cc fp) noWx elt ia)
    (hf : ∀ x, foldedSetIterable iter X.env x = pure x) (hf1 : ∀ env x, foldedSetIterable iter1 env x = pure x) : SndE W cl gl X Wx (.ListComp elt [⟨tgE, iter, [], 0⟩, ⟨tgE1, iter1, [], 0⟩] scope pos) (.lc2 ia tg it tg1 it1) := by
  intro pv ow H S σ Q r h
  refine RE.of (pe_lc2 (vs1 := slotsT tg1) (wi1 := riLc X scope tgE1 iter1) (tt := ttLc X scope []) (tt1 := ttLc X scope []) (te := teLc X scope elt) G.calm (by rw [G.N]; exact G.nd) pi_RI ok (by rw [hown]; exact fun i hi => List.mem_append_right _ hi) hg (fun s H C cc fp => ⟨fun pins s1 σ H1 Q I q => q s H C cc fp pins s1 I⟩) (fun s H C cc fp => ⟨fun pins s1 σ H1 Q I q => q s H C cc fp pins s1 I⟩) hg1 (fun s H C cc fp => ⟨fun pins s1 σ H1 Q I q => q s H C cc fp pins s1 I⟩) (fun s H C cc fp => ⟨fun pins s1 σ H1 Q I q => q s H C cc fp pins s1 I⟩) hf hf1) ?_
  rw [hown]
  exact lc2_read G hi hi1 he r h
end
end Ev

/-! EvI2: a dict in the heap; dict comprehensions. -/
namespace Ev
open PySem PySem.Spec PyProof.Rows L2

mutual
theorem toKey_ofKey : ∀ k : NestedKey, toKey (ofKey k) = some k
  | .none => rfl
  | .num i => rfl
  | .text x => rfl
  | .tup ks => by simp only [ofKey, toKey, toKeys_ofKeys ks]; rfl
theorem toKeys_ofKeys : ∀ ks : List NestedKey, toKeys (ofKeys ks) = some ks
  | [] => rfl
  | k :: ks => by simp only [ofKeys, toKeys, toKey_ofKey k, toKeys_ofKeys ks]
end
section
variable {W : Wd} {X : Cx} {pins : List (Addr × Obj)} {σ : L2.St} {H : Hp} {s : Shared} {ow : Ow}
mutual
theorem nestIs (hK : X.K = W.K) (I : Inv X pins σ H s) : ∀ {d : D} {v : V} {k : NestedKey} {u : Value}, Rep W ow H d v → toKey d = some k → RelV v u → NestedIs s.heap k u
  | .non, _, k, u, h, e, r => by
    cases h
    simp [toKey] at e
    subst e
    cases r
    exact .none
  | .int i, _, k, u, h, e, r => by
    cases h
    simp [toKey] at e
    subst e
    obtain ⟨t, rfl⟩ := r
    exact .int i t
  | .str x, _, k, u, h, e, r => by
    cases h
    simp [toKey] at e
    subst e
    obtain ⟨t, rfl⟩ := r
    exact .text x t
  | .tup xs, _, k, u, h, e, r => by
    simp only [toKey, Option.map_eq_some_iff] at e
    obtain ⟨ks, e, rfl⟩ := e
    cases h with
    | tup ht hl =>
      cases r
      obtain ⟨its, rv, ⟨o, e1, e2, n, e3⟩, _⟩ := I.tuple (hK ▸ ht.sq)
      exact .tup e1 e2 e3 (by simpa using nestAll hK I hl e rv)
  | .bl _, _, _, _, _, e, _ => by simp [toKey] at e
  | .lst _, _, _, _, _, e, _ => by simp [toKey] at e
  | .dic _, _, _, _, _, e, _ => by simp [toKey] at e
  | .ins _ _, _, _, _, _, e, _ => by simp [toKey] at e
theorem nestAll (hK : X.K = W.K) (I : Inv X pins σ H s) : ∀ {ds : List D} {vs : List V} {ks : List NestedKey} {us : List Value}, RepL W ow H ds vs → toKeys ds = some ks → Vals vs us → NestedAll s.heap ks us
  | [], _, ks, us, h, e, r => by
    cases h
    simp [toKeys] at e
    subst e
    cases r
    exact .nil
  | d :: ds, _, ks, us, h, e, r => by
    cases h with
    | cons h l =>
      simp only [toKeys] at e
      split at e
      · next p ps e1 e2 =>
        cases e
        cases r with
        | cons r rr => exact .cons (nestIs hK I h e1 r) (nestAll hK I l e2 rr)
      · cases e
end
/-- a dict that stands in hand, in the heap -/
theorem dictOf (hP : X.prog = W.P) (hw : X.w = W.w) (hK : X.K = W.K) (I : Inv X pins σ H s) {a : Addr} {o : Obj} {es : List (NestedKey × Addr × V)} {kvs : List (NestedKey × D)} (ha : H a = some (objAt a o)) (hd : DObj W.P W.w o es) (hr : RepK W ow H kvs es) :
    s.heap.get? a = some o ∧ ∃ xs : List (NestedKey × Addr × Value), Paired (fun (p : NestedKey × Addr × V) (q : NestedKey × Addr × Value) => p.1 = q.1 ∧ p.2.1 = q.2.1 ∧ RelV p.2.2 q.2.2) es xs ∧ s.heap.DictOfH (nestedKind X.prog X.w) a xs := by
  have hg : s.heap.get? a = some o := (I.hok a _ ha).1
  refine ⟨hg, ?_⟩
  obtain ⟨hz, hx, xs, hp, ds, ep, e1, e2, e3⟩ := hd
  refine ⟨xs, hp, o, ds, ep, hg, hx, e1, by rw [e2, hP, hw], ?_, e3⟩
  clear e2 e3 hz hx ha hg
  intro x hx
  induction hp generalizing kvs with
  | nil => cases hx
  | cons h l ih =>
    cases hr with
    | cons r1 r2 r3 r4 =>
      rcases List.mem_cons.mp hx with rfl | hx
      · obtain ⟨h1, h2, _⟩ := h
        simp only at h1 h2
        refine ⟨?_, by rw [← h1]; exact r2⟩
        rw [← h1, ← h2]
        exact nestIs hK I r1 (toKey_ofKey _) rfl
      · exact ih r4 hx
theorem kOf_ok {ks : List D} {k : List NestedKey} (h : kOf ks = some k) : toKeys ks = some k ∧ (NestedKey.tup k).depth ≤ 8 := by
  unfold kOf at h
  simp only [Option.bind_eq_some_iff] at h
  obtain ⟨k', h1, h2⟩ := h
  split at h2
  · next hd => cases h2; exact ⟨h1, hd⟩
  · cases h2
/-- the key in the heap -/
theorem keyIs (hK : X.K = W.K) (I : Inv X pins σ H s) {ks : List D} {k : List NestedKey} {a : Addr} (h : Rd1 W ow H (.tup ks) (.ref a)) (e : kOf ks = some k) : (nestedKind X.prog X.w).is s.heap (.tup k) a := by
  obtain ⟨e1, e2⟩ := kOf_ok e
  exact ⟨nestIs hK I (show Rep W ow H (.tup ks) (.ref a) from h) (by simp [toKey, e1]) rfl, e2⟩
theorem at_some : ∀ {kvs : List (NestedKey × D)} {es : List (NestedKey × Addr × V)} {xs : List (NestedKey × Addr × Value)} {k : NestedKey}, RepK W ow H kvs es → Paired (fun (p : NestedKey × Addr × V) (q : NestedKey × Addr × Value) => p.1 = q.1 ∧ p.2.1 = q.2.1 ∧ RelV p.2.2 q.2.2) es xs →
    (valueAt (pairsH xs) k).isSome = hasKey kvs k ∧ ∀ d, (kvs.find? fun p => decide (p.1 = k)).map (·.2) = some d → ∃ v u, Rep W ow H d v ∧ RelV v u ∧ valueAt (pairsH xs) k = some u
  | _, _, _, k, .nil, .nil => ⟨rfl, fun d h => by simp at h⟩
  | _, _, _, k, .cons (k := k0) r1 r2 r3 r4, .cons h l => by
    obtain ⟨h1, h2, h3⟩ := h
    simp only at h1 h2 h3
    obtain ⟨ih1, ih2⟩ := at_some (k := k) r4 l
    by_cases hk : k0 = k
    · refine ⟨?_, fun d hd => ?_⟩
      · simp [pairsH, valueAt, hasKey, ← h1, hk]
      · simp [hk] at hd
        subst hd
        exact ⟨_, _, r3, h3, by simp [pairsH, valueAt, ← h1, hk]⟩
    · refine ⟨?_, fun d hd => ?_⟩
      · simpa [pairsH, valueAt, hasKey, ← h1, hk] using ih1
      · simp only [List.find?_cons, hk, decide_false] at hd
        obtain ⟨v, u, q1, q2, q3⟩ := ih2 d hd
        refine ⟨v, u, q1, q2, ?_⟩
        simpa [pairsH, valueAt, ← h1, hk] using q3
theorem room_in1 {A : Around} (hu : A.units + 100 < cLine) : (nestedKind X.prog X.w).room A.in1 := by
  show A.units + 1 + 8 < cLine
  omega
theorem repK_len : ∀ {kvs : List (NestedKey × D)} {es : List (NestedKey × Addr × V)}, RepK W ow H kvs es → kvs.length = es.length
  | _, _, .nil => rfl
  | _, _, .cons _ _ _ l => by simp [repK_len l]
mutual
theorem ofKey_toKey : ∀ {d : D} {k : NestedKey}, toKey d = some k → ofKey k = d
  | .non, k, h => by simp [toKey] at h; subst h; rfl
  | .int i, k, h => by simp [toKey] at h; subst h; rfl
  | .str x, k, h => by simp [toKey] at h; subst h; rfl
  | .tup xs, k, h => by
    simp only [toKey, Option.map_eq_some_iff] at h
    obtain ⟨ks, h, rfl⟩ := h
    simp only [ofKey, ofKeys_toKeys h]
  | .bl _, k, h => by simp [toKey] at h
  | .lst _, k, h => by simp [toKey] at h
  | .dic _, k, h => by simp [toKey] at h
  | .ins _ _, k, h => by simp [toKey] at h
theorem ofKeys_toKeys : ∀ {ds : List D} {ks : List NestedKey}, toKeys ds = some ks → ofKeys ks = ds
  | [], ks, h => by simp [toKeys] at h; subst h; rfl
  | d :: ds, ks, h => by
    simp only [toKeys] at h
    split at h
    · next p ps e1 e2 => cases h; simp only [ofKeys, ofKey_toKey e1, ofKeys_toKeys e2]
    · cases h
end
theorem obj0 (P : Program) (w : World) : DObj P w dict0 [] := ⟨Nat.zero_le _, ⟨rfl, rfl, rfl⟩, [], .nil, #[], 0, rfl, rfl, List.nodup_nil⟩
theorem ext_ok {P : Program} {w : World} {H : Hp} {h : Heap} {a : Addr} {o : Obj} (e : h.get? a = some o) : ObjOk P w H h a (objAt a o) := ⟨e, ⟨o, e⟩, fun h1 h2 e k => k _ e⟩
theorem key_repK {ks : List D} {k : List NestedKey} {b : Addr} (hk : kOf ks = some k) (hx : Rep W ow H (.tup ks) (.ref b)) : Rep W ow H (ofKey (.tup k)) (.ref b) := by
  obtain ⟨e1, _⟩ := kOf_ok hk
  simp only [ofKey, ofKeys_toKeys e1]
  exact hx
def storeE (c : Bool) (es : List (NestedKey × Addr × V)) (k : NestedKey) (b : Addr) (v : V) : List (NestedKey × Addr × V) := if c then es.map fun x => if x.1 = k then (x.1, x.2.1, v) else x else es ++ [(k, b, v)]
abbrev PR : NestedKey × Addr × V → NestedKey × Addr × Value → Prop := fun p q => p.1 = q.1 ∧ p.2.1 = q.2.1 ∧ RelV p.2.2 q.2.2
theorem pr_map {k : NestedKey} {v : V} {u : Value} (r : RelV v u) : ∀ {es : List (NestedKey × Addr × V)} {xs : List (NestedKey × Addr × Value)}, Paired PR es xs → Paired PR (es.map fun x => if x.1 = k then (x.1, x.2.1, v) else x) (xs.map (putAt k u))
  | _, _, .nil => .nil
  | _, _, .cons (a := p) (b := q) h l => by
    refine .cons ?_ (pr_map r l)
    obtain ⟨h1, h2, h3⟩ := h
    unfold putAt
    dsimp only
    by_cases hk : p.1 = k
    · rw [if_pos hk, if_pos (h1 ▸ hk)]
      exact ⟨h1, h2, r⟩
    · rw [if_neg hk, if_neg (h1 ▸ hk)]
      exact ⟨h1, h2, h3⟩
theorem pr_app {p : NestedKey × Addr × V} {q : NestedKey × Addr × Value} (r : PR p q) : ∀ {es : List (NestedKey × Addr × V)} {xs : List (NestedKey × Addr × Value)}, Paired PR es xs → Paired PR (es ++ [p]) (xs ++ [q])
  | _, _, .nil => .cons r .nil
  | _, _, .cons h l => .cons h (pr_app r l)
theorem repK_map {k : NestedKey} {d : D} {v : V} (hv : Rep W ow H d v) : ∀ {kvs : List (NestedKey × D)} {es : List (NestedKey × Addr × V)}, RepK W ow H kvs es → RepK W ow H (kvs.map fun p => if decide (p.1 = k) then (p.1, d) else p) (es.map fun x => if x.1 = k then (x.1, x.2.1, v) else x)
  | _, _, .nil => .nil
  | _, _, .cons (k := k0) r1 r2 r3 r4 => by
    have ih := repK_map (k := k) hv r4
    by_cases hk : k0 = k
    · simp only [List.map_cons, hk, decide_true, if_true]
      subst hk
      exact .cons r1 r2 hv ih
    · simp only [List.map_cons, hk, decide_false, if_false, Bool.false_eq_true]
      exact .cons r1 r2 r3 ih
theorem repK_app {k : NestedKey} {b : Addr} {d : D} {v : V} (hb : Rep W ow H (ofKey k) (.ref b)) (hd : k.depth ≤ 8) (hv : Rep W ow H d v) : ∀ {kvs : List (NestedKey × D)} {es : List (NestedKey × Addr × V)}, RepK W ow H kvs es → RepK W ow H (kvs ++ [(k, d)]) (es ++ [(k, b, v)])
  | _, _, .nil => .cons hb hd hv .nil
  | _, _, .cons r1 r2 r3 r4 => .cons r1 r2 r3 (repK_app hb hd hv r4)

/-- a store by a comprehension -/
def DPutW (W : Wd) (Dd : Addr) (y z : V) (H : Hp) (Nx : Hp → Prop) : Prop := ∃ ow ks kvs k d b, y = .ref b ∧ kOf ks = some k ∧ Rd1 W ow H (.dic kvs) (.ref Dd) ∧ Rep W ow H (.tup ks) y ∧ Rep W ow H d z ∧ kvs.length < sizeLine ∧
  ∀ o es, DObj W.P W.w o es → RepK W ow H (storeK kvs (.tup k) d) es → Nx (upd H Dd (objAt Dd o))
theorem put_any (hP : X.prog = W.P) (hw : X.w = W.w) (hK : X.K = W.K) (hu : X.A.units + 100 < cLine) {Dd : Addr} {y z : V} {u r : Value} {Nx : Hp → Prop} {E : Value → Shared → Prop} {Q : Unit → Shared → Prop} (I : Inv X pins σ H s) (h : DPutW W Dd y z H Nx) (ry : RelV y u) (rz : RelV z r) (fin : ∀ s' H', Inv X pins σ H' s' → Nx H' → Q () s') :
    wpAny (model X.prog X.w) X.A (dictSet Dd u r) Q E s := by
  obtain ⟨ow, ks, kvs, k, d, b, rfl, hk, hy, hx, hv, hz, nx⟩ := h
  obtain rfl : u = Value.ref b := ry
  obtain ⟨a', o, es, e0, ha, hsm, hd, hr⟩ := hy
  cases e0
  obtain ⟨hg, xs, hp, hm⟩ := dictOf hP hw hK I ha hd hr
  have hl1 := Paired.length hp
  have hl2 := repK_len hr
  refine wpAny_dictSet_heap (hsz := by omega) (show X.A.units + 8 < cLine by omega) (keyIs hK I hx.rd hk) hm fun h' hm' hs => ?_
  obtain ⟨o', ds, ep, g1, g2, g3, g4, g5, g6⟩ := hm'
  have hc : (atKey xs (.tup k)).isSome = hasKey kvs (.tup k) := by
    rw [← (at_some hr hp (k := .tup k)).1, valueAt_pairsH, Option.isSome_map]
  have hst : storedH xs (.tup k) b r = if hasKey kvs (.tup k) then xs.map (putAt (.tup k) r) else xs ++ [(.tup k, b, r)] := by
    unfold storedH
    rw [hc]
  have RK : RepK W ow H (storeK kvs (.tup k) d) (storeE (hasKey kvs (.tup k)) es (.tup k) b z) := by
    unfold storeK storeE
    cases hasKey kvs (.tup k) with
    | true => exact repK_map hv hr
    | false => exact repK_app (key_repK hk hx) (kOf_ok hk).2 hv hr
  have PRs : Paired PR (storeE (hasKey kvs (.tup k)) es (.tup k) b z) (storedH xs (.tup k) b r) := by
    rw [hst]
    unfold storeE
    cases hasKey kvs (.tup k) with
    | true => exact pr_map rz hp
    | false => exact pr_app ⟨rfl, rfl, rz⟩ hp
  have hlen : (storeE (hasKey kvs (.tup k)) es (.tup k) b z).length ≤ sizeLine := by
    unfold storeE
    cases hasKey kvs (.tup k) with
    | true => simp; omega
    | false => simp; omega
  exact fin _ _ (d_write I (by rw [ha]; exact True.intro) hs ⟨o', g1⟩ (ext_ok g1)) (nx o' _ ⟨hlen, g2, _, PRs, ds, ep, g3, by rw [← hP, ← hw]; exact g4, g6⟩ RK)
end
/-- the reading of {k: v for target in iter} -/
def tDx (W : Wd) (wi : TI) (g : TG) (tk tv : TE) (vs : List Nat) : TE := fun σ H Q => wi σ H fun J H1 => ∀ Dd, H1 Dd = none → (Dd == sysModules) = false → ∃ V : Nat → Nat → Hp → Prop, (∃ m, V 0 m (upd H1 Dd (objAt Dd dict0))) ∧ ∀ i m H, V i m H →
  (J.stop i H ∧ Q (.ref Dd) H) ∨ (J.go i H ∧ ∃ Nx : Hp → Prop, (∀ H', Nx H' → ∃ m', m' < m ∧ V (i + 1) m' H') ∧ ∀ x H', J.yld i H x H' → g x (wipe σ vs) H' fun σ2 H2 => wipe σ2 vs = wipe σ vs ∧ tk σ2 H2 fun y H4 => tv σ2 H4 fun z H5 => DPutW W Dd y z H5 Nx)
section
variable {W : Wd} {X : Cx}
/-- the block's loop -/
theorem dx_block {pins : List (Addr × Obj)} {s : Shared} {σ : L2.St} {H : Hp} {Q : VK} {kx vx tg iter : Expr} {scope : Scope} {own : List (Str × Nat)} {pos pos' : Pos} {wi : TI} {g : TG} {tk tv : TE} {use : Option (Value → Sem Unit)} {Qf : Value → Shared → Prop} (hP : X.prog = W.P) (hw : X.w = W.w) (hK : X.K = W.K) (hu : X.A.units + 100 < cLine)
    (hc : X.calm = true) (nd : X.N.Nodup) (I : Inv X pins σ H s) (hi : PI X tg iter wi) (bo : BlkOk X.N X.env.scope scope own) (hg : ∀ s H C cc fp, PG (blkOf X scope s H C cc fp) tg g) (hk : ∀ s H C cc fp, PE (blkOf X scope s H C cc fp) kx tk) (hv : ∀ s H C cc fp, PE (blkOf X scope s H C cc fp) vx tv)
    (hf : ∀ x, foldedSetIterable iter X.env x = pure x) (h : tDx W wi g tk tv (own.map (·.2)) σ H Q)
    (out : ∀ Dd C s' m H', Inv X pins σ H' s' → Q (.ref Dd) H' → s'.heap.Ns C m → FpOk X pins H' C → compPost (model X.prog X.w) X.A X.xe use Qf (.ref Dd) C (.ok .next) s') :
    wpAny (model X.prog X.w) X.A (comprehension (.DictComp kx vx [⟨tg, iter, [], 0⟩] scope pos) scope X.env pos' newDict false (eval iter X.env) use) Qf X.xe s := by
  have clo : ∀ y ∈ scope.names, y.2 = .free → ∃ c, X.env.cells.lookup y.1 = some c := fun y hy e => (bo.free y hy e).elim (fun z => I.ok.has _ (.inl z)) fun z => I.ok.has _ (.inr z)
  refine wpAny_comprehension_free (use := use) rfl hf (closure_ok clo) bo.kind (fun y hy e => by rw [bo.uniq y hy, e]) (thn (hi.run pins s σ H _ I h) fun xv sa hx => thn hx fun itv sb hb => ?_)
  obtain ⟨it, fp, tn, J, Hb, rfl, Ib, T, stb, fb, q⟩ := hb
  refine wpAny_newObj_type (newEnv_comp ?_)
  obtain ⟨Dd, hDd⟩ : ∃ n, sb.heap.objs.size = n := ⟨_, rfl⟩
  rw [hDd]
  have fresh : Hb Dd = none := Ib.hok.fresh (Nat.le_of_eq hDd)
  have nsys : (Dd == sysModules) = false := beq_eq_false_iff_ne.mpr (by rw [← hDd]; exact Ne.symm (Nat.ne_of_lt Ib.big))
  obtain ⟨V, ⟨m0, v0⟩, turn⟩ := q Dd fresh nsys
  obtain ⟨sc3, hsc⟩ : ∃ z : Shared, z = { sb with heap := sb.heap.push { cls := .type "dict", data := .dict #[] } } := ⟨_, rfl⟩
  obtain ⟨Hc, hHc⟩ : ∃ z : Hp, z = upd Hb Dd (objAt Dd dict0) := ⟨_, rfl⟩
  have hph : sc3.heap = sb.heap.push { cls := .type "dict", data := .dict #[] } := by rw [hsc]
  have Ic : Inv X pins σ Hc sc3 := by
    rw [hsc, hHc]
    refine Ib.laid (t' := sb.toks) (fun b o e => Heap.get?_push_of_some _ e) (Nat.le_of_eq hDd) (ext_ok ?_)
    rw [← hDd]
    exact Heap.get?_push_size _ rfl
  have low : ∀ b ∈ fp, b < sb.heap.objs.size := fun b hb => let ⟨o, e, _⟩ := T.obj _ _ stb b hb; Heap.lt_size e
  have fc : ∀ b ∈ fp, FpOk X pins Hc b ∧ b < sc3.heap.objs.size := fun b hb => by
    refine ⟨⟨?_, (fb b hb).2⟩, by rw [hph, Heap.size_push]; exact Nat.lt_succ_of_lt (low b hb)⟩
    rw [hHc, upd_ne (by rw [← hDd]; exact Nat.ne_of_lt (low b hb))]
    exact (fb b hb).1
  have stc : tn 0 sc3.heap := T.keep _ _ _ stb fun b _ o e => by rw [hph]; exact Heap.get?_push_of_some _ e
  have Id := block_start Ic bo nd fc
  rw [← hHc] at v0
  obtain ⟨C, hC⟩ : ∃ n, sc3.heap.objs.size = n := ⟨_, rfl⟩
  obtain ⟨cc, hcc⟩ : ∃ z, cellsFrom (sc3.heap.objs.size + 1) scope.names (cloFrom X.env.cells scope.names []) = z := ⟨_, rfl⟩
  rw [hcc, hC] at Id
  have pg := hg sc3 Hc C cc fp
  have pk := hk sc3 Hc C cc fp
  have pv := hv sc3 Hc C cc fp
  obtain ⟨sd, hsd⟩ : ∃ z : Shared, z = { sc3 with heap := pushCells (sc3.heap.push { cls := .type "dict", data := .dict #[] }) scope.names } := ⟨_, rfl⟩
  rw [← hsd] at Id
  have std : tn 0 sd.heap := T.keep _ _ _ stc fun b _ o e => by rw [hsd]; exact pushCells_keeps _ _ _ _ (Heap.get?_push_of_some _ e)
  have seen : ∀ {σ' : L2.St} {H' : Hp} {s' : Shared}, Inv (blkOf X scope sc3 Hc C cc fp) [] σ' H' s' → (∀ b ∈ fp, H' b = none) → ∀ b ∈ fp, FpOk (blkOf X scope sc3 Hc C cc fp) [] H' b := fun {σ' H' s'} J' hn b hb =>
    ⟨hn b hb, (J'.ok.exf b hb).1, J'.ok.exfs b hb, .inl hb, fun x c e => (J'.ok.exf b hb).2 x c e, fun p hp => absurd (show p ∈ ([] : List (Addr × Obj)) ++ [] from hp) (by simp)⟩
  have loop : codeAny (model X.prog X.w) X.A (.compLoop (.DictComp kx vx [⟨tg, iter, [], 0⟩] scope pos) 0 (.ref it) (.ref Dd) (compEnvC scope cc C X.env)) (compPost (model X.prog X.w) X.A X.xe use Qf (.ref Dd) C) sd := by
    refine compLoop_anyD (fun n s' => ∃ i H', Inv (blkOf X scope sc3 Hc C cc fp) [] (wipe σ (own.map (·.2))) H' s' ∧ tn i s'.heap ∧ (∀ b ∈ fp, H' b = none) ∧ V i n H') ?_ m0 ⟨0, Hc, Id, std, fun b hb => (fc b hb).1.1, v0⟩
    rintro n s5 ⟨i, H5, I5, st5, n5, v5⟩
    rcases turn i n H5 v5 with ⟨stop, qq⟩ | ⟨go, Nx, hNx, step⟩
    · refine thnF (T.done (blkOf X scope sc3 Hc C cc fp) rfl rfl rfl hc i [] s5 _ H5 (fun _ _ => False) I5 (seen I5 n5) st5 stop) fun r s6 hh => ?_
      obtain ⟨rfl, I6⟩ := hh
      have I7 : Inv X pins σ H5 s6 := Ic.call' (ch := fp) I6.os I6.base I6.hok I6.bare fun b hb => ⟨(fc b hb).1.2.2.2.1, (fc b hb).1.2.1, (fc b hb).1.2.2.2.2.1, (fc b hb).1.2.2.2.2.2⟩
      have nC : H5 C = none := I6.free
      obtain ⟨m, hn, _⟩ := I6.loc
      exact out Dd C s6 m H5 I7 qq hn (Ic.fpOk (Nat.le_of_eq hC) nC)
    · refine thnF (T.item (blkOf X scope sc3 Hc C cc fp) rfl rfl rfl hc i [] s5 _ H5 (fun _ _ => False) I5 (seen I5 n5) st5 go) fun r s6 hh => ?_
      obtain ⟨u, rfl, h6⟩ := hh
      refine thnF h6 fun _ s7 hh => ?_
      obtain ⟨x, H7, I7, r7, y7, st7, n7⟩ := hh
      refine thnF (pg.run _ s7 _ H7 x u _ (I7.pinned (seen I7 n7) (T.obj _ _ st7)) r7 (step x H7 y7)) fun _ s8 hh => ?_
      obtain ⟨σ8, H8, I8, w8, q8⟩ := hh
      refine thnF ((pts_nil (X := blkOf X scope sc3 Hc C cc fp)).run _ s8 σ8 H8 (fun b H9 => b = true ∧ H9 = H8) I8 ⟨rfl, rfl⟩) fun b s9 hh => ?_
      obtain ⟨H9, I9, rfl, rfl⟩ := hh
      simp only [if_true]
      refine thnF (pk.run _ s9 σ8 H9 _ I9 q8) fun z s10 hh => ?_
      obtain ⟨yk, H10, I10, r10, q10⟩ := hh
      refine thnF (pv.run _ s10 σ8 H10 _ I10 q10) fun z2 s11 hh => ?_
      obtain ⟨yv, H11, I11, r11, dp⟩ := hh
      refine put_any (X := blkOf X scope sc3 Hc C cc fp) hP hw hK hu I11 dp r10 r11 fun s' H' I' nx => ?_
      obtain ⟨m', hm, v'⟩ := hNx H' nx
      have stay : ∀ b ∈ fp, ∀ o, s7.heap.get? b = some o → s'.heap.get? b = some o ∧ H' b = none := fun b hb o e => let z := I'.pin (b, o) (List.mem_append_right _ (List.mem_append_right _ (mem_pinsAt hb e))); ⟨z.1, z.2.1⟩
      refine ⟨m', hm, i + 1, H', (I'.unpinned (pins := [])).weak (by rw [← w8, wipe_length]) (fun j v e => by rw [← w8] at e; exact (wipe_some e).1), T.keep _ _ _ st7 fun b hb o e => (stay b hb o e).1, fun b hb => ?_, v'⟩
      obtain ⟨o, e, _⟩ := T.obj _ _ st7 b hb
      exact (stay b hb o e).2
  have all := codeAny_compStart_dict loop (T.self X.A 0 _ _ _ std loop)
  subst hcc hC hsd hsc
  exact all
end

/-! ### soundness -/
section
variable {W : Wd} {M : MC} {cl : Calls} {gl : Str → Option D} {k : Nat} {X : Cx} {sc : Scope} {Wx : WX} {a b tgE iter : Expr} {ia ib : E} {pos : Pos}
theorem dc_noexc {tg : Tg} {f : Fr → Out (NestedKey × D)} {c : Str} {fs : List (Str × D)} {S' : Fr} : ∀ {ds : List D} {acc : List (NestedKey × D)} {S : Fr}, dcLoop tg f ds acc S ≠ .exc c fs S'
  | [], acc, S => by simp [dcLoop]
  | d :: r, acc, S => by
    unfold dcLoop
    split
    · simp
    · split
      · exact dc_noexc
      · simp
theorem storeK_len {kvs : List (NestedKey × D)} {k : NestedKey} {d : D} : (storeK kvs k d).length ≤ kvs.length + 1 := by
  unfold storeK
  split <;> simp
theorem dc_read (G : CxG W M cl gl k X sc Wx) {scope : Scope} {tg : Tg} {it : It} (hi : SndI W cl gl X Wx tgE iter it) (ha : ∀ s H C cc fp, SndE W cl gl (blkOf X scope s H C cc fp) noWx a ia) (hb : ∀ s H C cc fp, SndE W cl gl (blkOf X scope s H C cc fp) noWx b ib)
    {pv : Nat → Option V} {ow : Ow} {H : Hp} {S : Fr} {σ : L2.St} {Q : VK} (r : Rel W pv ow H S σ) (h : PostE W pv ow H σ Wx (evE cl gl (.dc ia ib tg it) S) Q) : tDx W (RI X tgE iter) (gOf X.K tg) (teLc X scope a) (teLc X scope b) (slotsT tg) σ H Q := by
  simp only [evE] at h
  refine RI.mono (hi pv ow H S σ _ r (Post.seq h)) ?_
  rintro J H1 ⟨ds, S1, ow1, -, k1, r1, wk, h1⟩ Dd hD hsys
  split at h1
  · next hc =>
    simp only [Bool.and_eq_true] at hc
    obtain ⟨hn, hz⟩ := hc
    have hz := lineOk_ok hz
    have hpv := noOwn_par r1 hn
    revert h1
    generalize hfd : (fun S => (evE cl gl ia S).bind fun x S => (esc x S).bind fun k S => (evE cl gl ib S).bind fun y S => (esc y S).bind fun d S => pairR k d S) = f
    intro h1
    cases hl : dcLoop tg f ds [] (killS S1 (slotsT tg)) with
    | bad => rw [hl] at h1; exact False.elim h1
    | exc c fs S2 => exact absurd hl dc_noexc
    | ok xs Sx =>
      rw [hl] at h1
      simp only [Out.bind] at h1
      refine ⟨fun i m H' => m = ds.length - i ∧ i ≤ ds.length ∧ ∃ ow' S' acc o es, Step ow1 H1 ow' H' ∧ ow' Dd = .tm ∧ H' Dd = some (objAt Dd o) ∧ DObj W.P W.w o es ∧ RepK W ow' H' acc es ∧ acc.length ≤ i ∧ Rel W pv ow' H' S' (wipe σ (slotsT tg)) ∧ dcLoop tg f (ds.drop i) acc S' = .ok xs Sx, ?_, ?_⟩
      · have g := Grow.new (ow := ow1) (o := objAt Dd dict0) (t := .tm) hD
        exact ⟨ds.length, by simp, Nat.zero_le _, _, killS S1 (slotsT tg), [], dict0, [], g.step, if_pos rfl, upd_same, obj0 _ _, .nil, Nat.le_refl _, Rel.wipe (r1.grow g) hpv, by simpa using hl⟩
      · rintro i m H' ⟨rfl, hi', ow', S', acc, o, es, st, tD, eD, od, ra, la, r', hl'⟩
        by_cases hlt : i < ds.length
        · right
          have hd : ds[i]? = some ds[i] := List.getElem?_eq_getElem hlt
          obtain ⟨go, yl⟩ := (wk ow' H' st.keep i).1 _ hd
          refine ⟨go, fun H2 => (i + 1 ≤ ds.length ∧ ∃ ow' S' acc o es, Step ow1 H1 ow' H2 ∧ ow' Dd = .tm ∧ H2 Dd = some (objAt Dd o) ∧ DObj W.P W.w o es ∧ RepK W ow' H2 acc es ∧ acc.length ≤ i + 1 ∧ Rel W pv ow' H2 S' (wipe σ (slotsT tg)) ∧ dcLoop tg f (ds.drop (i + 1)) acc S' = .ok xs Sx), fun H2 q => ⟨ds.length - (i + 1), by omega, rfl, q⟩, fun x H2 hy => ?_⟩
          obtain ⟨ow2, g2, rx⟩ := yl x H2 hy
          rw [List.drop_eq_getElem_cons hlt] at hl'
          unfold dcLoop at hl'
          split at hl'
          · cases hl'
          · next S3 hbd =>
            have hnD : H' Dd ≠ none := by rw [eD]; simp
            rw [G.K]
            refine g_ok (r'.grow g2) rx hbd fun σ1 r3 l3 e3 => ?_
            have ew : wipe σ1 (slotsT tg) = wipe σ (slotsT tg) := by
              have e4 : wipe (wipe σ (slotsT tg)) (slotsT tg) = wipe σ (slotsT tg) := wipe_ext (wipe_length _ _) fun j hj => by rw [wipe_get, if_neg (fun z => hj z.1)]
              rw [← e4]
              exact wipe_ext l3 e3
            refine ⟨ew, fun s0 H0 C cc fp => ?_⟩
            have st2 : Step ow1 H1 ow2 H2 := st.trans g2.step
            have tD2 : ow2 Dd = .tm := (g2 Dd hnD).2.trans tD
            have eD2 : H2 Dd = some (objAt Dd o) := (g2 Dd hnD).1.trans eD
            have ra2 := ra.keep g2.keep
            rw [← hfd] at hl'
            simp only at hl'
            refine ha s0 H0 C cc fp pv ow2 H2 S3 σ1 _ r3 ?_
            cases hv : evE cl gl ia S3 with
            | bad => rw [hv] at hl'; simp only [Out.bind] at hl'; cases hl'
            | exc c fs S5 => rw [hv] at hl'; simp only [Out.bind] at hl'; cases hl'
            | ok y S5 =>
              rw [hv] at hl'
              simp only [Out.bind] at hl'
              intro v ow4 H4 st4 r5 rv s0 H0 C cc fp
              cases hes : esc y S5 with
              | bad => rw [hes] at hl'; simp only at hl'; cases hl'
              | exc c fs S6 => exact absurd hes esc_noexc
              | ok kd S6 =>
                rw [hes] at hl'
                simp only at hl'
                obtain ⟨ow5, st5, kp5, r6, rk⟩ := esc_ok r5 st4 rv hes
                refine hb s0 H0 C cc fp pv ow5 H4 S6 σ1 _ r6 ?_
                cases hv2 : evE cl gl ib S6 with
                | bad => rw [hv2] at hl'; simp only at hl'; cases hl'
                | exc c fs S5 => rw [hv2] at hl'; simp only at hl'; cases hl'
                | ok y2 S7 =>
                  rw [hv2] at hl'
                  simp only at hl'
                  intro v2 ow7 H7 st7 r7 rv2
                  cases hes2 : esc y2 S7 with
                  | bad => rw [hes2] at hl'; simp only at hl'; cases hl'
                  | exc c fs S6 => exact absurd hes2 esc_noexc
                  | ok d S8 =>
                    rw [hes2] at hl'
                    simp only at hl'
                    obtain ⟨ow8, st8, kp8, r8, rd⟩ := esc_ok r7 st7 rv2 hes2
                    have stA : Step ow2 H2 ow8 H7 := st5.trans st8
                    have hnD2 : H2 Dd ≠ none := by rw [eD2]; simp
                    obtain ⟨eD8, tD8⟩ := stA.tag hnD2 tD2 (by simp)
                    have eD8' : H7 Dd = some (objAt Dd o) := eD8.trans eD2
                    have ra8 := ra2.keep stA.keep
                    have rk8 := Rep.keep st8.keep rk
                    unfold pairR at hl'
                    cases kd with
                    | tup ks =>
                      simp only at hl'
                      cases hk : kOf ks with
                      | none => rw [hk] at hl'; simp only at hl'; cases hl'
                      | some kk =>
                        rw [hk] at hl'
                        simp only at hl'
                        have hvb : ∃ b, v = .ref b := by
                          cases rk8
                          exact ⟨_, rfl⟩
                        obtain ⟨b0, rfl⟩ := hvb
                        refine ⟨ow8, ks, acc, kk, d, b0, rfl, hk, ⟨Dd, o, es, rfl, eD8', hsys, od, ra8⟩, rk8, rd, by omega, fun o' es' od' rk' => ?_⟩
                        have kpD : Keep ow8 H7 ow8 (upd H7 Dd (objAt Dd o')) := fun q hq e => ⟨upd_ne (fun z => by rw [z, tD8] at e; cases e), e⟩
                        refine ⟨hlt, ow8, killS S8 (slotsT tg), storeK acc (.tup kk) d, o', es', ?_, tD8, upd_same, od', rk'.keep kpD, by have := storeK_len (kvs := acc) (k := .tup kk) (d := d); omega, ?_, by rw [← hfd]; exact hl'⟩
                        · intro q hq
                          have ne : q ≠ Dd := fun z => hq (z ▸ hD)
                          rw [upd_ne ne]
                          exact (st2.trans stA) q hq
                        · have := Rel.wipe (r8.upd (p := Dd) (o := objAt Dd o') tD8) hpv
                          rw [ew] at this
                          exact this
                    | _ => simp only at hl'; cases hl'
        · left
          have e : i = ds.length := by omega
          subst e
          refine ⟨(wk ow' H' st.keep ds.length).2 rfl, ?_⟩
          rw [List.drop_length] at hl'
          simp only [dcLoop, Out.ok.injEq] at hl'
          obtain ⟨rfl, rfl⟩ := hl'
          exact h1 (.ref Dd) ow' H' (k1.trans st) (Rel.unwipe r1 st hn r') ⟨Dd, o, es, rfl, eD, hsys, ⟨tD, k1.none hD⟩, od, ra⟩
  · exact False.elim h1
theorem snd_dc (G : CxG W M cl gl k X sc Wx) {scope : Scope} {own : List (Str × Nat)} {tg : Tg} {it : It} (ok : BlkOk X.N X.env.scope scope own) (hown : own.map (·.2) = slotsT tg) (hi : SndI W cl gl X Wx tgE iter it)
    (hg : ∀ s H C cc fp, PG (blkOf X scope s H C cc fp) tgE (gOf X.K tg)) (ha : ∀ s H C cc fp, SndE W cl gl (blkOf X scope s H C cc fp) noWx a ia) (hb : ∀ s H C cc fp, SndE W cl gl (blkOf X scope s H C cc fp) noWx b ib)
    (hf : ∀ x, foldedSetIterable iter X.env x = pure x) : SndE W cl gl X Wx (.DictComp a b [⟨tgE, iter, [], 0⟩] scope pos) (.dc ia ib tg it) := by
  intro pv ow H S σ Q r h pins s I
  rw [arm_eval_DictComp]
  refine dx_block (W := W) (tk := teLc X scope a) (tv := teLc X scope b) (own := own) G.prog G.w G.K (by have := G.room.un; omega) G.calm (by rw [G.N]; exact G.nd) I pi_RI ok hg (fun s H C cc fp => ⟨fun pins s1 σ H1 Q I q => q s H C cc fp pins s1 I⟩) (fun s H C cc fp => ⟨fun pins s1 σ H1 Q I q => q s H C cc fp pins s1 I⟩) hf (by rw [hown]; exact dc_read G hi ha hb r h) fun Dd C s' m H' I' q hn f => ⟨m, hn, fun h'' sb => ?_⟩
  obtain ⟨f0, f1, f2, f3, f4, f5⟩ := f
  exact ⟨.ref Dd, H', I'.turned (t' := s'.toks) (fun b o hb e => (sb.2 b hb).trans e) f0 f1 f3 f4 f5, rfl, q⟩
end
end Ev

/-! EvI3: list(d.items()), tuple(range(n)), one function of a list. -/
namespace Ev
open PySem PySem.Spec PyProof.Rows L2

/-- the pairs' tuples at their addresses -/
def pq (q : NestedKey × Addr × V) : HO := .tup [.ref q.2.1, q.2.2]
def putQ : Hp → List Addr → List (NestedKey × Addr × V) → Hp
  | H, a :: as, p :: es => putQ (upd H a (pq p)) as es
  | H, _, _ => H
theorem putQ_off {b : Addr} : ∀ (as : List Addr) (es : List (NestedKey × Addr × V)) (H : Hp), b ∉ as → putQ H as es b = H b
  | [], _, _, _ => rfl
  | _ :: _, [], _, _ => rfl
  | a :: as, p :: es, H, h => by
    show putQ (upd H a (pq p)) as es b = H b
    rw [putQ_off as es _ (fun z => h (List.mem_cons_of_mem _ z)), upd_ne (fun z => h (by rw [z]; exact List.mem_cons_self))]
theorem putQ_at : ∀ (as : List Addr) (es : List (NestedKey × Addr × V)) (H : Hp), as.length = es.length → as.Nodup → Paired (fun (t : Addr) (p : NestedKey × Addr × V) => putQ H as es t = some (pq p)) as es
  | [], [], _, _, _ => .nil
  | [], _ :: _, _, h, _ => by cases h
  | _ :: _, [], _, h, _ => by cases h
  | a :: as, p :: es, H, h, hn => by
    have hn' := List.nodup_cons.mp hn
    have ih := putQ_at as es (upd H a (pq p)) (Nat.succ.inj h) hn'.2
    refine .cons ?_ ih
    show putQ (upd H a (pq p)) as es a = some (pq p)
    rw [putQ_off as es _ hn'.1, upd_same]
section
variable {X : Cx}
theorem its_laid {P : Program} {w : World} {pins : List (Addr × Obj)} {σ : L2.St} {H : Hp} {s : Shared} {h' : Heap} {tk : Nat} {es : List (NestedKey × Addr × V)} {xs : List (NestedKey × Addr × Value)} {ds : Array DictEntry} {acc : Array Value} {c : Nat} {as : List Addr} (I : Inv X pins σ H s) (hz : es.length ≤ sizeLine)
    (hp : Paired (fun (p : NestedKey × Addr × V) (q : NestedKey × Addr × Value) => p.1 = q.1 ∧ p.2.1 = q.2.1 ∧ RelV p.2.2 q.2.2) es xs) (e2 : ds.toList = xs.map (entryOfKey (nestedKind P w)))
    (hk : ∀ b o, s.heap.get? b = some o → h'.get? b = some o) (hS : h'.get? s.heap.objs.size = some { cls := .type "list", dict := none, data := .seq acc c, slots := #[] }) (hl : as.length = ds.size) (hG : PySem.W.DilG ds s.heap.objs.size h' as) (hacc : acc.toList = as.map Value.ref) :
    ∃ H' : Hp, (∀ b o, H b = some o → H' b = some o) ∧ H s.heap.objs.size = none ∧ (∀ t ∈ as, H t = none) ∧ s.heap.objs.size ∉ as ∧ H' s.heap.objs.size = some (.lst (as.map V.ref)) ∧ Paired (fun (t : Addr) (q : NestedKey × Addr × V) => H' t = some (pq q)) as es ∧ Inv X pins σ H' { s with heap := h', toks := tk } := by
  have lk : es.length = xs.length := Paired.length hp
  have ld : ds.size = xs.length := by have := congrArg List.length e2; simpa using this
  have hSn : s.heap.objs.size ∉ as := fun z => Nat.lt_irrefl _ (hG.above _ z)
  have nd : as.Nodup := List.Pairwise.imp (fun {a b} (h : a < b) => Nat.ne_of_lt h) hG.rise
  have new : ∀ t ∈ as, H t = none := fun t ht => I.hok.fresh (Nat.le_of_lt (hG.above t ht))
  have newS : H s.heap.objs.size = none := I.hok.fresh (Nat.le_refl _)
  have atP := putQ_at as es (upd H s.heap.objs.size (.lst (as.map V.ref))) (by omega) nd
  have off : ∀ b, b ∉ as → b ≠ s.heap.objs.size → putQ (upd H s.heap.objs.size (.lst (as.map V.ref))) as es b = H b := fun b h1 h2 => by rw [putQ_off as es _ h1, upd_ne h2]
  have low : ∀ b o, s.heap.get? b = some o → b ∉ as ∧ b ≠ s.heap.objs.size := fun b o e => ⟨fun z => absurd (Heap.lt_size e) (Nat.not_lt.mpr (Nat.le_of_lt (hG.above b z))), Nat.ne_of_lt (Heap.lt_size e)⟩
  have kp : ∀ b u, H b = some u → (putQ (upd H s.heap.objs.size (.lst (as.map V.ref))) as es) b = some u := fun b u e => by
    rw [off b (fun z => by rw [new b z] at e; cases e) (fun z => by rw [z, newS] at e; cases e)]
    exact e
  have eS : putQ (upd H s.heap.objs.size (.lst (as.map V.ref))) as es s.heap.objs.size = some (.lst (as.map V.ref)) := by rw [putQ_off as es _ hSn, upd_same]
  refine ⟨putQ (upd H s.heap.objs.size (.lst (as.map V.ref))) as es, kp, newS, new, hSn, eS, atP, ?_⟩
  refine I.call' (ch := []) rfl ⟨fun b o q _ _ _ => hk b o q, fun b o q _ _ _ => ⟨o.slots, hk b o q⟩, fun b o q n _ => ?_, fun b o q _ => ⟨o, hk b o q⟩, fun b xs q => kp b _ q, fun b o u q => kp b _ q, fun b ps q => ⟨#[], by rw [kp b _ q]; simp⟩⟩ (fun b u q => ?_) I.bare fun b z => by simp at z
  · obtain ⟨z1, z2⟩ := low b o q
    rw [off b z1 z2]
    exact n
  · by_cases hb : b ∈ as
    · obtain ⟨j, pk, e1, e2', e3⟩ := LiI.paired_ix atP hb
      rw [e3] at q
      cases q
      obtain ⟨hj, f3⟩ := hG.pairs j b e1
      obtain ⟨qv, g1, g2, g3, g4⟩ := LiI.paired_get hp e2'
      have hen : ds[j] = entryOfKey (nestedKind P w) qv := by
        have h1 : ds.toList[j]? = some ds[j] := by rw [Array.getElem?_toList]; exact Array.getElem?_eq_getElem hj
        rw [e2, List.getElem?_map, g1] at h1
        exact (Option.some.inj h1).symm
      rw [hen] at f3
      exact ⟨by show 2 ≤ sizeLine; decide, [.ref qv.2.1, qv.2.2], .cons (by rw [g3]; rfl) (.cons g4 .nil), ⟨_, f3, rfl, _, rfl⟩⟩
    · by_cases hb2 : b = s.heap.objs.size
      · rw [hb2] at q ⊢
        rw [eS] at q
        cases q
        refine ⟨by rw [List.length_map]; omega, acc.toList, c, by rw [hacc]; exact LiI.vals_refs as, ?_⟩
        rw [Array.toArray_toList]
        exact hS
      · rw [off b hb hb2] at q
        exact (I.hok b u q).stay (fun d v _ y => hk d v y) (fun d y => kp d _ y) fun d xs y => kp d _ y
end
theorem its_rep {W : Wd} {ow ow1 : Ow} {H H1 : Hp} (k : Keep ow H ow1 H1) : ∀ {kvs : List (NestedKey × D)} {es : List (NestedKey × Addr × V)} {as : List Addr}, RepK W ow H kvs es → Paired (fun (t : Addr) (q : NestedKey × Addr × V) => H1 t = some (pq q)) as es → (∀ t ∈ as, ow1 t = .fz) → RepL W ow1 H1 (kvs.map itD) (as.map V.ref)
  | _, _, _, .nil, .nil, _ => .nil
  | _, _, _, .cons r1 r2 r3 r4, .cons h l, hf => .cons (.tup (.inl ⟨.inl h, hf _ List.mem_cons_self⟩) (.cons (r1.keep k) (.cons (r3.keep k) .nil))) (its_rep k r4 l fun t ht => hf t (List.mem_cons_of_mem _ ht))
section
variable {W : Wd} {M : MC} {cl : Calls} {gl : Str → Option D} {k : Nat} {X : Cx} {sc : Scope} {Wx : WX} {a : Expr} {ia : E} {pos p1 p2 p3 : Pos}
open Classical in
theorem snd_itl (G : CxG W M cl gl k X sc Wx) {o : Expr} {io : E} {apos cpos : Pos} (hg : Gl X "list") (hat : attrB o = true) (hl : (apos.endLine == cpos.line) = true) (ho : SndE W cl gl X Wx o io) : SndE W cl gl X Wx (.Call (.Name "list" p1) [.Call (.Attribute o "items" apos) [] [] cpos] [] pos) (.itl io) := by
  intro pv ow H S σ Q r h pins s I
  simp only [evE] at h
  have hs : starEach [.Call (.Attribute o "items" apos) [] [] cpos] X.env = (false, eval (.Call (.Attribute o "items" apos) [] [] cpos) X.env) :: starEach [] X.env := rfl
  refine wpAny_Call_Name_kw (ld_blt I hg (G.free "list" (by decide)) (by decide +kernel : bootBuiltins "list" = some (.type "list")) ?_)
  refine PyProof.Rows.callWith_type1 ?_ hs rfl
  rw [hs]
  show wpAny _ _ (spliced ((false, eval (.Call (.Attribute o "items" apos) [] [] cpos) X.env) :: backTo pos (starEach [] X.env))) _ _ s
  refine Calls.spliced_cons ?_
  refine wpAny_Call_method (T := "dict") (id := "dict.items") (attr_base hat) rfl hl F.plainAttrs_dict F.slot_dict_items F.type_dict_items (thn (ho pv ow H S σ _ r (Post.seq h) pins s I) fun u s1 hh => ?_)
  obtain ⟨x, H1, I1, rx, z, S1, ow1, -, k1, r1, p1, h1⟩ := hh
  unfold itlR at h1
  split at h1
  · next kvs ec =>
    obtain ⟨ad, ob, es, rfl, ha, hsm, hd, hr⟩ := reads r1 p1 ec
    obtain rfl : u = Value.ref ad := rx
    obtain ⟨hz, hx, xs, hp, ds, ep, e1, e2, e3⟩ := hd
    have hgd : s1.heap.get? ad = some ob := (I1.hok ad _ ha).1
    have hraw : s1.heap.DictRaw ad ds ep := ⟨ob, hgd, hx, e1⟩
    have lk := Paired.length hp
    have ld : ds.size = xs.length := by have := congrArg List.length e2; simpa using this
    have I2 : Inv X pins σ H1 { s1 with heap := s1.heap.push { cls := .type "dict_items", data := .fields #[.ref ad] } } := I1.kept (t' := s1.toks) fun b ob q => Heap.get?_push_of_some _ q
    refine ⟨hraw.typeIs, fun b e => by cases e; exact ⟨ob, hgd, hx.2.1⟩, ?_⟩
    show wpAny _ _ (callWith cpos (.builtin "dict.items") [.ref ad] [] []) _ X.xe s1
    refine method_meetsIn F.slot_dict_items F.entry_dict_items rfl (PySem.evalArgs_none ⟨rfl, hraw.typeIs, F.args_dict_items_1 _, _, meets_dict_items_raw ad hsm, ⟨ds, ep, hraw⟩, ?_⟩)
    refine Calls.spliced_nil ?_
    refine PySem.W.dil_call (es := ds) (ep := ep) (I1.ok.hd G.calm) ⟨_, Heap.get?_push_size _ rfl, rfl, rfl⟩ (hraw.push _) (by omega) fun h' tk acc c as hk hS hl' hG hacc => ?_
    obtain ⟨H', q1, q2, q3, q4, q5, q6, J⟩ := its_laid (tk := tk) I2 hz hp e2 hk hS hl' hG hacc
    have g : Grow ow1 H1 (fun q => if q = (s1.heap.push { cls := .type "dict_items", data := .fields #[.ref ad] }).objs.size then .tm else if q ∈ as then .fz else ow1 q) H' := fun q hq => by
      cases e : H1 q with
      | none => exact absurd e hq
      | some u =>
        refine ⟨q1 q u e, ?_⟩
        have n1 : q ≠ (s1.heap.push { cls := .type "dict_items", data := .fields #[.ref ad] }).objs.size := fun z => by rw [z] at e; rw [show H1 _ = none from q2] at e; cases e
        have n2 : q ∉ as := fun z => by rw [q3 q z] at e; cases e
        simp only [if_neg n1, if_neg n2]
    refine ⟨.ref _, H', J, rfl, ?_⟩
    refine h1 (.ref _) _ H' (k1.trans g.step) (r1.grow g) ⟨_, _, rfl, q5, ⟨if_pos rfl, ?_⟩, ?_⟩
    · exact k1.none q2
    · refine its_rep g.keep hr q6 fun t ht => ?_
      have n1 : t ≠ (s1.heap.push { cls := .type "dict_items", data := .fields #[.ref ad] }).objs.size := fun z => q4 (by show (s1.heap.push _).objs.size ∈ as; rw [← z]; exact ht)
      simp only [if_neg n1, if_pos ht]
  · exact False.elim h1
/-- what is known of a pair of the list -/
structure Pr1 (W : Wd) (X : Cx) (ow : Ow) (H : Hp) (h : Heap) (d : D) (u : Value) (t : Addr) (e : NestedKey × Addr × V) (x : NestedKey × Addr × Value) : Prop where
  ref : u = .ref t
  pr : PR e x
  at' : PairAt h t (.ref x.2.1) x.2.2
  is : (nestedKind X.prog X.w).is h x.1 x.2.1
  pd : ∃ ks k d', pairD d = some (k, d') ∧ e.1 = .tup k ∧ kOf ks = some k ∧ Rep W ow H (.tup ks) (.ref e.2.1) ∧ Rep W ow H d' e.2.2
inductive Prs (W : Wd) (X : Cx) (ow : Ow) (H : Hp) (h : Heap) : List D → List Value → List Addr → List (NestedKey × Addr × V) → List (NestedKey × Addr × Value) → Prop
  | nil : Prs W X ow H h [] [] [] [] []
  | cons {d : D} {u : Value} {t : Addr} {e : NestedKey × Addr × V} {x : NestedKey × Addr × Value} {ds : List D} {us : List Value} {ts : List Addr} {es : List (NestedKey × Addr × V)} {xs : List (NestedKey × Addr × Value)} : Pr1 W X ow H h d u t e x → Prs W X ow H h ds us ts es xs → Prs W X ow H h (d :: ds) (u :: us) (t :: ts) (e :: es) (x :: xs)
theorem prs_of {ow : Ow} {H : Hp} {pins : List (Addr × Obj)} {s : Shared} {σ : L2.St} (hK : X.K = W.K) (I : Inv X pins σ H s) : ∀ {ds : List D} {vs : List V} {us : List Value} {acc kvs : List (NestedKey × D)}, RepL W ow H ds vs → Vals vs us → foldP acc ds = some kvs → ∃ ts es xs, Prs W X ow H s.heap ds us ts es xs
  | _, _, _, _, _, .nil, .nil, _ => ⟨[], [], [], .nil⟩
  | _, _, _, acc, kvs, .cons (d := d) (v := v) r l, .cons rv rl, h => by
    simp only [foldP] at h
    split at h
    · next q hq =>
      obtain ⟨ts, es, xs, ih⟩ := prs_of hK I l rl h
      unfold pairD at hq
      split at hq
      · next ks d' =>
        simp only [Option.map_eq_some_iff] at hq
        obtain ⟨k, hk, rfl⟩ := hq
        cases r with
        | @tup t vs' _ ht lt =>
          cases lt with
          | @cons _ x _ _ rx lt2 =>
            cases lt2 with
            | @cons _ y _ _ ry lt3 =>
              cases lt3
              obtain ⟨its, rits, hit, _⟩ := I.tuple (hK ▸ ht.sq)
              cases rits with
              | cons ra rits =>
                cases rits with
                | cons rb rits =>
                  cases rits
                  have hx : ∃ b, x = .ref b := by cases rx; exact ⟨_, rfl⟩
                  obtain ⟨b, rfl⟩ := hx
                  cases ra
                  cases rv
                  exact ⟨t :: ts, (.tup k, b, y) :: es, (.tup k, b, _) :: xs, .cons ⟨rfl, ⟨rfl, rfl, rb⟩, .inl hit, keyIs hK I rx.rd hk, ks, k, d', by unfold pairD; simp [hk], rfl, hk, rx, ry⟩ ih⟩
      · cases hq
    · cases h
theorem prs_fold {ow : Ow} {H : Hp} {h : Heap} : ∀ {ds : List D} {us : List Value} {ts : List Addr} {es0 : List (NestedKey × Addr × V)} {ps : List (NestedKey × Addr × Value)} {acc kvs : List (NestedKey × D)} {es : List (NestedKey × Addr × V)} {xs : List (NestedKey × Addr × Value)}, Prs W X ow H h ds us ts es0 ps → foldP acc ds = some kvs → RepK W ow H acc es → Paired PR es xs → es.length + ds.length ≤ sizeLine →
    ∃ es', RepK W ow H kvs es' ∧ Paired PR es' (storedAllH xs ps) ∧ es'.length ≤ sizeLine
  | _, _, _, _, _, _, _, es, _, .nil, hf, hr, hp, hz => by
    cases hf
    exact ⟨es, hr, hp, by simpa using hz⟩
  | _, _, _, _, _, acc, kvs, es, xs, .cons (d := d) (e := e) (x := x) (ds := ds) p1 pr, hf, hr, hp, hz => by
    obtain ⟨ks, k, d', e1, e2, hk, hx, hv⟩ := p1.pd
    simp only [foldP, e1] at hf
    obtain ⟨f1, f2, f3⟩ := p1.pr
    have hc : (atKey xs (.tup k)).isSome = hasKey acc (.tup k) := by
      rw [← (at_some hr hp (k := .tup k)).1, valueAt_pairsH, Option.isSome_map]
    have hst : storedH xs (.tup k) x.2.1 x.2.2 = if hasKey acc (.tup k) then xs.map (putAt (.tup k) x.2.2) else xs ++ [(.tup k, x.2.1, x.2.2)] := by
      unfold storedH
      rw [hc]
    have RK : RepK W ow H (storeK acc (.tup k) d') (storeE (hasKey acc (.tup k)) es (.tup k) e.2.1 e.2.2) := by
      unfold storeK storeE
      cases hasKey acc (.tup k) with
      | true => exact repK_map hv hr
      | false => exact repK_app (key_repK hk hx) (kOf_ok hk).2 hv hr
    have PRs : Paired PR (storeE (hasKey acc (.tup k)) es (.tup k) e.2.1 e.2.2) (storedH xs (.tup k) x.2.1 x.2.2) := by
      rw [hst]
      unfold storeE
      cases hasKey acc (.tup k) with
      | true => exact pr_map f3 hp
      | false => exact pr_app (p := (.tup k, e.2.1, e.2.2)) (q := (.tup k, x.2.1, x.2.2)) ⟨rfl, f2, f3⟩ hp
    have hlen : (storeE (hasKey acc (.tup k)) es (.tup k) e.2.1 e.2.2).length ≤ es.length + 1 := by
      unfold storeE
      cases hasKey acc (.tup k) with
      | true => simp
      | false => simp
    obtain ⟨es', q1, q2, q3⟩ := prs_fold pr hf RK PRs (by simp only [List.length_cons] at hz; omega)
    refine ⟨es', q1, ?_, q3⟩
    have hx1 : x.1 = .tup k := by rw [← f1, e2]
    show Paired PR es' (storedAllH (storedH xs x.1 x.2.1 x.2.2) _)
    rw [hx1]
    exact q2
theorem prs_len {ow : Ow} {H : Hp} {h : Heap} : ∀ {ds : List D} {us : List Value} {ts : List Addr} {es0 : List (NestedKey × Addr × V)} {ps : List (NestedKey × Addr × Value)}, Prs W X ow H h ds us ts es0 ps → us.length = ps.length ∧ ts.length = ps.length ∧ ds.length = ps.length
  | _, _, _, _, _, .nil => ⟨rfl, rfl, rfl⟩
  | _, _, _, _, _, .cons _ l => by
    obtain ⟨h1, h2, h3⟩ := prs_len l
    exact ⟨by simp [h1], by simp [h2], by simp [h3]⟩
theorem prs_at {ow : Ow} {H : Hp} {h : Heap} : ∀ {ds : List D} {us : List Value} {ts : List Addr} {es0 : List (NestedKey × Addr × V)} {ps : List (NestedKey × Addr × Value)}, Prs W X ow H h ds us ts es0 ps → ∀ (j : Nat) (x : NestedKey × Addr × Value), ps[j]? = some x → us[j]? = some (.ref (ts.getD j 0)) ∧ PairAt h (ts.getD j 0) (.ref x.2.1) x.2.2 ∧ (nestedKind X.prog X.w).is h x.1 x.2.1
  | _, _, _, _, _, .nil, j, x, hx => by simp at hx
  | _, _, _, _, _, .cons p l, 0, x, hx => by
    simp only [List.getElem?_cons_zero, Option.some.injEq] at hx
    subst hx
    exact ⟨by simp [p.ref], by simpa using p.at', p.is⟩
  | _, _, _, _, _, .cons p l, j + 1, x, hx => by
    have := prs_at l j x (by simpa using hx)
    simpa using this
theorem dic_mk (hP : X.prog = W.P) (hw : X.w = W.w) (hK : X.K = W.K) (hc : X.calm = true) (hu : X.A.units + 100 < cLine) {ow : Ow} {H : Hp} {ds : List D} {kvs : List (NestedKey × D)} {x : V} {Q : VK} (hy : Rd1 W ow H (.lst ds) x) (hf : foldP [] ds = some kvs) (hz : ds.length ≤ sizeLine)
    (q : ∀ p o es, H p = none → (p == sysModules) = false → DObj W.P W.w o es → RepK W ow H kvs es → Q (.ref p) (upd H p (objAt p o))) : ∃ rr, CallR X (.type "dict") rr ∧ rr [x] H Q := by
  obtain ⟨a, vs, rfl, ha, la⟩ := hy
  refine ⟨fun xs H' Q' => xs = [.ref a] ∧ H' = H ∧ ∀ p o es, H p = none → (p == sysModules) = false → DObj W.P W.w o es → RepK W ow H kvs es → Q' (.ref p) (upd H p (objAt p o)), ?_, rfl, rfl, q⟩
  rintro pins s σ H' xs us Q' I rs ⟨rfl, rfl, q⟩
  obtain ⟨u, rfl, rx⟩ := vals1 rs
  cases rx
  obtain ⟨hzl, its, n, rv, hln, hg⟩ := I.lstM ha
  obtain ⟨ts, es0, ps, hprs⟩ := prs_of hK I la rv hf
  obtain ⟨l1, l2, l3⟩ := prs_len hprs
  obtain ⟨es', q1, q2, q3⟩ := prs_fold hprs hf .nil .nil (by simpa using hz)
  have P := PairArg.list (prog := X.prog) (w := X.w) a its.toArray (fun j => ts.getD j 0) (ps.map fun x => (Value.ref x.2.1, x.2.2))
  have ok : PlainSeq "list" s.heap a its.toArray ∧ PairItems s.heap its.toArray (fun j => ts.getD j 0) (ps.map fun x => (Value.ref x.2.1, x.2.2)) := by
    refine ⟨⟨_, n, hg, rfl, rfl, rfl⟩, by simp [l1], fun j k v hj => ?_⟩
    rw [List.getElem?_map, Option.map_eq_some_iff] at hj
    obtain ⟨x, hx, e⟩ := hj
    obtain ⟨h1, h2, _⟩ := prs_at hprs j x hx
    simp only [Prod.mk.injEq] at e
    obtain ⟨rfl, rfl⟩ := e
    exact ⟨by simpa using h1, h2⟩
  have hpl : (ps.map fun x => (Value.ref x.2.1, x.2.2)).length = ps.length := by simp
  refine call_dict_pairsH (knd := nestedKind X.prog X.w) (ps := ps) P (I.ok.hd hc) ?_ ok ⟨by rw [hpl], fun i key v hr => ?_⟩ (fun h' hk x hx => ?_) (by rw [hpl]; omega) fun h' tk hd hk => ?_
  · show X.A.units + 1 + 1 + 8 < cLine
    omega
  · have hr' : (ps.map fun x => (Value.ref x.2.1, x.2.2))[i]? = some (key, v) := hr
    rw [List.getElem?_map, Option.map_eq_some_iff] at hr'
    obtain ⟨x, hx, e⟩ := hr'
    simp only [Prod.mk.injEq] at e
    obtain ⟨rfl, rfl⟩ := e
    exact ⟨x.1, x.2.1, hx, rfl⟩
  · obtain ⟨j, hj⟩ := List.mem_iff_getElem?.mp hx
    have h3 := (prs_at hprs j x hj).2.2
    exact nestedKind_stays.all h' (fun b o _ e => hk b o (Nat.ne_of_lt (Heap.lt_size e)) (by simp) e) _ _ h3
  · obtain ⟨o', dd, ep, g1, g2, g3, g4, g5, g6⟩ := hd
    have hkp : ∀ b o, s.heap.get? b = some o → h'.get? b = some o := fun b o e => hk b o (by simp) e
    refine ⟨.ref s.heap.objs.size, _, I.laid (t' := tk) (a := s.heap.objs.size) (o := objAt s.heap.objs.size o') hkp (Nat.le_refl _) (ext_ok g1), rfl, q _ o' es' (I.hok.fresh (Nat.le_refl _)) (beq_eq_false_iff_ne.mpr (Ne.symm (Nat.ne_of_lt I.big))) ?_ q1⟩
    exact ⟨q3, g2, _, q2, dd, ep, g3, by rw [← hP, ← hw]; exact g4, g6⟩
theorem snd_dicL (G : CxG W M cl gl k X sc Wx) (hg : Gl X "dict") (hs : noStar a = true) (ha : SndE W cl gl X Wx a ia) : SndE W cl gl X Wx (.Call (.Name "dict" p1) [a] [] pos) (.dicL ia) := by
  intro pv ow H S σ Q r h
  simp only [evE] at h
  refine RE.of (pe_callTy (x := "dict") (T := "dict") call_best hg (G.free _ (by decide)) (by decide +kernel) (pa_cons pe_RE pa_nil (star_cons hs)) (he := star_cons hs) (hpl := rfl)) ?_
  refine RE.mono (ha pv ow H S σ _ r (Post.seq h)) ?_
  rintro x H1 ⟨rx, S1, ow1, -, k1, r1, p1, h1⟩
  unfold dicLR at h1
  split at h1
  · next ds ec =>
    split at h1
    · next kvs hf =>
      split at h1
      · next hz =>
        refine dic_mk G.prog G.w G.K G.calm (by have := G.room.un; omega) (reads r1 p1 ec) hf (by simpa using hz) fun p o es hp hsm hd hr => ?_
        have g := Grow.new (ow := ow1) (o := objAt p o) (t := .tm) hp
        exact h1 (.ref p) _ _ (k1.trans g.step) (r1.grow g) ⟨p, o, es, rfl, upd_same, hsm, ⟨if_pos rfl, k1.none hp⟩, hd, hr.keep g.keep⟩
      · exact False.elim h1
    · exact False.elim h1
  · exact False.elim h1
/-! ### a dict held as a value -/
def retag (a : Addr) (i : Nat) (ow : Ow) : Ow := fun p => if p = a then .sl i else ow p
theorem retag_ne {a p : Addr} {i : Nat} {ow : Ow} (h : p ≠ a) : retag a i ow p = ow p := if_neg h
section
variable {a' : Addr} {o' : Obj} {i : Nat} {ow : Ow} {H : Hp}
theorem at_ne {b : Addr} {u : HO} (ha : H a' = some (objAt a' o')) (hb : H b = some u) (hu : ∀ φ, u ≠ .ext φ) : b ≠ a' := fun z => by
  rw [z, ha] at hb
  cases hb
  exact hu _ rfl
theorem TupAt.retag {K : PySem.W.Frag} {b : Addr} {vs : List V} (ha : H a' = some (objAt a' o')) (h : TupAt K ow H b vs) : TupAt K (retag a' i ow) H b vs := by
  rcases h with ⟨r, t⟩ | h
  · refine .inl ⟨r, ?_⟩
    have ne : b ≠ a' := by
      rcases r with r | ⟨o, r⟩
      · exact at_ne ha r (by simp)
      · exact at_ne ha r (by simp)
    rw [retag_ne ne]
    exact t
  · exact .inr h
mutual
theorem Rep.retag (ha : H a' = some (objAt a' o')) : ∀ {d : D} {v : V}, Rep W ow H d v → noDic d = true → Rep W (retag a' i ow) H d v
  | _, _, .non, _ => .non
  | _, _, .bl b, _ => .bl b
  | _, _, .int n, _ => .int n
  | _, _, .str x, _ => .str x
  | _, _, .tup h l, hn => .tup (h.retag ha) (RepL.retag ha l (by simpa [noDic] using hn))
  | _, _, .lst h l, hn => .lst ⟨h.1, by rw [retag_ne (at_ne ha h.1 (by simp))]; exact h.2⟩ (RepL.retag ha l (by simpa [noDic] using hn))
  | _, _, .dic _ _ _ _ _, hn => by simp [noDic] at hn
  | _, _, .ins m h1 h2 h3 h4 l, hn => .ins m h1 (by rw [retag_ne (at_ne ha h1 (by simp))]; exact h2) h3 (by rw [retag_ne (at_ne ha h3 (by simp))]; exact h4) (RepF.retag ha l (by simpa [noDic] using hn))
theorem RepL.retag (ha : H a' = some (objAt a' o')) : ∀ {d : List D} {v : List V}, RepL W ow H d v → noDics d = true → RepL W (retag a' i ow) H d v
  | _, _, .nil, _ => .nil
  | _, _, .cons h l, hn => by
    simp only [noDics, Bool.and_eq_true] at hn
    exact .cons (Rep.retag ha h hn.1) (RepL.retag ha l hn.2)
theorem RepF.retag (ha : H a' = some (objAt a' o')) : ∀ {d : List (Str × D)} {v : List (Str × V)}, RepF W ow H d v → noDicF d = true → RepF W (retag a' i ow) H d v
  | _, _, .nil, _ => .nil
  | _, _, .cons h l, hn => by
    simp only [noDicF, Bool.and_eq_true] at hn
    exact .cons (Rep.retag ha h hn.1) (RepF.retag ha l hn.2)
end
theorem RepK.retag (ha : H a' = some (objAt a' o')) : ∀ {d : List (NestedKey × D)} {v : List (NestedKey × Addr × V)}, RepK W ow H d v → noDicK d = true → RepK W (retag a' i ow) H d v
  | _, _, .nil, _ => .nil
  | _, _, .cons h1 h2 h3 l, hn => by
    simp only [noDicK, Bool.and_eq_true] at hn
    exact .cons (h1.retag ha hn.1.1) h2 (h3.retag ha hn.1.2) (RepK.retag ha l hn.2)
theorem RepV.retag {t t' : Addr → Prop} (ha : H a' = some (objAt a' o')) (ht : ∀ p, t p → t' p) : ∀ {d : List (Str × FV)} {v : List (Str × V)}, RepV W ow H t d v → noDicV d = true → RepV W (retag a' i ow) H t' d v
  | _, _, .nil, _ => .nil
  | _, _, .val h l, hn => by
    simp only [noDicV, Bool.and_eq_true] at hn
    exact .val (h.retag ha hn.1) (RepV.retag ha ht l hn.2)
  | _, _, .lst h1 h2 h3 l, hn => by
    simp only [noDicV, Bool.and_eq_true] at hn
    exact .lst h1 (ht _ h2) (h3.retag ha hn.1) (RepV.retag ha ht l hn.2)
theorem ObRep.retag {t t' : Addr → Prop} (ha : H a' = some (objAt a' o')) (ht : ∀ p, t p → t' p) {ob : Ob} {v : V} (h : ObRep W ow H t ob v) (hn : noDicO ob = true) : ObRep W (Ev.retag a' i ow) H t' ob v := by
  cases ob with
  | lst xs =>
    obtain ⟨b, vs, e, h1, h2, h3⟩ := h
    exact ⟨b, vs, e, h1, ht _ h2, h3.retag ha hn⟩
  | dic kvs =>
    obtain ⟨b, o, es, e, h1, hs, h2, h3, h4⟩ := h
    exact ⟨b, o, es, e, h1, hs, ht _ h2, h3, h4.retag ha hn⟩
  | ins c fs =>
    obtain ⟨b, dx, gs, e, hm, h1, h2, h3, h4, h5⟩ := h
    exact ⟨b, dx, gs, e, hm, h1, ht _ h2, h3, ht _ h4, h5.retag ha ht hn⟩
  | rng s cs n =>
    obtain ⟨b, c, e, ne, h1, h2, h3, h4⟩ := h
    exact ⟨b, c, e, ne, h1, h2, ht _ h3, ht _ h4⟩
  | scr ns =>
    obtain ⟨b, e, h⟩ := h
    exact ⟨b, e, h.elim (fun ⟨r, z⟩ => .inl ⟨r, ht _ z⟩) .inr⟩
  | ll xs => cases hn
end
theorem freeS_at : ∀ {S : Fr} {i j : Nat} {c : Cell}, freeS S i = true → j ≠ i → getC S j = some c → noDicC (some c) = true
  | [], _, _, _, _, _, h => by simp [getC] at h
  | x :: S, 0, 0, c, _, hj, _ => absurd rfl hj
  | x :: S, 0, j + 1, c, hf, _, h => by
    unfold getC at h
    simp only [List.getElem?_cons_succ] at h
    simp only [freeS, List.all_eq_true] at hf
    split at h
    · next c' hc' => subst h; exact hf _ (List.mem_of_getElem? hc')
    · cases h
  | x :: S, i + 1, 0, c, hf, _, h => by
    simp only [freeS, Bool.and_eq_true] at hf
    unfold getC at h
    simp only [List.getElem?_cons_zero] at h
    subst h
    exact hf.1
  | x :: S, i + 1, j + 1, c, hf, hj, h => by
    simp only [freeS, Bool.and_eq_true] at hf
    refine freeS_at (S := S) (i := i) (j := j) hf.2 (fun z => hj (by rw [z])) ?_
    unfold getC at h ⊢
    simpa using h
theorem hold_post {pv : Nat → Option V} {ow : Ow} {H : Hp} {S : Fr} {σ : L2.St} {Q : VK} {i : Nat} (r : Rel W pv ow H S σ) (h : PostE W pv ow H σ Wx (evE cl gl (.hold i ia) S) Q) : ∃ ow1 S1, Rel W pv ow1 H S1 σ ∧ PostE W pv ow1 H σ Wx (evE cl gl ia S1) Q := by
  simp only [evE] at h
  split at h
  · next kvs0 hc =>
    obtain ⟨v, hv, hcell⟩ := r.cell i _ hc
    have efrz : esc (.bor i) S = .ok (.dic kvs0) (setC S i (some (.val (.dic kvs0)))) := by simp [esc, frz, hc, obFz]
    obtain ⟨ow1, st1, kp1, r1, rep1⟩ := esc_ok r Step.refl (x := .bor i) (v := v) hv efrz
    obtain ⟨a0, o0, es0, rfl, g1, g2, g3, g4, g5⟩ := hcell
    have t1 : ow1 a0 = .fz := by
      cases rep1 with
      | dic q1 q2 q3 q4 q5 => exact q3
    refine ⟨ow1, _, r1, ?_⟩
    cases eo : evE cl gl ia (setC S i (some (.val (.dic kvs0)))) with
    | bad => rw [eo] at h; exact h
    | exc c fs S2 => rw [eo] at h; exact False.elim h
    | ok x S2 =>
      rw [eo] at h
      simp only [thawR] at h
      split at h
      · next kvs hc2 =>
        split at h
        · next hfree =>
          simp only [Bool.and_eq_true] at hfree
          obtain ⟨⟨f1, f2⟩, f3⟩ := hfree
          intro b ow' H' st r2 rx
          obtain ⟨k1, k2⟩ := st.tag (p := a0) (by rw [g1]; simp) t1 (by simp)
          have ha : H' a0 = some (objAt a0 o0) := k1.trans g1
          refine h b (retag a0 i ow') H' ?_ ⟨by simp [setC, r2.len], fun j c ec => ?_, fun j u eu => ?_, fun j ob eo' => ?_⟩ ?_
          · intro p hp
            by_cases hpa : p = a0
            · subst hpa
              refine ⟨by rw [ha]; simp, fun z => absurd g3 (z i), fun j ej => ?_⟩
              rw [g3] at ej
              cases ej
              exact .inl (if_pos rfl)
            · have := (st1.trans st) p hp
              rw [retag_ne hpa]
              exact this
          · by_cases hj : i = j
            · subst hj
              rw [getC_set_self (getC_lt hc2)] at ec
              cases ec
              obtain ⟨v2, e2, q⟩ := r2.cell i _ hc2
              rw [hv] at e2
              cases e2
              cases (show Rep W ow' H' (.dic kvs) (.ref a0) from q) with
              | @dic _ o2 es2 _ q1 q2 q3 q4 q5 => exact ⟨_, hv, a0, o2, es2, rfl, q1, q2, if_pos rfl, q4, q5.retag ha f3⟩
            · rw [getC_set_ne hj] at ec
              obtain ⟨u, e1, q⟩ := r2.cell j c ec
              have hn := freeS_at f1 (Ne.symm hj) ec
              refine ⟨u, e1, ?_⟩
              have ht : ∀ p, ow' p = .sl j → retag a0 i ow' p = .sl j := fun p z => by
                have ne : p ≠ a0 := fun y => by rw [y, k2] at z; cases z
                rw [retag_ne ne]
                exact z
              cases c with
              | val d => exact Rep.retag ha q hn
              | own ob => exact ObRep.retag ha ht q hn
              | par ob => exact ObRep.retag ha ht q hn
              | exc _ _ => exact q
          · obtain ⟨ob, e1, e2⟩ := r2.par j u eu
            have hj : i ≠ j := fun z => by subst z; rw [hc2] at e1; cases e1
            exact ⟨ob, by rw [getC_set_ne hj]; exact e1, e2⟩
          · by_cases hj : i = j
            · subst hj
              rw [getC_set_self (getC_lt hc2)] at eo'
              cases eo'
            · rw [getC_set_ne hj] at eo'
              exact r2.unpar j ob eo'
          · cases x with
            | val d => exact Rep.retag ha rx f2
            | tmp ob =>
              refine ObRep.retag ha (fun p z => ⟨?_, z.2⟩) rx f2
              have ne : p ≠ a0 := fun y => by rw [y, k2] at z; cases z.1
              rw [retag_ne ne]
              exact z.1
            | bor _ => cases f2
        · exact False.elim h
      · exact False.elim h
  · exact False.elim h
theorem snd_hold {e : Expr} {i : Nat} (he : SndE W cl gl X Wx e ia) : SndE W cl gl X Wx e (.hold i ia) := by
  intro pv ow H S σ Q r h
  obtain ⟨ow1, S1, r1, h1⟩ := hold_post r h
  exact he pv ow1 H S1 σ Q r1 h1
/-! ### i in range(n) -/
theorem place_one {n i : Int} : (Builtin.Range.rangePlace? 0 n 1 i).isSome = (decide (0 ≤ i) && decide (i < n)) := by
  unfold Builtin.Range.rangePlace?
  simp only [show ((1 : Int) > 0) = True by simp, if_true, Int.emod_one, beq_self_eq_true, Bool.and_true]
  split
  · next h => simp only [Bool.and_eq_true, decide_eq_true_eq] at h; simp [h.1, h.2]
  · next h => simp only [Bool.not_eq_true] at h; simp [h]
theorem in_range {prog : Program} {w : World} {A : Around} {E : Value → Shared → Prop} {s : Shared} {r : Addr} {n i : Int} {t u v ti : Tok} {Q : Bool → Shared → Prop} (hr : IsRange s.heap r 0 n 1 t u v) (h : Q (decide (0 ≤ i) && decide (i < n)) s) :
    wpAny (model prog w) A (contains (.ref r) (.int i ti)) Q E s := by
  have hT : s.TypeIs (.ref r) "range" := ⟨_, hr, rfl⟩
  refine wpAny_contains_slot hT F.slot_range_contains ?_
  refine wpAny_call_entry F.slot_range_contains hT F.entry_range_contains ?_ (F.args_range_contains_2 _ _)
  unfold Builtin.«range.__contains__»
  refine wpAny_bind (wpAny_of_eq (a := (Value.ref r, [Value.int i ti])) rfl ?_)
  dsimp only
  refine wpAny_bind (wpAny_rule ?_)
  refine wpAny_bind (wpAny_rangeFields hr ?_)
  refine wpAny_pure ⟨_, rfl, ?_⟩
  rw [place_one]
  exact wpAny_truthy_bool h
theorem cmp_in_range {prog : Program} {w : World} {A : Around} {E : Value → Shared → Prop} {s : Shared} {r : Addr} {n i : Int} {t u v ti : Tok} {Q : Value → Shared → Prop} (hr : IsRange s.heap r 0 n 1 t u v) (h : Q (.bool (decide (0 ≤ i) && decide (i < n))) s) :
    wpAny (model prog w) A (compareOp .In (.int i ti) (.ref r)) Q E s := by
  show wpAny _ _ (do return Value.bool (← contains (.ref r) (.int i ti))) Q E s
  exact wpAny_bind (in_range hr (wpAny_pure h))
theorem cmp_nin_range {prog : Program} {w : World} {A : Around} {E : Value → Shared → Prop} {s : Shared} {r : Addr} {n i : Int} {t u v ti : Tok} {Q : Value → Shared → Prop} (hr : IsRange s.heap r 0 n 1 t u v) (h : Q (.bool !(decide (0 ≤ i) && decide (i < n))) s) :
    wpAny (model prog w) A (compareOp .NotIn (.int i ti) (.ref r)) Q E s := by
  show wpAny _ _ (do return Value.bool (!(← contains (.ref r) (.int i ti)))) Q E s
  exact wpAny_bind (in_range hr (wpAny_pure h))
def tInR (neg : Bool) (ta : TE) (te : L2.St → Hp → (Int → Int → Hp → Prop) → Prop) : TT := fun σ H Q => ta σ H fun x H1 => te σ H1 fun lo n H2 => ∃ i, x = .int i ∧ lo = 0 ∧ Q (inRg neg i n) H2
theorem pt_inR {X : Cx} {a e : Expr} {pos : Pos} {ta : TE} {te : L2.St → Hp → (Int → Int → Hp → Prop) → Prop} (ha : PE X a ta) (he : PRg X e te) (hm : behindInMarks .In e = false) : PT X (.Compare a [.In] [e] pos) (tInR false ta te) := by
  refine ⟨fun pins s σ H Q I h => ?_⟩
  refine wpAny_isTrue_Compare1 (thn (ha.run pins s σ H _ I h) fun v s1 ⟨x, H1, I1, r1, q1⟩ => thn (he pins s1 σ H1 _ I1 q1) fun u s2 ⟨r, lo, n, t1, t2, t3, H2, ex, hr, I2, i, e1, e2, q2⟩ => ?_) hm
  subst ex e1 e2
  obtain ⟨ti, rfl⟩ := r1
  exact cmp_in_range hr (wpAny_truthy_bool ⟨H2, I2, q2⟩)
theorem pt_ninR {X : Cx} {a e : Expr} {pos : Pos} {ta : TE} {te : L2.St → Hp → (Int → Int → Hp → Prop) → Prop} (ha : PE X a ta) (he : PRg X e te) (hm : behindInMarks .NotIn e = false) : PT X (.Compare a [.NotIn] [e] pos) (tInR true ta te) := by
  refine ⟨fun pins s σ H Q I h => ?_⟩
  refine wpAny_isTrue_Compare1 (thn (ha.run pins s σ H _ I h) fun v s1 ⟨x, H1, I1, r1, q1⟩ => thn (he pins s1 σ H1 _ I1 q1) fun u s2 ⟨r, lo, n, t1, t2, t3, H2, ex, hr, I2, i, e1, e2, q2⟩ => ?_) hm
  subst ex e1 e2
  obtain ⟨ti, rfl⟩ := r1
  exact cmp_nin_range hr (wpAny_truthy_bool ⟨H2, I2, q2⟩)
theorem snd_inR (G : CxG W M cl gl k X sc Wx) {neg : Bool} {op : CmpOp} (ho : (neg = false ∧ op = .In) ∨ (neg = true ∧ op = .NotIn)) (hg2 : Gl X "range") (hs : noStar b = true) (ha : SndE W cl gl X Wx a ia) (hb : SndE W cl gl X Wx b ib) : SndT W cl gl X Wx (.Compare a [op] [.Call (.Name "range" p2) [b] [] p3] pos) (.inR neg ia ib) := by
  intro pv ow H S σ Q r h
  simp only [evT] at h
  have key : tInR neg (fun σ H Q => RE X a σ H Q) (tRg1 (fun σ H Q => RE X b σ H Q)) σ H Q := by
    refine RE.mono (ha pv ow H S σ _ r (Post.seq h)) ?_
    rintro x H1 ⟨rx, S1, ow1, -, k1, r1, p1, h1⟩
    split at h1
    · next i e1 =>
      cases intRd (reads r1 p1 e1)
      refine RE.mono (hb pv ow1 H1 S1 σ _ r1 (Post.seq2 h1 k1)) ?_
      rintro y H2 ⟨ry, S2, ow2, -, k2, r2, p2, h2⟩
      split at h2
      · next n e2 =>
        cases intRd (reads r2 p2 e2)
        exact ⟨n, rfl, i, rfl, rfl, h2 _ ow2 H2 (k1.trans k2) r2 rfl⟩
      · exact False.elim h2
    · exact False.elim h1
  rcases ho with ⟨rfl, rfl⟩ | ⟨rfl, rfl⟩
  · exact RT.of (pt_inR pe_RE (prg_1 hg2 (G.free _ (by decide)) pe_RE (star_cons hs)) rfl) key
  · exact RT.of (pt_ninR pe_RE (prg_1 hg2 (G.free _ (by decide)) pe_RE (star_cons hs)) rfl) key
theorem rep_rg {ow : Ow} {H : Hp} {n : Nat} : RepL W ow H ((List.range n).map fun (i : Nat) => D.int (0 + (i : Int))) ((List.range n).map fun (i : Nat) => V.int (0 + (i : Int))) := by
  induction List.range n with
  | nil => exact .nil
  | cons x xs ih => exact .cons (.int _) ih
theorem snd_tupR (G : CxG W M cl gl k X sc Wx) (hg : Gl X "tuple") (hg2 : Gl X "range") (hs : noStar a = true) (ha : SndE W cl gl X Wx a ia) : SndE W cl gl X Wx (.Call (.Name "tuple" p1) [.Call (.Name "range" p2) [a] [] p3] [] pos) (.tupR ia) := by
  intro pv ow H S σ Q r h
  simp only [evE] at h
  refine RE.of (pe_tupRg G.calm hg (G.free _ (by decide)) (prg_1 hg2 (G.free _ (by decide)) pe_RE (star_cons hs)) rfl) ?_
  refine RE.mono (ha pv ow H S σ _ r (Post.seq h)) ?_
  rintro x H1 ⟨rx, S1, ow1, -, k1, r1, p1, h1⟩
  split at h1
  · next j e1 =>
    cases intRd (reads r1 p1 e1)
    split at h1
    · next hc =>
      simp only [Bool.and_eq_true, decide_eq_true_eq] at hc
      refine ⟨j, rfl, RgOk.of_le (by omega) (by omega) (by omega) (by omega), fun q hq => ?_⟩
      have g := Grow.new (ow := ow1) (o := .tup (rgV 0 j)) (t := .fz) hq
      exact h1 (.ref q) _ _ (k1.trans g.step) (r1.grow g) (.tup (.inl ⟨.inl upd_same, if_pos rfl⟩) rep_rg)
    · exact False.elim h1
  · exact False.elim h1
end
end Ev

/-! EvJ: slices, isinstance, calls, new instances; the text against the small syntax. -/
namespace Ev
open PySem PySem.Spec PyProof.Rows L2

section
variable {W : Wd} {M : MC} {cl : Calls} {gl : Str → Option D} {k : Nat} {X : Cx} {sc : Scope} {Wx : WX} {e a b c tgE iter elt : Expr} {ia ib ic : E} {pos p1 p2 p3 : Pos}
/-! ### slices -/
def RO (X : Cx) (e : Option Expr) (σ : L2.St) (H : Hp) (Q : Option Int → Hp → Prop) : Prop := ∃ t : TO, PO X e t ∧ t σ H Q
theorem po_RO {e : Option Expr} : PO X e (RO X e) := ⟨fun pins s σ H Q I h => let ⟨_, hp, q⟩ := h; hp.run pins s σ H Q I q⟩
def SndO (W : Wd) (cl : Calls) (gl : Str → Option D) (X : Cx) (Wx : WX) (e : Option Expr) (o : Oe) : Prop := ∀ (pv : Nat → Option V) (ow : Ow) (H : Hp) (S : Fr) (σ : L2.St) (Q : Option Int → Hp → Prop), Rel W pv ow H S σ → Post W pv ow H σ Wx (fun _ _ (a b : Option Int) => a = b) (evO cl gl o S) Q → RO X e σ H Q
theorem snd_o0 : SndO W cl gl X Wx none .none := fun pv ow H S σ Q r h => ⟨_, po_none, h none ow H Step.refl r rfl⟩
theorem snd_o1 (ha : SndE W cl gl X Wx a ia) : SndO W cl gl X Wx (some a) (.some ia) := by
  intro pv ow H S σ Q r h
  simp only [evO] at h
  refine ⟨_, po_some pe_RE, RE.mono (ha pv ow H S σ _ r (Post.seq h)) ?_⟩
  rintro v H1 ⟨x, S1, ow1, -, k1, r1, p1, h1⟩
  split at h1
  · next i e1 =>
    cases (show Rep W ow1 H1 (.int i) v from reads r1 p1 e1)
    exact ⟨i, rfl, h1 _ ow1 H1 k1 r1 rfl⟩
  · exact False.elim h1
theorem sliD_nobor {d : D} {lo hi : Option Int} {r : R} (h : sliD d lo hi = some r) : ∀ i, r ≠ .bor i := by
  intro i hr
  subst hr
  unfold sliD at h
  split at h <;> cases h
theorem RO.mono {e : Option Expr} {σ : L2.St} {H : Hp} {Q Q' : Option Int → Hp → Prop} (h : RO X e σ H Q) (k : ∀ v H', Q v H' → Q' v H') : RO X e σ H Q' :=
  ⟨fun σ H Q' => ∃ Q, RO X e σ H Q ∧ ∀ v H', Q v H' → Q' v H', ⟨fun pins s σ H Q' I ⟨Q, ⟨t, hp, q⟩, k⟩ => thn (hp.run pins s σ H Q I q) fun u s1 ⟨l, H1, I1, pl, q1⟩ => ⟨l, H1, I1, pl, k _ _ q1⟩⟩, Q, h, k⟩
theorem snd_sli (G : CxG W M cl gl k X sc Wx) {lo hi : Option Expr} {il ih : Oe} (ha : SndE W cl gl X Wx a ia) (hl : SndO W cl gl X Wx lo il) (hh : SndO W cl gl X Wx hi ih) : SndE W cl gl X Wx (.Subscript a (.Slice lo hi none p2) pos) (.sli ia il ih) := by
  intro pv ow H S σ Q r h
  simp only [evE] at h
  refine RE.of (pe_slice sl_best pe_RE po_RO po_RO) ?_
  refine RE.mono (ha pv ow H S σ _ r (Post.seq h)) ?_
  rintro x H1 ⟨rx, S1, ow1, -, k1, r1, p1, h1⟩
  refine RO.mono (hl pv ow1 H1 S1 σ _ r1 (Post.seq2 h1 k1)) ?_
  rintro l H2 ⟨l', S2, ow2, -, k2, r2, rfl, h2⟩
  refine RO.mono (hh pv ow2 H2 S2 σ _ r2 (Post.seq2 h2 (k1.trans k2))) ?_
  rintro l2 H3 ⟨l2', S3, ow3, -, k3, r3, rfl, h3⟩
  split at h3
  · next d e1 =>
    split at h3
    · next rr e3 =>
      refine sliD_ok G.K e3 (reads r3 (RRep.step (k2.trans k3) p1) e1) (gives_of ((k1.trans k2).trans k3) r3 (sliD_nobor e3) h3)
    · exact False.elim h3
  · exact False.elim h3

/-! ### isinstance -/
theorem snd_isiB (G : CxG W M cl gl k X sc Wx) {c : Str} {t : String} (hc : (c, t) ∈ biCls) (hv : bootBuiltins c = some (.type t)) (hg : Gl X "isinstance") (hgc : Gl X c) (hn : c ≠ "__name__") (hd : (c == ("__debug__" : Str)) = false) (hs : noStar a = true) (hf : c ∈ freeNames) (ha : SndE W cl gl X Wx a ia) :
    SndE W cl gl X Wx (.Call (.Name "isinstance" p1) [a, .Name c p2] [] pos) (.isi ia c) := by
  intro pv ow H S σ Q r h
  simp only [evE] at h
  refine RE.of (pe_callB (x := "isinstance") call_isi hg (G.free _ (by decide)) (by decide +kernel) (pa_cons pe_RE (pa_cons (pe_bltn (v := .ty t) hgc (G.free _ hf) hv rfl hn hd) pa_nil rfl) (star_cons hs)) (he := star_cons hs) (hpl := rfl)) ?_
  refine RE.mono (ha pv ow H S σ _ r (Post.seq h)) ?_
  rintro x H1 ⟨rx, S1, ow1, -, k1, r1, p1, h1⟩
  split at h1
  · next d e1 =>
    split at h1
    · exact False.elim h1
    · next hd =>
      have hd : isDic d = false := by simpa using hd
      have rd := reads r1 p1 e1
      refine ⟨x, .ty t, tyV W d, .type t, isiD c d, rfl, .ty t, ?_, by rw [G.K]; exact G.kit _ hc d hd (insOk_of rd), h1 _ ow1 H1 k1 r1 (.bl _)⟩
      rw [G.K]
      exact tyX_ok (fun c hc => (G.cls c hc).2) (fun kvs z => by subst z; simp [isDic] at hd) rd
  · exact False.elim h1
theorem snd_isiO (G : CxG W M cl gl k X sc Wx) {c : Str} (hc : c ∈ W.own) (hg : Gl X "isinstance") (hgc : Gl X c) (hd : (c == ("__debug__" : Str)) = false) (hs : noStar a = true) (ha : SndE W cl gl X Wx a ia) :
    SndE W cl gl X Wx (.Call (.Name "isinstance" p1) [a, .Name c p2] [] pos) (.isi ia c) := by
  intro pv ow H S σ Q r h
  simp only [evE] at h
  refine RE.of (pe_callB (x := "isinstance") call_isi hg (G.free _ (by decide)) (by decide +kernel) (pa_cons pe_RE (pa_cons (pe_glob (v := .ref (W.cad c)) hgc (G.cls c hc).1 rfl hd) pa_nil rfl) (star_cons hs)) (he := star_cons hs) (hpl := rfl)) ?_
  refine RE.mono (ha pv ow H S σ _ r (Post.seq h)) ?_
  rintro x H1 ⟨rx, S1, ow1, -, k1, r1, p1, h1⟩
  split at h1
  · next d e1 =>
    split at h1
    · exact False.elim h1
    · next hd =>
      have hd : isDic d = false := by simpa using hd
      have rd := reads r1 p1 e1
      refine ⟨x, .ref (W.cad c), tyV W d, .ref (W.cad c), isiD c d, rfl, .own _, ?_, by rw [G.K]; exact G.kitO _ hc d hd (insOk_of rd), h1 _ ow1 H1 k1 r1 (.bl _)⟩
      rw [G.K]
      exact tyX_ok (fun c hc => (G.cls c hc).2) (fun kvs z => by subst z; simp [isDic] at hd) rd
  · exact False.elim h1

/-! ### calls -/
theorem snd_call0 (G : CxG W M cl gl k X sc Wx) {f : Str} (hf : f ∈ M.fns) (hg : Gl X f) (hd : (f == ("__debug__" : Str)) = false) : SndE W cl gl X Wx (.Call (.Name f p1) [] [] pos) (.call f .nil) := by
  intro pv ow H S σ Q r h
  simp only [evE, evAs, Out.bind] at h
  obtain ⟨fa, hm, fd, ps, kp, hb, hF⟩ := G.fn f hf
  intro pins s I
  refine wpAny_Call_Name_kw (ld_glob I hg hm (PySem.W.callWith_K0 I.kIn kp ?_) hd)
  exact run_fnSD (us := []) (vs := []) (dvs := []) (ds := []) (E := fun σ cls d H' => Wx cls d σ H') hF (G.room.mono (by omega)) hb .nil (passAt G.tk σ) I .nil (call_sp r .nil h)
theorem snd_call (G : CxG W M cl gl k X sc Wx) {f : Str} {e0 : Expr} {es : List Expr} {ies : Es} (hf : f ∈ M.fns) (hg : Gl X f) (hd : (f == ("__debug__" : Str)) = false) (hs : (e0 :: es).all noStar = true) (ha : SndAs W cl gl X Wx (e0 :: es) ies) :
    SndE W cl gl X Wx (.Call (.Name f p1) (e0 :: es) [] pos) (.call f ies) := by
  intro pv ow H S σ Q r h
  simp only [evE] at h
  obtain ⟨fa, hm, fd, ps, kp, hb, hF⟩ := G.fn f hf
  have key : RA X (e0 :: es) σ H (fun vs H1 => spOf W cl f vs H1 Q (fun cls d H' => Wx cls d σ H')) := by
    refine RA.mono (ha pv ow H S σ _ r (Post.seq h)) ?_
    rintro vs H1 ⟨as, S1, ow1, -, k1, r1, p1, h1⟩
    exact call_sp r1 p1 (h1.reE k1)
  intro pins s I
  refine wpAny_Call_Name_kw (ld_glob I hg hm ?_ hd)
  simp only [List.all_cons, Bool.and_eq_true] at hs
  refine PySem.W.callWith_K (h₀ := X.base) I.ok.mod.kin kp (thn (key pos pins s I) fun us s1 ⟨vs, H1, I1, rv, q⟩ => ⟨I1.kIn, ?_⟩) (star_cons hs.1) (star_any hs.2)
  exact run_fnSD (dvs := []) (ds := []) (E := fun σ cls d H' => Wx cls d σ H') hF (G.room.mono (by omega)) hb .nil (passAt G.tk σ) I1 rv (by rw [List.append_nil]; exact q)

/-! ### one of some functions -/
def NamesOk (X : Cx) (M : MC) : List Str → List Expr → Prop
  | [], [] => True
  | f :: fs, .Name g _ :: es => f = g ∧ f ∈ M.fns ∧ Gl X f ∧ (f == ("__debug__" : Str)) = false ∧ NamesOk X M fs es
  | _, _ => False
theorem pa_names (G : CxG W M cl gl k X sc Wx) : ∀ {fs : List Str} {es : List Expr}, NamesOk X M fs es → ∃ fas : List Addr, (∀ (i : Nat) (f : Str), fs[i]? = some f → ∃ fa, fas[i]? = some fa ∧ FnAt W cl k X fa f) ∧ fas.length = fs.length ∧ ∀ (σ : L2.St) (H : Hp) (Q : List V → Hp → Prop), Q (fas.map V.ref) H → RA X es σ H Q
  | [], [], _ => ⟨[], fun i f h => by simp at h, rfl, fun σ H Q q => RA.of pa_nil q⟩
  | [], _ :: _, h => h.elim
  | f :: fs, e :: es, h => by
    cases e with
    | Name g p =>
      obtain ⟨rfl, h2, h3, h4, h5⟩ := h
      obtain ⟨fas, k1, k2, k3⟩ := pa_names G h5
      obtain ⟨fa, hm, hF⟩ := G.fn f h2
      refine ⟨fa :: fas, fun i g hi => ?_, by simp [k2], fun σ H Q q => RA.of (pa_cons (pe_glob (v := .ref fa) h3 hm rfl h4) pa_RA rfl) (k3 σ H _ q)⟩
      cases i with
      | zero => simp at hi; subst hi; exact ⟨fa, rfl, hF⟩
      | succ i => exact k1 i g (by simpa using hi)
    | _ => exact h.elim
  | _ :: _, [], h => h.elim
theorem snd_pick (G : CxG W M cl gl k X sc Wx) {fs : List Str} {es : List Expr} (hn : NamesOk X M fs es) (hl : fs.length ≤ 100) (hb' : plainS b = true) (hb : SndE W cl gl X Wx b ib) : SndE W cl gl X Wx (.Call (.Subscript (.List es p1) b p2) [] [] pos) (.pick fs ib) := by
  intro pv ow H S σ Q r h
  simp only [evE] at h
  obtain ⟨fas, hat, hlen, hra⟩ := pa_names G hn
  have key : RE X (.Subscript (.List es p1) b p2) σ H (fun v H2 => ∃ f fa S2 ow2, v = .ref fa ∧ FnAt W cl k X fa f ∧ Step ow H ow2 H2 ∧ Rel W pv ow2 H2 S2 σ ∧ PostE W pv ow H σ Wx (callR cl f [] S2) Q) := by
    refine RE.of (pe_ix ix_best pe_RE pe_RE (plain_ix hb')) ?_
    refine RE.of (pe_lst pa_RA) ?_
    refine hra σ H _ ⟨by rw [List.length_map, hlen, sizeLine_eq]; omega, fun p hp => ?_⟩
    have g := Grow.new (ow := ow) (o := .lst (fas.map V.ref)) (t := .tm) hp
    refine RE.mono (hb pv _ _ S σ _ (r.grow g) (Post.seq2 h g.step)) ?_
    rintro y H2 ⟨ry, S2, ow2, -, k2, r2, p2, h2⟩
    obtain ⟨e1, _⟩ := k2.tag (p := p) (by rw [upd_same]; simp) (if_pos rfl) (by simp)
    split at h2
    · next j ej =>
      cases intRd (reads r2 p2 ej)
      split at h2
      · next f hf =>
        unfold pickF at hf
        split at hf
        · next hj =>
          obtain ⟨fa, h3, h4⟩ := hat _ f hf
          have hlt := (List.getElem?_eq_some_iff.mp hf).1
          have hai : atI (fas.map V.ref) j = some (.ref fa) := by
            unfold atI ixN
            rw [List.length_map, hlen, if_pos hj, if_pos (by omega)]
            simp [h3]
          exact ⟨_, ix_list, p, fas.map V.ref, j, .ref fa, rfl, rfl, SqL.of (e1.trans upd_same), hai, f, fa, S2, ow2, rfl, h4, g.step.trans k2, r2, h2⟩
        · cases hf
      · exact False.elim h2
    · exact False.elim h2
  intro pins s I
  rw [show eval (.Call (.Subscript (.List es p1) b p2) [] [] pos) X.env = (do callWith pos (← eval (.Subscript (.List es p1) b p2) X.env) [] (backTo pos (starEach [] X.env)) (backToKw pos (keywordEach [] X.env))) from rfl]
  refine wpAny_bind (thn (key pins s I) fun u s1 hh => ?_)
  obtain ⟨v, H1, I1, rv, f, fa, S2, ow2, hv, hF, st, r2, h2⟩ := hh
  subst hv
  obtain rfl : u = Value.ref fa := rv
  obtain ⟨fd, ps, kp, hbd, hF⟩ := hF
  refine PySem.W.callWith_K0 I1.kIn kp ?_
  exact run_fnSD (us := []) (vs := []) (dvs := []) (ds := []) (E := fun σ cls d H' => Wx cls d σ H') hF (G.room.mono (by omega)) hbd .nil (passAt G.tk σ) I1 .nil (call_sp r2 .nil (h2.reE st))

/-! ### a new instance -/
open Classical in
noncomputable def owMk (x dx : Addr) (ow : Ow) : Ow := fun p => if p = x ∨ p = dx then .sl 0 else if ow p = .fz then .fz else .fo
open Classical in
noncomputable def owMkOut (H : Hp) (ow owc : Ow) : Ow := fun p => if H p = none then (if owc p = .sl 0 ∨ owc p = .tm then .tm else .fz) else ow p
theorem mk_sp {pv : Nat → Option V} {ow : Ow} {H : Hp} {S : Fr} {σ : L2.St} {c : Str} {ds : List D} {vs : List V} {Q : VK} {x dx : Addr} (hc : c ∈ W.own) (r : Rel W pv ow H S σ) (ha : RepL W ow H ds vs) (h : PostE W pv ow H σ Wx (newR cl c ds S) Q) (hx : H x = none) (hdx : H dx = none) (ne : dx ≠ x) :
    spOf W cl (c ++ ".__init__") (.ref x :: vs) (upd (upd H dx (.own x)) x (.ins (W.cad c) dx [])) (fun v H2 => v = .non ∧ Q (.ref x) H2) (fun cls d H' => Wx cls d σ H') := by
  have hold : ∀ p, H p ≠ none → p ≠ x ∧ p ≠ dx := fun p hp => ⟨fun z => hp (z ▸ hx), fun z => hp (z ▸ hdx)⟩
  have hH : ∀ p, H p ≠ none → upd (upd H dx (.own x)) x (.ins (W.cad c) dx []) p = H p := fun p hp => by rw [upd_ne (hold p hp).1, upd_ne (hold p hp).2]
  have hfz : ∀ p, H p ≠ none → ow p = .fz → owMk x dx ow p = .fz := fun p hp e => by
    unfold owMk
    rw [if_neg (fun z => z.elim (hold p hp).1 (hold p hp).2), if_pos e]
  have kp : Keep ow H (owMk x dx ow) (upd (upd H dx (.own x)) x (.ins (W.cad c) dx [])) := fun p hp e => ⟨hH p hp, hfz p hp e⟩
  have args : ∀ {ds : List D} {vs : List V} (n : Nat), RepL W ow H ds vs → ArgsRep W (owMk x dx ow) (upd (upd H dx (.own x)) x (.ins (W.cad c) dx [])) n (ds.map Cell.val) vs ∧ (ds.map Cell.val).all isArg = true := by
    intro ds
    induction ds with
    | nil => intro vs n l; cases l; exact ⟨trivial, rfl⟩
    | cons d ds ih =>
      intro vs n l
      cases l with
      | cons q l =>
        obtain ⟨h1, h2⟩ := ih (n + 1) l
        exact ⟨⟨Rep.keep kp q, h1⟩, by simpa [isArg] using h2⟩
  obtain ⟨a1, a2⟩ := args 1 ha
  have tx : owMk x dx ow x = .sl 0 := by unfold owMk; rw [if_pos (.inl rfl)]
  have tdx : owMk x dx ow dx = .sl 0 := by unfold owMk; rw [if_pos (.inr rfl)]
  have outs : ∀ {ds : List D} {vs : List V} {owc : Ow} {H' : Hp} {os : List Ob} (n : Nat), OutsRep W owc H' n (ds.map Cell.val) vs os → os = [] := by
    intro ds
    induction ds with
    | nil => intro vs owc H' os n q; cases vs <;> cases os <;> first | rfl | exact False.elim q
    | cons d ds ih => intro vs owc H' os n q; cases vs <;> first | exact False.elim q | exact ih (n + 1) q
  refine ⟨owMk x dx ow, .par (.ins c []) :: ds.map .val, ⟨⟨x, dx, [], rfl, hc, upd_same, tx, by rw [upd_ne ne, upd_same], tdx, .nil⟩, a1⟩, by simpa [isArg] using a2, fun p hp => ?_, ?_⟩
  · unfold owMk
    split
    · exact .inr (.inr ⟨0, rfl, rfl⟩)
    · split
      · exact .inl rfl
      · exact .inr (.inl rfl)
  · -- tags behind it
    have fin : ∀ {owc : Ow} {H' : Hp}, Step (owMk x dx ow) (upd (upd H dx (.own x)) x (.ins (W.cad c) dx [])) owc H' → Step ow H (owMkOut H ow owc) H' ∧ Rel W pv (owMkOut H ow owc) H' S σ ∧ Keep owc H' (owMkOut H ow owc) H' ∧ ∀ p, owc p = .sl 0 → owMkOut H ow owc p = .tm ∧ H p = none := by
      intro owc H' st
      have same : ∀ p, H p ≠ none → H' p = H p ∧ owc p = owMk x dx ow p := fun p hp => by
        have hn : upd (upd H dx (.own x)) x (.ins (W.cad c) dx []) p ≠ none := by rw [hH p hp]; exact hp
        have e : ∀ i, owMk x dx ow p ≠ .sl i := fun i => by
          unfold owMk
          rw [if_neg (fun z => z.elim (hold p hp).1 (hold p hp).2)]
          split <;> simp
        obtain ⟨q1, q2⟩ := (st p hn).2.1 e
        exact ⟨q1.trans (hH p hp), q2⟩
      have g : Grow ow H (owMkOut H ow owc) H' := fun p hp => ⟨(same p hp).1, by unfold owMkOut; rw [if_neg hp]⟩
      refine ⟨g.step, r.grow g, fun p hp e => ⟨rfl, ?_⟩, fun p e => ?_⟩
      · unfold owMkOut
        split
        · rw [if_neg (by rw [e]; simp)]
        · next hn =>
          have := (same p hn).2
          rw [e] at this
          unfold owMk at this
          rw [if_neg (fun z => z.elim (hold p hn).1 (hold p hn).2)] at this
          split at this
          · next q => exact q
          · cases this
      · have hn : H p = none := by
          cases hh : H p with
          | none => rfl
          | some o =>
            have hp : H p ≠ none := by rw [hh]; simp
            have := (same p hp).2
            rw [e] at this
            unfold owMk at this
            rw [if_neg (fun z => z.elim (hold p hp).1 (hold p hp).2)] at this
            split at this <;> cases this
        exact ⟨by unfold owMkOut; rw [if_pos hn, if_pos (.inl e)], hn⟩
    unfold newR at h
    unfold PostF
    split at h
    · next o ec =>
      rw [ec]
      intro v owc H' st hv ho
      obtain ⟨f1, f2, f3, f4⟩ := fin st
      cases (show Rep W owc H' .non v from hv)
      refine ⟨rfl, h (.ref x) _ H' f1 f2 ?_⟩
      exact ObRep.keep f3 (fun p _ z => ⟨rfl, (f4 p z).1, (f4 p z).2⟩) ho.1
    · next c' fs os ec =>
      rw [ec]
      intro cls d owc H' st hv ho
      obtain ⟨f1, f2, f3, f4⟩ := fin st
      refine h cls d _ H' f1 f2 ?_
      obtain ⟨h1, h2⟩ := hv
      refine ⟨h1, ?_⟩
      rcases h2 with h2 | ⟨h2, a, gs, h3, h4, h5⟩
      · exact .inl h2
      · exact .inr ⟨h2, a, gs, h3, h4, h5.keep f3⟩
    · exact False.elim h
theorem run_mk {C f : Addr} {fd : FuncData} {ps : List Str} {sp : Sp} {pins : List (Addr × Obj)} {σ : L2.St} {H : Hp} {s : Shared} {Q : VK} {us : List Value} {vs : List V} {EE : XK} (mk : Mk X.K C f) (F : FnOk X.prog X.w X.K X.mg X.base (L2.CX X.prog X.w) k f fd ps sp) (hr : Room (k + 1) X.A) (hb : Binds X.K fd ps [])
    (hx : PassesAt (L2.CX X.prog X.w) X σ EE) (I : Inv X pins σ H s) (r : Vals vs us)
    (h : ∀ x dx, H x = none → H dx = none → dx ≠ x → sp (.ref x :: vs) (upd (upd H dx (.own x)) x (.ins C dx [])) (fun v H2 => v = .non ∧ Q (.ref x) H2) EE) : wpAny (model X.prog X.w) X.A (call (.ref C) us) (EP X pins σ Q) X.xe s := by
  have hq := h (s.heap.objs.size + 1) s.heap.objs.size (I.hok.fresh (Nat.le_succ _)) (I.hok.fresh (Nat.le_refl _)) (Nat.ne_of_lt (Nat.lt_succ_self _))
  have J := Inv.made (C := C) I
  have rv : Vals (V.ref (s.heap.objs.size + 1) :: vs) (Value.ref (s.heap.objs.size + 1) :: us) := .cons rfl r
  have hl : (Value.ref (s.heap.objs.size + 1) :: us ++ []).length = ps.length := by rw [List.append_nil, ← rv.length]; exact F.len _ _ _ _ hq
  have hbd := hb _ (Value.ref (s.heap.objs.size + 1) :: us) J.kIn hl
  rw [List.append_nil] at hbd
  refine wpAny_call (make_map (f := f) I.kIn mk.makes mk.init (beq_iff_eq.mp mk.fn) (codeAny_mono (F.run _ X.stack _ _ ⟨Value.ref (s.heap.objs.size + 1) :: us, []⟩ _ _ _ EE (hr.make C us []) (J.env0.make C us []) hbd rv hq) ?_))
  rintro (er | fl) s' hq'
  · exact hx pins _ _ er s' J hq'
  · cases fl with
    | ret u =>
      obtain ⟨v, H', I3, rv', rfl, q3⟩ := J.after hq'
      exact ⟨rv', ⟨V.ref (s.heap.objs.size + 1), H', I3, rfl, q3⟩⟩
    | next => exact hq'.elim
    | brk => exact hq'.elim
    | cont => exact hq'.elim
theorem snd_new (G : CxG W M cl gl k X sc Wx) {c : Str} {e0 : Expr} {es : List Expr} {ies : Es} (hc : c ∈ M.made) (hg : Gl X c) (hd : (c == ("__debug__" : Str)) = false) (hs : (e0 :: es).all noStar = true) (ha : SndEs W cl gl X Wx (e0 :: es) ies) :
    SndE W cl gl X Wx (.Call (.Name c p1) (e0 :: es) [] pos) (.new c ies) := by
  intro pv ow H S σ Q r h
  simp only [evE] at h
  obtain ⟨hm, g, mk, fd, ps, kp, hb, hF⟩ := G.made c hc
  intro pins s I
  refine wpAny_Call_Name_kw (ld_glob I hg (G.cls c hm).1 ?_ hd)
  simp only [List.all_cons, Bool.and_eq_true] at hs
  rw [← G.K] at mk
  refine PySem.W.callWith_K (h₀ := X.base) I.ok.mod.kin mk.kp (thn (ha pv ow H S σ _ r (Post.seq h) pos pins s I) ?_) (star_cons hs.1) (star_any hs.2)
  rintro us s1 ⟨vs, H1, I1, rv, ds, S1, ow1, -, k1, r1, p1, h1⟩
  exact ⟨I1.kIn, run_mk mk hF (G.room.mono (by omega)) hb (passAt G.tk σ) I1 rv fun x dx hx hdx ne => mk_sp hm r1 p1 (h1.reE k1) hx hdx ne⟩

/-! ### dicts -/
theorem snd_dic0 (G : CxG W M cl gl k X sc Wx) : SndE W cl gl X Wx (.Dict [] [] pos) .dic0 := by
  intro pv ow H S σ Q r h
  simp only [evE] at h
  refine G.dn pos σ H Q fun p hn hs hd => ?_
  have g := Grow.new (ow := ow) (o := objAt p dict0) (t := .tm) hn
  exact h (.ref p) _ _ g.step (r.grow g) ⟨p, dict0, [], rfl, upd_same, hs, ⟨if_pos rfl, hn⟩, hd, .nil⟩
theorem snd_dic1 (G : CxG W M cl gl k X sc Wx) (ha : SndE W cl gl X Wx a ia) (hb : SndE W cl gl X Wx b ib) : SndE W cl gl X Wx (.Dict [some a] [b] pos) (.dic1 ia ib) := by
  intro pv ow H S σ Q r h
  simp only [evE] at h
  refine G.d1 a b pos σ H Q fun p hn hs => ?_
  have g := Grow.new (ow := ow) (o := objAt p dict0) (t := .tm) hn
  refine RE.mono (ha pv _ _ S σ _ (r.grow g) (Post.seq2 h g.step)) ?_
  rintro x H1 ⟨x1, S1, ow1, -, k1, r1, p1, h1⟩
  obtain ⟨kd, S2, ow2, k2, kp2, r2, p2, h2⟩ := Post.esc2 r1 k1 p1 h1
  refine RE.mono (hb pv ow2 H1 S2 σ _ r2 (Post.seq2 h2 (g.step.trans k2))) ?_
  rintro y H2 ⟨y1, S3, ow3, -, k3, r3, p3, h3⟩
  obtain ⟨d, S4, ow4, k4, kp4, r4, p4, h4⟩ := Post.esc2 r3 k3 p3 h3
  obtain ⟨e1, t1⟩ := k2.tag (p := p) (by rw [upd_same]; simp) (if_pos rfl) (by simp)
  obtain ⟨e2, t2⟩ := k4.tag (p := p) (by rw [e1, upd_same]; simp) t1 (by simp)
  refine ⟨e2.trans (e1.trans upd_same), ?_⟩
  unfold oneR at h4
  split at h4
  · next ks =>
    split at h4
    · next k hk =>
      have p2' := Rep.keep k4.keep p2
      have hx : ∃ b, x = .ref b := by
        cases p2'
        exact ⟨_, rfl⟩
      obtain ⟨b, rfl⟩ := hx
      refine ⟨ow4, ks, k, d, b, rfl, hk, p2', p4, by rw [t2]; simp, fun o es hd hr => ?_⟩
      have kpD : Keep ow4 H2 ow4 (upd H2 p (objAt p o)) := fun q hq e => ⟨upd_ne (fun z => by rw [z, t2] at e; cases e), e⟩
      refine h4 (.ref p) ow4 _ ?_ (r4.upd t2) ⟨p, o, es, rfl, upd_same, hs, ⟨t2, hn⟩, hd, hr.keep kpD⟩
      intro q hq
      have ne : q ≠ p := fun z => hq (z ▸ hn)
      rw [upd_ne ne]
      exact ((g.step.trans k2).trans k4) q hq
    · exact False.elim h4
  · exact False.elim h4
theorem repL_strs : ∀ {xs : List D} {us : List V} {ys : List Str} {ow : Ow} {H : Hp}, RepL W ow H xs us → asStrs xs = some ys → us = ys.map V.str
  | [], us, ys, _, _, h, e => by cases h; simp [asStrs] at e; subst e; rfl
  | y :: ds, us, ys, _, _, h, e => by
    cases h with
    | cons g l =>
      cases y <;> simp [asStrs] at e
      obtain ⟨ms, e1, e2⟩ := e
      subst e2
      cases g
      rw [repL_strs l e1]; rfl
theorem idxOf_at {ys : List Str} {k : Str} (h : k ∈ ys) : ys[ys.idxOf k]? = some k := by
  have := List.idxOf_lt_length_of_mem h
  rw [List.getElem?_eq_getElem this]
  simp
theorem idxOf_before : ∀ {ys : List Str} {k : Str} {m : Nat} {z : Str}, m < ys.idxOf k → ys[m]? = some z → z ≠ k
  | [], k, m, z, h, e => by simp at e
  | y :: ys, k, m, z, h, e => by
    rw [List.idxOf_cons] at h
    cases hy : y == k with
    | true => rw [hy] at h; simp at h
    | false =>
      rw [hy] at h
      simp only [cond_false] at h
      cases m with
      | zero =>
        simp only [List.getElem?_cons_zero, Option.some.injEq] at e
        subst e
        simpa using hy
      | succ m => exact idxOf_before (ys := ys) (m := m) (by omega) (by simpa using e)
theorem snd_idx (G : CxG W M cl gl k X sc Wx) {o : Expr} {io : E} {apos cpos : Pos} (hat : attrB o = true) (hl : (apos.endLine == cpos.line) = true) (ns1 : noStar a = true) (ho : SndE W cl gl X Wx o io) (ha : SndE W cl gl X Wx a ia) : SndE W cl gl X Wx (.Call (.Attribute o "index" apos) [a] [] cpos) (.idx io ia) := by
  intro pv ow H S σ Q r h
  simp only [evE] at h
  refine RE.of (pe_bm PySem.F.plainAttrs_list PySem.F.slot_list_index PySem.F.type_list_index mt_index pe_RE (pa_cons pe_RE pa_nil (star_cons ns1)) (attr_base hat) (by rw [star_cons ns1]; rfl) hl (star_cons ns1) rfl) ?_
  refine RE.mono (ho pv ow H S σ _ r (Post.seq h)) ?_
  rintro x H1 ⟨z, S1, ow1, -, k1, r1, p1, h1⟩
  split at h1
  case isFalse => exact False.elim h1
  next hc =>
  have hc' : ∃ xs, cont S1 z = some (.lst xs) := by
    unfold isLstO at hc
    split at hc
    · next xs e => exact ⟨xs, e⟩
    · cases hc
  obtain ⟨xs0, ec⟩ := hc'
  obtain ⟨a0, us0, rfl, ha0, la0⟩ := reads r1 p1 ec
  refine ⟨.inl ⟨rfl, us0, SqL.of ha0⟩, ?_⟩
  refine RE.mono (ha pv ow1 H1 S1 σ _ r1 (Post.seq2 h1 k1)) ?_
  rintro y H2 ⟨y1, S2, ow2, -, k2, r2, p2, h2⟩
  unfold idxR at h2
  split at h2
  · next d e e1 e2 =>
    split at h2
    · next j ej =>
      unfold idxD at ej
      split at ej
      · next xs kk =>
        simp only [Option.bind_eq_some_iff] at ej
        obtain ⟨ys, e3, e4⟩ := ej
        split at e4
        · next hk =>
          cases e4
          obtain ⟨a1, us1, ea, ha1, la1⟩ := reads r2 (RRep.step k2 p1) e1
          cases ea
          rw [repL_strs la1 e3] at ha1
          cases (show Rep W ow2 H2 (.str kk) y from reads r2 p2 e2)
          refine ⟨a0, ys.map V.str, .str kk, ys.idxOf kk, .str kk, rfl, rfl, SqL.of ha1, rfl, by simp [flatV], by rw [List.getElem?_map, idxOf_at hk]; rfl, by simp [eqV], fun m z' hm hz => ?_, h2 _ ow2 H2 (k1.trans k2) r2 (.int _)⟩
          rw [List.getElem?_map] at hz
          cases hw : ys[m]? with
          | none => rw [hw] at hz; cases hz
          | some w =>
            rw [hw] at hz
            cases hz
            have := idxOf_before hm hw
            simp [eqV, this]
        · cases e4
      · cases ej
    · exact False.elim h2
  · exact False.elim h2
theorem snd_get (G : CxG W M cl gl k X sc Wx) {o : Expr} {io : E} {apos cpos : Pos} (hat : attrB o = true) (hl : (apos.endLine == cpos.line) = true) (ns1 : noStar a = true) (ns2 : noStar b = true) (ho : SndE W cl gl X Wx o io) (ha : SndE W cl gl X Wx a ia) (hb : SndE W cl gl X Wx b ib) : SndE W cl gl X Wx (.Call (.Attribute o "get" apos) [a, b] [] cpos) (.get io ia ib) := by
  intro pv ow H S σ Q r h pins s I
  simp only [evE] at h
  have tr : backTo cpos (starEach [a, b] X.env) = [(false, eval a X.env), (false, eval b X.env)] := by
    rw [star_cons ns1, star_cons ns2]
    rfl
  refine wpAny_Call_method (attr_base hat) (by rw [tr]; rfl) hl PySem.F.plainAttrs_dict PySem.F.slot_dict_get PySem.F.type_dict_get (thn (ho pv ow H S σ _ r (Post.seq h) pins s I) fun u s1 hh => ?_)
  obtain ⟨x, H1, I1, rx, z, S1, ow1, -, k1, r1, p1, h1⟩ := hh
  split at h1
  case isFalse => exact False.elim h1
  next hc =>
  have hc' : ∃ kvs, cont S1 z = some (.dic kvs) := by
    unfold isDicO at hc
    split at hc
    · next kvs e => exact ⟨kvs, e⟩
    · cases hc
  obtain ⟨kvs0, ec⟩ := hc'
  obtain ⟨a0, rfl, t1, t2⟩ := G.dgo.1 pins s1 σ H1 ow1 kvs0 x I1 (reads r1 p1 ec)
  obtain rfl : u = Value.ref a0 := rx
  refine ⟨t1, t2, ?_⟩
  rw [tr]
  refine Calls.callWith_builtin rfl (Calls.evalArgs_plain (Calls.spliced_cons (thn (ha pv ow1 H1 S1 σ _ r1 (Post.seq2 h1 k1) pins s1 I1) fun iv s2 hh => ?_)))
  obtain ⟨y, H2, I2, ry, x2, S2, ow2, -, k2, r2, p2, h2⟩ := hh
  obtain ⟨kd, S3, ow3, k3, kp3, r3, p3, h3⟩ := Post.esc2 r2 k2 p2 h2
  refine Calls.spliced_cons (thn (hb pv ow3 H2 S3 σ _ r3 (Post.seq2 h3 (k1.trans k3)) pins s2 I2) fun fv s3 hh => Calls.spliced_nil ?_)
  obtain ⟨w, H3, I3, rw', x4, S4, ow4, -, k4, r4, p4, h4⟩ := hh
  obtain ⟨d, S5, ow5, k5, kp5, r5, p5, h5⟩ := Post.esc2 r4 k4 p4 h4
  unfold getR at h5
  split at h5
  · next kvs ks e5 =>
    split at h5
    · next k hk =>
      have p3' := Rep.keep k5.keep p3
      have hy : ∃ b, y = .ref b := by
        cases p3'
        exact ⟨_, rfl⟩
      obtain ⟨b0, rfl⟩ := hy
      obtain rfl : iv = Value.ref b0 := ry
      exact G.dgo.2 ow5 H3 ks kvs k a0 b0 d w Q hk (reads r5 (RRep.step (k3.trans k5) p1) e5) p3' p5 (fun v hv => h5 v ow5 H3 (k1.trans (k3.trans k5)) r5 hv) pins s3 σ fv I3 rw'
    · exact False.elim h5
  · exact False.elim h5
end
end Ev

/-! EvJ1: an instance that a slot holds: its fields, a list of its own, its methods. -/
namespace Ev
open PySem PySem.Spec PyProof.Rows L2

section
variable {W : Wd} {pv : Nat → Option V} {H0 : Hp} {ow ow1 : Ow} {H H1 : Hp} {S S1 : Fr} {σ : L2.St} {Wx : WX}
theorem getO_cell {i : Nat} {o : Ob} (h : getO S i = some o) : (getC S i = some (.own o) ∨ getC S i = some (.par o)) ∧ i < S.length := by
  unfold getO at h
  split at h
  · next o' e => cases h; exact ⟨.inl e, getC_lt e⟩
  · next o' e => cases h; exact ⟨.inr e, getC_lt e⟩
  · cases h
/-- a slot's own object is changed -/
theorem Rel.putO (r : Rel W pv ow H S σ) {i : Nat} {o o' : Ob} {v : V} (hg : getO S i = some o) (hv : σ[i]? = some (some v)) (kp : Keep ow H ow1 H1) (ks : ∀ j, j ≠ i → ∀ p, H p ≠ none → ow p = .sl j → H1 p = H p ∧ ow1 p = .sl j) (h : ObRep W ow1 H1 (fun p => ow1 p = .sl i) o' v) :
    Rel W pv ow1 H1 (Ev.putO S i o') σ := by
  obtain ⟨hc, hlt⟩ := getO_cell hg
  have hl : (Ev.putO S i o').length = S.length := by unfold Ev.putO; split <;> simp [setC]
  have hself : getC (Ev.putO S i o') i = some (.own o') ∨ getC (Ev.putO S i o') i = some (.par o') := by
    unfold Ev.putO
    split
    · exact .inr (getC_set_self hlt)
    · exact .inl (getC_set_self hlt)
  have hpar : ∀ o'', getC (Ev.putO S i o') i = some (.par o'') → ∃ o3, getC S i = some (.par o3) := by
    intro o'' z
    unfold Ev.putO at z
    split at z
    · next o3 e => exact ⟨o3, e⟩
    · rw [getC_set_self hlt] at z; cases z
  have hpar2 : ∀ o'', getC S i = some (.par o'') → getC (Ev.putO S i o') i = some (.par o') := by
    intro o'' z
    unfold Ev.putO
    rw [z]
    exact getC_set_self hlt
  refine ⟨hl.trans r.len, fun j c hc' => ?_, fun j u hu => ?_, fun j o'' hc' => ?_⟩
  · by_cases hj : i = j
    · subst hj
      refine ⟨v, hv, ?_⟩
      rcases hself with e | e
      · rw [e] at hc'; cases hc'; exact h
      · rw [e] at hc'; cases hc'; exact h
    · rw [getC_putO_ne hj] at hc'
      obtain ⟨u, hu, q⟩ := r.cell j c hc'
      refine ⟨u, hu, ?_⟩
      cases c with
      | val d => exact Rep.keep kp q
      | own o => exact ObRep.keep kp (ks j (Ne.symm hj)) q
      | par o => exact ObRep.keep kp (ks j (Ne.symm hj)) q
      | exc _ _ => exact q
  · obtain ⟨o'', h1, h2⟩ := r.par j u hu
    by_cases hj : i = j
    · subst hj; exact ⟨o', hpar2 _ h1, h2⟩
    · exact ⟨o'', by rw [getC_putO_ne hj]; exact h1, h2⟩
  · by_cases hj : i = j
    · subst hj
      obtain ⟨o3, e⟩ := hpar _ hc'
      exact r.unpar i o3 e
    · rw [getC_putO_ne hj] at hc'
      exact r.unpar j o'' hc'
/-- .. at one address of it -/
theorem upd_sl {i : Nat} {a : Addr} {o : HO} (t : ow a = .sl i) (hn : H a ≠ none) : Keep ow H ow (L2.upd H a o) ∧ (∀ j, j ≠ i → ∀ p, H p ≠ none → ow p = .sl j → L2.upd H a o p = H p ∧ ow p = .sl j) ∧ Step ow H ow (L2.upd H a o) := by
  refine ⟨fun p _ e => ⟨upd_ne (fun z => by rw [z, t] at e; cases e), e⟩, fun j hj p _ e => ⟨upd_ne (fun z => by rw [z, t] at e; cases e; exact hj rfl), e⟩, fun p hp => ⟨?_, fun e => ⟨upd_ne (fun z => e i (z ▸ t)), rfl⟩, fun j e => .inl e⟩⟩
  by_cases z : p = a
  · rw [z, upd_same]; simp
  · rw [upd_ne z]; exact hp
end

section
variable {W : Wd}
/-! ### fields -/
theorem repV_put {ow : Ow} {H : Hp} {t : Addr → Prop} {f : Str} {d : D} {v : V} (hd : Rep W ow H d v) : ∀ {fs : List (Str × FV)} {gs : List (Str × V)}, RepV W ow H t fs gs → RepV W ow H t (setFld fs f d) (putF f v gs)
  | _, _, .nil => .val hd .nil
  | _, _, .val (f := g) q l => by
    unfold setFld putF
    by_cases hg : g = f
    · rw [if_pos hg, if_pos hg]; exact .val hd l
    · rw [if_neg hg, if_neg hg]; exact .val q (repV_put hd l)
  | _, _, .lst (f := g) h1 h2 h3 l => by
    unfold setFld putF
    by_cases hg : g = f
    · rw [if_pos hg, if_pos hg]; exact .val hd l
    · rw [if_neg hg, if_neg hg]; exact .lst h1 h2 h3 (repV_put hd l)
theorem repV_len {ow : Ow} {H : Hp} {t : Addr → Prop} : ∀ {fs : List (Str × FV)} {gs : List (Str × V)}, RepV W ow H t fs gs → fs.length = gs.length
  | _, _, .nil => rfl
  | _, _, .val _ l => by simp [repV_len l]
  | _, _, .lst _ _ _ l => by simp [repV_len l]
theorem repV_upd {ow : Ow} {H : Hp} {i : Nat} {p : Addr} {o : HO} (hp : ow p = .sl i) (hno : ∀ us, H p ≠ some (.lst us)) : ∀ {fs : List (Str × FV)} {gs : List (Str × V)}, RepV W ow H (fun q => ow q = .sl i) fs gs → RepV W ow (L2.upd H p o) (fun q => ow q = .sl i) fs gs
  | _, _, .nil => .nil
  | _, _, .val q l => .val (Rep.keep (fun r _ e => ⟨upd_ne (fun z => by rw [z, hp] at e; cases e), e⟩) q) (repV_upd hp hno l)
  | _, _, .lst (a := a) (us := us) h1 h2 h3 l => .lst (by rw [upd_ne (fun z => hno us (by rw [← z]; exact h1))]; exact h1) h2 (RepL.keep (fun r _ e => ⟨upd_ne (fun z => by rw [z, hp] at e; cases e), e⟩) h3) (repV_upd hp hno l)
theorem insF_ok {S : Fr} {c : Str} {i : Nat} {fs : List (Str × FV)} (h : insF S c i = some fs) : getO S i = some (.ins c fs) := by
  unfold insF at h
  split at h
  · next c' fs' e =>
    split at h
    · next hc => cases h; subst hc; exact e
    · cases h
  · cases h
theorem repV_lookup {ow : Ow} {H : Hp} {t : Addr → Prop} {f : Str} {d : D} : ∀ {fs : List (Str × FV)} {gs : List (Str × V)}, RepV W ow H t fs gs → fs.lookup f = some (.v d) → ∃ u, gs.lookup f = some u ∧ Rep W ow H d u
  | _, _, .nil, e => by cases e
  | _, _, .val (f := g) q l, e => by
    rw [List.lookup_cons] at e ⊢
    split at e
    · cases e; exact ⟨_, rfl, q⟩
    · exact repV_lookup l e
  | _, _, .lst (f := g) h1 h2 h3 l, e => by
    rw [List.lookup_cons] at e ⊢
    split at e
    · cases e
    · exact repV_lookup l e
theorem repV_none {ow : Ow} {H : Hp} {t : Addr → Prop} {f : Str} : ∀ {fs : List (Str × FV)} {gs : List (Str × V)}, RepV W ow H t fs gs → fs.lookup f = none → gs.lookup f = none
  | _, _, .nil, e => rfl
  | _, _, .val (f := g) q l, e => by
    rw [List.lookup_cons] at e ⊢
    split at e
    · cases e
    · exact repV_none l e
  | _, _, .lst (f := g) h1 h2 h3 l, e => by
    rw [List.lookup_cons] at e ⊢
    split at e
    · cases e
    · exact repV_none l e
theorem repV_noL {ow ow1 : Ow} {H H1 : Hp} {t t1 : Addr → Prop} (kp : Keep ow H ow1 H1) : ∀ {fs : List (Str × FV)} {gs : List (Str × V)}, RepV W ow H t fs gs → noL fs = true → RepV W ow1 H1 t1 fs gs
  | _, _, .nil, _ => .nil
  | _, _, .val q l, e => .val (q.keep kp) (repV_noL kp l e)
  | _, _, .lst _ _ _ _, e => by cases e
/-- the list at f -/
theorem repV_lst {ow : Ow} {H : Hp} {t : Addr → Prop} {f : Str} {xs : List D} : ∀ {fs : List (Str × FV)} {gs : List (Str × V)}, RepV W ow H t fs gs → lstF f fs = some xs →
    ∃ a us, gs.lookup f = some (.ref a) ∧ H a = some (.lst us) ∧ t a ∧ RepL W ow H xs us ∧ ∀ {ow1 : Ow} {H1 : Hp} {t1 : Addr → Prop} {ys : List D} {ws : List V}, Keep ow H ow1 H1 → H1 a = some (.lst ws) → t1 a → RepL W ow1 H1 ys ws → RepV W ow1 H1 t1 (setL f ys fs) gs
  | _, _, .nil, e => by cases e
  | _, _, .val (f := g) q l, e => by
    unfold lstF at e
    split at e
    · cases e
    · next hg =>
      obtain ⟨a, us, h1, h2, h3, h4, h5⟩ := repV_lst l e
      refine ⟨a, us, ?_, h2, h3, h4, fun kp k1 k2 k3 => ?_⟩
      · rw [List.lookup_cons, show (f == g) = false from by simpa using fun z => hg z.symm]; exact h1
      · unfold setL; exact .val (q.keep kp) (h5 kp k1 k2 k3)
  | _, _, .lst (f := g) (a := a) (us := us) h1 h2 h3 l, e => by
    unfold lstF at e
    split at e
    · next hg =>
      subst hg
      split at e
      · next hn =>
        cases e
        refine ⟨a, us, by rw [List.lookup_cons, beq_self_eq_true], h1, h2, h3, fun kp k1 k2 k3 => ?_⟩
        unfold setL; exact .lst k1 k2 k3 (repV_noL kp l hn)
      · cases e
    · cases e
/-- a new list goes to f -/
theorem repV_putL {ow : Ow} {H : Hp} {t : Addr → Prop} {f : Str} {ys : List D} {a : Addr} {us : List V} (h1 : H a = some (.lst us)) (h2 : t a) (h3 : RepL W ow H ys us) : ∀ {fs : List (Str × FV)} {gs : List (Str × V)}, RepV W ow H t fs gs → RepV W ow H t (putL f ys fs) (putF f (.ref a) gs)
  | _, _, .nil => .lst h1 h2 h3 .nil
  | _, _, .val (f := g) q l => by
    unfold putL putF
    by_cases hg : g = f
    · rw [if_pos hg, if_pos hg]; subst hg; exact .lst h1 h2 h3 l
    · rw [if_neg hg, if_neg hg]; exact .val q (repV_putL h1 h2 h3 l)
  | _, _, .lst (f := g) k1 k2 k3 l => by
    unfold putL putF
    by_cases hg : g = f
    · rw [if_pos hg, if_pos hg]; subst hg; exact .lst h1 h2 h3 l
    · rw [if_neg hg, if_neg hg]; exact .lst k1 k2 k3 (repV_putL h1 h2 h3 l)
end

section
variable {W : Wd} {M : MC} {cl : Calls} {gl : Str → Option D} {k : Nat} {X : Cx} {sc : Scope} {Wx : WX} {a b : Expr} {ia ib : E} {pos p1 p2 p3 p4 : Pos} {c f x : Str} {i : Nat}
theorem snd_ofl (G : CxG W M cl gl k X sc Wx) (hq : (c, f) ∈ M.flds) (hN : X.N[i]? = some x) (hv : Vis X.env.scope x) (hd : (x == ("__debug__" : Str)) = false) (hcd : (x == ("__classdict__" : Str)) = false) :
    SndE W cl gl X Wx (.Attribute (.Name x p1) f pos) (.ofl c i f) := by
  intro pv ow H S σ Q r h
  simp only [evE] at h
  obtain ⟨hm, hn⟩ := G.fld _ hq
  split at h
  · next fs e =>
    obtain ⟨v, hv', ad, dx, gs, rfl, _, e1, t1, _, _, rf⟩ := r.obj (insF_ok e)
    split at h
    · next d e2 =>
      obtain ⟨u, e3, rep⟩ := repV_lookup rf e2
      exact RE.of (pe_fld (pe_var hN hv hd hcd) (attr_base rfl)) ⟨_, hv', ad, _, dx, gs, u, rfl, e1, by rw [G.K]; exact (G.cls _ hm).2.cl, by rw [G.K]; exact hn, e3, h u ow H Step.refl r rep⟩
    · exact False.elim h
  · exact False.elim h
theorem snd_olc (G : CxG W M cl gl k X sc Wx) (hg : Gl X "list") (hq : (c, f) ∈ M.flds) (hN : X.N[i]? = some x) (hv : Vis X.env.scope x) (hd : (x == ("__debug__" : Str)) = false) (hcd : (x == ("__classdict__" : Str)) = false) :
    SndE W cl gl X Wx (.Call (.Name "list" p2) [.Attribute (.Name x p1) f p3] [] pos) (.olc c i f) := by
  intro pv ow H S σ Q r h
  simp only [evE] at h
  obtain ⟨hm, hn⟩ := G.fld _ hq
  have hmg : X.mg "list" = none := G.free _ (by decide)
  split at h
  · next fs e =>
    obtain ⟨v, hv', ad, dx, gs, rfl, _, e1, t1, _, _, rf⟩ := r.obj (insF_ok e)
    split at h
    · next xs e2 =>
      obtain ⟨la, us, e3, e4, _, e6, _⟩ := repV_lst rf e2
      refine RE.of (pe_callTy (x := "list") (T := "list") call_best hg hmg (by decide +kernel) (pa_cons (pe_fld (pe_var hN hv hd hcd) (attr_base rfl)) pa_nil (star_cons rfl)) (he := star_cons rfl) (hpl := star_any rfl)) ?_
      refine ⟨_, hv', ad, _, dx, gs, .ref la, rfl, e1, by rw [G.K]; exact (G.cls _ hm).2.cl, by rw [G.K]; exact hn, e3, ?_⟩
      exact biD_ok (b := .list) (ds := [.lst xs]) (r := .tmp (.lst xs)) G.K G.calm (by have := G.room.un; omega) G.dl rfl (.cons ⟨la, us, rfl, e4, e6⟩ .nil) (gives_of Step.refl r (by simp) h)
    · exact False.elim h
  · exact False.elim h
theorem snd_otr (G : CxG W M cl gl k X sc Wx) (hq : (c, f) ∈ M.flds) (hN : X.N[i]? = some x) (hv : Vis X.env.scope x) (hd : (x == ("__debug__" : Str)) = false) (hcd : (x == ("__classdict__" : Str)) = false) :
    SndT W cl gl X Wx (.Attribute (.Name x p1) f pos) (.otr c i f) := by
  intro pv ow H S σ Q r h
  simp only [evT] at h
  obtain ⟨hm, hn⟩ := G.fld _ hq
  split at h
  · next fs e =>
    obtain ⟨v, hv', ad, dx, gs, rfl, _, e1, t1, _, _, rf⟩ := r.obj (insF_ok e)
    split at h
    · next xs e2 =>
      obtain ⟨la, us, e3, e4, _, e6, _⟩ := repV_lst rf e2
      have q : RE X (.Attribute (.Name x p1) f pos) σ H (fun y H1 => y = .ref la ∧ H1 = H) := RE.of (pe_fld (pe_var hN hv hd hcd) (attr_base rfl)) ⟨_, hv', ad, _, dx, gs, .ref la, rfl, e1, by rw [G.K]; exact (G.cls _ hm).2.cl, by rw [G.K]; exact hn, e3, rfl, rfl⟩
      intro pins s I
      refine isTrue_plain (thn (q pins s I) ?_) (isTrue_of (by rfl) _)
      rintro u s1 ⟨y, H1, I1, rx, rfl, rfl⟩
      exact tru_best pins s1 σ H1 _ u Q I1 rx (truD_ok (d := .lst xs) G.K G.dt rfl ⟨la, us, rfl, e4, e6⟩ (h _ ow H1 Step.refl r rfl))
    · exact False.elim h
  · exact False.elim h
theorem snd_oprop (G : CxG W M cl gl k X sc Wx) (hq : (c, f) ∈ M.props) (hN : X.N[i]? = some x) (hv : Vis X.env.scope x) (hd : (x == ("__debug__" : Str)) = false) (hcd : (x == ("__classdict__" : Str)) = false) :
    SndE W cl gl X Wx (.Attribute (.Name x p1) f pos) (.oprop c f i) := by
  intro pv ow H S σ Q r h
  simp only [evE] at h
  obtain ⟨hm, p, g, hp, fd, ps, kp, hbd, hF⟩ := G.prop _ hq
  split at h
  · next fs e =>
    obtain ⟨v, hv', ad, dx, gs, rfl, _, e1, t1, _, _, rf⟩ := r.obj (insF_ok e)
    have h3 := noExc_post (Wx' := fun _ _ _ _ => False) h
    have sp := call_sp r (.cons (a := .r i) hv' .nil) h3
    exact RE.of (pe_prop (X := X) (C := W.cad c) (pe_var hN hv hd hcd) (by rw [G.K]; exact (G.cls _ hm).2.cl) (by rw [G.K]; exact hp) hF (G.room.mono (by omega)) hbd .nil passF' (attr_base rfl)) ⟨_, hv', ad, dx, gs, rfl, e1, sp⟩
  · exact False.elim h
theorem argVs_map {ow : Ow} {H : Hp} {σ : L2.St} : ∀ {ds : List D} {vs : List V}, RepL W ow H ds vs → ArgVs W ow H σ (ds.map Arg.v) vs
  | _, _, .nil => .nil
  | _, _, .cons h l => .cons (a := .v _) h (argVs_map l)
theorem argVs_app {ow : Ow} {H : Hp} {σ : L2.St} {bs : List Arg} {us : List V} (g : ArgVs W ow H σ bs us) : ∀ {as : List Arg} {vs : List V}, ArgVs W ow H σ as vs → ArgVs W ow H σ (as ++ bs) (vs ++ us)
  | _, _, .nil => g
  | _, _, .cons h l => .cons h (argVs_app g l)
theorem meth_eval {o : Expr} {name : Str} {apos pos : Pos} {args : List Expr} {kws : List Keyword} {env : Env} (hb : attributeBase o name env (eval o env) = eval o env) (hform : methodCallForm (args.length + kws.length) (backTo pos (starEach args env)) (backToKw pos (keywordEach kws env)) = true) (hline : (apos.endLine == pos.line) = true) :
    eval (.Call (.Attribute o name apos) args kws pos) env = (do
      let ov ← eval o env
      standAt apos.atName
      let (f, first) ← holding [ov] (getMethod ov name (do return (← importBound o env).getD true))
      callWith pos f first (backTo pos (starEach args env)) (backToKw pos (keywordEach kws env))) := by
  rw [arm_eval_Call, hb]
  unfold methodCall
  rw [hform]
  have hpos : methodCallPos true o env apos pos = pure pos := by unfold methodCallPos; simp [hline]
  simp only [hpos, calleeOf, if_true, pure_bind]
theorem form_of {pos : Pos} {args : List Expr} {env : Env} (hs : args.all noStar = true) (hl : args.length < 20) : methodCallForm (args.length + ([] : List Keyword).length) (backTo pos (starEach args env)) (backToKw pos (keywordEach [] env)) = true := by
  have h1 := star_any (pos := pos) (env := env) hs
  unfold methodCallForm
  have h2 : (backTo pos (starEach args env)).all (fun x => !x.1) = true := by
    rw [List.all_eq_true]
    intro x hx
    have := List.any_eq_false.mp h1 x hx
    simpa using this
  rw [h2]
  show (true && (true && decide (args.length + 0 + 0 < 30))) = true
  simp; omega
/-- a method without arguments -/
theorem snd_omet0 (G : CxG W M cl gl k X sc Wx) (hline : (p2.endLine == pos.line) = true) (hq : (c, f) ∈ M.mets) (hk : M.kwd.lookup (c ++ "." ++ f) = none) (hN : X.N[i]? = some x) (hv : Vis X.env.scope x) (hd : (x == ("__debug__" : Str)) = false) (hcd : (x == ("__classdict__" : Str)) = false) :
    SndE W cl gl X Wx (.Call (.Attribute (.Name x p1) f p2) [] [] pos) (.omet c f i .nil .pos) := by
  intro pv ow H S σ Q r h
  simp only [evE, evEs, Out.bind, List.map_nil, MK.ds, List.append_nil] at h
  obtain ⟨hm, g, hme, fd, ps, kp, hb, hF⟩ := G.met _ hq
  rw [hk] at hb
  split at h
  · next fs e =>
    split at h
    · next hn =>
      obtain ⟨v, hv', ad, dx, gs, rfl, _, e1, t1, _, _, rf⟩ := r.obj (insF_ok e)
      intro pins s I
      refine PySem.W.methodCall_KW (thn ((pe_var (X := X) hN hv hd hcd).run pins s σ H (fun x H1 => x = .ref ad ∧ H1 = H) I ⟨_, hv', rfl, rfl⟩) fun u s1 ⟨y, H1, I1, rx, e2, e3⟩ => ?_) (meth_eval (attr_base rfl) (by rfl) hline)
      subst e2 e3
      obtain rfl : u = Value.ref ad := rx
      refine getmeth_ok I1 e1 (by rw [G.K]; exact (G.cls _ hm).2.cl) (by rw [G.K]; exact hme) (repV_none rf (by simpa using hn)) ?_
      exact PySem.W.callWith_K0 (first := [.ref ad]) I1.kIn (by rw [G.K]; exact hme.kp) (run_fnSD (us := [.ref ad]) (vs := [.ref ad]) (dvs := []) (ds := []) (E := fun σ cls d H' => Wx cls d σ H') hF (G.room.mono (by omega)) hb .nil (passAt G.tk σ) I1 (.cons rfl .nil) (call_sp r (.cons (a := .r i) hv' .nil) h))
    · exact False.elim h
  · exact False.elim h
/-- .. with arguments -/
theorem snd_omet1 (G : CxG W M cl gl k X sc Wx) (hline : (p2.endLine == pos.line) = true) {e0 : Expr} {es : List Expr} {ies : Es} {mk : MK} (hmk : (mk = .pos ∧ M.kwd.lookup (c ++ "." ++ f) = none) ∨ (mk = .dfl ∧ ∃ y, M.kwd.lookup (c ++ "." ++ f) = some y)) (hq : (c, f) ∈ M.mets) (hN : X.N[i]? = some x) (hv : Vis X.env.scope x) (hd : (x == ("__debug__" : Str)) = false) (hcd : (x == ("__classdict__" : Str)) = false)
    (hs : (e0 :: es).all noStar = true) (hlen : (e0 :: es).length < 20) (ha : SndEs W cl gl X Wx (e0 :: es) ies) : SndE W cl gl X Wx (.Call (.Attribute (.Name x p1) f p2) (e0 :: es) [] pos) (.omet c f i ies mk) := by
  intro pv ow H S σ Q r h
  simp only [evE] at h
  obtain ⟨hm, g, hme, fd, ps, kp, hb, hF⟩ := G.met _ hq
  split at h
  · next fs e =>
    split at h
    · next hn =>
      obtain ⟨v, hv', ad, dx, gs, rfl, _, e1, t1, _, _, rf⟩ := r.obj (insF_ok e)
      intro pins s I
      refine PySem.W.methodCall_KW (thn ((pe_var (X := X) hN hv hd hcd).run pins s σ H (fun x H1 => x = .ref ad ∧ H1 = H) I ⟨_, hv', rfl, rfl⟩) fun u s1 ⟨y, H1, I1, rx, e2, e3⟩ => ?_) (meth_eval (attr_base rfl) (form_of hs hlen) hline)
      subst e2 e3
      obtain rfl : u = Value.ref ad := rx
      refine getmeth_ok I1 e1 (by rw [G.K]; exact (G.cls _ hm).2.cl) (by rw [G.K]; exact hme) (repV_none rf (by simpa using hn)) ?_
      simp only [List.all_cons, Bool.and_eq_true] at hs
      refine PySem.W.callWith_K (first := [.ref ad]) (h₀ := X.base) I1.ok.mod.kin (by rw [G.K]; exact hme.kp) (thn (ha pv ow H1 S σ _ r (Post.seq h) pos pins s1 I1) ?_) (star_cons hs.1) (star_any hs.2)
      rintro us s2 ⟨vs, H2, I2, rv, dl, S2, ow2, -, k2, r2, p2, h2⟩
      refine ⟨I2.kIn, ?_⟩
      rcases hmk with ⟨rfl, hk⟩ | ⟨rfl, y, hk⟩
      · rw [hk] at hb
        simp only [MK.ds, List.append_nil] at h2
        exact run_fnSD (us := .ref ad :: us) (vs := .ref ad :: vs) (dvs := []) (ds := []) (E := fun σ cls d H' => Wx cls d σ H') hF (G.room.mono (by omega)) hb .nil (passAt G.tk σ) I2 (.cons rfl rv) (by rw [List.append_nil]; exact call_sp r2 (.cons (a := .r i) hv' (argVs_map p2)) (h2.reE k2))
      · rw [hk] at hb
        obtain ⟨⟨ds, hds, hb⟩, _⟩ := hb
        simp only [MK.ds] at h2
        exact run_fnSD (us := .ref ad :: us) (vs := .ref ad :: vs) (dvs := [.non]) (ds := ds) (E := fun σ cls d H' => Wx cls d σ H') hF (G.room.mono (by omega)) hb hds (passAt G.tk σ) I2 (.cons rfl rv) (call_sp r2 (.cons (a := .r i) hv' (argVs_app (.cons (a := .v .non) .non .nil) (argVs_map p2))) (h2.reE k2))
    · exact False.elim h
  · exact False.elim h
/-- the callee runs, with a keyword -/
theorem run_fnNS {CX : CXT} {kk n : Nat} {g : Addr} {fd : FuncData} {ps ks : List Str} {sp : Sp} {E : L2.St → XK} {gg : List Value → List Value → List Value} {gV : List V → List V → List V} {pins : List (Addr × Obj)} {σ : L2.St} {H : Hp} {s : Shared} {Q : VK} {us ws : List Value} {vs zs : List V} (F : FnOk X.prog X.w X.K X.mg X.base CX kk g fd ps sp) (hr : Room kk X.A) (hb : KBn X.K fd ps n ks gg gV) (hx : PassesAt CX X σ (E σ))
    (I : Inv X pins σ H s) (r : Vals vs us) (rz : Vals zs ws) (l1 : vs.length = n) (l2 : zs.length = ks.length) (h : sp (gV vs zs) H Q (E σ)) : wpAny (model X.prog X.w) X.A (call (.ref g) us (ks.zip ws)) (EP X pins σ Q) X.xe s := by
  have r2 := hb.rel r rz
  refine wpAny_call (codeAny_mono (F.run X.A X.stack s H ⟨us, ks.zip ws⟩ (gg us ws) (gV vs zs) Q (E σ) hr I.env0 (hb.to s us ws I.kIn (r.length.symm.trans l1) (rz.length.symm.trans l2)) r2 h) fun r s' hq => ?_)
  cases r with
  | error e => exact hx pins H s e s' I hq
  | ok fl =>
    cases fl with
    | ret u => exact I.after hq
    | next => exact False.elim hq
    | brk => exact False.elim hq
    | cont => exact False.elim hq
theorem formK {pos : Pos} {a b : Expr} {y : Str} {kp : Pos} {env : Env} (hs : noStar a = true) : methodCallForm ([a].length + [(⟨some y, b, kp⟩ : Keyword)].length) (backTo pos (starEach [a] env)) (backToKw pos (keywordEach [⟨some y, b, kp⟩] env)) = true := by
  rw [star_cons hs]
  rfl
theorem pa_one {σ : L2.St} {H : Hp} {Qa : VK} (hs : noStar a = true) (h : RE X a σ H Qa) : RA X [a] σ H (fun vs H' => ∃ z, vs = [z] ∧ Qa z H') := RA.of (pa_cons pe_RE pa_nil (star_cons hs)) (RE.mono h fun z H' q => ⟨z, rfl, q⟩)
theorem pk_one {σ : L2.St} {H : Hp} {Qa : VK} {y : Option Str} {kp : Pos} {pins : List (Addr × Obj)} {s : Shared} (h : RE X a σ H Qa) (pos : Pos) (I : Inv X pins σ H s) : wpAny (model X.prog X.w) X.A (evalAll ((backToKw pos (keywordEach [⟨y, a, kp⟩] X.env)).map (·.2))) (AP X pins σ (fun vs H' => ∃ z, vs = [z] ∧ Qa z H')) X.xe s :=
  (pk_cons (X := X) pe_RE pk_nil).run pos pins s σ H _ I (RE.mono h fun z H' q => ⟨z, rfl, q⟩)
/-- x.f(a, y=b) -/
theorem snd_ometK (G : CxG W M cl gl k X sc Wx) (hline : (p2.endLine == pos.line) = true) {y : Str} {kp : Pos} (hk : M.kwd.lookup (c ++ "." ++ f) = some y) (hq : (c, f) ∈ M.mets) (hN : X.N[i]? = some x) (hv : Vis X.env.scope x) (hd : (x == ("__debug__" : Str)) = false) (hcd : (x == ("__classdict__" : Str)) = false)
    (hs : noStar a = true) (ha : SndE W cl gl X Wx a ia) (hb' : SndE W cl gl X Wx b ib) : SndE W cl gl X Wx (.Call (.Attribute (.Name x p1) f p2) [a] [⟨some y, b, kp⟩] pos) (.omet c f i (.cons ia (.cons ib .nil)) (.kw y)) := by
  intro pv ow H S σ Q r h
  simp only [evE, evEs] at h
  obtain ⟨hm, g, hme, fd, ps, kp', hb, hF⟩ := G.met _ hq
  rw [hk] at hb
  obtain ⟨_, hb⟩ := hb
  split at h
  · next fs e =>
    split at h
    · next hn =>
      obtain ⟨v, hv', ad, dx, gs, rfl, _, e1, t1, _, _, rf⟩ := r.obj (insF_ok e)
      simp only [Out.bind_assoc] at h
      intro pins s I
      refine PySem.W.methodCall_KW (thn ((pe_var (X := X) hN hv hd hcd).run pins s σ H (fun x H1 => x = .ref ad ∧ H1 = H) I ⟨_, hv', rfl, rfl⟩) fun u s1 ⟨y, H1, I1, rx, e2, e3⟩ => ?_) (meth_eval (attr_base rfl) (formK hs) hline)
      subst e2 e3
      obtain rfl : u = Value.ref ad := rx
      refine getmeth_ok I1 e1 (by rw [G.K]; exact (G.cls _ hm).2.cl) (by rw [G.K]; exact hme) (repV_none rf (by simpa using hn)) ?_
      refine PySem.W.callWith_KW (first := [.ref ad]) (h₀ := X.base) I1.ok.mod.kin (by rw [G.K]; exact hme.kp) (by rfl) (thn (pa_one hs (ha pv ow H1 S σ _ r (Post.seq h)) pos pins s1 I1) ?_) (by rw [star_any (by simp [hs])]; rfl) (star_cons hs)
      rintro us s2 ⟨vs, H2, I2, rv, z, rfl, w1, S1, ow1, -, k1, r1, q1, h1⟩
      obtain ⟨d1, S2, ow2, k2, r2, q2, h2⟩ := Post.esc r1 k1 q1 h1
      refine thn (pk_one (hb' pv ow2 H2 S2 σ _ r2 (Post.seq (h2.reE k2))) pos I2) ?_
      rintro ws s3 ⟨zs, H3, I3, rz, z3, rfl, w3, S3, ow3, -, k3, r3, q3, h3⟩
      obtain ⟨d4, S4, ow4, k4, kp4, r4, q4, h4⟩ := Post.esc2 r3 k3 q3 h3
      refine ⟨I3.kIn, ?_⟩
      simp only [Out.bind, List.map_cons, List.map_nil, MK.ds, List.append_nil] at h4
      have sp := call_sp r4 (.cons (a := .r i) hv' (.cons (a := .v d1) (Rep.keep k4.keep q2) (.cons (a := .v d4) q4 .nil))) (h4.reE k4)
      have hl := hF.len _ _ _ _ sp
      exact run_fnNS (ks := [y]) (us := .ref ad :: us) (vs := [.ref ad, z]) (zs := [z3]) (E := fun σ cls d H' => Wx cls d σ H') hF (G.room.mono (by omega)) hb (passAt G.tk σ) I3 (.cons rfl rv) rz (by simp at hl ⊢; omega) rfl sp
    · exact False.elim h
  · exact False.elim h
/-- len of an own instance -/
theorem special_K {K : PySem.W.Frag} {M : Model} {A : Around} {E : Value → Shared → Prop} {s : Shared} {x C g : Addr} {ox : Obj} {od : Option Obj} {name : Str} {args : List Value} {Q : Option Value → Shared → Prop} (X : K.In s.heap) (I : PySem.W.InstAt s.heap x ox C od) (hs : PySem.W.findIn K (.ref C) name = some (some (.ref g))) (hf : PySem.W.isFn K (.ref g) = true)
    (h : wpAny M A (call (.ref g) (.ref x :: args)) (fun v => Q (some v)) E s) : wpAny M A (callSpecial? (.ref x) name args) Q E s := by
  unfold callSpecial?
  refine wpAny_bind (wpAny_bind (I.type.here ((PySem.W.looks_findIn X hs).here ?_)))
  refine wpAny_holding (wpAny_bind ((PySem.W.bind_fn X _ (beq_iff_eq.mp hf)).here ?_))
  exact wpAny_bind (wpAny_mono h (fun v s' h' => wpAny_pure h') fun _ _ h' => h')
theorem len_own {C g ad dx : Addr} {gs : List (Str × V)} {fd : FuncData} {ps : List Str} {sp : Sp} {pins : List (Addr × Obj)} {σ : L2.St} {H : Hp} {s : Shared} {Q : VK} (I : Inv X pins σ H s) (ea : H ad = some (.ins C dx gs)) (hs : PySem.W.findIn X.K (.ref C) "__len__" = some (some (.ref g))) (hf : PySem.W.isFn X.K (.ref g) = true)
    (F : FnOk X.prog X.w X.K X.mg X.base (L2.CX X.prog X.w) k g fd ps sp) (hr : Room (k + 1) X.A) (hb : Binds X.K fd ps []) (h : sp [.ref ad] H (fun v H' => ∃ n : Int, v = .int n ∧ 0 ≤ n ∧ n < 2 ^ 62 ∧ Q (.int n) H') (fun _ _ _ => False)) :
    wpAny (model X.prog X.w) X.A (call (.builtin "len") [.ref ad]) (EP X pins σ Q) X.xe s := by
  obtain ⟨mA, J, _⟩ := ins_get I.hok ea
  obtain ⟨od, J, _⟩ := J.look
  refine Calls.call_function_entry kind_len plain_len entry_len (args_len1 _) ?_
  unfold Builtin.«len»
  refine wpAny_bind (m := oneArg "len" _) (wpAny_pure ?_)
  have hl : ([Value.ref ad] ++ ([] : List Value)).length = ps.length := by rw [← F.len _ _ _ _ h]; rfl
  refine wpAny_bind (m := callSpecial? (.ref ad) (PySem.Str.ofString "__len__")) (special_K I.kIn J hs hf (wpAny_call (codeAny_mono (F.run X.A.in1 X.stack s H ⟨[.ref ad], []⟩ [.ref ad] [.ref ad] _ _ hr.in1 I.env0.in1 (hb s [.ref ad] I.kIn hl) (.cons rfl .nil) h) fun r s' hq => ?_)))
  cases r with
  | error er => exact passF pins σ H s er s' I hq
  | ok fl =>
    cases fl with
    | ret u =>
      obtain ⟨v, H', I3, rv, n, rfl, h0, h1, q3⟩ := I.after hq
      obtain ⟨t, rfl⟩ := rv
      show wpAny _ _ _ _ _ _
      refine wpAny_bind (wpAny_holding (wpAny_pure ?_))
      refine wpAny_bind (wpAny_letGo ?_)
      show wpAny _ _ (if n < 0 then _ else _) _ _ _
      rw [if_neg (by omega)]
      show wpAny _ _ (if n ≥ 2 ^ 63 then _ else _) _ _ _
      rw [if_neg (by omega)]
      exact wpAny_bind (wpAny_mkInt (wpAny_pure ⟨_, rfl, .int n, H', I3.tok _, ⟨_, rfl⟩, q3⟩))
    | next => exact False.elim hq
    | brk => exact False.elim hq
    | cont => exact False.elim hq
theorem snd_olen (G : CxG W M cl gl k X sc Wx) (hg : Gl X "len") (hq : c ∈ M.lens) (hN : X.N[i]? = some x) (hv : Vis X.env.scope x) (hd : (x == ("__debug__" : Str)) = false) (hcd : (x == ("__classdict__" : Str)) = false) :
    SndE W cl gl X Wx (.Call (.Name "len" p2) [.Name x p1] [] pos) (.olen c i) := by
  intro pv ow H S σ Q r h
  simp only [evE] at h
  have hmg : X.mg "len" = none := G.free _ (by decide)
  obtain ⟨hm, g, h1, h2, fd, ps, kp, hb, hF⟩ := G.len _ hq
  split at h
  · next fs e =>
    obtain ⟨v, hv', ad, dx, gs, rfl, _, e1, t1, _, _, rf⟩ := r.obj (insF_ok e)
    have h3 : PostE W pv ow H σ (fun _ _ _ _ => False) (callR cl (c ++ ".__len__") [.r i] S) (fun v H' => ∃ n : Int, v = .int n ∧ 0 ≤ n ∧ n < 2 ^ 62 ∧ Q (.int n) H') := by
      revert h
      generalize callR cl (c ++ ".__len__") [.r i] S = o
      intro h
      cases o with
      | ok z S' =>
        cases z with
        | val d =>
          cases d with
          | int n =>
            unfold lenR at h
            simp only at h
            split at h
            · next hz =>
              intro v ow' H' k1 r1 p1
              cases (show Rep W ow' H' (.int n) v from p1)
              simp only [Bool.and_eq_true, decide_eq_true_eq] at hz
              exact ⟨n, rfl, hz.1, (bigI_ok hz.2).2, h _ ow' H' k1 r1 p1⟩
            · exact False.elim h
          | _ => exact False.elim h
        | _ => exact False.elim h
      | exc _ _ _ => exact False.elim h
      | bad => exact False.elim h
    have sp := call_sp r (.cons (a := .r i) hv' .nil) h3
    have cr : CallR X (.builtin "len") (fun xs H1 Q1 => xs = [.ref ad] ∧ H1 = H ∧ Q1 = Q) := by
      rintro pins s σ1 H1 xs us Q1 I rv ⟨rfl, rfl, rfl⟩
      obtain ⟨u, rfl, ru⟩ := vals1 rv
      obtain rfl : u = Value.ref ad := ru
      exact len_own I e1 (by rw [G.K]; exact h1) (by rw [G.K]; exact h2) hF (G.room.mono (by omega)) hb sp
    exact RE.of (pe_callB (x := "len") cr hg hmg (by decide +kernel) (pa_cons (pe_var hN hv hd hcd) pa_nil (star_cons rfl)) (he := star_cons rfl) (hpl := star_any rfl)) ⟨_, hv', rfl, rfl, rfl⟩
  · exact False.elim h
theorem repL_dropLast {ow : Ow} {H : Hp} {xs : List D} {us : List V} (rl : RepL W ow H xs us) : RepL W ow H xs.dropLast us.dropLast := by
  rw [List.dropLast_eq_take, List.dropLast_eq_take, ← rl.length]
  exact rl.take _
/-- x.pop() -/
theorem snd_lpop (hN : X.N[i]? = some x) (hv : Vis X.env.scope x) (hd : (x == ("__debug__" : Str)) = false) (hcd : (x == ("__classdict__" : Str)) = false) (hl : (p2.endLine == p3.line) = true) :
    SndE W cl gl X Wx (.Call (.Attribute (.Name x p1) "pop" p2) [] [] p3) (.lpop i) := by
  intro pv ow H S σ Q r h
  simp only [evE] at h
  split at h
  · next xs hg =>
    split at h
    · next d hd' =>
      obtain ⟨v, hv', l, us, rfl, hl0, tl, rl⟩ := r.obj hg
      obtain ⟨u, e5, rep⟩ := rl.get hd'
      have hn : H l ≠ none := by rw [hl0]; simp
      obtain ⟨u1, u2, u3⟩ := upd_sl (o := .lst us.dropLast) tl hn
      refine RE.of (pe_bm0 PySem.F.plainAttrs_list PySem.F.slot_list_pop PySem.F.type_list_pop mt_pop (pe_var hN hv hd hcd) (attr_base rfl) hl) ?_
      refine ⟨_, hv', .inl ⟨rfl, _, SqL.of hl0⟩, l, us, u, rfl, rfl, hl0, by rw [← rl.length]; exact e5, ?_⟩
      exact h u ow _ u3 (r.putO hg hv' u1 u2 ⟨l, us.dropLast, rfl, upd_same, tl, ((repL_dropLast rl).keep u1)⟩) (rep.keep u1)
    · exact False.elim h
  · exact False.elim h
/-- x.f.pop() -/
theorem snd_opop (G : CxG W M cl gl k X sc Wx) (hq : (c, f) ∈ M.flds) (hN : X.N[i]? = some x) (hv : Vis X.env.scope x) (hd : (x == ("__debug__" : Str)) = false) (hcd : (x == ("__classdict__" : Str)) = false) (hl : (p2.endLine == p3.line) = true) :
    SndE W cl gl X Wx (.Call (.Attribute (.Attribute (.Name x p1) f p4) "pop" p2) [] [] p3) (.opop c i f) := by
  intro pv ow H S σ Q r h
  simp only [evE] at h
  obtain ⟨hm, hn⟩ := G.fld _ hq
  split at h
  · next fs e =>
    split at h
    · next xs e2 =>
      split at h
      · next d hd' =>
        obtain ⟨v, hv', ad, dx, gs, rfl, hmem, e1, t1, e8, t8, rf⟩ := r.obj (insF_ok e)
        obtain ⟨la, us, e3, e4, t4, rl, put⟩ := repV_lst rf e2
        obtain ⟨u, e5, rep⟩ := rl.get hd'
        have hnn : H la ≠ none := by rw [e4]; simp
        obtain ⟨u1, u2, u3⟩ := upd_sl (o := .lst us.dropLast) t4 hnn
        have n1 : ad ≠ la := fun z => by rw [z, e4] at e1; cases e1
        have n2 : dx ≠ la := fun z => by rw [z, e4] at e8; cases e8
        refine RE.of (pe_bm0 PySem.F.plainAttrs_list PySem.F.slot_list_pop PySem.F.type_list_pop mt_pop (pe_fld (pe_var hN hv hd hcd) (attr_base rfl)) (attr_base rfl) hl) ?_
        refine ⟨_, hv', ad, _, dx, gs, .ref la, rfl, e1, by rw [G.K]; exact (G.cls _ hm).2.cl, by rw [G.K]; exact hn, e3, .inl ⟨rfl, _, SqL.of e4⟩, la, us, u, rfl, rfl, e4, by rw [← rl.length]; exact e5, ?_⟩
        exact h u ow _ u3 (r.putO (insF_ok e) hv' u1 u2 ⟨ad, dx, gs, rfl, hmem, by rw [upd_ne n1]; exact e1, t1, by rw [upd_ne n2]; exact e8, t8, put u1 upd_same t4 ((repL_dropLast rl).keep u1)⟩) (rep.keep u1)
      · exact False.elim h
    · exact False.elim h
  · exact False.elim h
end
end Ev

/-! EvJ2: texts. -/
namespace Ev
open PySem PySem.Spec PyProof.Rows L2
section
variable {W : Wd} {M : MC} {cl : Calls} {gl : Str → Option D} {k : Nat} {X : Cx} {sc : Scope} {Wx : WX} {a b : Expr} {ia ib : E} {pos p0 p1 p2 p3 p4 : Pos}
theorem star_one {e : Expr} {env : Env} (h : noStar e = true) : starEach [e] env = [(false, eval e env)] := star_cons h
theorem wide_log {i : Int} (h : wideI i = true) : i.natAbs.log2 < 1920 := by
  unfold wideI at h
  simp only [Bool.and_eq_true, decide_eq_true_eq] at h
  have h1 : i.natAbs < 2 ^ 129 := by
    have e : (2 : Int) ^ 128 = ((2 ^ 128 : Nat) : Int) := by norm_cast
    rw [e] at h
    have : i.natAbs ≤ 2 ^ 128 := by omega
    omega
  rcases Nat.eq_zero_or_pos i.natAbs with h0 | h0
  · rw [h0]; decide
  · have := (Nat.log2_lt (by omega)).mpr h1
    omega
/-- sep.join(x) -/
theorem snd_join {y : Str} {j : Nat} (hs : noStar a = true) (hl : (p2.endLine == pos.line) = true) (ha : SndE W cl gl X Wx a ia) (G : CxG W M cl gl k X sc Wx) : SndE W cl gl X Wx (.Call (.Attribute (.Constant (.str y) j p0) "join" p2) [a] [] pos) (.join y ia) := by
  intro pv ow H S σ Q r h
  simp only [evE] at h
  refine RE.of (pe_join pe_str pe_RE (star_one hs) (attr_base rfl) hl) ?_
  refine ⟨⟨y, rfl⟩, RE.mono (ha pv ow H S σ _ r (Post.seq h)) ?_⟩
  rintro v H1 ⟨rx, S1, ow1, -, k1, r1, q1, h1⟩
  split at h1
  · next z e1 =>
    obtain ⟨d, e2, e3⟩ := Option.bind_eq_some_iff.mp e1
    have rd := reads r1 q1 e2
    have fin : Q (.str z) H1 := h1 _ ow1 H1 k1 r1 (.str z)
    cases d with
    | lst xs =>
      simp only [joinD, joinS, Option.bind_eq_some_iff] at e3
      obtain ⟨ys, e4, e5⟩ := e3
      split at e5
      · next hz =>
        cases e5
        obtain ⟨l, us, rfl, hl', rl⟩ := rd
        have := repL_strs rl e4
        subst this
        exact ⟨y, l, ys, rfl, rfl, .inl (SqL.of hl'), of_decide_eq_true hz, fin⟩
      · cases e5
    | tup xs =>
      simp only [joinD, joinS, Option.bind_eq_some_iff] at e3
      obtain ⟨ys, e4, e5⟩ := e3
      split at e5
      · next hz =>
        cases e5
        cases (show Rep W ow1 H1 (.tup xs) v from rd) with
        | @tup l us _ hl' rl =>
          have := repL_strs rl e4
          subst this
          exact ⟨y, l, ys, rfl, rfl, .inr (G.K ▸ hl'.sq), of_decide_eq_true hz, fin⟩
      · cases e5
    | _ => cases e3
  · exact False.elim h1
theorem repL_ofStrs {ow : Ow} {H : Hp} : ∀ {ys : List Str}, RepL W ow H (ys.map D.str) (ys.map V.str)
  | [] => .nil
  | y :: ys => .cons (.str y) repL_ofStrs
/-- x.split(sep) -/
theorem snd_split {y : Str} {j : Nat} (hb : attrB a = true) (hl : (p2.endLine == pos.line) = true) (ha : SndE W cl gl X Wx a ia) : SndE W cl gl X Wx (.Call (.Attribute a "split" p2) [.Constant (.str y) j p0] [] pos) (.split ia y) := by
  intro pv ow H S σ Q r h
  simp only [evE] at h
  refine RE.of (pe_split pe_RE pe_str (star_one rfl) (attr_base hb) hl) (RE.mono (ha pv ow H S σ _ r (Post.seq h)) ?_)
  rintro v H1 ⟨rx, S1, ow1, -, k1, r1, q1, h1⟩
  split at h1
  · next ys e1 =>
    obtain ⟨d, e2, e3⟩ := Option.bind_eq_some_iff.mp e1
    have rd := reads r1 q1 e2
    cases d with
    | str x =>
      simp only [splitD] at e3
      split at e3
      · next hz =>
        cases e3
        cases (show Rep W ow1 H1 (.str x) v from rd)
        simp only [Bool.and_eq_true, Bool.not_eq_true', decide_eq_true_eq] at hz
        refine ⟨⟨x, rfl⟩, x, y, rfl, rfl, hz.1, hz.2, fun q hq => ?_⟩
        have g := Grow.new (ow := ow1) (o := .lst ((Txt.split x y).map V.str)) (t := .tm) hq
        refine h1 (.ref q) _ _ (k1.trans g.step) (r1.grow g) ⟨q, _, rfl, upd_same, ⟨if_pos rfl, k1.none hq⟩, repL_ofStrs⟩
      · cases e3
    | _ => cases e3
  · exact False.elim h1
/-- x.rstrip() -/
theorem snd_rstrip (hb : attrB a = true) (hl : (p2.endLine == pos.line) = true) (ha : SndE W cl gl X Wx a ia) : SndE W cl gl X Wx (.Call (.Attribute a "rstrip" p2) [] [] pos) (.rstrip ia) := by
  intro pv ow H S σ Q r h
  simp only [evE] at h
  refine RE.of (pe_m0 F.slot_str_rstrip F.type_str_rstrip mt_rstrip pe_RE (attr_base hb) hl) (RE.mono (ha pv ow H S σ _ r (Post.seq h)) ?_)
  rintro v H1 ⟨rx, S1, ow1, -, k1, r1, q1, h1⟩
  split at h1
  · next z e1 =>
    obtain ⟨d, e2, e3⟩ := Option.bind_eq_some_iff.mp e1
    have rd := reads r1 q1 e2
    cases d with
    | str x =>
      simp only [rstripD] at e3
      split at e3
      · next hz =>
        cases e3
        cases (show Rep W ow1 H1 (.str x) v from rd)
        exact ⟨⟨x, rfl⟩, x, rfl, rfl, lineOk_ok hz, h1 _ ow1 H1 k1 r1 (.str _)⟩
      · cases e3
    | _ => cases e3
  · exact False.elim h1
/-- str(i) -/
theorem snd_strI (G : CxG W M cl gl k X sc Wx) (hg : Gl X "str") (hs : noStar a = true) (ha : SndE W cl gl X Wx a ia) : SndE W cl gl X Wx (.Call (.Name "str" p1) [a] [] pos) (.strI ia) := by
  intro pv ow H S σ Q r h
  simp only [evE] at h
  refine RE.of (pe_callTy (x := "str") (T := "str") call_str_int hg (G.free _ (by decide)) (by decide +kernel) (pa_cons pe_RE pa_nil (star_cons hs)) (he := star_cons hs) (hpl := star_any rfl)) (RE.mono (ha pv ow H S σ _ r (Post.seq h)) ?_)
  rintro v H1 ⟨rx, S1, ow1, -, k1, r1, q1, h1⟩
  split at h1
  · next z e1 =>
    obtain ⟨d, e2, e3⟩ := Option.bind_eq_some_iff.mp e1
    have rd := reads r1 q1 e2
    cases d with
    | int i =>
      simp only [strD] at e3
      split at e3
      · next hz =>
        cases e3
        cases intRd rd
        exact ⟨i, rfl, wide_log hz, h1 _ ow1 H1 k1 r1 (.str _)⟩
      · cases e3
    | _ => cases e3
  · exact False.elim h1
/-- f'..' -/
def tsOf (X : Cx) : List Expr → List TE
  | [] => []
  | .FormattedValue x _ _ _ :: r => tFmt (RE X x) :: tsOf X r
  | e :: r => RE X e :: tsOf X r
/-- a part: a text, or a value without a form -/
def partB : Expr → Bool
  | .FormattedValue _ c none _ => decide (c = -1)
  | .FormattedValue _ _ _ _ => false
  | _ => true
theorem pj_of : ∀ {es : List Expr}, es.all partB = true → PJ X es (tsOf X es)
  | [], _ => .nil
  | e :: es, h => by
    simp only [List.all_cons, Bool.and_eq_true] at h
    have ih := pj_of h.2
    cases e with
    | FormattedValue x c sp p =>
      cases sp with
      | none =>
        have hc : c = -1 := by simpa [partB] using h.1
        subst hc
        exact .cons (pe_fmt pe_RE) ih
      | some _ => simp [partB] at h
    | _ => exact .cons pe_RE ih
def SndJ (W : Wd) (cl : Calls) (gl : Str → Option D) (X : Cx) (Wx : WX) (es : List Expr) (ies : Es) : Prop := ∀ (pv : Nat → Option V) (ow : Ow) (H : Hp) (S : Fr) (σ : L2.St) (acc : Str) (Q : Str → Hp → Prop), Rel W pv ow H S σ → Post W pv ow H σ Wx (fun _ _ (x y : Str) => x = y) (evFs cl gl ies acc S) Q → tJs (tsOf X es) acc σ H Q
theorem snd_j0 : SndJ W cl gl X Wx [] .nil := fun pv ow H S σ acc Q r h => h acc ow H Step.refl r rfl
theorem snd_jF {es : List Expr} {ies : Es} {c : Int} {sp : Option Expr} (ha : SndE W cl gl X Wx a ia) (hes : SndJ W cl gl X Wx es ies) : SndJ W cl gl X Wx (.FormattedValue a c sp pos :: es) (.cons ia ies) := by
  intro pv ow H S σ acc Q r h
  simp only [evFs] at h
  show RE X a σ H _
  refine RE.mono (ha pv ow H S σ _ r (Post.seq h)) ?_
  rintro v H1 ⟨rx, S1, ow1, -, k1, r1, q1, h1⟩
  split at h1
  · next y e1 =>
    split at h1
    · next hz =>
      obtain ⟨d, e2, e3⟩ := Option.bind_eq_some_iff.mp e1
      have rd := reads r1 q1 e2
      have fin := hes pv ow1 H1 S1 σ (acc ++ y) Q r1 (h1.re k1)
      cases d with
      | str x =>
        simp only [fmtD] at e3
        split at e3
        · next hx =>
          cases e3
          cases (show Rep W ow1 H1 (.str y) v from rd)
          exact .inl ⟨y, rfl, lineOk_ok hx, y, rfl, lineOk_ok hz, fin⟩
        · cases e3
      | int i =>
        simp only [fmtD] at e3
        split at e3
        · next hx =>
          cases e3
          cases intRd rd
          exact .inr ⟨i, rfl, wide_log hx, _, rfl, lineOk_ok hz, fin⟩
        · cases e3
      | _ => cases e3
    · exact False.elim h1
  · exact False.elim h1
theorem snd_jC {es : List Expr} {ies : Es} {x : Str} {j : Nat} (hes : SndJ W cl gl X Wx es ies) : SndJ W cl gl X Wx (.Constant (.str x) j pos :: es) (.cons (.con (.str x)) ies) := by
  intro pv ow H S σ acc Q r h
  simp only [evFs, evE, Out.bind, cont, Option.bind_some, fmtD] at h
  show RE X _ σ H _
  split at h
  · next y e1 =>
    split at e1
    · cases e1
      split at h
      · next hz => exact RE.of pe_str ⟨x, rfl, lineOk_ok hz, hes pv ow H S σ (acc ++ x) Q r h⟩
      · exact False.elim h
    · cases e1
  · exact False.elim h
theorem snd_fstr {v1 v2 : Expr} {rest : List Expr} {ies : Es} (hp : (v1 :: v2 :: rest).all partB = true) (ha : SndJ W cl gl X Wx (v1 :: v2 :: rest) ies) : SndE W cl gl X Wx (.JoinedStr (v1 :: v2 :: rest) pos) (.fstr ies) := by
  intro pv ow H S σ Q r h
  simp only [evE] at h
  refine RE.of (pe_joined (pj_of hp)) (ha pv ow H S σ Str.empty (fun out H1 => Q (.str out) H1) r ?_)
  cases e : evFs cl gl ies Str.empty S with
  | ok z S1 =>
    rw [e] at h
    rintro y ow' H' k' r' rfl
    exact h (.str z) ow' H' k' r' (.str z)
  | exc c fs S1 => rw [e] at h; exact h
  | bad => rw [e] at h; exact h
/-! ### list(range(..)) -/
theorem rep_rg2 {ow : Ow} {H : Hp} {i j : Int} : RepL W ow H (rngD i j) (rgV i j) := by
  unfold rngD rgV
  induction List.range (j - i).toNat with
  | nil => exact .nil
  | cons x xs ih => exact .cons (.int _) ih
theorem snd_lrg1 (G : CxG W M cl gl k X sc Wx) (hg : Gl X "list") (hg2 : Gl X "range") (hs : noStar a = true) (ha : SndE W cl gl X Wx a ia) : SndE W cl gl X Wx (.Call (.Name "list" p1) [.Call (.Name "range" p2) [a] [] p3] [] pos) (.lrg1 ia) := by
  intro pv ow H S σ Q r h
  simp only [evE] at h
  refine RE.of (pe_listRg G.calm hg (G.free _ (by decide)) (prg_1 hg2 (G.free _ (by decide)) pe_RE (star_cons hs)) rfl) ?_
  refine RE.mono (ha pv ow H S σ _ r (Post.seq h)) ?_
  rintro x H1 ⟨rx, S1, ow1, -, k1, r1, q1, h1⟩
  split at h1
  · next j e1 =>
    cases intRd (reads r1 q1 e1)
    split at h1
    · next hc =>
      unfold smallN at hc
      simp only [Bool.and_eq_true, decide_eq_true_eq] at hc
      refine ⟨j, rfl, RgOk.of_le (by omega) (by omega) (by omega) (by omega), fun q hq => ?_⟩
      have g := Grow.new (ow := ow1) (o := .lst (rgV 0 j)) (t := .tm) hq
      exact h1 (.ref q) _ _ (k1.trans g.step) (r1.grow g) ⟨q, _, rfl, upd_same, ⟨if_pos rfl, k1.none hq⟩, rep_rg2⟩
    · exact False.elim h1
  · exact False.elim h1
theorem snd_lrg2 (G : CxG W M cl gl k X sc Wx) (hg : Gl X "list") (hg2 : Gl X "range") (hs : noStar a = true) (hs2 : noStar b = true) (ha : SndE W cl gl X Wx a ia) (hb : SndE W cl gl X Wx b ib) : SndE W cl gl X Wx (.Call (.Name "list" p1) [.Call (.Name "range" p2) [a, b] [] p3] [] pos) (.lrg2 ia ib) := by
  intro pv ow H S σ Q r h
  simp only [evE] at h
  refine RE.of (pe_listRg G.calm hg (G.free _ (by decide)) (prg_2 hg2 (G.free _ (by decide)) pe_RE pe_RE (star_cons hs) (star_cons hs2) (star_any (by simp [hs2]))) rfl) ?_
  refine RE.mono (ha pv ow H S σ _ r (Post.seq h)) ?_
  rintro x H1 ⟨rx, S1, ow1, -, k1, r1, q1, h1⟩
  split at h1
  · next i e1 =>
    cases intRd (reads r1 q1 e1)
    refine RE.mono (hb pv ow1 H1 S1 σ _ r1 (Post.seq2 h1 k1)) ?_
    rintro y H2 ⟨ry, S2, ow2, -, k2, r2, q2, h2⟩
    split at h2
    · next j e2 =>
      cases intRd (reads r2 q2 e2)
      split at h2
      · next hc =>
        unfold smallN at hc
        simp only [Bool.and_eq_true, decide_eq_true_eq] at hc
        refine ⟨i, j, rfl, rfl, RgOk.of_le (by omega) (by omega) (by omega) (by omega), fun q hq => ?_⟩
        have g := Grow.new (ow := ow2) (o := .lst (rgV i j)) (t := .tm) hq
        exact h2 (.ref q) _ _ ((k1.trans k2).trans g.step) (r2.grow g) ⟨q, _, rfl, upd_same, ⟨if_pos rfl, (k1.trans k2).none hq⟩, rep_rg2⟩
      · exact False.elim h2
    · exact False.elim h2
  · exact False.elim h1
end
end Ev

/-! EvJ3: results made values; lists whose items may be lists of their own; one of some functions, with arguments. -/
namespace Ev
open PySem PySem.Spec PyProof.Rows L2
section
variable {W : Wd} {M : MC} {cl : Calls} {gl : Str → Option D} {k : Nat} {X : Cx} {sc : Scope} {Wx : WX} {a b : Expr} {ia ib : E} {pos p1 p2 p3 p4 : Pos} {x y : Str} {i j : Nat}
theorem snd_fz (ha : SndE W cl gl X Wx a ia) : SndE W cl gl X Wx a (.fz ia) := by
  intro pv ow H S σ Q r h
  simp only [evE] at h
  refine RE.mono (ha pv ow H S σ _ r (Post.seq h)) ?_
  rintro v H1 ⟨rx, S1, ow1, -, k1, r1, p1, h1⟩
  obtain ⟨d, S2, ow2, k2, r2, p2, h2⟩ := Post.esc r1 k1 p1 h1
  exact h2 v ow2 H1 k2 r2 p2
/-- the items of a display -/
theorem repX_of {H0 : Hp} {ow : Ow} {H : Hp} {σ : L2.St} : ∀ {rs : List R} {vs : List V} {xs : List FV}, RRepL W H0 ow H σ rs vs → fvRs rs = some xs → RepX W ow H (fun p => ow p = .tm ∧ H0 p = none) xs vs
  | [], _, xs, h, e => by
    cases h
    cases e
    exact .nil
  | r :: rs, _, xs, h, e => by
    cases h with
    | cons h1 h2 =>
      simp only [fvRs] at e
      split at e
      · next x xs' e1 e2 =>
        cases e
        have l := repX_of h2 e2
        cases r with
        | val d =>
          simp only [fvR, Option.some.injEq] at e1
          subst e1
          exact .val h1 l
        | tmp o =>
          cases o with
          | lst ys =>
            simp only [fvR, Option.some.injEq] at e1
            subst e1
            obtain ⟨q, us, rfl, g1, g2, g3⟩ := h1
            exact .lst g1 g2 g3 l
          | _ => simp [fvR] at e1
        | bor i => simp [fvR] at e1
      · cases e
theorem snd_lstL {es : List Expr} {ies : Es} (h : SndRs W cl gl X Wx es ies) : SndE W cl gl X Wx (.List es pos) (.lstL ies) := by
  intro pv ow H S σ Q r hp
  refine RE.of (pe_lst pa_RA) ?_
  simp only [evE] at hp
  refine RA.mono (h pv ow H S σ _ r (Post.seq hp)) ?_
  rintro vs H1 ⟨rs, S1, ow1, _, k1, r1, p1, h1⟩
  have hl : ∀ {rs : List R} {vs : List V}, RRepL W H ow1 H1 σ rs vs → rs.length = vs.length := by
    intro rs vs q
    induction q with
    | nil => rfl
    | cons _ _ ih => simp [ih]
  split at h1
  · next xs ex =>
    split at h1
    · next hz =>
      refine ⟨by rw [← hl p1]; exact lineOk_ok hz, fun p hn => ?_⟩
      have g := Grow.new (ow := ow1) (o := .lst vs) (t := .tm) hn
      refine h1 (.ref p) _ _ (k1.trans g.step) (r1.grow g) ⟨p, vs, rfl, upd_same, ⟨if_pos rfl, k1.none hn⟩, (repX_of p1 ex).keep g.keep fun q hq z => ?_⟩
      have hne : q ≠ p := fun e => hq (e ▸ hn)
      exact ⟨upd_ne hne, ⟨(if_neg hne).trans z.1, z.2⟩, hne⟩
    · exact False.elim h1
  · exact False.elim h1
/-! ### a slot's list of lists, read -/
theorem llC_ok {S : Fr} {i : Nat} {xs : List FV} (h : llC S i = some xs) : getC S i = some (.own (.ll xs)) := by
  unfold llC at h
  split at h
  · next e => cases h; exact e
  · cases h
open Classical in
/-- the slot's inner lists, as if they were frozen -/
noncomputable def owLook (i : Nat) (a : Addr) (ow : Ow) : Ow := fun p => if ow p = .sl i ∧ p ≠ a then .fz else ow p
theorem owLook_keep {i : Nat} {a : Addr} {ow : Ow} {H : Hp} : Keep ow H (owLook i a ow) H := fun p _ e => ⟨rfl, by unfold owLook; rw [if_neg (by rw [e]; simp)]; exact e⟩
theorem repX_look {i : Nat} {a : Addr} {ow : Ow} {H : Hp} {xs : List FV} {vs : List V} (h : RepX W ow H (fun p => ow p = .sl i ∧ p ≠ a) xs vs) : RepL W (owLook i a ow) H (xs.map fvD) vs :=
  RepX.fz (t := fun p => owLook i a ow p = .fz) (fun _ e => e) (h.keep owLook_keep fun p _ e => ⟨rfl, by unfold owLook; rw [if_pos e]⟩)
theorem snd_neL (G : CxG W M cl gl k X sc Wx) (hN : X.N[i]? = some x) (hv : Vis X.env.scope x) (hd : (x == ("__debug__" : Str)) = false) (hcd : (x == ("__classdict__" : Str)) = false)
    (hN2 : X.N[j]? = some y) (hv2 : Vis X.env.scope y) (hd2 : (y == ("__debug__" : Str)) = false) (hcd2 : (y == ("__classdict__" : Str)) = false) :
    SndT W cl gl X Wx (.Compare (.Name x p1) [.NotEq] [.Name y p2] pos) (.neL i j) := by
  intro pv ow H S σ Q r h
  simp only [evT] at h
  refine RT.of (pt_cmpR op_best (pe_var hN hv hd hcd) (pe_var hN2 hv2 hd2 hcd2) rfl) ?_
  split at h
  · next xs e1 =>
    obtain ⟨v, hv', a, vs, rfl, g1, g2, g3⟩ := r.cell i _ (llC_ok e1)
    unfold neLR at h
    split at h
    · next d e2 =>
      obtain ⟨u, hu, q⟩ := r.cell j _ e2
      split at h
      · next t ht =>
        refine ⟨_, hv', _, hu, ?_⟩
        exact cmpD_ok (op := .ne) (ow := owLook i a ow) G.K G.units G.di ht ⟨a, vs, rfl, g1, repX_look g3⟩ (Rep.keep owLook_keep q).rd ⟨t, rfl, h t ow H Step.refl r rfl⟩
      · exact False.elim h
    · exact False.elim h
  · exact False.elim h
theorem fv_get {ow : Ow} {H : Hp} {a : Addr} {xs : List FV} {vs : List V} {m : Nat} {z : FV} (h : RepX W ow H (fun p => ow p = .sl i ∧ p ≠ a) xs vs) (e : xs[m]? = some z) : ∃ u, vs[m]? = some u ∧ Rep W (owLook i a ow) H (fvD z) u :=
  (repX_look h).get (by rw [List.getElem?_map, e]; rfl)
theorem at_nat {vs : List V} {m : Nat} {u : V} (h : vs[m]? = some u) : atI vs ((m : Nat) : Int) = some u := by
  have hlt := (List.getElem?_eq_some_iff.mp h).1
  unfold atI ixN
  rw [if_pos (by omega), if_pos (by omega)]
  simpa using h
theorem snd_isiLB (G : CxG W M cl gl k X sc Wx) {c : Str} {t : String} {m kd : Nat} {p5 : Pos} (hN : X.N[i]? = some x) (hv : Vis X.env.scope x) (hd : (x == ("__debug__" : Str)) = false) (hcd : (x == ("__classdict__" : Str)) = false) (hc : (c, t) ∈ biCls) (hb : bootBuiltins c = some (.type t)) (hg : Gl X "isinstance") (hgc : Gl X c) (hn : c ≠ "__name__") (hdc : (c == ("__debug__" : Str)) = false) (hf : c ∈ freeNames) :
    SndE W cl gl X Wx (.Call (.Name "isinstance" p1) [.Subscript (.Name x p2) (.Constant (.int (m : Int)) kd p3) p4, .Name c p5] [] pos) (.isiL i m c) := by
  intro pv ow H S σ Q r h
  simp only [evE] at h
  refine RE.of (pe_callB (x := "isinstance") call_isi hg (G.free _ (by decide)) (by decide +kernel) (pa_cons (pe_ix ix_best (pe_var hN hv hd hcd) pe_int (plain_ix rfl)) (pa_cons (pe_bltn (v := .ty t) hgc (G.free _ hf) hb rfl hn hdc) pa_nil rfl) rfl) (he := rfl) (hpl := rfl)) ?_
  split at h
  · next xs e1 =>
    obtain ⟨v, hv', a, vs, rfl, g1, g2, g3⟩ := r.cell i _ (llC_ok e1)
    unfold isiLR at h
    split at h
    · next z e2 =>
      split at h
      · exact False.elim h
      · next hdz =>
        have hdz : isDic (fvD z) = false := by simpa using hdz
        obtain ⟨u, hu, q⟩ := fv_get g3 e2
        have rd := q.rd
        refine ⟨_, hv', _, ix_list, a, vs, (m : Int), u, rfl, rfl, SqL.of g1, at_nat hu, u, .ty t, tyV W (fvD z), .type t, isiD c (fvD z), rfl, .ty t, ?_, by rw [G.K]; exact G.kit _ hc _ hdz (insOk_of rd), h _ ow H Step.refl r (.bl _)⟩
        rw [G.K]
        exact tyX_ok (fun c hc => (G.cls c hc).2) (fun kvs e => by rw [e] at hdz; simp [isDic] at hdz) rd
    · exact False.elim h
  · exact False.elim h
theorem snd_isnL (G : CxG W M cl gl k X sc Wx) {m kd kd2 : Nat} (hN : X.N[i]? = some x) (hv : Vis X.env.scope x) (hd : (x == ("__debug__" : Str)) = false) (hcd : (x == ("__classdict__" : Str)) = false) :
    SndT W cl gl X Wx (.Compare (.Subscript (.Name x p1) (.Constant (.int (m : Int)) kd p2) p3) [.IsNot] [.Constant .none kd2 p4] pos) (.isnL i m) := by
  intro pv ow H S σ Q r h
  simp only [evT] at h
  refine RT.of (pt_cmpR op_best (pe_ix ix_best (pe_var hN hv hd hcd) pe_int (plain_ix rfl)) pe_non rfl) ?_
  split at h
  · next xs e1 =>
    obtain ⟨v, hv', a, vs, rfl, g1, g2, g3⟩ := r.cell i _ (llC_ok e1)
    unfold isnLR at h
    split at h
    · next z e2 =>
      obtain ⟨u, hu, q⟩ := fv_get g3 e2
      refine ⟨_, hv', _, ix_list, a, vs, (m : Int), u, rfl, rfl, SqL.of g1, at_nat hu, ?_⟩
      exact cmpD_ok (op := .isnot) (ow := owLook i a ow) G.K G.units G.di (show cmpD .isnot (fvD z) .non = some (!isNon (fvD z)) by cases fvD z <;> rfl) q.rd (show Rd1 W _ H .non .non from .non) ⟨_, rfl, h _ ow H Step.refl r rfl⟩
    · exact False.elim h
  · exact False.elim h
/-! ### one of some functions, with arguments -/
theorem snd_pickA (G : CxG W M cl gl k X sc Wx) {fs : List Str} {es : List Expr} {e0 : Expr} {es2 : List Expr} {ies : Es} (hn : NamesOk X M fs es) (hl : fs.length ≤ 100) (hb' : plainS b = true) (hb : SndE W cl gl X Wx b ib) (hs : (e0 :: es2).all noStar = true) (ha : SndAs W cl gl X Wx (e0 :: es2) ies) :
    SndE W cl gl X Wx (.Call (.Subscript (.List es p1) b p2) (e0 :: es2) [] pos) (.pickA fs ib ies) := by
  intro pv ow H S σ Q r h
  simp only [evE] at h
  obtain ⟨fas, hat, hlen, hra⟩ := pa_names G hn
  have key : RE X (.Subscript (.List es p1) b p2) σ H (fun v H2 => ∃ f fa S2 ow2, v = .ref fa ∧ FnAt W cl k X fa f ∧ Step ow H ow2 H2 ∧ Rel W pv ow2 H2 S2 σ ∧ PostE W pv ow H σ Wx ((evAs cl gl ies S2).bind fun as S => callR cl f as S) Q) := by
    refine RE.of (pe_ix ix_best pe_RE pe_RE (plain_ix hb')) ?_
    refine RE.of (pe_lst pa_RA) ?_
    refine hra σ H _ ⟨by rw [List.length_map, hlen, sizeLine_eq]; omega, fun p hp => ?_⟩
    have g := Grow.new (ow := ow) (o := .lst (fas.map V.ref)) (t := .tm) hp
    refine RE.mono (hb pv _ _ S σ _ (r.grow g) (Post.seq2 h g.step)) ?_
    rintro z H2 ⟨ry, S2, ow2, -, k2, r2, p2, h2⟩
    obtain ⟨e1, _⟩ := k2.tag (p := p) (by rw [upd_same]; simp) (if_pos rfl) (by simp)
    split at h2
    · next n ej =>
      cases intRd (reads r2 p2 ej)
      split at h2
      · next f hf =>
        unfold pickF at hf
        split at hf
        · next hj =>
          obtain ⟨fa, h3, h4⟩ := hat _ f hf
          have hlt := (List.getElem?_eq_some_iff.mp hf).1
          have hai : atI (fas.map V.ref) n = some (.ref fa) := by
            unfold atI ixN
            rw [List.length_map, hlen, if_pos hj, if_pos (by omega)]
            simp [h3]
          exact ⟨_, ix_list, p, fas.map V.ref, n, .ref fa, rfl, rfl, SqL.of (e1.trans upd_same), hai, f, fa, S2, ow2, rfl, h4, g.step.trans k2, r2, h2⟩
        · cases hf
      · exact False.elim h2
    · exact False.elim h2
  intro pins s I
  rw [show eval (.Call (.Subscript (.List es p1) b p2) (e0 :: es2) [] pos) X.env = (do callWith pos (← eval (.Subscript (.List es p1) b p2) X.env) [] (backTo pos (starEach (e0 :: es2) X.env)) (backToKw pos (keywordEach [] X.env))) from rfl]
  refine wpAny_bind (thn (key pins s I) fun u s1 hh => ?_)
  obtain ⟨v, H1, I1, rv, f, fa, S2, ow2, hv, hF, st, r2, h2⟩ := hh
  subst hv
  obtain rfl : u = Value.ref fa := rv
  obtain ⟨fd, ps, kp, hbd, hF⟩ := hF
  have key2 : RA X (e0 :: es2) σ H1 (fun vs H2 => spOf W cl f vs H2 Q (fun cls d H' => Wx cls d σ H')) := by
    refine RA.mono (ha pv ow2 H1 S2 σ _ r2 (Post.seq2 h2 st)) ?_
    rintro vs H2 ⟨as, S3, ow3, -, k3, r3, p3, h3⟩
    exact call_sp r3 p3 (h3.reE (st.trans k3))
  simp only [List.all_cons, Bool.and_eq_true] at hs
  refine PySem.W.callWith_K (h₀ := X.base) I1.ok.mod.kin kp (thn (key2 pos pins s1 I1) fun us s2 ⟨vs, H2, I2, rv, q⟩ => ⟨I2.kIn, ?_⟩) (star_cons hs.1) (star_any hs.2)
  exact run_fnSD (dvs := []) (ds := []) (E := fun σ cls d H' => Wx cls d σ H') hF (G.room.mono (by omega)) hbd .nil (passAt G.tk σ) I2 rv (by rw [List.append_nil]; exact q)
end
end Ev

/-! EvK: the text against the small syntax; every expression is sound. -/
namespace Ev
open PySem PySem.Spec PyProof.Rows L2

def visB (sc : Scope) (x : Str) : Bool := match sc.names.lookup x with
  | some .local => true
  | some .cell => true
  | some .free => true
  | _ => false
def glB (sc : Scope) (x : Str) : Bool := match sc.names.lookup x with
  | some .globalImplicit => true
  | _ => false
def okN (x : Str) : Bool := !(x == ("__debug__" : Str)) && !(x == ("__classdict__" : Str)) && !decide (x = "__name__")
def slotB (M : MC) (sc : Scope) (i : Nat) (x : Str) : Bool := decide (M.N[i]? = some x) && visB sc x && okN x
theorem visB_ok {sc : Scope} {x : Str} (h : visB sc x = true) : Vis sc x := by
  unfold visB at h
  split at h
  · next e => exact .inl e
  · next e => exact .inr (.inl e)
  · next e => exact .inr (.inr e)
  · cases h
theorem glB_ok {X : Cx} {sc : Scope} {x : Str} (hs : X.env.scope = sc) (h : glB sc x = true) : Gl X x := by
  unfold glB at h
  split at h
  · next e => show X.env.scope.names.lookup x = _; rw [hs]; exact e
  · cases h
theorem okN_ok {x : Str} (h : okN x = true) : (x == ("__debug__" : Str)) = false ∧ (x == ("__classdict__" : Str)) = false ∧ x ≠ "__name__" := by
  unfold okN at h
  simp only [Bool.and_eq_true, Bool.not_eq_true', decide_eq_false_iff_not] at h
  exact ⟨h.1.1, h.1.2, h.2⟩
def opB : BOp → Operator → Bool
  | .add, .Add => true | .sub, .Sub => true | .mul, .Mult => true | .fdiv, .FloorDiv => true | .mod, .Mod => true | .pow, .Pow => true | .shl, .LShift => true | .shr, .RShift => true | .band, .BitAnd => true
  | _, _ => false
def coB : COp → CmpOp → Bool
  | .eq, .Eq => true | .ne, .NotEq => true | .lt, .Lt => true | .le, .LtE => true | .gt, .Gt => true | .ge, .GtE => true | .isin, .In => true | .notin, .NotIn => true | .is, .Is => true | .isnot, .IsNot => true
  | _, _ => false
theorem opB_ok {op : BOp} {o : Operator} (h : opB op o = true) : o = bopO op := by cases op <;> cases o <;> first | rfl | cases h
theorem coB_ok {op : COp} {o : CmpOp} (h : coB op o = true) : o = copO op := by cases op <;> cases o <;> first | rfl | cases h
/-- the comprehension's own names with their slots -/
def ownOf (M : MC) (tg : Tg) : List (Str × Nat) := (slotsT tg).map fun i => ((M.N[i]?).getD "", i)
/-- a name that a target stores -/
def locB (M : MC) (sc orig : Scope) (i : Nat) (x : Str) : Bool := decide (M.N[i]? = some x) && (match sc.names.lookup x with
  | some .local => true
  | some .cell => (match orig.names.lookup x with
    | some .cell => true
    | _ => false)
  | _ => false)
def mNames (M : MC) (sc orig : Scope) : List Nat → List Expr → Bool
  | [], [] => true
  | i :: is, .Name x _ :: es => locB M sc orig i x && mNames M sc orig is es
  | _, _ => false
def mTg (M : MC) (sc orig : Scope) : Tg → Expr → Bool
  | .one i, .Name x _ => locB M sc orig i x
  | .many is, .Tuple es _ _ => mNames M sc orig is es
  | _, _ => false
def isTupT : Expr → Bool
  | .Tuple _ _ _ => true
  | _ => false
def isiB (W : List Str) (c : Str) : Bool := (biCls.map (·.1)).contains c || W.contains c
def noSet : Expr → Bool
  | .Set _ _ _ => false
  | _ => true
theorem noSet_ok {e : Expr} {env : Env} (h : noSet e = true) (x : Value) : foldedSetIterable e env x = pure x := by cases e <;> first | rfl | cases h
/-- a comprehension with one generator -/
def isLcI : E → Bool
  | .lc _ _ _ _ => true
  | _ => false
/-- names of functions -/
def mNm (M : MC) (sc : Scope) : List Str → List Expr → Bool
  | [], [] => true
  | f :: fs, .Name g _ :: l => decide (f = g) && M.fns.contains f && glB sc f && okN f && mNm M sc fs l
  | _, _ => false
def isCon : E → Str → Bool
  | .con (.str x), z => decide (x = z)
  | _, _ => false
mutual
def mE (own : List Str) (M : MC) (sc : Scope) : E → Expr → Bool
  | .var i, e => (match e with
    | .Name x _ => slotB M sc i x
    | _ => false)
  | .ref i, e => (match e with
    | .Name x _ => slotB M sc i x
    | _ => false)
  | .con d, e => (match e with
    | .Constant c _ _ => conOk d c
    | _ => false)
  | .glo x, e => (match e with
    | .Name y _ => decide (x = y) && glB sc x && M.cons.contains x && okN x
    | _ => false)
  | .tup es, e => (match e with
    | .Tuple l _ _ => mEs own M sc es l
    | _ => false)
  | .lst es, e => (match e with
    | .List l _ => mEs own M sc es l
    | _ => false)
  | .bin op a b, e => (match e with
    | .BinOp l o r _ => opB op o && mE own M sc a l && mE own M sc b r
    | _ => false)
  | .neg a, e => (match e with
    | .UnaryOp .USub x _ => mE own M sc a x
    | _ => false)
  | .not a, e => (match e with
    | .UnaryOp .Not x _ => mE own M sc a x
    | _ => false)
  | .cmp op a b, e => (match e with
    | .Compare l [o] [r] _ => coB op o && !behindInMarks o r && mE own M sc a l && mE own M sc b r
    | _ => false)
  | .chain p q a b c, e => (match e with
    | .Compare l [o1, o2] [r1, r2] _ => coB p o1 && coB q o2 && !lastMarks [o1, o2] [r1, r2] && mE own M sc a l && mE own M sc b r1 && mE own M sc c r2
    | _ => false)
  | .and es, e => (match e with
    | .BoolOp .And l _ => mAnd own M sc es l
    | _ => false)
  | .or es, e => (match e with
    | .BoolOp .Or l _ => mAnd own M sc es l
    | _ => false)
  | .ite t a b, e => (match e with
    | .IfExp c x y _ => mT own M sc t c && mE own M sc a x && mE own M sc b y
    | _ => false)
  | .call f es, e => (match e with
    | .Call (.Name g _) l [] _ => decide (f = g) && glB sc f && M.fns.contains f && okN f && mEs own M sc es l && l.all noStar
    | _ => false)
  | .new f es, e => (match e with
    | .Call (.Name g _) l [] _ => decide (f = g) && glB sc f && M.made.contains f && okN f && mEs own M sc es l && l.all noStar && !l.isEmpty
    | _ => false)
  | .prop c p a, e => (match e with
    | .Attribute x q _ => decide (p = q) && M.props.contains (c, p) && attrB x && mE own M sc a x
    | _ => false)
  | .fld c a f, e => (match e with
    | .Attribute x q _ => decide (f = q) && M.flds.contains (c, f) && attrB x && mE own M sc a x
    | _ => false)
  | .bi b es, e => (match e with
    | .Call (.Name g _) l [] _ => decide (g = biN b) && glB sc g && mEs own M sc es l && l.all noStar && !l.isEmpty
    | _ => false)
  | .isi a c, e => (match e with
    | .Call (.Name g _) [x, .Name d _] [] _ => decide (g = "isinstance") && decide (c = d) && glB sc g && glB sc c && okN c && isiB own c && noStar x && mE own M sc a x
    | _ => false)
  | .sub a b, e => (match e with
    | .Subscript x y _ => plainS y && mE own M sc a x && mE own M sc b y
    | _ => false)
  | .sli a lo hi, e => (match e with
    | .Subscript x (.Slice l h none _) _ => mE own M sc a x && mO own M sc lo l && mO own M sc hi h
    | _ => false)
  | .lc elt tg it c, e => (match e with
    | .ListComp el [⟨t, i, ifs, 0⟩] scope _ => blkC M.N sc scope (ownOf M tg) && mTg M (relS scope sc) scope tg t && mI own M sc it t i && noSet i && mOt own M (relS scope sc) c ifs && mE own M (relS scope sc) elt el
    | _ => false)
  | .lc2 elt tg it tg1 it1, e => (match e with
    | .ListComp el [⟨t, i, [], 0⟩, ⟨t1, i1, [], 0⟩] scope _ => blkC M.N sc scope (ownOf M tg ++ ownOf M tg1) && mTg M (relS scope sc) scope tg t && mI own M sc it t i && noSet i && mTg M (relS scope sc) scope tg1 t1 && mI own M (relS scope sc) it1 t1 i1 && noSet i1 && mE own M (relS scope sc) elt el
    | _ => false)
  | .minN es, e => (match e with
    | .Call (.Name g _) l [⟨some q, .Constant .none _ _, _⟩] _ => decide (g = "min") && decide (q = Str.ofString "default") && glB sc g && mEs own M sc es l && l.length == 1
    | _ => false)
  | .itl o, e => (match e with
    | .Call (.Name g _) [.Call (.Attribute x m p2) [] [] p3] [] _ => decide (g = "list") && decide (m = "items") && glB sc g && attrB x && (p2.endLine == p3.line) && mE own M sc o x
    | _ => false)
  | .pick fs a, e => (match e with
    | .Call (.Subscript (.List l _) x _) [] [] _ => mNm M sc fs l && decide (fs.length ≤ 100) && plainS x && mE own M sc a x
    | _ => false)
  | .tupR a, e => (match e with
    | .Call (.Name g _) [.Call (.Name f _) [x] [] _] [] _ => decide (g = "tuple") && decide (f = "range") && glB sc g && glB sc f && noStar x && mE own M sc a x
    | _ => false)
  | .idx o a, e => (match e with
    | .Call (.Attribute x m p2) [y] [] p3 => decide (m = "index") && attrB x && (p2.endLine == p3.line) && noStar y && mE own M sc o x && mE own M sc a y
    | _ => false)
  | .hold _ a, e => isLcI a && mE own M sc a e
  | .dicL a, e => (match e with
    | .Call (.Name g _) [x] [] _ => decide (g = "dict") && glB sc g && noStar x && mE own M sc a x
    | _ => false)
  | .dic0, e => (match e with
    | .Dict [] [] _ => true
    | _ => false)
  | .dic1 a b, e => (match e with
    | .Dict [some x] [y] _ => mE own M sc a x && mE own M sc b y
    | _ => false)
  | .get o a b, e => (match e with
    | .Call (.Attribute x m p2) [y, z] [] p3 => decide (m = "get") && attrB x && (p2.endLine == p3.line) && noStar y && noStar z && mE own M sc o x && mE own M sc a y && mE own M sc b z
    | _ => false)
  | .dc a b tg it, e => (match e with
    | .DictComp x y [⟨t, i, [], 0⟩] scope _ => blkC M.N sc scope (ownOf M tg) && mTg M (relS scope sc) scope tg t && mI own M sc it t i && noSet i && mE own M (relS scope sc) a x && mE own M (relS scope sc) b y
    | _ => false)
  | .ofl c i f, e => (match e with
    | .Attribute (.Name x _) q _ => decide (f = q) && slotB M sc i x && M.flds.contains (c, f)
    | _ => false)
  | .olc c i f, e => (match e with
    | .Call (.Name g _) [.Attribute (.Name x _) q _] [] _ => decide (g = "list") && glB sc g && decide (f = q) && slotB M sc i x && M.flds.contains (c, f)
    | _ => false)
  | .oprop c p i, e => (match e with
    | .Attribute (.Name x _) q _ => decide (p = q) && slotB M sc i x && M.props.contains (c, p)
    | _ => false)
  | .omet c m i es mk, e => (match e with
    | .Call (.Attribute (.Name x _) q p2) l kws p3 => decide (m = q) && slotB M sc i x && M.mets.contains (c, m) && (p2.endLine == p3.line) && (match mk, kws with
      | .pos, [] => (M.kwd.lookup (c ++ "." ++ m)).isNone && mEs own M sc es l && decide (l.length < 20)
      | .dfl, [] => (M.kwd.lookup (c ++ "." ++ m)).isSome && mEs own M sc es l && decide (l.length < 20) && !l.isEmpty
      | .kw y, [⟨some z, b, _⟩] => decide (z = y) && decide (M.kwd.lookup (c ++ "." ++ m) = some y) && mEs own M sc es (l ++ [b]) && l.length == 1
      | _, _ => false)
    | _ => false)
  | .olen c i, e => (match e with
    | .Call (.Name g _) [.Name x _] [] _ => decide (g = "len") && glB sc g && slotB M sc i x && M.lens.contains c
    | _ => false)
  | .opop c i f, e => (match e with
    | .Call (.Attribute (.Attribute (.Name x _) q _) m p2) [] [] p3 => decide (m = "pop") && decide (f = q) && slotB M sc i x && M.flds.contains (c, f) && (p2.endLine == p3.line)
    | _ => false)
  | .lpop i, e => (match e with
    | .Call (.Attribute (.Name x _) m p2) [] [] p3 => decide (m = "pop") && slotB M sc i x && (p2.endLine == p3.line)
    | _ => false)
  | .join y a, e => (match e with
    | .Call (.Attribute (.Constant (.str y') _ _) m p2) [x] [] p3 => decide (m = "join") && decide (y = y') && (p2.endLine == p3.line) && noStar x && mE own M sc a x
    | _ => false)
  | .split a y, e => (match e with
    | .Call (.Attribute x m p2) [.Constant (.str y') _ _] [] p3 => decide (m = "split") && decide (y = y') && attrB x && (p2.endLine == p3.line) && mE own M sc a x
    | _ => false)
  | .rstrip a, e => (match e with
    | .Call (.Attribute x m p2) [] [] p3 => decide (m = "rstrip") && attrB x && (p2.endLine == p3.line) && mE own M sc a x
    | _ => false)
  | .strI a, e => (match e with
    | .Call (.Name g _) [x] [] _ => decide (g = "str") && glB sc g && noStar x && mE own M sc a x
    | _ => false)
  | .fstr es, e => (match e with
    | .JoinedStr l _ => decide (2 ≤ l.length) && mFs own M sc es l
    | _ => false)
  | .lrg1 a, e => (match e with
    | .Call (.Name g _) [.Call (.Name f _) [x] [] _] [] _ => decide (g = "list") && decide (f = "range") && glB sc g && glB sc f && noStar x && mE own M sc a x
    | _ => false)
  | .lrg2 a b, e => (match e with
    | .Call (.Name g _) [.Call (.Name f _) [x, y] [] _] [] _ => decide (g = "list") && decide (f = "range") && glB sc g && glB sc f && noStar x && noStar y && mE own M sc a x && mE own M sc b y
    | _ => false)
  | .fz a, e => (match e with
    | .Call f l ks p => mE own M sc a (.Call f l ks p)
    | _ => false)
  | .lstL es, e => (match e with
    | .List l _ => mEs own M sc es l
    | _ => false)
  | .isiL i m c, e => (match e with
    | .Call (.Name g _) [.Subscript (.Name x _) (.Constant (.int z) _ _) _, .Name d _] [] _ => decide (g = "isinstance") && decide (c = d) && decide (z = (m : Int)) && glB sc g && glB sc c && okN c && (biCls.map (·.1)).contains c && slotB M sc i x
    | _ => false)
  | .pickA fs a es, e => (match e with
    | .Call (.Subscript (.List l _) x _) (y :: r) [] _ => mNm M sc fs l && decide (fs.length ≤ 100) && plainS x && mE own M sc a x && mEs own M sc es (y :: r)
    | _ => false)
/-- the parts of an f-string -/
def mFs (own : List Str) (M : MC) (sc : Scope) : Es → List Expr → Bool
  | .nil, l => l.isEmpty
  | .cons e es, l => (match l with
    | .FormattedValue x c sp _ :: r => decide (c = -1) && sp.isNone && mE own M sc e x && mFs own M sc es r
    | .Constant (.str z) _ _ :: r => isCon e z && mFs own M sc es r
    | _ => false)
def mT (own : List Str) (M : MC) (sc : Scope) : T → Expr → Bool
  | .otr c i f, e => (match e with
    | .Attribute (.Name x _) q _ => decide (f = q) && slotB M sc i x && M.flds.contains (c, f)
    | _ => false)
  | .e a, e => plainT e && mE own M sc a e
  | .cmp op a b, e => (match e with
    | .Compare l [o] [r] _ => coB op o && !behindInMarks o r && mE own M sc a l && mE own M sc b r
    | _ => false)
  | .inR neg a b, e => (match e with
    | .Compare l [o] [.Call (.Name h _) [x] [] _] _ => (match neg, o with
      | false, .In => true
      | true, .NotIn => true
      | _, _ => false) && decide (h = "range") && glB sc h && noStar x && mE own M sc a l && mE own M sc b x
    | _ => false)
  | .chain p q a b c, e => (match e with
    | .Compare l [o1, o2] [r1, r2] _ => coB p o1 && coB q o2 && !lastMarks [o1, o2] [r1, r2] && mE own M sc a l && mE own M sc b r1 && mE own M sc c r2
    | _ => false)
  | .not t, e => (match e with
    | .UnaryOp .Not x _ => mT own M sc t x
    | _ => false)
  | .neL i j, e => (match e with
    | .Compare (.Name x _) [.NotEq] [.Name y _] _ => slotB M sc i x && slotB M sc j y
    | _ => false)
  | .isnL i m, e => (match e with
    | .Compare (.Subscript (.Name x _) (.Constant (.int z) _ _) _) [.IsNot] [.Constant .none _ _] _ => decide (z = (m : Int)) && slotB M sc i x
    | _ => false)
  | .and ts, e => (match e with
    | .BoolOp .And l _ => mTs own M sc ts l
    | _ => false)
  | .or ts, e => (match e with
    | .BoolOp .Or l _ => mTs own M sc ts l
    | _ => false)
def mTs (own : List Str) (M : MC) (sc : Scope) : Ts → List Expr → Bool
  | .nil, _ => false
  | .cons t .nil, l => (match l with
    | [x] => mT own M sc t x
    | _ => false)
  | .cons t ts, l => (match l with
    | x :: r => mT own M sc t x && mTs own M sc ts r
    | _ => false)
def mAnd (own : List Str) (M : MC) (sc : Scope) : Es → List Expr → Bool
  | .nil, _ => false
  | .cons e .nil, l => (match l with
    | [x] => mE own M sc e x
    | _ => false)
  | .cons e es, l => (match l with
    | x :: r => mE own M sc e x && mAnd own M sc es r
    | _ => false)
def mEs (own : List Str) (M : MC) (sc : Scope) : Es → List Expr → Bool
  | .nil, l => l.isEmpty
  | .cons e es, l => (match l with
    | x :: r => noStar x && mE own M sc e x && mEs own M sc es r
    | _ => false)
def mO (own : List Str) (M : MC) (sc : Scope) : Oe → Option Expr → Bool
  | .none, e => e.isNone
  | .some a, e => (match e with
    | some x => mE own M sc a x
    | none => false)
def mOt (own : List Str) (M : MC) (sc : Scope) : Ot → List Expr → Bool
  | .none, l => l.isEmpty
  | .some t, l => (match l with
    | [x] => mT own M sc t x
    | _ => false)
def mI (own : List Str) (M : MC) (sc : Scope) : It → Expr → Expr → Bool
  | .seq a, _, e => mE own M sc a e
  | .rng es, _, e => (match e with
    | .Call (.Name g _) l [] _ => decide (g = "range") && glB sc g && mEs own M sc es l && (l.length == 1 || l.length == 2 || l.length == 3)
    | _ => false)
  | .enm es, t, e => (match e with
    | .Call (.Name g _) l [] _ => isTupT t && decide (g = "enumerate") && glB sc g && mEs own M sc es l && l.length == 1
    | _ => false)
  | .zip es, t, e => (match e with
    | .Call (.Name g _) l [] _ => isTupT t && decide (g = "zip") && glB sc g && mEs own M sc es l && l.length == 2
    | _ => false)
  | .rev a, _, e => (match e with
    | .Call (.Name g _) [.Call (.Name h _) [x] [] _] [] _ => decide (g = "reversed") && decide (h = "range") && glB sc g && glB sc h && noStar x && mE own M sc a x
    | _ => false)
end

section
variable {W : Wd} {M : MC} {cl : Calls} {gl : Str → Option D} {k : Nat}
theorem CxG.blk {X : Cx} {sc : Scope} {Wx : WX} (G : CxG W M cl gl k X sc Wx) (scope : Scope) (s : Shared) (H : Hp) (C : Addr) (cc : List (Str × Addr)) (fp : List Addr) : CxG W M cl gl k (blkOf X scope s H C cc fp) (relS scope sc) noWx where
  prog := G.prog
  w := G.w
  K := G.K
  N := G.N
  nd := G.nd
  sc := by show relS scope X.env.scope = _; rw [G.sc]
  calm := G.calm
  room := G.room
  tk := fun u s' ⟨_, _, _, _, _, _, _, _, _, _, _, _, _, _, _, _, z⟩ => z.elim
  pw := PassesOwn.never
  free := G.free
  fn := G.fn
  con := G.con
  cls := G.cls
  kit := G.kit
  kitO := G.kitO
  fld := G.fld
  prop := G.prop
  made := G.made
  eq := G.eq
  dic := G.dic
  exc := G.exc
  exi := G.exi
  exm := G.exm
  exb := G.exb
  exC := G.exC
  met := G.met
  len := G.len
theorem mEs_star : ∀ {es : Es} {l : List Expr} {own : List Str} {sc : Scope}, mEs own M sc es l = true → l.all noStar = true ∧ esLen es = l.length
  | .nil, l, _, _, h => by simp only [mEs] at h; cases l <;> first | exact ⟨rfl, rfl⟩ | cases h
  | .cons e es, l, _, _, h => by
    simp only [mEs] at h
    split at h
    · simp only [Bool.and_eq_true] at h
      obtain ⟨h1, h2⟩ := mEs_star h.2
      exact ⟨by simp [h.1.1, h1], by simp [esLen, h2]⟩
    · cases h
theorem pgs_of {X : Cx} {sc orig : Scope} (hN : X.N = M.N) (nd : M.N.Nodup) (hs : X.env.scope = sc) (hfn : ∀ x, orig.names.lookup x = some .cell → X.fn x = true) : ∀ {is : List Nat} {es : List Expr}, mNames M sc orig is es = true → PGs X es (gNames is)
  | [], [], _ => pgs_nil
  | [], _ :: _, h => by simp [mNames] at h
  | _ :: _, [], h => by simp [mNames] at h
  | i :: is, e :: es, h => by
    cases e <;> simp only [mNames] at h <;> try (cases h)
    next x p =>
      simp only [Bool.and_eq_true] at h
      obtain ⟨h1, h2⟩ := h
      unfold locB at h1
      simp only [Bool.and_eq_true, decide_eq_true_eq] at h1
      obtain ⟨h1, h3⟩ := h1
      refine pgs_cons (pg_name (i := i) (by rw [hN]; exact nd) (by rw [hN]; exact h1) ?_ ?_) (pgs_of hN nd hs hfn h2)
      · rw [hs]
        split at h3
        · next e => exact .inl e
        · next e => exact .inr e
        · cases h3
      · rw [hs]
        split at h3
        · next e => exact .inr e
        · next e =>
          split at h3
          · next e2 => exact .inl (hfn x e2)
          · cases h3
        · cases h3
theorem asg_len {sc orig : Scope} {env : Env} : ∀ {is : List Nat} {es : List Expr}, mNames M sc orig is es = true → (assignEach es env).length = is.length ∧ (assignEach es env).findIdx? (·.1) = none
  | [], [], _ => ⟨rfl, rfl⟩
  | [], _ :: _, h => by simp [mNames] at h
  | _ :: _, [], h => by simp [mNames] at h
  | i :: is, e :: es, h => by
    cases e <;> simp only [mNames] at h <;> try (cases h)
    next x p =>
      simp only [Bool.and_eq_true] at h
      obtain ⟨h1, h2⟩ := asg_len (env := env) h.2
      have e1 : assignEach (.Name x p :: es) env = (false, assign (.Name x p) env) :: assignEach es env := rfl
      rw [e1]
      exact ⟨by simp [h1], by rw [List.findIdx?_cons]; simp [h2]⟩
theorem pg_of {X : Cx} {sc orig : Scope} (hc : X.calm = true) (hN : X.N = M.N) (nd : M.N.Nodup) (hs : X.env.scope = sc) (hfn : ∀ x, orig.names.lookup x = some .cell → X.fn x = true) {tg : Tg} {e : Expr} (h : mTg M sc orig tg e = true) : PG X e (gOf X.K tg) := by
  cases tg with
  | one i =>
    cases e <;> simp only [mTg] at h <;> try (cases h)
    next x p =>
      have hh : mNames M sc orig [i] [.Name x p] = true := by simp [mNames, h]
      unfold locB at h
      simp only [Bool.and_eq_true, decide_eq_true_eq] at h
      obtain ⟨h1, h3⟩ := h
      refine pg_name (i := i) (by rw [hN]; exact nd) (by rw [hN]; exact h1) ?_ ?_
      · rw [hs]
        split at h3
        · next e => exact .inl e
        · next e => exact .inr e
        · cases h3
      · rw [hs]
        split at h3
        · next e => exact .inr e
        · next e =>
          split at h3
          · next e2 => exact .inl (hfn x e2)
          · cases h3
        · cases h3
  | many is =>
    cases e <;> simp only [mTg] at h <;> try (cases h)
    next es n p =>
      obtain ⟨h1, h2⟩ := asg_len (env := X.env) h
      exact pg_seq hc (pgs_of hN nd hs hfn h) h1 h2
theorem snd_at {X : Cx} {sc : Scope} {Wx : WX} (G : CxG W M cl gl k X sc Wx) {i : Nat} {x : Str} (h : slotB M sc i x = true) : X.N[i]? = some x ∧ Vis X.env.scope x ∧ (x == ("__debug__" : Str)) = false ∧ (x == ("__classdict__" : Str)) = false := by
  unfold slotB at h
  simp only [Bool.and_eq_true, decide_eq_true_eq] at h
  obtain ⟨⟨h1, h2⟩, h3⟩ := h
  obtain ⟨h4, h5, _⟩ := okN_ok h3
  exact ⟨by rw [G.N]; exact h1, by rw [G.sc]; exact visB_ok h2, h4, h5⟩
theorem mem_of {α : Type} [BEq α] [LawfulBEq α] {x : α} {l : List α} (h : l.contains x = true) : x ∈ l := by simpa using h
theorem mNm_ok {W : Wd} {M : MC} {cl : Calls} {gl : Str → Option D} {k : Nat} {X : Cx} {sc : Scope} {Wx : WX} (G : CxG W M cl gl k X sc Wx) : ∀ {fs : List Str} {l : List Expr}, mNm M sc fs l = true → NamesOk X M fs l
  | [], [], _ => trivial
  | [], _ :: _, h => by simp [mNm] at h
  | _ :: _, [], h => by simp [mNm] at h
  | f :: fs, e :: l, h => by
    cases e with
    | Name g p =>
      simp only [mNm, Bool.and_eq_true, decide_eq_true_eq] at h
      obtain ⟨⟨⟨⟨rfl, h2⟩, h3⟩, h4⟩, h5⟩ := h
      exact ⟨rfl, mem_of h2, glB_ok G.sc h3, (okN_ok h4).1, mNm_ok G h5⟩
    | _ => simp [mNm] at h

mutual
theorem sndE : ∀ (ie : E) {X : Cx} {sc : Scope} {Wx : WX} (_ : CxG W M cl gl k X sc Wx) {e : Expr}, mE W.own M sc ie e = true → SndE W cl gl X Wx e ie
  | .var i, X, sc, Wx, G, e, h => by
    simp only [mE] at h
    split at h
    · obtain ⟨h1, h2, h3, h4⟩ := snd_at G h
      exact snd_var h1 h2 h3 h4
    · cases h
  | .ref i, X, sc, Wx, G, e, h => by
    simp only [mE] at h
    split at h
    · obtain ⟨h1, h2, h3, h4⟩ := snd_at G h
      exact snd_ref h1 h2 h3 h4
    · cases h
  | .con d, X, sc, Wx, G, e, h => by
    simp only [mE] at h
    split at h
    · exact snd_con h
    · cases h
  | .glo x, X, sc, Wx, G, e, h => by
    simp only [mE] at h
    split at h
    · simp only [Bool.and_eq_true, decide_eq_true_eq] at h
      obtain ⟨⟨⟨rfl, h2⟩, h3⟩, h4⟩ := h
      exact snd_glo G (mem_of h3) (glB_ok G.sc h2) (okN_ok h4).1
    · cases h
  | .tup es, X, sc, Wx, G, e, h => by
    simp only [mE] at h
    split at h
    · exact snd_tup (sndEs es G h)
    · cases h
  | .lst es, X, sc, Wx, G, e, h => by
    simp only [mE] at h
    split at h
    · exact snd_lst (sndEs es G h)
    · cases h
  | .bin op a b, X, sc, Wx, G, e, h => by
    simp only [mE] at h
    split at h
    · simp only [Bool.and_eq_true] at h
      obtain ⟨⟨h1, h2⟩, h3⟩ := h
      rw [opB_ok h1]
      exact snd_bin G (sndE a G h2) (sndE b G h3)
    · cases h
  | .neg a, X, sc, Wx, G, e, h => by
    simp only [mE] at h
    split at h
    · exact snd_neg (sndE a G h)
    · cases h
  | .not a, X, sc, Wx, G, e, h => by
    simp only [mE] at h
    split at h
    · exact snd_not (sndE a G h)
    · cases h
  | .cmp op a b, X, sc, Wx, G, e, h => by
    simp only [mE] at h
    split at h
    · simp only [Bool.and_eq_true, Bool.not_eq_true'] at h
      obtain ⟨⟨⟨h1, h2⟩, h3⟩, h4⟩ := h
      have e1 := coB_ok h1
      subst e1
      exact snd_cmp G h2 (sndE a G h3) (sndE b G h4)
    · cases h
  | .chain p q a b c, X, sc, Wx, G, e, h => by
    simp only [mE] at h
    split at h
    · simp only [Bool.and_eq_true, Bool.not_eq_true'] at h
      obtain ⟨⟨⟨⟨⟨h1, h2⟩, h3⟩, h4⟩, h5⟩, h6⟩ := h
      have e1 := coB_ok h1
      have e2 := coB_ok h2
      subst e1 e2
      exact snd_chain h3 (sndE a G h4) (sndE b G h5) (sndE c G h6)
    · cases h
  | .and es, X, sc, Wx, G, e, h => by
    simp only [mE] at h
    split at h
    · exact sndAnd es G h
    · cases h
  | .or es, X, sc, Wx, G, e, h => by
    simp only [mE] at h
    split at h
    · exact sndOr es G h
    · cases h
  | .ite t a b, X, sc, Wx, G, e, h => by
    simp only [mE] at h
    split at h
    · simp only [Bool.and_eq_true] at h
      obtain ⟨⟨h1, h2⟩, h3⟩ := h
      exact snd_ite (sndT t G h1) (sndE a G h2) (sndE b G h3)
    · cases h
  | .call f es, X, sc, Wx, G, e, h => by
    simp only [mE] at h
    split at h
    · next g p l q =>
      simp only [Bool.and_eq_true, decide_eq_true_eq] at h
      obtain ⟨⟨⟨⟨⟨rfl, h2⟩, h3⟩, h4⟩, h5⟩, h6⟩ := h
      cases l with
      | nil =>
        cases es with
        | nil => exact snd_call0 G (mem_of h3) (glB_ok G.sc h2) (okN_ok h4).1
        | cons _ _ => simp [mEs] at h5
      | cons x l => exact snd_call G (mem_of h3) (glB_ok G.sc h2) (okN_ok h4).1 h6 (sndAs es G h5)
    · cases h
  | .new f es, X, sc, Wx, G, e, h => by
    simp only [mE] at h
    split at h
    · next g p l q =>
      simp only [Bool.and_eq_true, decide_eq_true_eq] at h
      obtain ⟨⟨⟨⟨⟨⟨rfl, h2⟩, h3⟩, h4⟩, h5⟩, h6⟩, h7⟩ := h
      cases l with
      | nil => simp at h7
      | cons x l => exact snd_new G (mem_of h3) (glB_ok G.sc h2) (okN_ok h4).1 h6 (sndEs es G h5)
    · cases h
  | .prop c p a, X, sc, Wx, G, e, h => by
    simp only [mE] at h
    split at h
    · simp only [Bool.and_eq_true, decide_eq_true_eq] at h
      obtain ⟨⟨⟨rfl, h2⟩, h3⟩, h4⟩ := h
      exact snd_prop G (mem_of h2) h3 (sndE a G h4)
    · cases h
  | .fld c a f, X, sc, Wx, G, e, h => by
    simp only [mE] at h
    split at h
    · simp only [Bool.and_eq_true, decide_eq_true_eq] at h
      obtain ⟨⟨⟨rfl, h2⟩, h3⟩, h4⟩ := h
      exact snd_fld G (mem_of h2) h3 (sndE a G h4)
    · cases h
  | .bi b es, X, sc, Wx, G, e, h => by
    simp only [mE] at h
    split at h
    · next g p l q =>
      simp only [Bool.and_eq_true, decide_eq_true_eq] at h
      obtain ⟨⟨⟨⟨rfl, h2⟩, h3⟩, h4⟩, h5⟩ := h
      cases l with
      | nil => simp at h5
      | cons x l => exact snd_bi G (glB_ok G.sc h2) h4 (sndRs es G h3)
    · cases h
  | .isi a c, X, sc, Wx, G, e, h => by
    simp only [mE] at h
    split at h
    · simp only [Bool.and_eq_true, decide_eq_true_eq] at h
      obtain ⟨⟨⟨⟨⟨⟨⟨rfl, rfl⟩, h2⟩, h3⟩, h4⟩, h5⟩, h6⟩, h7⟩ := h
      obtain ⟨d1, d2, d3⟩ := okN_ok h4
      unfold isiB at h5
      rw [Bool.or_eq_true] at h5
      rcases h5 with h5 | h5
      · have hm := mem_of h5
        simp only [biCls, List.map_cons, List.map_nil, List.mem_cons, List.not_mem_nil, or_false] at hm
        rcases hm with rfl | rfl | rfl | rfl | rfl
        · exact snd_isiB G (t := "int") (by decide) (by decide +kernel) (glB_ok G.sc h2) (glB_ok G.sc h3) d3 d1 h6 (by decide) (sndE a G h7)
        · exact snd_isiB G (t := "bool") (by decide) (by decide +kernel) (glB_ok G.sc h2) (glB_ok G.sc h3) d3 d1 h6 (by decide) (sndE a G h7)
        · exact snd_isiB G (t := "str") (by decide) (by decide +kernel) (glB_ok G.sc h2) (glB_ok G.sc h3) d3 d1 h6 (by decide) (sndE a G h7)
        · exact snd_isiB G (t := "tuple") (by decide) (by decide +kernel) (glB_ok G.sc h2) (glB_ok G.sc h3) d3 d1 h6 (by decide) (sndE a G h7)
        · exact snd_isiB G (t := "list") (by decide) (by decide +kernel) (glB_ok G.sc h2) (glB_ok G.sc h3) d3 d1 h6 (by decide) (sndE a G h7)
      · exact snd_isiO G (mem_of h5) (glB_ok G.sc h2) (glB_ok G.sc h3) d1 h6 (sndE a G h7)
    · cases h
  | .sub a b, X, sc, Wx, G, e, h => by
    simp only [mE] at h
    split at h
    · simp only [Bool.and_eq_true] at h
      obtain ⟨⟨h1, h2⟩, h3⟩ := h
      exact snd_sub G h1 (sndE a G h2) (sndE b G h3)
    · cases h
  | .sli a lo hi, X, sc, Wx, G, e, h => by
    simp only [mE] at h
    split at h
    · simp only [Bool.and_eq_true] at h
      obtain ⟨⟨h1, h2⟩, h3⟩ := h
      exact snd_sli G (sndE a G h1) (sndO lo G h2) (sndO hi G h3)
    · cases h
  | .lc elt tg it c, X, sc, Wx, G, e, h => by
    simp only [mE] at h
    split at h
    · next el t i ifs scope p =>
      simp only [Bool.and_eq_true] at h
      obtain ⟨⟨⟨⟨⟨h1, h2⟩, h3⟩, h4⟩, h5⟩, h6⟩ := h
      refine snd_lc (own := ownOf M tg) G (by rw [G.N, G.sc]; exact blkOk_by h1) (by simp [ownOf, Function.comp_def]) (sndI it G h3) (fun s H C cc fp => ?_) (fun s H C cc fp => sndOt c (G.blk scope s H C cc fp) h5) (fun s H C cc fp => sndE elt (G.blk scope s H C cc fp) h6) (noSet_ok h4)
      have G' := G.blk scope s H C cc fp
      exact pg_of (orig := scope) G'.calm G'.N G'.nd G'.sc (fun x hx => by show (scope.names.lookup x == some .cell) = true; rw [hx]; rfl) h2
    · cases h
  | .lc2 elt tg it tg1 it1, X, sc, Wx, G, e, h => by
    simp only [mE] at h
    split at h
    · next el t i t1 i1 scope p =>
      simp only [Bool.and_eq_true] at h
      obtain ⟨⟨⟨⟨⟨⟨⟨h1, h2⟩, h3⟩, h4⟩, h5⟩, h6⟩, h7⟩, h8⟩ := h
      refine snd_lc2 (own := ownOf M tg ++ ownOf M tg1) G (by rw [G.N, G.sc]; exact blkOk_by h1) (by simp [ownOf, Function.comp_def]) (sndI it G h3) (fun s H C cc fp => ?_) (fun s H C cc fp => sndI it1 (G.blk scope s H C cc fp) h6) (fun s H C cc fp => ?_) (fun s H C cc fp => sndE elt (G.blk scope s H C cc fp) h8) (noSet_ok h4) (fun env => noSet_ok h7)
      · have G' := G.blk scope s H C cc fp
        exact pg_of (orig := scope) G'.calm G'.N G'.nd G'.sc (fun x hx => by show (scope.names.lookup x == some .cell) = true; rw [hx]; rfl) h2
      · have G' := G.blk scope s H C cc fp
        exact pg_of (orig := scope) G'.calm G'.N G'.nd G'.sc (fun x hx => by show (scope.names.lookup x == some .cell) = true; rw [hx]; rfl) h5
    · cases h
  | .minN es, X, sc, Wx, G, e, h => by
    simp only [mE] at h
    split at h
    · next g p l q jj cp kp pos =>
      simp only [Bool.and_eq_true, decide_eq_true_eq] at h
      obtain ⟨⟨⟨⟨rfl, rfl⟩, h2⟩, h3⟩, h4⟩ := h
      obtain ⟨s1, s2⟩ := mEs_star h3
      match l, h4, h3, s1 with
      | [a], _, h3, s1 => exact snd_minN G (glB_ok G.sc h2) (by simpa using s1) (sndRs es G h3)
      | [], h4, _, _ => simp at h4
      | _ :: _ :: _, h4, _, _ => simp at h4
    · cases h
  | .itl o, X, sc, Wx, G, e, h => by
    simp only [mE] at h
    split at h
    · simp only [Bool.and_eq_true, decide_eq_true_eq] at h
      obtain ⟨⟨⟨⟨⟨rfl, rfl⟩, h2⟩, h3⟩, h4⟩, h5⟩ := h
      exact snd_itl G (glB_ok G.sc h2) h3 h4 (sndE o G h5)
    · cases h
  | .pick fs a, X, sc, Wx, G, e, h => by
    simp only [mE] at h
    split at h
    · simp only [Bool.and_eq_true, decide_eq_true_eq] at h
      obtain ⟨⟨⟨h1, h2⟩, h3⟩, h4⟩ := h
      exact snd_pick G (mNm_ok G h1) h2 h3 (sndE a G h4)
    · cases h
  | .fz a, X, sc, Wx, G, e, h => by
    simp only [mE] at h
    split at h
    · exact snd_fz (sndE a G h)
    · cases h
  | .lstL es, X, sc, Wx, G, e, h => by
    simp only [mE] at h
    split at h
    · exact snd_lstL (sndRs es G h)
    · cases h
  | .isiL i m c, X, sc, Wx, G, e, h => by
    simp only [mE] at h
    split at h
    · simp only [Bool.and_eq_true, decide_eq_true_eq] at h
      obtain ⟨⟨⟨⟨⟨⟨⟨rfl, rfl⟩, rfl⟩, h2⟩, h3⟩, h4⟩, h5⟩, h6⟩ := h
      obtain ⟨d1, d2, d3⟩ := okN_ok h4
      obtain ⟨e1, e2, e3, e4⟩ := snd_at G h6
      have hm := mem_of h5
      simp only [biCls, List.map_cons, List.map_nil, List.mem_cons, List.not_mem_nil, or_false] at hm
      rcases hm with rfl | rfl | rfl | rfl | rfl
      · exact snd_isiLB G (t := "int") e1 e2 e3 e4 (by decide) (by decide +kernel) (glB_ok G.sc h2) (glB_ok G.sc h3) d3 d1 (by decide)
      · exact snd_isiLB G (t := "bool") e1 e2 e3 e4 (by decide) (by decide +kernel) (glB_ok G.sc h2) (glB_ok G.sc h3) d3 d1 (by decide)
      · exact snd_isiLB G (t := "str") e1 e2 e3 e4 (by decide) (by decide +kernel) (glB_ok G.sc h2) (glB_ok G.sc h3) d3 d1 (by decide)
      · exact snd_isiLB G (t := "tuple") e1 e2 e3 e4 (by decide) (by decide +kernel) (glB_ok G.sc h2) (glB_ok G.sc h3) d3 d1 (by decide)
      · exact snd_isiLB G (t := "list") e1 e2 e3 e4 (by decide) (by decide +kernel) (glB_ok G.sc h2) (glB_ok G.sc h3) d3 d1 (by decide)
    · cases h
  | .pickA fs a es, X, sc, Wx, G, e, h => by
    simp only [mE] at h
    split at h
    · simp only [Bool.and_eq_true, decide_eq_true_eq] at h
      obtain ⟨⟨⟨⟨h1, h2⟩, h3⟩, h4⟩, h5⟩ := h
      exact snd_pickA G (mNm_ok G h1) h2 h3 (sndE a G h4) (mEs_star h5).1 (sndAs es G h5)
    · cases h
  | .tupR a, X, sc, Wx, G, e, h => by
    simp only [mE] at h
    split at h
    · simp only [Bool.and_eq_true, decide_eq_true_eq] at h
      obtain ⟨⟨⟨⟨⟨rfl, rfl⟩, h2⟩, h3⟩, h4⟩, h5⟩ := h
      exact snd_tupR G (glB_ok G.sc h2) (glB_ok G.sc h3) h4 (sndE a G h5)
    · cases h
  | .idx o a, X, sc, Wx, G, e, h => by
    simp only [mE] at h
    split at h
    · simp only [Bool.and_eq_true, decide_eq_true_eq] at h
      obtain ⟨⟨⟨⟨⟨rfl, h2⟩, h3⟩, h4⟩, h6⟩, h7⟩ := h
      exact snd_idx G h2 h3 h4 (sndE o G h6) (sndE a G h7)
    · cases h
  | .hold i a, X, sc, Wx, G, e, h => by
    simp only [mE, Bool.and_eq_true] at h
    exact snd_hold (sndE a G h.2)
  | .dicL a, X, sc, Wx, G, e, h => by
    simp only [mE] at h
    split at h
    · simp only [Bool.and_eq_true, decide_eq_true_eq] at h
      obtain ⟨⟨⟨rfl, h2⟩, h3⟩, h4⟩ := h
      exact snd_dicL G (glB_ok G.sc h2) h3 (sndE a G h4)
    · cases h
  | .dic0, X, sc, Wx, G, e, h => by
    simp only [mE] at h
    split at h
    · exact snd_dic0 G
    · cases h
  | .dic1 a b, X, sc, Wx, G, e, h => by
    simp only [mE] at h
    split at h
    · simp only [Bool.and_eq_true] at h
      exact snd_dic1 G (sndE a G h.1) (sndE b G h.2)
    · cases h
  | .get o a b, X, sc, Wx, G, e, h => by
    simp only [mE] at h
    split at h
    · simp only [Bool.and_eq_true, decide_eq_true_eq] at h
      obtain ⟨⟨⟨⟨⟨⟨⟨rfl, h2⟩, h3⟩, h4⟩, h5⟩, h6⟩, h7⟩, h8⟩ := h
      exact snd_get G h2 h3 h4 h5 (sndE o G h6) (sndE a G h7) (sndE b G h8)
    · cases h
  | .dc a b tg it, X, sc, Wx, G, e, h => by
    simp only [mE] at h
    split at h
    · next x y t i scope p =>
      simp only [Bool.and_eq_true] at h
      obtain ⟨⟨⟨⟨⟨h1, h2⟩, h3⟩, h4⟩, h5⟩, h6⟩ := h
      refine snd_dc (own := ownOf M tg) G (by rw [G.N, G.sc]; exact blkOk_by h1) (by simp [ownOf, Function.comp_def]) (sndI it G h3) (fun s H C cc fp => ?_) (fun s H C cc fp => sndE a (G.blk scope s H C cc fp) h5) (fun s H C cc fp => sndE b (G.blk scope s H C cc fp) h6) (noSet_ok h4)
      have G' := G.blk scope s H C cc fp
      exact pg_of (orig := scope) G'.calm G'.N G'.nd G'.sc (fun x hx => by show (scope.names.lookup x == some .cell) = true; rw [hx]; rfl) h2
    · cases h
  | .ofl c i f, X, sc, Wx, G, e, h => by
    simp only [mE] at h
    split at h
    · simp only [Bool.and_eq_true, decide_eq_true_eq] at h
      obtain ⟨⟨rfl, h2⟩, h3⟩ := h
      obtain ⟨a1, a2, a3, a4⟩ := snd_at G h2
      exact snd_ofl G (mem_of h3) a1 a2 a3 a4
    · cases h
  | .olc c i f, X, sc, Wx, G, e, h => by
    simp only [mE] at h
    split at h
    · simp only [Bool.and_eq_true, decide_eq_true_eq] at h
      obtain ⟨⟨⟨⟨rfl, h1⟩, rfl⟩, h2⟩, h3⟩ := h
      obtain ⟨a1, a2, a3, a4⟩ := snd_at G h2
      exact snd_olc G (glB_ok G.sc h1) (mem_of h3) a1 a2 a3 a4
    · cases h
  | .oprop c p i, X, sc, Wx, G, e, h => by
    simp only [mE] at h
    split at h
    · simp only [Bool.and_eq_true, decide_eq_true_eq] at h
      obtain ⟨⟨rfl, h2⟩, h3⟩ := h
      obtain ⟨a1, a2, a3, a4⟩ := snd_at G h2
      exact snd_oprop G (mem_of h3) a1 a2 a3 a4
    · cases h
  | .omet c m i es mk, X, sc, Wx, G, e, h => by
    simp only [mE] at h
    split at h
    · next x q1 q p2 l kws p3 =>
      simp only [Bool.and_eq_true, decide_eq_true_eq] at h
      obtain ⟨⟨⟨⟨rfl, h2⟩, h3⟩, h4⟩, h5⟩ := h
      obtain ⟨a1, a2, a3, a4⟩ := snd_at G h2
      split at h5
      · simp only [Bool.and_eq_true, decide_eq_true_eq, Option.isNone_iff_eq_none] at h5
        obtain ⟨⟨k1, k2⟩, k3⟩ := h5
        cases l with
        | nil =>
          cases es with
          | nil => exact snd_omet0 G h4 (mem_of h3) k1 a1 a2 a3 a4
          | cons _ _ => simp [mEs] at k2
        | cons y l => exact snd_omet1 G h4 (.inl ⟨rfl, k1⟩) (mem_of h3) a1 a2 a3 a4 (mEs_star k2).1 k3 (sndEs es G k2)
      · simp only [Bool.and_eq_true, decide_eq_true_eq, Option.isSome_iff_exists] at h5
        obtain ⟨⟨⟨k1, k2⟩, k3⟩, k4⟩ := h5
        cases l with
        | nil => simp at k4
        | cons y l => exact snd_omet1 G h4 (.inr ⟨rfl, k1⟩) (mem_of h3) a1 a2 a3 a4 (mEs_star k2).1 k3 (sndEs es G k2)
      · simp only [Bool.and_eq_true, decide_eq_true_eq] at h5
        obtain ⟨⟨⟨rfl, k1⟩, k2⟩, k3⟩ := h5
        match l, es, k2, k3 with
        | [a], .cons ia (.cons ib .nil), k2, _ =>
          simp only [mEs, List.cons_append, List.nil_append, Bool.and_eq_true] at k2
          exact snd_ometK G h4 k1 (mem_of h3) a1 a2 a3 a4 k2.1.1 (sndE ia G k2.1.2) (sndE ib G k2.2.1.2)
        | [a], .nil, k2, _ => simp [mEs] at k2
        | [a], .cons ia .nil, k2, _ => simp [mEs] at k2
        | [a], .cons ia (.cons ib (.cons ic es)), k2, _ => simp [mEs] at k2
        | [], _, _, k3 => simp at k3
        | _ :: _ :: _, _, _, k3 => simp at k3
      · cases h5
    · cases h
  | .olen c i, X, sc, Wx, G, e, h => by
    simp only [mE] at h
    split at h
    · simp only [Bool.and_eq_true, decide_eq_true_eq] at h
      obtain ⟨⟨⟨rfl, h1⟩, h2⟩, h3⟩ := h
      obtain ⟨a1, a2, a3, a4⟩ := snd_at G h2
      exact snd_olen G (glB_ok G.sc h1) (mem_of h3) a1 a2 a3 a4
    · cases h
  | .opop c i f, X, sc, Wx, G, e, h => by
    simp only [mE] at h
    split at h
    · simp only [Bool.and_eq_true, decide_eq_true_eq] at h
      obtain ⟨⟨⟨⟨rfl, rfl⟩, h2⟩, h3⟩, h4⟩ := h
      obtain ⟨a1, a2, a3, a4⟩ := snd_at G h2
      exact snd_opop G (mem_of h3) a1 a2 a3 a4 h4
    · cases h
  | .lpop i, X, sc, Wx, G, e, h => by
    simp only [mE] at h
    split at h
    · simp only [Bool.and_eq_true, decide_eq_true_eq] at h
      obtain ⟨⟨rfl, h2⟩, h4⟩ := h
      obtain ⟨a1, a2, a3, a4⟩ := snd_at G h2
      exact snd_lpop a1 a2 a3 a4 h4
    · cases h
  | .join y a, X, sc, Wx, G, e, h => by
    simp only [mE] at h
    split at h
    · simp only [Bool.and_eq_true, decide_eq_true_eq] at h
      obtain ⟨⟨⟨⟨rfl, rfl⟩, h3⟩, h4⟩, h5⟩ := h
      exact snd_join h4 h3 (sndE a G h5) G
    · cases h
  | .split a y, X, sc, Wx, G, e, h => by
    simp only [mE] at h
    split at h
    · simp only [Bool.and_eq_true, decide_eq_true_eq] at h
      obtain ⟨⟨⟨⟨rfl, rfl⟩, h3⟩, h4⟩, h5⟩ := h
      exact snd_split h3 h4 (sndE a G h5)
    · cases h
  | .rstrip a, X, sc, Wx, G, e, h => by
    simp only [mE] at h
    split at h
    · simp only [Bool.and_eq_true, decide_eq_true_eq] at h
      obtain ⟨⟨⟨rfl, h3⟩, h4⟩, h5⟩ := h
      exact snd_rstrip h3 h4 (sndE a G h5)
    · cases h
  | .strI a, X, sc, Wx, G, e, h => by
    simp only [mE] at h
    split at h
    · simp only [Bool.and_eq_true, decide_eq_true_eq] at h
      obtain ⟨⟨⟨rfl, h3⟩, h4⟩, h5⟩ := h
      exact snd_strI G (glB_ok G.sc h3) h4 (sndE a G h5)
    · cases h
  | .fstr es, X, sc, Wx, G, e, h => by
    simp only [mE] at h
    split at h
    · next l p =>
      simp only [Bool.and_eq_true, decide_eq_true_eq] at h
      obtain ⟨h1, h2⟩ := h
      obtain ⟨q1, q2⟩ := sndJ es G h2
      match l, h1, q1, q2 with
      | [], h1, _, _ => simp at h1
      | [_], h1, _, _ => simp at h1
      | v1 :: v2 :: rest, _, q1, q2 => exact snd_fstr q1 q2
    · cases h
  | .lrg1 a, X, sc, Wx, G, e, h => by
    simp only [mE] at h
    split at h
    · simp only [Bool.and_eq_true, decide_eq_true_eq] at h
      obtain ⟨⟨⟨⟨⟨rfl, rfl⟩, h2⟩, h3⟩, h4⟩, h5⟩ := h
      exact snd_lrg1 G (glB_ok G.sc h2) (glB_ok G.sc h3) h4 (sndE a G h5)
    · cases h
  | .lrg2 a b, X, sc, Wx, G, e, h => by
    simp only [mE] at h
    split at h
    · simp only [Bool.and_eq_true, decide_eq_true_eq] at h
      obtain ⟨⟨⟨⟨⟨⟨⟨rfl, rfl⟩, h2⟩, h3⟩, h4⟩, h4'⟩, h5⟩, h6⟩ := h
      exact snd_lrg2 G (glB_ok G.sc h2) (glB_ok G.sc h3) h4 h4' (sndE a G h5) (sndE b G h6)
    · cases h
theorem sndJ : ∀ (es : Es) {X : Cx} {sc : Scope} {Wx : WX} (_ : CxG W M cl gl k X sc Wx) {l : List Expr}, mFs W.own M sc es l = true → l.all partB = true ∧ SndJ W cl gl X Wx l es
  | .nil, X, sc, Wx, G, l, h => by
    simp only [mFs] at h
    cases l with
    | nil => exact ⟨rfl, snd_j0⟩
    | cons _ _ => cases h
  | .cons e es, X, sc, Wx, G, l, h => by
    simp only [mFs] at h
    split at h
    · next x c sp p r =>
      simp only [Bool.and_eq_true, decide_eq_true_eq, Option.isNone_iff_eq_none] at h
      obtain ⟨⟨⟨rfl, rfl⟩, h3⟩, h4⟩ := h
      obtain ⟨q1, q2⟩ := sndJ es G h4
      exact ⟨by simp [partB, q1], snd_jF (sndE e G h3) q2⟩
    · next z _ _ r =>
      simp only [Bool.and_eq_true] at h
      obtain ⟨h3, h4⟩ := h
      obtain ⟨q1, q2⟩ := sndJ es G h4
      unfold isCon at h3
      split at h3
      · have := of_decide_eq_true h3
        subst this
        exact ⟨by simp [partB, q1], snd_jC q2⟩
      · cases h3
    · cases h
theorem sndT : ∀ (it : T) {X : Cx} {sc : Scope} {Wx : WX} (_ : CxG W M cl gl k X sc Wx) {e : Expr}, mT W.own M sc it e = true → SndT W cl gl X Wx e it
  | .e a, X, sc, Wx, G, e, h => by
    simp only [mT, Bool.and_eq_true] at h
    exact snd_tru G h.1 (sndE a G h.2)
  | .otr c i f, X, sc, Wx, G, e, h => by
    simp only [mT] at h
    split at h
    · simp only [Bool.and_eq_true, decide_eq_true_eq] at h
      obtain ⟨⟨rfl, h2⟩, h3⟩ := h
      obtain ⟨a1, a2, a3, a4⟩ := snd_at G h2
      exact snd_otr G (mem_of h3) a1 a2 a3 a4
    · cases h
  | .neL i j, X, sc, Wx, G, e, h => by
    simp only [mT] at h
    split at h
    · simp only [Bool.and_eq_true] at h
      obtain ⟨e1, e2, e3, e4⟩ := snd_at G h.1
      obtain ⟨f1, f2, f3, f4⟩ := snd_at G h.2
      exact snd_neL G e1 e2 e3 e4 f1 f2 f3 f4
    · cases h
  | .isnL i m, X, sc, Wx, G, e, h => by
    simp only [mT] at h
    split at h
    · simp only [Bool.and_eq_true, decide_eq_true_eq] at h
      obtain ⟨rfl, h2⟩ := h
      obtain ⟨e1, e2, e3, e4⟩ := snd_at G h2
      exact snd_isnL G e1 e2 e3 e4
    · cases h
  | .cmp op a b, X, sc, Wx, G, e, h => by
    simp only [mT] at h
    split at h
    · simp only [Bool.and_eq_true, Bool.not_eq_true'] at h
      obtain ⟨⟨⟨h1, h2⟩, h3⟩, h4⟩ := h
      have e1 := coB_ok h1
      subst e1
      exact snd_cmpT G h2 (sndE a G h3) (sndE b G h4)
    · cases h
  | .inR neg a b, X, sc, Wx, G, e, h => by
    simp only [mT] at h
    split at h
    · simp only [Bool.and_eq_true, decide_eq_true_eq] at h
      obtain ⟨⟨⟨⟨⟨h1, h2⟩, h3⟩, h4⟩, h5⟩, h6⟩ := h
      subst h2
      refine snd_inR G ?_ (glB_ok G.sc h3) h4 (sndE a G h5) (sndE b G h6)
      split at h1
      · exact .inl ⟨rfl, rfl⟩
      · exact .inr ⟨rfl, rfl⟩
      · cases h1
    · cases h
  | .chain p q a b c, X, sc, Wx, G, e, h => by
    simp only [mT] at h
    split at h
    · simp only [Bool.and_eq_true, Bool.not_eq_true'] at h
      obtain ⟨⟨⟨⟨⟨h1, h2⟩, h3⟩, h4⟩, h5⟩, h6⟩ := h
      have e1 := coB_ok h1
      have e2 := coB_ok h2
      subst e1 e2
      exact snd_chainT h3 (sndE a G h4) (sndE b G h5) (sndE c G h6)
    · cases h
  | .not t, X, sc, Wx, G, e, h => by
    simp only [mT] at h
    split at h
    · exact snd_notT (sndT t G h)
    · cases h
  | .and ts, X, sc, Wx, G, e, h => by
    simp only [mT] at h
    split at h
    · exact (sndAndT ts G h).t fun S => by simp only [evT]
    · cases h
  | .or ts, X, sc, Wx, G, e, h => by
    simp only [mT] at h
    split at h
    · exact (sndOrT ts G h).t fun S => by simp only [evT]
    · cases h
theorem sndAndT : ∀ (ts : Ts) {X : Cx} {sc : Scope} {Wx : WX} (_ : CxG W M cl gl k X sc Wx) {l : List Expr} {p : Pos}, mTs W.own M sc ts l = true → SndW W cl gl X Wx (.BoolOp .And l p) (evAndT cl gl ts)
  | .nil, X, sc, Wx, G, l, p, h => by simp [mTs] at h
  | .cons t .nil, X, sc, Wx, G, l, p, h => by
    simp only [mTs] at h
    split at h
    · exact snd_and1 (sndT t G h)
    · cases h
  | .cons t (.cons t2 ts), X, sc, Wx, G, l, p, h => by
    simp only [mTs] at h
    split at h
    · next x r =>
      simp only [Bool.and_eq_true] at h
      cases r with
      | nil => have := h.2; cases ts <;> simp [mTs] at this
      | cons y r => exact snd_andT (sndT t G h.1) (sndAndT (.cons t2 ts) G h.2)
    · cases h
theorem sndOrT : ∀ (ts : Ts) {X : Cx} {sc : Scope} {Wx : WX} (_ : CxG W M cl gl k X sc Wx) {l : List Expr} {p : Pos}, mTs W.own M sc ts l = true → SndW W cl gl X Wx (.BoolOp .Or l p) (evOrT cl gl ts)
  | .nil, X, sc, Wx, G, l, p, h => by simp [mTs] at h
  | .cons t .nil, X, sc, Wx, G, l, p, h => by
    simp only [mTs] at h
    split at h
    · exact snd_or1 (sndT t G h)
    · cases h
  | .cons t (.cons t2 ts), X, sc, Wx, G, l, p, h => by
    simp only [mTs] at h
    split at h
    · next x r =>
      simp only [Bool.and_eq_true] at h
      cases r with
      | nil => have := h.2; cases ts <;> simp [mTs] at this
      | cons y r => exact snd_orT (sndT t G h.1) (sndOrT (.cons t2 ts) G h.2)
    · cases h
theorem sndAnd : ∀ (es : Es) {X : Cx} {sc : Scope} {Wx : WX} (_ : CxG W M cl gl k X sc Wx) {l : List Expr} {p : Pos}, mAnd W.own M sc es l = true → SndE W cl gl X Wx (.BoolOp .And l p) (.and es)
  | .nil, X, sc, Wx, G, l, p, h => by simp [mAnd] at h
  | .cons e .nil, X, sc, Wx, G, l, p, h => by
    simp only [mAnd] at h
    split at h
    · intro pv ow H S σ Q r hp
      exact snd_one (sndE e G h) pv ow H S σ Q r (by simpa only [evE, evAnd] using hp)
    · cases h
  | .cons e (.cons e2 es), X, sc, Wx, G, l, p, h => by
    simp only [mAnd] at h
    split at h
    · next x r =>
      simp only [Bool.and_eq_true] at h
      cases r with
      | nil => have := h.2; cases es <;> simp [mAnd] at this
      | cons y r =>
        intro pv ow H S σ Q r hp
        exact snd_and (sndE e G h.1) (fun pv ow H S σ Q r hp => sndAnd (.cons e2 es) G h.2 pv ow H S σ Q r (by simpa only [evE] using hp)) pv ow H S σ Q r (by simpa only [evE] using hp)
    · cases h
theorem sndOr : ∀ (es : Es) {X : Cx} {sc : Scope} {Wx : WX} (_ : CxG W M cl gl k X sc Wx) {l : List Expr} {p : Pos}, mAnd W.own M sc es l = true → SndE W cl gl X Wx (.BoolOp .Or l p) (.or es)
  | .nil, X, sc, Wx, G, l, p, h => by simp [mAnd] at h
  | .cons e .nil, X, sc, Wx, G, l, p, h => by
    simp only [mAnd] at h
    split at h
    · intro pv ow H S σ Q r hp
      exact snd_one (sndE e G h) pv ow H S σ Q r (by simpa only [evE, evOr] using hp)
    · cases h
  | .cons e (.cons e2 es), X, sc, Wx, G, l, p, h => by
    simp only [mAnd] at h
    split at h
    · next x r =>
      simp only [Bool.and_eq_true] at h
      cases r with
      | nil => have := h.2; cases es <;> simp [mAnd] at this
      | cons y r =>
        intro pv ow H S σ Q r hp
        exact snd_or (sndE e G h.1) (fun pv ow H S σ Q r hp => sndOr (.cons e2 es) G h.2 pv ow H S σ Q r (by simpa only [evE] using hp)) pv ow H S σ Q r (by simpa only [evE] using hp)
    · cases h
theorem sndEs : ∀ (es : Es) {X : Cx} {sc : Scope} {Wx : WX} (_ : CxG W M cl gl k X sc Wx) {l : List Expr}, mEs W.own M sc es l = true → SndEs W cl gl X Wx l es
  | .nil, X, sc, Wx, G, l, h => by
    simp only [mEs] at h
    cases l with
    | nil => exact snd_nil
    | cons _ _ => cases h
  | .cons e es, X, sc, Wx, G, l, h => by
    simp only [mEs] at h
    split at h
    · simp only [Bool.and_eq_true] at h
      exact snd_cons h.1.1 (sndE e G h.1.2) (sndEs es G h.2)
    · cases h
theorem sndRs : ∀ (es : Es) {X : Cx} {sc : Scope} {Wx : WX} (_ : CxG W M cl gl k X sc Wx) {l : List Expr}, mEs W.own M sc es l = true → SndRs W cl gl X Wx l es
  | .nil, X, sc, Wx, G, l, h => by
    simp only [mEs] at h
    cases l with
    | nil => exact snd_nilR
    | cons _ _ => cases h
  | .cons e es, X, sc, Wx, G, l, h => by
    simp only [mEs] at h
    split at h
    · simp only [Bool.and_eq_true] at h
      exact snd_consR h.1.1 (sndE e G h.1.2) (sndRs es G h.2)
    · cases h
theorem sndAs : ∀ (es : Es) {X : Cx} {sc : Scope} {Wx : WX} (_ : CxG W M cl gl k X sc Wx) {l : List Expr}, mEs W.own M sc es l = true → SndAs W cl gl X Wx l es
  | .nil, X, sc, Wx, G, l, h => by
    simp only [mEs] at h
    cases l with
    | nil => exact snd_nilA
    | cons _ _ => cases h
  | .cons e es, X, sc, Wx, G, l, h => by
    simp only [mEs] at h
    split at h
    · simp only [Bool.and_eq_true] at h
      exact snd_consA h.1.1 (sndE e G h.1.2) (sndAs es G h.2)
    · cases h
theorem sndO : ∀ (o : Oe) {X : Cx} {sc : Scope} {Wx : WX} (_ : CxG W M cl gl k X sc Wx) {e : Option Expr}, mO W.own M sc o e = true → SndO W cl gl X Wx e o
  | .none, X, sc, Wx, G, e, h => by
    simp only [mO] at h
    cases e with
    | none => exact snd_o0
    | some _ => cases h
  | .some a, X, sc, Wx, G, e, h => by
    simp only [mO] at h
    split at h
    · exact snd_o1 (sndE a G h)
    · cases h
theorem sndOt : ∀ (o : Ot) {X : Cx} {sc : Scope} {Wx : WX} (_ : CxG W M cl gl k X sc Wx) {l : List Expr}, mOt W.own M sc o l = true → SndOt W cl gl X Wx l o
  | .none, X, sc, Wx, G, l, h => by
    simp only [mOt] at h
    cases l with
    | nil => exact snd_ot0
    | cons _ _ => cases h
  | .some t, X, sc, Wx, G, l, h => by
    simp only [mOt] at h
    split at h
    · exact snd_ot1 (sndT t G h)
    · cases h
theorem sndI : ∀ (it : It) {X : Cx} {sc : Scope} {Wx : WX} (_ : CxG W M cl gl k X sc Wx) {t e : Expr}, mI W.own M sc it t e = true → SndI W cl gl X Wx t e it
  | .seq a, X, sc, Wx, G, t, e, h => by
    simp only [mI] at h
    exact snd_seq G (sndE a G h)
  | .rng es, X, sc, Wx, G, t, e, h => by
    simp only [mI] at h
    split at h
    · next g p l q =>
      simp only [Bool.and_eq_true, decide_eq_true_eq] at h
      obtain ⟨⟨⟨rfl, h2⟩, h3⟩, h4⟩ := h
      obtain ⟨s1, s2⟩ := mEs_star h3
      match l, h4, h3, s1, s2 with
      | [a], _, h3, s1, s2 => exact snd_rng1 G s2 (glB_ok G.sc h2) (by simpa using s1) (sndEs es G h3)
      | [a, b], _, h3, s1, s2 => exact snd_rng2 G s2 (glB_ok G.sc h2) (by simp at s1; exact s1.1) (by simp at s1; exact s1.2) (sndEs es G h3)
      | [a, b, c], _, h3, s1, s2 => exact snd_rng3 G s2 (glB_ok G.sc h2) (by simp at s1; exact s1.1) (by simp at s1; exact s1.2.1) (by simp at s1; exact s1.2.2) (sndEs es G h3)
      | [], h4, _, _, _ => simp at h4
      | _ :: _ :: _ :: _ :: _, h4, _, _, _ => simp at h4
    · cases h
  | .enm es, X, sc, Wx, G, t, e, h => by
    simp only [mI] at h
    split at h
    · next g p l q =>
      simp only [Bool.and_eq_true, decide_eq_true_eq] at h
      obtain ⟨⟨⟨⟨h0, rfl⟩, h2⟩, h3⟩, h4⟩ := h
      obtain ⟨s1, s2⟩ := mEs_star h3
      cases t <;> simp only [isTupT] at h0 <;> try (cases h0)
      match l, h4, h3, s1, s2 with
      | [a], _, h3, s1, s2 => exact snd_enm G (glB_ok G.sc h2) (by simpa using s1) (sndEs es G h3)
      | [], h4, _, _, _ => simp at h4
      | _ :: _ :: _, h4, _, _, _ => simp at h4
    · cases h
  | .zip es, X, sc, Wx, G, t, e, h => by
    simp only [mI] at h
    split at h
    · next g p l q =>
      simp only [Bool.and_eq_true, decide_eq_true_eq] at h
      obtain ⟨⟨⟨⟨h0, rfl⟩, h2⟩, h3⟩, h4⟩ := h
      obtain ⟨s1, s2⟩ := mEs_star h3
      cases t <;> simp only [isTupT] at h0 <;> try (cases h0)
      match l, h4, h3, s1, s2 with
      | [a, b], _, h3, s1, s2 => exact snd_zip G (glB_ok G.sc h2) (by simp at s1; exact s1.1) (by simp at s1; exact s1.2) (sndEs es G h3)
      | [], h4, _, _, _ => simp at h4
      | [_], h4, _, _, _ => simp at h4
      | _ :: _ :: _ :: _, h4, _, _, _ => simp at h4
    · cases h
  | .rev a, X, sc, Wx, G, t, e, h => by
    simp only [mI] at h
    split at h
    · simp only [Bool.and_eq_true, decide_eq_true_eq] at h
      obtain ⟨⟨⟨⟨⟨rfl, rfl⟩, h2⟩, h3⟩, h4⟩, h5⟩ := h
      exact snd_rev G (glB_ok G.sc h2) (glB_ok G.sc h3) h4 (sndE a G h5)
    · cases h
end
end
end Ev

/-! EvL: statements. -/
namespace Ev
open PySem PySem.Spec PyProof.Rows L2

/-- what stood at the def's entry is nobody's but the callers' -/
def Ent (pv : Nat → Option V) (H0 : Hp) (ow : Ow) (H : Hp) : Prop := ∀ p, H0 p ≠ none → H p ≠ none ∧ (ow p = .fz ∨ ow p = .fo ∨ ow p = .tm ∨ ∃ i v, pv i = some v ∧ ow p = .sl i)
/-- a cell in hand; t: the tag of what it owns -/
def CellT (W : Wd) (ow : Ow) (H : Hp) (t : Addr → Prop) : Cell → V → Prop
  | .val d, v => Rep W ow H d v
  | .own o, v => ObRep W ow H t o v
  | _, _ => False
def PostS (W : Wd) (pv : Nat → Option V) (H0 : Hp) (ow : Ow) (H : Hp) (Wx : WX) (o : Fl) (D : Ends) : Prop := match o with
  | .nx S' => ∀ σ' ow' H', Step ow H ow' H' → Rel W pv ow' H' S' σ' → D.nx σ' H'
  | .brk S' => ∀ σ' ow' H', Step ow H ow' H' → Rel W pv ow' H' S' σ' → D.bk σ' H'
  | .cnt S' => ∀ σ' ow' H', Step ow H ow' H' → Rel W pv ow' H' S' σ' → D.ct σ' H'
  | .ret r S' => ∀ v σ' ow' H', Step ow H ow' H' → Rel W pv ow' H' S' σ' → RCRep W H0 ow' H' r v → D.rt v H'
  | .exc c fs S' => ∀ cls d σ' ow' H', Step ow H ow' H' → Rel W pv ow' H' S' σ' → ExRep W ow' H' c fs cls d → Wx cls d σ' H'
  | .bad => False
def SndS (W : Wd) (cl : Calls) (gl : Str → Option D) (X : Cx) (Wx : WX) (st : Stmt) (is : St) : Prop := ∀ (pv : Nat → Option V) (H0 : Hp) (ow : Ow) (H : Hp) (S : Fr) (σ : L2.St) (D : Ends), Ent pv H0 ow H → Rel W pv ow H S σ → PostS W pv H0 ow H Wx (exS cl gl is S) D → RS X st D σ H
def SndSs (W : Wd) (cl : Calls) (gl : Str → Option D) (X : Cx) (Wx : WX) (sts : List Stmt) (iss : Ss) : Prop := ∀ (pv : Nat → Option V) (H0 : Hp) (ow : Ow) (H : Hp) (S : Fr) (σ : L2.St) (D : Ends), Ent pv H0 ow H → Rel W pv ow H S σ → PostS W pv H0 ow H Wx (exSs cl gl iss S) D → RSs X sts D σ H
section
variable {W : Wd} {pv : Nat → Option V} {H0 : Hp} {ow ow1 : Ow} {H H1 : Hp} {S S1 : Fr} {σ : L2.St} {Wx : WX}
theorem Ent.step (e : Ent pv H0 ow H) (k : Step ow H ow1 H1) : Ent pv H0 ow1 H1 := fun p hp => by
  obtain ⟨h1, h2⟩ := e p hp
  refine ⟨(k p h1).1, ?_⟩
  rcases h2 with h2 | h2 | h2 | ⟨i, v, hv, h2⟩
  · exact .inl (k.tag h1 h2 (by simp)).2
  · exact .inr (.inl (k.tag h1 h2 (by simp)).2)
  · exact .inr (.inr (.inl (k.tag h1 h2 (by simp)).2))
  · rcases (k p h1).2.2 i h2 with q | q | q
    · exact .inr (.inr (.inr ⟨i, v, hv, q⟩))
    · exact .inl q
    · exact .inr (.inr (.inl q))
theorem PostS.re {o : Fl} {D : Ends} (h : PostS W pv H0 ow H Wx o D) (k : Step ow H ow1 H1) : PostS W pv H0 ow1 H1 Wx o D := by
  cases o with
  | nx S' => exact fun σ' ow' H' k' r => h σ' ow' H' (k.trans k') r
  | brk S' => exact fun σ' ow' H' k' r => h σ' ow' H' (k.trans k') r
  | cnt S' => exact fun σ' ow' H' k' r => h σ' ow' H' (k.trans k') r
  | ret r S' => exact fun v σ' ow' H' k' r => h v σ' ow' H' (k.trans k') r
  | exc c fs S' => exact fun cls d σ' ow' H' k' r => h cls d σ' ow' H' (k.trans k') r
  | bad => exact h
/-- an evaluation, then the rest of the statement -/
theorem PostS.seq {α β : Type} {rep1 : Ow → Hp → α → β → Prop} {x : Out α} {f : α → Fr → Fl} {D : Ends} (h : PostS W pv H0 ow H Wx (Fl.bindO x f) D) :
    Post W pv ow H σ Wx rep1 x (fun b H1 => ∃ a S1 ow1, x = .ok a S1 ∧ Step ow H ow1 H1 ∧ Rel W pv ow1 H1 S1 σ ∧ rep1 ow1 H1 a b ∧ PostS W pv H0 ow H Wx (f a S1) D) := by
  cases x with
  | ok a S1 => exact fun b ow' H' k r p => ⟨a, S1, ow', rfl, k, r, p, h⟩
  | exc c fs S1 => exact fun cls d ow' H' k r p => h cls d σ ow' H' k r p
  | bad => exact h
theorem PostS.seq2 {α β : Type} {rep1 : Ow → Hp → α → β → Prop} {x : Out α} {f : α → Fr → Fl} {D : Ends} (h : PostS W pv H0 ow H Wx (Fl.bindO x f) D) (k1 : Step ow H ow1 H1) :
    Post W pv ow1 H1 σ Wx rep1 x (fun b H2 => ∃ a S1 ow2, x = .ok a S1 ∧ Step ow1 H1 ow2 H2 ∧ Rel W pv ow2 H2 S1 σ ∧ rep1 ow2 H2 a b ∧ PostS W pv H0 ow H Wx (f a S1) D) := by
  cases x with
  | ok a S1 => exact fun b ow' H' k r p => ⟨a, S1, ow', rfl, k, r, p, h⟩
  | exc c fs S1 => exact fun cls d ow' H' k r p => h cls d σ ow' H' (k1.trans k) r p
  | bad => exact h
theorem PostS.esc {owa : Ow} {Ha : Hp} {x : R} {v : V} {f : D → Fr → Fl} {D : Ends} (r : Rel W pv ow1 H1 S σ) (k : Step owa Ha ow1 H1) (p : RRep W Ha ow1 H1 σ x v) (h : PostS W pv H0 ow H Wx (Fl.bindO (Ev.esc x S) f) D) :
    ∃ d S1 ow2, Step owa Ha ow2 H1 ∧ Keep ow1 H1 ow2 H1 ∧ Rel W pv ow2 H1 S1 σ ∧ Rep W ow2 H1 d v ∧ PostS W pv H0 ow H Wx (f d S1) D := by
  cases e : Ev.esc x S with
  | ok d S1 =>
    obtain ⟨ow2, k1, kp, r1, p1⟩ := esc_ok r k p e
    rw [e] at h
    exact ⟨d, S1, ow2, k1, kp, r1, p1, h⟩
  | exc c fs S1 => exact absurd e esc_noexc
  | bad => rw [e] at h; exact False.elim h

/-! ### a slot that owns -/
open Classical in
/-- the new temporaries go to a slot -/
noncomputable def owTake (Ha : Hp) (t : Tag) (ow : Ow) : Ow := fun p => if ow p = .tm ∧ Ha p = none then t else ow p
theorem owTake_keep {Ha : Hp} {t : Tag} : Keep ow H (owTake Ha t ow) H := fun p _ e => ⟨rfl, by unfold owTake; rw [if_neg (by rw [e]; simp)]; exact e⟩
theorem owTake_step {Ha : Hp} {t : Tag} {owa : Ow} (k : Step owa Ha ow H) : Step owa Ha (owTake Ha t ow) H := fun p hp => by
  have e : owTake Ha t ow p = ow p := by unfold owTake; rw [if_neg (fun z => hp z.2)]
  rw [e]
  exact k p hp
theorem owTake_rel {Ha : Hp} {t : Tag} (r : Rel W pv ow H S σ) : Rel W pv (owTake Ha t ow) H S σ := by
  have kt : ∀ i p, H p ≠ none → ow p = .sl i → H p = H p ∧ owTake Ha t ow p = .sl i := fun i p _ e => ⟨rfl, by unfold owTake; rw [if_neg (by rw [e]; simp)]; exact e⟩
  refine ⟨r.len, fun j c hc => ?_, r.par, r.unpar⟩
  obtain ⟨v, hv, q⟩ := r.cell j c hc
  refine ⟨v, hv, ?_⟩
  cases c with
  | val d => exact Rep.keep owTake_keep q
  | own o => exact ObRep.keep owTake_keep (kt j) q
  | par o => exact ObRep.keep owTake_keep (kt j) q
  | exc _ _ => exact q
/-- a cell in hand is put into a slot -/
theorem put_cell (r : Rel W pv ow H S σ) {i : Nat} {c : Cell} {v : V} (hc : ∀ o, c ≠ .par o) (h : CellRep W ow H i c v) (e : putC S i c = some S1) : Rel W pv ow H S1 (σ.set i (some v)) := by
  unfold putC at e
  split at e
  · cases e
  · next hn =>
    cases e
    refine ⟨by simp [setC, r.len], fun j c' hc' => ?_, fun j u hu => ?_, fun j o hc' => ?_⟩
    · by_cases hj : i = j
      · subst hj
        have hlt : i < S.length := by
          have := getC_lt hc'
          simpa [setC] using this
        rw [getC_set_self hlt] at hc'
        cases hc'
        exact ⟨v, List.getElem?_set_self (by rw [← r.len]; exact hlt), h⟩
      · rw [getC_set_ne hj] at hc'
        obtain ⟨u, hu, q⟩ := r.cell j c' hc'
        exact ⟨u, by rw [List.getElem?_set_ne hj]; exact hu, q⟩
    · obtain ⟨o, h1, h2⟩ := r.par j u hu
      have hj : i ≠ j := fun z => hn o (z ▸ h1)
      exact ⟨o, by rw [getC_set_ne hj]; exact h1, by rw [List.getElem?_set_ne hj]; exact h2⟩
    · by_cases hj : i = j
      · subst hj
        have hlt : i < S.length := by
          have := getC_lt hc'
          simpa [setC] using this
        rw [getC_set_self hlt] at hc'
        exact absurd (Option.some.inj hc') (hc o)
      · rw [getC_set_ne hj] at hc'
        exact r.unpar j o hc'
/-- a result goes to a slot (or waits with the tag t) -/
theorem asg_cell {owa : Ow} {Ha : Hp} {z : Bool} {x : R} {v : V} {c : Cell} {t : Tag} (r : Rel W pv ow H S σ) (k : Step owa Ha ow H) (p : RRep W Ha ow H σ x v) (e : asgR z x S = .ok c S1) :
    ∃ ow', Step owa Ha ow' H ∧ Keep ow H ow' H ∧ Rel W pv ow' H S1 σ ∧ CellT W ow' H (fun q => ow' q = t ∧ Ha q = none) c v := by
  cases z with
  | true =>
    simp only [asgR] at e
    cases he : Ev.esc x S with
    | ok d S2 =>
      rw [he] at e
      cases e
      obtain ⟨ow2, k1, kp, r1, p1⟩ := esc_ok r k p he
      exact ⟨ow2, k1, kp, r1, p1⟩
    | exc _ _ _ => exact absurd he esc_noexc
    | bad => rw [he] at e; cases e
  | false =>
    cases x with
    | val d => simp only [asgR] at e; cases e; exact ⟨ow, k, fun _ _ q => ⟨rfl, q⟩, r, p⟩
    | tmp o =>
      simp only [asgR] at e
      cases e
      refine ⟨owTake Ha t ow, owTake_step k, owTake_keep, owTake_rel r, ?_⟩
      exact ObRep.keep owTake_keep (fun q _ z => ⟨rfl, by unfold owTake; rw [if_pos z], z.2⟩) p
    | bor i => simp only [asgR] at e; cases e
theorem asg_noexc {z : Bool} {x : R} {c : Str} {fs : List (Str × D)} : asgR z x S ≠ .exc c fs S1 := by
  intro e
  cases z with
  | true =>
    simp only [asgR] at e
    cases he : Ev.esc x S with
    | ok d S2 => rw [he] at e; cases e
    | exc _ _ _ => exact absurd he esc_noexc
    | bad => rw [he] at e; cases e
  | false => cases x <;> simp only [asgR] at e <;> cases e
end

/-! ### plain statements -/
section
variable {W : Wd} {M : MC} {cl : Calls} {gl : Str → Option D} {k : Nat} {X : Cx} {sc : Scope} {Wx : WX} {e a b c tgE iter elt : Expr} {ia ib ic : E} {pos p1 p2 p3 : Pos} {sts sts2 : List Stmt} {st : Stmt} {iss iss2 : Ss} {is : St}
theorem snd_snil : SndSs W cl gl X Wx [] .nil := fun pv H0 ow H S σ D en r h => RSs.of pss_nil (h σ ow H Step.refl r)
theorem exS_seq {D : Ends} {pv : Nat → Option V} {H0 : Hp} {ow : Ow} {H : Hp} {x : Fl} {f : Fr → Fl} (h : PostS W pv H0 ow H Wx (match x with | .nx S => f S | y => y) D) (P : L2.St → Hp → Prop) (hP : ∀ S', x = .nx S' → ∀ σ' ow' H', Step ow H ow' H' → Rel W pv ow' H' S' σ' → PostS W pv H0 ow H Wx (f S') D → P σ' H') :
    PostS W pv H0 ow H Wx x { D with nx := P } := by
  cases x with
  | nx S' => exact fun σ' ow' H' k r => hP S' rfl σ' ow' H' k r h
  | brk S' => exact h
  | cnt S' => exact h
  | ret r S' => exact h
  | exc c fs S' => exact h
  | bad => exact h
theorem snd_scons (h1 : SndS W cl gl X Wx st is) (h2 : SndSs W cl gl X Wx sts iss) : SndSs W cl gl X Wx (st :: sts) (.cons is iss) := by
  intro pv H0 ow H S σ D en r h
  refine RSs.of (pss_cons ps_RS pss_RS) ?_
  simp only [exSs] at h
  exact h1 pv H0 ow H S σ _ en r (exS_seq h _ fun S' _ σ' ow' H' k r' h' => h2 pv H0 ow' H' S' σ' D (en.step k) r' (h'.re k))
/-- a statement that only forgets -/
theorem snd_kill {ks : List Nat} (h2 : SndSs W cl gl X Wx sts iss) : SndSs W cl gl X Wx sts (.cons (.kill ks) iss) := by
  intro pv H0 ow H S σ D en r h
  simp only [exSs, exS] at h
  exact h2 pv H0 ow H _ σ D en (r.kill ks) h
theorem snd_pas : SndS W cl gl X Wx (.Pass pos) .pas := fun pv H0 ow H S σ D en r h => RS.of ps_pass (h σ ow H Step.refl r)
theorem snd_brk : SndS W cl gl X Wx (.Break pos) .brk := fun pv H0 ow H S σ D en r h => RS.of ps_break (h σ ow H Step.refl r)
theorem snd_retN : SndS W cl gl X Wx (.Return none pos) .retN := fun pv H0 ow H S σ D en r h => RS.of ps_retN (h .non σ ow H Step.refl r .non)
def noComp : Expr → Bool
  | .ListComp _ _ _ _ => false
  | .SetComp _ _ _ _ => false
  | .DictComp _ _ _ _ _ => false
  | _ => true
theorem swaps_no {t : Option Expr} {n : Nat} {env : Env} (h : noComp e = true) : swapsWith e t n env = pure false := by
  cases e <;> first | rfl | cases h
theorem swaps_tup {ts : List Expr} {kk n : Nat} {env : Env} : swapsWithSole [.Tuple ts kk p1] e n env = pure false := by
  cases e <;> rfl
theorem snd_exp (hn : noComp a = true) (ha : SndE W cl gl X Wx a ia) : SndS W cl gl X Wx (.Expr a pos) (.exp ia) := by
  intro pv H0 ow H S σ D en r h
  simp only [exS] at h
  refine RS.of (ps_expr pe_RE (swaps_no hn)) (RE.mono (ha pv ow H S σ _ r (PostS.seq h)) ?_)
  rintro v H1 ⟨x, S1, ow1, -, k1, r1, p1, h1⟩
  exact h1 σ ow1 H1 k1 r1
theorem snd_ife {it : T} (hc : SndT W cl gl X Wx c it) (h1 : SndSs W cl gl X Wx sts iss) (h2 : SndSs W cl gl X Wx sts2 iss2) : SndS W cl gl X Wx (.If c sts sts2 pos) (.ife it iss iss2) := by
  intro pv H0 ow H S σ D en r h
  simp only [exS] at h
  refine RS.of (ps_if pt_RT pss_RS pss_RS) (RT.mono (hc pv ow H S σ _ r (PostS.seq h)) ?_)
  rintro v H1 ⟨x, S1, ow1, -, k1, r1, p1, h3⟩
  subst p1
  cases x with
  | true => rw [if_pos rfl] at h3 ⊢; exact h1 pv H0 ow1 H1 S1 σ D (en.step k1) r1 (h3.re k1)
  | false => rw [if_neg (by simp)] at h3 ⊢; exact h2 pv H0 ow1 H1 S1 σ D (en.step k1) r1 (h3.re k1)
open Classical in
/-- a slot's object goes out -/
noncomputable def owTo (i : Nat) (ow : Ow) : Ow := fun p => if ow p = .sl i then .tm else ow p
theorem snd_ret {z : Bool} (ha : SndE W cl gl X Wx a ia) : SndS W cl gl X Wx (.Return (some a) pos) (.ret z ia) := by
  intro pv H0 ow H S σ D en r h
  simp only [exS] at h
  refine RS.of (ps_ret pe_RE) (RE.mono (ha pv ow H S σ _ r (PostS.seq h)) ?_)
  rintro v H1 ⟨x, S1, ow1, -, k1, r1, p1, h1⟩
  have hH0 : ∀ p, H p = none → H0 p = none := fun p hp => by
    cases q : H0 p with
    | none => rfl
    | some o => exact absurd hp (en p (by rw [q]; simp)).1
  split at h1
  · obtain ⟨d, S2, ow2, k2, _, r2, p2, h2⟩ := PostS.esc r1 k1 p1 h1
    exact h2 v σ ow2 H1 k2 r2 p2
  · exact h1 v σ ow1 H1 k1 r1 p1
  · exact h1 v σ ow1 H1 k1 r1 (ObRep.keep (fun _ _ q => ⟨rfl, q⟩) (fun p _ q => ⟨rfl, q.1, hH0 p q.2⟩) p1)
  · next i =>
    split at h1
    · next o hc =>
      obtain ⟨u, hu, q⟩ := r1.cell i _ hc
      have hv : σ[i]? = some (some v) := p1
      rw [hv] at hu
      cases hu
      have hpv : pv i = none := by
        cases e : pv i with
        | none => rfl
        | some w =>
          obtain ⟨o', z, _⟩ := r1.par i w e
          rw [hc] at z
          cases z
      have hnew : ∀ p, ow1 p = .sl i → H0 p = none := fun p hp => by
        cases z : H0 p with
        | none => rfl
        | some o' =>
          rcases (en.step k1 p (by rw [z]; simp)).2 with q | q | q | ⟨j, w, hw, q⟩
          · rw [hp] at q; cases q
          · rw [hp] at q; cases q
          · rw [hp] at q; cases q
          · rw [hp] at q
            cases q
            rw [hpv] at hw
            cases hw
      have hk : Keep ow1 H1 (owTo i ow1) H1 := fun p _ e => ⟨rfl, by unfold owTo; rw [if_neg (by rw [e]; simp)]; exact e⟩
      have hst : Step ow1 H1 (owTo i ow1) H1 := fun p hp => by
        refine ⟨hp, fun e => ⟨rfl, by unfold owTo; rw [if_neg (e i)]⟩, fun j e => ?_⟩
        unfold owTo
        split
        · exact .inr (.inr rfl)
        · exact .inl e
      refine h1 v σ (owTo i ow1) H1 (k1.trans hst) ⟨by simp [setC, r1.len], fun j c' hc' => ?_, fun j u hu => ?_, fun j o' hc' => ?_⟩ (ObRep.keep hk (fun p _ e => ⟨rfl, by unfold owTo; rw [if_pos e], hnew p e⟩) q)
      · have hj : i ≠ j := fun z => by subst z; rw [getC_set_self (getC_lt hc)] at hc'; cases hc'
        rw [getC_set_ne hj] at hc'
        obtain ⟨u, hu, q'⟩ := r1.cell j c' hc'
        have kt : ∀ p, H1 p ≠ none → ow1 p = .sl j → H1 p = H1 p ∧ owTo i ow1 p = .sl j := fun p _ e => ⟨rfl, by unfold owTo; rw [if_neg (by rw [e]; simp [Ne.symm hj])]; exact e⟩
        refine ⟨u, hu, ?_⟩
        cases c' with
        | val d => exact Rep.keep hk q'
        | own o => exact ObRep.keep hk kt q'
        | par o => exact ObRep.keep hk kt q'
        | exc _ _ => exact q'
      · obtain ⟨o', h2, h3⟩ := r1.par j u hu
        have hj : i ≠ j := fun z => by subst z; rw [hpv] at hu; cases hu
        exact ⟨o', by rw [getC_set_ne hj]; exact h2, h3⟩
      · have hj : i ≠ j := fun z => by subst z; rw [getC_set_self (getC_lt hc)] at hc'; cases hc'
        rw [getC_set_ne hj] at hc'
        exact r1.unpar j o' hc'
    · exact False.elim h1
theorem snd_asgS {z : Bool} {i : Nat} {x : Str} (hN : X.N.Nodup) (hi : X.N[i]? = some x) (hx : Loc X.env.scope x) (hf : X.fn x = true ∨ X.env.scope.names.lookup x = some .local) (hn : swapsWith a (some (.Name x p1)) pos.line X.env = pure false) (ha : SndE W cl gl X Wx a ia) :
    SndS W cl gl X Wx (.Assign [.Name x p1] a pos) (.asg z i ia) := by
  intro pv H0 ow H S σ D en r h
  simp only [exS] at h
  refine RS.of (ps_set hN hi hx pe_RE hn hf) (RE.mono (ha pv ow H S σ _ r (PostS.seq h)) ?_)
  rintro v H1 ⟨x, S1, ow1, -, k1, r1, p1, h1⟩
  cases e : asgR z x S1 with
  | ok c S2 =>
    rw [e] at h1
    simp only [Fl.bindO] at h1
    obtain ⟨ow2, k2, _, r2, q⟩ := asg_cell (t := .sl i) r1 k1 p1 e
    cases e2 : putC S2 i c with
    | none => rw [e2] at h1; exact False.elim h1
    | some S3 =>
      rw [e2] at h1
      cases c with
      | val d => exact h1 _ ow2 H1 k2 (put_cell (c := .val d) r2 (by simp) q e2)
      | own o => exact h1 _ ow2 H1 k2 (put_cell (c := .own o) r2 (by simp) (ObRep.keep (fun _ _ z => ⟨rfl, z⟩) (fun _ _ z => ⟨rfl, z.1⟩) q) e2)
      | par o => exact False.elim q
      | exc _ _ => exact False.elim q
  | exc c fs S2 => exact absurd e asg_noexc
  | bad => rw [e] at h1; exact False.elim h1
end
end Ev

/-! EvM: stores, loops. -/
namespace Ev
open PySem PySem.Spec PyProof.Rows L2

section
variable {W : Wd} {M : MC} {cl : Calls} {gl : Str → Option D} {k : Nat} {X : Cx} {sc : Scope} {Wx : WX} {e a b c tgE iter elt : Expr} {ia ib ic : E} {pos p1 p2 p3 : Pos} {sts sts2 : List Stmt} {st : Stmt} {iss iss2 : Ss} {is : St}
/-! ### x = [.. for ..] on one line -/
theorem snd_asgLc (G : CxG W M cl gl k X sc Wx) {z : Bool} {i : Nat} {y : Str} {scope : Scope} {own : List (Str × Nat)} {tg : Tg} {it : It} {ot : Ot} {ifs : List Expr} (hy : X.N[i]? = some y) (hyl : X.env.scope.names.lookup y = some .local)
    (hsw : swapsWith (.ListComp elt [⟨tgE, iter, ifs, 0⟩] scope pos) (some (.Name y p1)) p2.line X.env = pure true) (ok : BlkOk X.N X.env.scope scope own) (hown : own.map (·.2) = slotsT tg) (hi : SndI W cl gl X Wx tgE iter it)
    (hg : ∀ s H C cc fp, PG (blkOf X scope s H C cc fp) tgE (gOf X.K tg)) (ht : ∀ s H C cc fp, SndOt W cl gl (blkOf X scope s H C cc fp) noWx ifs ot) (he : ∀ s H C cc fp, SndE W cl gl (blkOf X scope s H C cc fp) noWx elt ia)
    (hf : ∀ x, foldedSetIterable iter X.env x = pure x) : SndS W cl gl X Wx (.Assign [.Name y p1] (.ListComp elt [⟨tgE, iter, ifs, 0⟩] scope pos) p2) (.asg z i (.lc ia tg it ot)) := by
  intro pv H0 ow H S σ D en r h
  simp only [exS] at h
  refine RS.of (ps_setLc (tt := ttLc X scope ifs) (te := teLc X scope elt) G.calm (by rw [G.N]; exact G.nd) hy hyl hsw pi_RI ok hg (fun s H C cc fp => ⟨fun pins s1 σ H1 Q I q => q s H C cc fp pins s1 I⟩) (fun s H C cc fp => ⟨fun pins s1 σ H1 Q I q => q s H C cc fp pins s1 I⟩) hf) ?_
  rw [hown]
  have key : PostE W pv ow H σ Wx (evE cl gl (.lc ia tg it ot) S) (fun v H1 => D.nx (σ.set i (some v)) H1) := by
    cases ev : evE cl gl (.lc ia tg it ot) S with
    | bad => rw [ev] at h; exact h
    | exc c fs S1 => rw [ev] at h; exact fun cls d ow' H' k r p => h cls d σ ow' H' k r p
    | ok x S1 =>
      rw [ev] at h
      simp only [Fl.bindO] at h
      intro v ow1 H1 k1 r1 p1
      cases e : asgR z x S1 with
      | ok c S2 =>
        rw [e] at h
        simp only at h
        obtain ⟨ow2, k2, _, r2, q⟩ := asg_cell (t := .sl i) r1 k1 p1 e
        cases e2 : putC S2 i c with
        | none => rw [e2] at h; exact False.elim h
        | some S3 =>
          rw [e2] at h
          cases c with
          | val d => exact h _ ow2 H1 k2 (put_cell (c := .val d) r2 (by simp) q e2)
          | own o => exact h _ ow2 H1 k2 (put_cell (c := .own o) r2 (by simp) (ObRep.keep (fun _ _ z => ⟨rfl, z⟩) (fun _ _ z => ⟨rfl, z.1⟩) q) e2)
          | par o => exact False.elim q
          | exc _ _ => exact False.elim q
      | exc c fs S2 => exact absurd e asg_noexc
      | bad => rw [e] at h; exact False.elim h
  exact lc_read G hi ht he r key
theorem snd_asgLcH (G : CxG W M cl gl k X sc Wx) {z : Bool} {i hj : Nat} {y : Str} {scope : Scope} {own : List (Str × Nat)} {tg : Tg} {it : It} {ot : Ot} {ifs : List Expr} (hy : X.N[i]? = some y) (hyl : X.env.scope.names.lookup y = some .local)
    (hsw : swapsWith (.ListComp elt [⟨tgE, iter, ifs, 0⟩] scope pos) (some (.Name y p1)) p2.line X.env = pure true) (ok : BlkOk X.N X.env.scope scope own) (hown : own.map (·.2) = slotsT tg) (hi : SndI W cl gl X Wx tgE iter it)
    (hg : ∀ s H C cc fp, PG (blkOf X scope s H C cc fp) tgE (gOf X.K tg)) (ht : ∀ s H C cc fp, SndOt W cl gl (blkOf X scope s H C cc fp) noWx ifs ot) (he : ∀ s H C cc fp, SndE W cl gl (blkOf X scope s H C cc fp) noWx elt ia)
    (hf : ∀ x, foldedSetIterable iter X.env x = pure x) : SndS W cl gl X Wx (.Assign [.Name y p1] (.ListComp elt [⟨tgE, iter, ifs, 0⟩] scope pos) p2) (.asg z i (.hold hj (.lc ia tg it ot))) := by
  intro pv H0 ow H S σ D en r h
  simp only [exS] at h
  refine RS.of (ps_setLc (tt := ttLc X scope ifs) (te := teLc X scope elt) G.calm (by rw [G.N]; exact G.nd) hy hyl hsw pi_RI ok hg (fun s H C cc fp => ⟨fun pins s1 σ H1 Q I q => q s H C cc fp pins s1 I⟩) (fun s H C cc fp => ⟨fun pins s1 σ H1 Q I q => q s H C cc fp pins s1 I⟩) hf) ?_
  rw [hown]
  have key : PostE W pv ow H σ Wx (evE cl gl (.hold hj (.lc ia tg it ot)) S) (fun v H1 => D.nx (σ.set i (some v)) H1) := by
    cases ev : evE cl gl (.hold hj (.lc ia tg it ot)) S with
    | bad => rw [ev] at h; exact h
    | exc c fs S1 => rw [ev] at h; exact fun cls d ow' H' k r p => h cls d σ ow' H' k r p
    | ok x S1 =>
      rw [ev] at h
      simp only [Fl.bindO] at h
      intro v ow1 H1 k1 r1 p1
      cases e : asgR z x S1 with
      | ok c S2 =>
        rw [e] at h
        simp only at h
        obtain ⟨ow2, k2, _, r2, q⟩ := asg_cell (t := .sl i) r1 k1 p1 e
        cases e2 : putC S2 i c with
        | none => rw [e2] at h; exact False.elim h
        | some S3 =>
          rw [e2] at h
          cases c with
          | val d => exact h _ ow2 H1 k2 (put_cell (c := .val d) r2 (by simp) q e2)
          | own o => exact h _ ow2 H1 k2 (put_cell (c := .own o) r2 (by simp) (ObRep.keep (fun _ _ z => ⟨rfl, z⟩) (fun _ _ z => ⟨rfl, z.1⟩) q) e2)
          | par o => exact False.elim q
          | exc _ _ => exact False.elim q
      | exc c fs S2 => exact absurd e asg_noexc
      | bad => rw [e] at h; exact False.elim h
  obtain ⟨owh, Sh, rh, keyh⟩ := hold_post r key
  exact lc_read G hi ht he rh keyh
theorem snd_asgDc (G : CxG W M cl gl k X sc Wx) {z : Bool} {i : Nat} {y : Str} {scope : Scope} {own : List (Str × Nat)} {tg : Tg} {it : It} (hy : X.N[i]? = some y) (hyl : X.env.scope.names.lookup y = some .local)
    (hsw : swapsWith (.DictComp a b [⟨tgE, iter, [], 0⟩] scope pos) (some (.Name y p1)) p2.line X.env = pure true) (ok : BlkOk X.N X.env.scope scope own) (hown : own.map (·.2) = slotsT tg) (hi : SndI W cl gl X Wx tgE iter it)
    (hg : ∀ s H C cc fp, PG (blkOf X scope s H C cc fp) tgE (gOf X.K tg)) (ha : ∀ s H C cc fp, SndE W cl gl (blkOf X scope s H C cc fp) noWx a ia) (hb : ∀ s H C cc fp, SndE W cl gl (blkOf X scope s H C cc fp) noWx b ib)
    (hf : ∀ x, foldedSetIterable iter X.env x = pure x) : SndS W cl gl X Wx (.Assign [.Name y p1] (.DictComp a b [⟨tgE, iter, [], 0⟩] scope pos) p2) (.asg z i (.dc ia ib tg it)) := by
  intro pv H0 ow H S σ D en r h
  simp only [exS] at h
  have key : PostE W pv ow H σ Wx (evE cl gl (.dc ia ib tg it) S) (fun v H1 => D.nx (σ.set i (some v)) H1) := by
    cases ev : evE cl gl (.dc ia ib tg it) S with
    | bad => rw [ev] at h; exact h
    | exc c fs S1 => rw [ev] at h; exact fun cls d ow' H' k r p => h cls d σ ow' H' k r p
    | ok x S1 =>
      rw [ev] at h
      simp only [Fl.bindO] at h
      intro v ow1 H1 k1 r1 p1
      cases e : asgR z x S1 with
      | ok c S2 =>
        rw [e] at h
        simp only at h
        obtain ⟨ow2, k2, _, r2, q⟩ := asg_cell (t := .sl i) r1 k1 p1 e
        cases e2 : putC S2 i c with
        | none => rw [e2] at h; exact False.elim h
        | some S3 =>
          rw [e2] at h
          cases c with
          | val d => exact h _ ow2 H1 k2 (put_cell (c := .val d) r2 (by simp) q e2)
          | own o => exact h _ ow2 H1 k2 (put_cell (c := .own o) r2 (by simp) (ObRep.keep (fun _ _ z => ⟨rfl, z⟩) (fun _ _ z => ⟨rfl, z.1⟩) q) e2)
          | par o => exact False.elim q
          | exc _ _ => exact False.elim q
      | exc c fs S2 => exact absurd e asg_noexc
      | bad => rw [e] at h; exact False.elim h
  intro pins s I
  have hN : X.N.Nodup := by rw [G.N]; exact G.nd
  rw [exec_Assign_Name_used _ _ _ _ hsw]
  refine wpAny_bind (wpAny_standAt (wpAny_bind ?_))
  show wpAny _ X.A (do let _ ← comprehension (.DictComp a b [⟨tgE, iter, [], 0⟩] scope pos) scope X.env (firstIterPos [⟨tgE, iter, [], 0⟩] pos) newDict false (eval iter X.env) (some (assign (.Name y p1) X.env))) _ _ s
  refine wpAny_bind (thn (dx_block (W := W) (Qf := fun _ s' => SP X pins D .next s') (tk := teLc X scope a) (tv := teLc X scope b) (own := own) G.prog G.w G.K (by have := G.room.un; omega) G.calm hN I pi_RI ok hg (fun s H C cc fp => ⟨fun pins s1 σ H1 Q I q => q s H C cc fp pins s1 I⟩) (fun s H C cc fp => ⟨fun pins s1 σ H1 Q I q => q s H C cc fp pins s1 I⟩) hf (by rw [hown]; exact dc_read G hi ha hb r key) fun Dd C s' m H' I' q hn f => ?_) fun _ s' hq => wpAny_pure (wpAny_pure hq))
  show wpAny _ _ (assign (.Name y p1) X.env (.ref Dd)) _ _ _
  refine wpAny_assign_Name (store_ok2 (v := V.ref Dd) I' hN hy (.inl hyl) rfl (fun s2 I2 ⟨a, sb, ha⟩ => ?_) (.inr hyl))
  obtain ⟨f0, f1, f2, f3, f4, f5⟩ := f
  have haC : C ≠ a := by
    rcases ha with z | z
    · rw [z]; exact f1
    · exact fun e => f4 y a z e.symm
  refine ⟨m, hn.sameBut sb haC, fun h3 sb3 => ?_⟩
  exact ⟨_, H', I2.turned (t' := s2.toks) (fun b o hb e => (sb3.2 b hb).trans e) f0 f1 f3 f4 f5, q⟩
theorem snd_asgLc2 (G : CxG W M cl gl k X sc Wx) {z : Bool} {i : Nat} {y : Str} {scope : Scope} {own : List (Str × Nat)} {tg tg1 : Tg} {it it1 : It} {tgE1 iter1 : Expr} (hy : X.N[i]? = some y) (hyl : X.env.scope.names.lookup y = some .local)
    (hsw : swapsWith (.ListComp elt [⟨tgE, iter, [], 0⟩, ⟨tgE1, iter1, [], 0⟩] scope pos) (some (.Name y p1)) p2.line X.env = pure true) (ok : BlkOk X.N X.env.scope scope own) (hown : own.map (·.2) = slotsT tg ++ slotsT tg1) (hi : SndI W cl gl X Wx tgE iter it)
    (hg : ∀ s H C cc fp, PG (blkOf X scope s H C cc fp) tgE (gOf X.K tg)) (hi1 : ∀ s H C cc fp, SndI W cl gl (blkOf X scope s H C cc fp) noWx tgE1 iter1 it1) (hg1 : ∀ s H C cc fp, PG (blkOf X scope s H C cc fp) tgE1 (gOf X.K tg1)) (he : ∀ s H C cc fp, SndE W cl gl (blkOf X scope s H C cc fp) noWx elt ia)
    (hf : ∀ x, foldedSetIterable iter X.env x = pure x) (hf1 : ∀ env x, foldedSetIterable iter1 env x = pure x) : SndS W cl gl X Wx (.Assign [.Name y p1] (.ListComp elt [⟨tgE, iter, [], 0⟩, ⟨tgE1, iter1, [], 0⟩] scope pos) p2) (.asg z i (.lc2 ia tg it tg1 it1)) := by
  intro pv H0 ow H S σ D en r h
  simp only [exS] at h
  refine RS.of (ps_setLc2 (vs1 := slotsT tg1) (wi1 := riLc X scope tgE1 iter1) (tt := ttLc X scope []) (tt1 := ttLc X scope []) (te := teLc X scope elt) G.calm (by rw [G.N]; exact G.nd) hy hyl hsw pi_RI ok (by rw [hown]; exact fun i hi => List.mem_append_right _ hi) hg (fun s H C cc fp => ⟨fun pins s1 σ H1 Q I q => q s H C cc fp pins s1 I⟩) (fun s H C cc fp => ⟨fun pins s1 σ H1 Q I q => q s H C cc fp pins s1 I⟩) hg1 (fun s H C cc fp => ⟨fun pins s1 σ H1 Q I q => q s H C cc fp pins s1 I⟩) (fun s H C cc fp => ⟨fun pins s1 σ H1 Q I q => q s H C cc fp pins s1 I⟩) hf hf1) ?_
  rw [hown]
  have key : PostE W pv ow H σ Wx (evE cl gl (.lc2 ia tg it tg1 it1) S) (fun v H1 => D.nx (σ.set i (some v)) H1) := by
    cases ev : evE cl gl (.lc2 ia tg it tg1 it1) S with
    | bad => rw [ev] at h; exact h
    | exc c fs S1 => rw [ev] at h; exact fun cls d ow' H' k r p => h cls d σ ow' H' k r p
    | ok x S1 =>
      rw [ev] at h
      simp only [Fl.bindO] at h
      intro v ow1 H1 k1 r1 p1
      cases e : asgR z x S1 with
      | ok c S2 =>
        rw [e] at h
        simp only at h
        obtain ⟨ow2, k2, _, r2, q⟩ := asg_cell (t := .sl i) r1 k1 p1 e
        cases e2 : putC S2 i c with
        | none => rw [e2] at h; exact False.elim h
        | some S3 =>
          rw [e2] at h
          cases c with
          | val d => exact h _ ow2 H1 k2 (put_cell (c := .val d) r2 (by simp) q e2)
          | own o => exact h _ ow2 H1 k2 (put_cell (c := .own o) r2 (by simp) (ObRep.keep (fun _ _ z => ⟨rfl, z⟩) (fun _ _ z => ⟨rfl, z.1⟩) q) e2)
          | par o => exact False.elim q
          | exc _ _ => exact False.elim q
      | exc c fs S2 => exact absurd e asg_noexc
      | bad => rw [e] at h; exact False.elim h
  exact lc2_read G hi hi1 he r key
/-! ### a, b = e -/
theorem snd_unp (G : CxG W M cl gl k X sc Wx) {is : List Nat} {ts : List Expr} {kk : Nat} (hg : PG X (.Tuple ts kk p1) (gOf X.K (.many is))) (hw : swappedStores [.Tuple ts kk p1] a X.env = pure none) (ha : SndE W cl gl X Wx a ia) : SndS W cl gl X Wx (.Assign [.Tuple ts kk p1] a pos) (.unp is ia) := by
  intro pv H0 ow H S σ D en r h
  simp only [exS] at h
  refine RS.of (ps_asg pe_RE hg swaps_tup hw) (RE.mono (ha pv ow H S σ _ r (PostS.seq h)) ?_)
  rintro v H1 ⟨x, S1, ow1, -, k1, r1, p1, h1⟩
  obtain ⟨d, S2, ow2, k2, _, r2, p2, h2⟩ := PostS.esc r1 k1 p1 h1
  split at h2
  · next S3 e => rw [G.K]; exact g_ok r2 p2 e fun σ1 r3 _ _ => h2 σ1 ow2 H1 k2 r3
  · exact False.elim h2
/-! ### x.append(e) -/
theorem snd_app (hs : noStar a = true) {i : Nat} {x : Str} (hN : X.N[i]? = some x) (hv : Vis X.env.scope x) (hd : (x == ("__debug__" : Str)) = false) (hcd : (x == ("__classdict__" : Str)) = false) (hl : (p2.endLine == p3.line) = true) (ha : SndE W cl gl X Wx a ia) :
    SndS W cl gl X Wx (.Expr (.Call (.Attribute (.Name x p1) "append" p2) [a] [] p3) pos) (.app i ia) := by
  intro pv H0 ow H S σ D en r h
  simp only [exS] at h
  refine RS.of (ps_expr (pe_bm PySem.F.plainAttrs_list PySem.F.slot_list_append PySem.F.type_list_append mt_append (pe_var hN hv hd hcd) (pa_cons pe_RE pa_nil (star_cons hs)) (attr_base rfl) (by rw [star_cons hs]; rfl) hl (star_cons hs) rfl) rfl) ?_
  split at h
  · next xs0 hg =>
    obtain ⟨v, hv, l, us, rfl, hl0, _⟩ := r.obj hg
    refine ⟨_, hv, .inl ⟨rfl, _, SqL.of hl0⟩, RE.mono (ha pv ow H S σ _ r (PostS.seq h)) ?_⟩
    rintro y H1 ⟨ry, S1, ow1, -, k1, r1, p1, h1⟩
    obtain ⟨d, S2, ow2, k2, _, r2, p2, h2⟩ := PostS.esc r1 k1 p1 h1
    split at h2
    · next xs hg2 =>
      split at h2
      · next hz =>
        obtain ⟨v', hv', l', vs, rfl, hl', tl', rl'⟩ := r2.obj hg2
        rw [hv] at hv'
        cases hv'
        have hn : H1 l ≠ none := by rw [hl']; simp
        obtain ⟨u1, u2, u3⟩ := upd_sl (o := .lst (vs ++ [y])) tl' hn
        refine ⟨l, vs, y, rfl, rfl, hl', by rw [← rl'.length]; simpa using hz, ?_⟩
        refine h2 σ ow2 _ (k2.trans u3) (r2.putO hg2 hv u1 u2 ⟨l, vs ++ [y], rfl, upd_same, tl', (rl'.append (.one p2)).keep u1⟩)
      · exact False.elim h2
    · exact False.elim h2
  · exact False.elim h
/-! ### self.f = e -/
theorem snd_atr (G : CxG W M cl gl k X sc Wx) {i : Nat} {x f : Str} {c : Str} (hq : (c, f) ∈ M.flds) (hN : X.N[i]? = some x) (hv : Vis X.env.scope x) (hd : (x == ("__debug__" : Str)) = false) (hcd : (x == ("__classdict__" : Str)) = false) (hn : noComp a = true) (ha : SndE W cl gl X Wx a ia) :
    SndS W cl gl X Wx (.Assign [.Attribute (.Name x p1) f p2] a pos) (.atr c i f ia) := by
  intro pv H0 ow H S σ D en r h
  simp only [exS] at h
  obtain ⟨hm, hna⟩ := G.fld _ hq
  refine RS.of (ps_fld (pe_var hN hv hd hcd) pe_RE (swaps_no hn)) (RE.mono (ha pv ow H S σ _ r (PostS.seq h)) ?_)
  rintro y H1 ⟨ry, S1, ow1, -, k1, r1, p1, h1⟩
  obtain ⟨d, S2, ow2, k2, _, r2, p2, h2⟩ := PostS.esc r1 k1 p1 h1
  split at h2
  · next c' fs hg =>
    split at h2
    · next hz =>
      obtain ⟨rfl, hz⟩ := hz
      obtain ⟨v, hv', ad, dx, gs, rfl, hm', e1, t1, e2, t2, rf⟩ := r2.obj hg
      have hn : H1 ad ≠ none := by rw [e1]; simp
      obtain ⟨u1, u2, u3⟩ := upd_sl (o := .ins (W.cad c') dx (putF f y gs)) t1 hn
      have hne : dx ≠ ad := fun z => by rw [z, e1] at e2; cases e2
      refine ⟨_, hv', ad, _, dx, gs, rfl, e1, by rw [G.K]; exact (G.cls _ hm).2.cl, by rw [G.K]; exact hna, by rw [← repV_len rf]; omega, ?_⟩
      exact h2 σ ow2 _ (k2.trans u3) (r2.putO hg hv' u1 u2 ⟨ad, dx, _, rfl, hm', upd_same, t1, by rw [upd_ne hne]; exact e2, t2, repV_upd t1 (fun us z => by rw [e1] at z; cases z) (repV_put p2 rf)⟩)
    · exact False.elim h2
  · exact False.elim h2
/-! ### x += e -/
theorem snd_aug {op : BOp} {i : Nat} {x : Str} (hop : op = .add ∨ op = .sub) (hN : X.N.Nodup) (hi : X.N[i]? = some x) (hx : Loc X.env.scope x) (hf : X.fn x = true ∨ X.env.scope.names.lookup x = some .local) (ha : SndE W cl gl X Wx a ia) :
    SndS W cl gl X Wx (.AugAssign (.Name x p1) (bopO op) a pos) (.aug op i ia) := by
  intro pv H0 ow H S σ D en r h
  simp only [exS] at h
  split at h
  · next n hc =>
    obtain ⟨u, hu, q⟩ := r.cell i _ hc
    cases (show Rep W ow H (.int n) u from q)
    rcases hop with rfl | rfl
    · refine RS.of (ps_aug hN hi hx pe_RE ip_add hf) ⟨_, hu, RE.mono (ha pv ow H S σ _ r (PostS.seq h)) ?_⟩
      rintro y H1 ⟨x, S1, ow1, -, k1, r1, p1, h1⟩
      split at h1
      · next a b hc1 hx1 =>
        obtain ⟨u, hu1, q⟩ := r1.cell i _ hc1
        rw [hu] at hu1
        cases hu1
        cases (show Rep W ow1 H1 (.int a) (.int n) from q)
        cases (show Rep W ow1 H1 (.int b) y from reads r1 p1 hx1)
        refine ⟨n, b, rfl, rfl, ?_⟩
        simp only at h1
        cases e2 : putC S1 i (.val (.int (n + b))) with
        | none => rw [e2] at h1; exact False.elim h1
        | some S2 => rw [e2] at h1; exact h1 _ ow1 H1 k1 (put_cell (c := .val (.int (n + b))) r1 (by simp) (.int _) e2)
      · exact False.elim h1
    · refine RS.of (ps_aug hN hi hx pe_RE ip_sub hf) ⟨_, hu, RE.mono (ha pv ow H S σ _ r (PostS.seq h)) ?_⟩
      rintro y H1 ⟨x, S1, ow1, -, k1, r1, p1, h1⟩
      split at h1
      · next a b hc1 hx1 =>
        obtain ⟨u, hu1, q⟩ := r1.cell i _ hc1
        rw [hu] at hu1
        cases hu1
        cases (show Rep W ow1 H1 (.int a) (.int n) from q)
        cases (show Rep W ow1 H1 (.int b) y from reads r1 p1 hx1)
        refine ⟨n, b, rfl, rfl, ?_⟩
        simp only at h1
        cases e2 : putC S1 i (.val (.int (n - b))) with
        | none => rw [e2] at h1; exact False.elim h1
        | some S2 => rw [e2] at h1; exact h1 _ ow1 H1 k1 (put_cell (c := .val (.int (n - b))) r1 (by simp) (.int _) e2)
      · exact False.elim h1
  · exact False.elim h
/-! ### a, b = c, d -/
open Classical in
noncomputable def owGo (Ha : Hp) (n : Nat) (i : Nat) (ow : Ow) : Ow := fun p => if ow p = .pd n ∧ Ha p = none then .sl i else ow p
inductive CellTs (W : Wd) (Ha : Hp) (ow : Ow) (H : Hp) : Nat → List Cell → List V → Prop
  | nil {n : Nat} : CellTs W Ha ow H n [] []
  | cons {n : Nat} {c : Cell} {v : V} {cs : List Cell} {vs : List V} : CellT W ow H (fun q => ow q = .pd n ∧ Ha q = none) c v → CellTs W Ha ow H (n + 1) cs vs → CellTs W Ha ow H n (c :: cs) (v :: vs)
theorem CellT.keep {ow ow1 : Ow} {H H1 : Hp} {t t1 : Addr → Prop} {c : Cell} {v : V} (kp : Keep ow H ow1 H1) (kt : ∀ p, H p ≠ none → t p → H1 p = H p ∧ t1 p) (h : CellT W ow H t c v) : CellT W ow1 H1 t1 c v := by
  cases c with
  | val d => exact Rep.keep kp h
  | own o => exact ObRep.keep kp kt h
  | par o => exact h
  | exc _ _ => exact h
theorem CellTs.back {Ha Hb : Hp} {ow : Ow} {H : Hp} (hb : ∀ p, Ha p = none → Hb p = none) {n : Nat} {cs : List Cell} {vs : List V} (h : CellTs W Ha ow H n cs vs) : CellTs W Hb ow H n cs vs := by
  induction h with
  | nil => exact .nil
  | cons a l ih => exact .cons (a.keep (fun _ _ z => ⟨rfl, z⟩) fun p hp e => ⟨rfl, e.1, hb p e.2⟩) ih
def SndPar (W : Wd) (cl : Calls) (gl : Str → Option D) (X : Cx) (Wx : WX) (n : Nat) (zs : List Bool) (es : List Expr) (ies : Es) : Prop := ∀ (pv : Nat → Option V) (ow : Ow) (H : Hp) (S : Fr) (σ : L2.St) (Q : List V → Hp → Prop), Rel W pv ow H S σ → Post W pv ow H σ Wx (fun ow' H' cs vs => CellTs W H ow' H' n cs vs) (parR cl gl zs ies S) Q → RA X es σ H Q
theorem snd_par0 {n : Nat} : SndPar W cl gl X Wx n [] [] .nil := by
  intro pv ow H S σ Q r h
  exact RA.of pa_nil (h [] ow H Step.refl r .nil)
theorem snd_par1 {n : Nat} {z : Bool} {zs : List Bool} {es : List Expr} {ies : Es} (hs : noStar a = true) (ha : SndE W cl gl X Wx a ia) (hes : SndPar W cl gl X Wx (n + 1) zs es ies) : SndPar W cl gl X Wx n (z :: zs) (a :: es) (.cons ia ies) := by
  intro pv ow H S σ Q r h
  refine RA.of (pa_cons pe_RE pa_RA (star_cons hs)) ?_
  simp only [parR] at h
  refine RE.mono (ha pv ow H S σ _ r (Post.seq h)) ?_
  rintro v H1 ⟨x, S1, ow1, -, k1, r1, p1, h1⟩
  cases e : asgR z x S1 with
  | ok c S2 =>
    rw [e] at h1
    simp only [Out.bind] at h1
    obtain ⟨ow2, k2, _, r2, q⟩ := asg_cell (t := .pd n) r1 k1 p1 e
    refine RA.mono (hes pv ow2 H1 S2 σ _ r2 (Post.seq2 h1 k2)) ?_
    rintro vs H2 ⟨cs, S3, ow3, -, k3, r3, p3, h3⟩
    exact h3 (v :: vs) ow3 H2 (k2.trans k3) r3 (.cons (q.keep k3.keep fun p hp e => let ⟨a, b⟩ := k3.tag hp e.1 (by simp); ⟨a, b, e.2⟩) (p3.back fun _ z => k2.none z))
  | exc c fs S2 => exact absurd e asg_noexc
  | bad => rw [e] at h1; exact False.elim h1
/-- the waiting cells go to their slots -/
theorem puts_ok {W : Wd} {pv : Nat → Option V} {owa : Ow} {Ha H : Hp} : ∀ {is : List Nat} {cs : List Cell} {vs : List V} {n : Nat} {ow : Ow} {S S1 : Fr} {σ : L2.St}, Rel W pv ow H S σ → Step owa Ha ow H → CellTs W Ha ow H n cs vs → cs.length = is.length → putCs S is cs = some S1 →
    ∃ ow', Step owa Ha ow' H ∧ Rel W pv ow' H S1 ((is.zip vs).foldl (fun s q => s.set q.1 (some q.2)) σ)
  | [], cs, vs, n, ow, S, S1, σ, r, k, h, hl, e => by
    cases h with
    | nil => simp [putCs] at e; subst e; exact ⟨ow, k, by simpa using r⟩
    | cons _ _ => simp at hl
  | i :: is, cs, vs, n, ow, S, S1, σ, r, k, h, hl, e => by
    cases h with
    | nil => simp at hl
    | @cons _ c v cs vs h l =>
      simp only [putCs, Option.bind_eq_some_iff] at e
      obtain ⟨S2, e1, e2⟩ := e
      have kp : Keep ow H (owGo Ha n i ow) H := fun p _ e => ⟨rfl, by unfold owGo; rw [if_neg (by rw [e]; simp)]; exact e⟩
      have ks : ∀ j p, H p ≠ none → ow p = .sl j → H p = H p ∧ owGo Ha n i ow p = .sl j := fun j p _ e => ⟨rfl, by unfold owGo; rw [if_neg (by rw [e]; simp)]; exact e⟩
      have st : Step owa Ha (owGo Ha n i ow) H := fun p hp => by
        have : owGo Ha n i ow p = ow p := by unfold owGo; rw [if_neg (fun z => hp z.2)]
        rw [this]; exact k p hp
      have r' : Rel W pv (owGo Ha n i ow) H S σ := ⟨r.len, fun j c hc => by
        obtain ⟨u, hu, q⟩ := r.cell j c hc
        refine ⟨u, hu, ?_⟩
        cases c with
        | val d => exact Rep.keep kp q
        | own o => exact ObRep.keep kp (ks j) q
        | par o => exact ObRep.keep kp (ks j) q
        | exc _ _ => exact q, r.par, r.unpar⟩
      have h' : CellT W (owGo Ha n i ow) H (fun q => owGo Ha n i ow q = .sl i) c v := h.keep kp fun p _ e => ⟨rfl, by unfold owGo; rw [if_pos e]⟩
      have l' : CellTs W Ha (owGo Ha n i ow) H (n + 1) cs vs := by
        have : ∀ {m : Nat} {cs : List Cell} {vs : List V}, n < m → CellTs W Ha ow H m cs vs → CellTs W Ha (owGo Ha n i ow) H m cs vs := by
          intro m cs vs hm hh
          induction hh with
          | nil => exact .nil
          | cons a l ih => exact .cons (a.keep kp fun p _ e => ⟨rfl, by unfold owGo; rw [if_neg (by rw [e.1]; simp; omega)]; exact e.1, e.2⟩) (ih (by omega))
        exact this (Nat.lt_succ_self n) l
      have r2 : Rel W pv (owGo Ha n i ow) H S2 (σ.set i (some v)) := by
        cases c with
        | val d => exact put_cell (c := .val d) r' (by simp) h' e1
        | own o => exact put_cell (c := .own o) r' (by simp) h' e1
        | par o => exact False.elim h'
        | exc _ _ => exact False.elim h'
      obtain ⟨ow', s1, s2⟩ := puts_ok r2 st l' (by simpa using hl) e2
      exact ⟨ow', s1, by simpa using s2⟩
theorem CellTs.length {Ha : Hp} {ow : Ow} {H : Hp} {n : Nat} {cs : List Cell} {vs : List V} (h : CellTs W Ha ow H n cs vs) : cs.length = vs.length := by
  induction h with
  | nil => rfl
  | cons _ _ ih => simp [ih]
theorem snd_parS2 (G : CxG W M cl gl k X sc Wx) {i j : Nat} {x y : Str} {zs : List Bool} {ies : Es} {px py pt : Pos} {kt k2 : Nat} {pt2 : Pos} (hij : i ≠ j) (hi : X.N[i]? = some x) (hj : X.N[j]? = some y) (hx : X.env.scope.names.lookup x = some .local) (hy : X.env.scope.names.lookup y = some .local)
    (hw : swappedStores [.Tuple [.Name x px, .Name y py] kt pt] (.Tuple [a, b] k2 pt2) X.env = pure (some [x, y])) (ha : SndPar W cl gl X Wx 0 zs [a, b] ies) :
    SndS W cl gl X Wx (.Assign [.Tuple [.Name x px, .Name y py] kt pt] (.Tuple [a, b] k2 pt2) pos) (.par zs [i, j] ies) := by
  intro pv H0 ow H S σ D en r h
  simp only [exS] at h
  · refine RS.of (ps_par G.calm (by rw [G.N]; exact G.nd) hi hj hij hx hy pa_RA hw rfl) (RA.mono (ha pv ow H S σ _ r (PostS.seq h)) ?_)
    rintro vs H1 ⟨cs, S1, ow1, -, k1, r1, p1, h1⟩
    split at h1
    · next hl =>
      cases e : putCs S1 [i, j] cs with
      | none => rw [e] at h1; exact False.elim h1
      | some S2 =>
        rw [e] at h1
        obtain ⟨ow2, k2, r2⟩ := puts_ok r1 k1 p1 hl.1 e
        have hlen := p1.length
        match vs, hlen.symm.trans hl.1, r2 with
        | [u, v], _, r2 => exact ⟨u, v, rfl, h1 _ ow2 H1 k2 r2⟩
    · exact False.elim h1
theorem snd_parS3 (G : CxG W M cl gl k X sc Wx) {i j l : Nat} {x y w : Str} {zs : List Bool} {ies : Es} {px py pz pt : Pos} {kt k2 : Nat} {pt2 : Pos} (hij : i ≠ j) (hil : i ≠ l) (hjl : j ≠ l) (hi : X.N[i]? = some x) (hj : X.N[j]? = some y) (hl : X.N[l]? = some w) (hx : X.env.scope.names.lookup x = some .local) (hy : X.env.scope.names.lookup y = some .local) (hz : X.env.scope.names.lookup w = some .local)
    (hw : swappedStores [.Tuple [.Name x px, .Name y py, .Name w pz] kt pt] (.Tuple [a, b, c] k2 pt2) X.env = pure (some [x, y, w])) (ha : SndPar W cl gl X Wx 0 zs [a, b, c] ies) :
    SndS W cl gl X Wx (.Assign [.Tuple [.Name x px, .Name y py, .Name w pz] kt pt] (.Tuple [a, b, c] k2 pt2) pos) (.par zs [i, j, l] ies) := by
  intro pv H0 ow H S σ D en r h
  simp only [exS] at h
  refine RS.of (ps_par3 G.calm (by rw [G.N]; exact G.nd) hi hj hl hij hil hjl hx hy hz pa_RA hw rfl) (RA.mono (ha pv ow H S σ _ r (PostS.seq h)) ?_)
  rintro vs H1 ⟨cs, S1, ow1, -, k1, r1, p1, h1⟩
  split at h1
  · next hl =>
    cases e : putCs S1 [i, j, l] cs with
    | none => rw [e] at h1; exact False.elim h1
    | some S2 =>
      rw [e] at h1
      obtain ⟨ow2, k2, r2⟩ := puts_ok r1 k1 p1 hl.1 e
      have hlen := p1.length
      match vs, hlen.symm.trans hl.1, r2 with
      | [u, v, w], _, r2 => exact ⟨u, v, w, rfl, h1 _ ow2 H1 k2 r2⟩
  · exact False.elim h1
/-! ### loops -/
theorem snd_whl (G : CxG W M cl gl k X sc Wx) {n : Nat} {it : T} {kl : List Nat} (hc : SndT W cl gl X Wx c it) (hb : SndSs W cl gl X Wx sts iss) : SndS W cl gl X Wx (.While c sts [] pos) (.whl n it kl iss) := by
  intro pv H0 ow H S σ D en r h
  simp only [exS] at h
  refine RS.of (ps_while G.pw pt_RT pss_RS) ?_
  refine ⟨fun m σ' H' => ∃ ow' S', Step ow H ow' H' ∧ Rel W pv ow' H' S' σ' ∧ PostS W pv H0 ow H Wx (whlLoop kl (fun S => evT cl gl it S) (fun S => exSs cl gl iss S) m S') D, ⟨n, ow, S, Step.refl, r, h⟩, ?_⟩
  rintro m σ1 H1 ⟨ow1, S1, k1, r1, h1⟩
  cases m with
  | zero => simp only [whlLoop] at h1; exact False.elim h1
  | succ m =>
    simp only [whlLoop] at h1
    refine RT.mono (hc pv ow1 H1 S1 σ1 _ r1 (PostS.seq2 h1 k1)) ?_
    rintro b H2 ⟨x, S2, ow2, -, k2, r2, p2, h2⟩
    subst p2
    cases x with
    | false =>
      rw [if_neg (by simp)] at h2 ⊢
      exact h2 σ1 ow2 H2 (k1.trans k2) (r2.kill kl)
    | true =>
      rw [if_pos rfl] at h2 ⊢
      refine ⟨fun σ' H' => ∃ ow' S', Step ow H ow' H' ∧ Rel W pv ow' H' S' σ' ∧ PostS W pv H0 ow H Wx (whlLoop kl (fun S => evT cl gl it S) (fun S => exSs cl gl iss S) m S') D, fun σ' H' q => ⟨m, Nat.lt_succ_self m, q⟩, ?_⟩
      have k12 := k1.trans k2
      refine hb pv H0 ow2 H2 S2 σ1 _ (en.step k12) r2 ?_
      cases e : exSs cl gl iss S2 with
      | nx S3 => rw [e] at h2; exact fun σ' ow' H' k' r' => ⟨ow', killS S3 kl, k12.trans k', r'.kill kl, h2⟩
      | cnt S3 => rw [e] at h2; exact fun σ' ow' H' k' r' => ⟨ow', killS S3 kl, k12.trans k', r'.kill kl, h2⟩
      | brk S3 => rw [e] at h2; exact fun σ' ow' H' k' r' => h2 σ' ow' H' (k12.trans k') (r'.kill kl)
      | ret rr S3 => rw [e] at h2; exact fun v σ' ow' H' k' r' => h2 v σ' ow' H' (k12.trans k') r'
      | exc c fs S3 => rw [e] at h2; exact fun cls d σ' ow' H' k' r' => h2 cls d σ' ow' H' (k12.trans k') r'
      | bad => rw [e] at h2; exact h2
theorem snd_for (G : CxG W M cl gl k X sc Wx) {tg : Tg} {it : It} {kl : List Nat} (hf : ∀ x, foldedSetIterable iter X.env x = pure x) (hg : PG X tgE (gOf X.K tg)) (hi : SndI W cl gl X Wx tgE iter it) (hb : SndSs W cl gl X Wx sts iss) : SndS W cl gl X Wx (.For tgE iter sts [] pos) (.fr tg it kl iss) := by
  intro pv H0 ow H S σ D en r h
  simp only [exS] at h
  refine RS.of (ps_for G.pw G.calm pi_RI hg pss_RS hf) ?_
  refine RI.mono (hi pv ow H S σ _ r (PostS.seq h)) ?_
  rintro J H1 ⟨ds, S1, ow1, -, k1, r1, wk, h1⟩
  refine ⟨fun i m σ' H' => m = ds.length - i ∧ i ≤ ds.length ∧ ∃ ow' S', Step ow1 H1 ow' H' ∧ Rel W pv ow' H' S' σ' ∧ PostS W pv H0 ow H Wx (forLoop tg kl (fun S => exSs cl gl iss S) (ds.drop i) S') D, ⟨ds.length, by simp, Nat.zero_le _, ow1, S1, Step.refl, r1, by simpa using h1⟩, ?_⟩
  rintro i m σ2 H2 ⟨rfl, hle, ow2, S2, k2, r2, h2⟩
  have k12 := k1.trans k2
  by_cases hlt : i < ds.length
  · right
    have hd : ds[i]? = some ds[i] := List.getElem?_eq_getElem hlt
    obtain ⟨go, yl⟩ := (wk ow2 H2 k2.keep i).1 _ hd
    refine ⟨go, fun σ' H' => ds.length - (i + 1) = ds.length - (i + 1) ∧ i + 1 ≤ ds.length ∧ ∃ ow' S', Step ow1 H1 ow' H' ∧ Rel W pv ow' H' S' σ' ∧ PostS W pv H0 ow H Wx (forLoop tg kl (fun S => exSs cl gl iss S) (ds.drop (i + 1)) S') D, fun σ' H' q => ⟨_, by omega, q⟩, fun x H3 hy => ?_⟩
    obtain ⟨ow3, g3, rx⟩ := yl x H3 hy
    rw [List.drop_eq_getElem_cons hlt] at h2
    unfold forLoop at h2
    split at h2
    · exact False.elim h2
    · next S3 hb' =>
      rw [G.K]
      refine g_ok (r2.grow g3) rx hb' fun σ3 r3 _ _ => ?_
      have k23 := k2.trans g3.step
      have k13 := k12.trans g3.step
      refine hb pv H0 ow3 H3 S3 σ3 _ (en.step k13) r3 ?_
      cases e : exSs cl gl iss S3 with
      | nx S4 => rw [e] at h2; exact fun σ' ow' H' k' r' => ⟨rfl, hlt, ow', killS S4 kl, k23.trans k', r'.kill kl, h2⟩
      | cnt S4 => rw [e] at h2; exact fun σ' ow' H' k' r' => ⟨rfl, hlt, ow', killS S4 kl, k23.trans k', r'.kill kl, h2⟩
      | brk S4 => rw [e] at h2; exact fun σ' ow' H' k' r' => h2 σ' ow' H' (k13.trans k') (r'.kill kl)
      | ret rr S4 => rw [e] at h2; exact fun v σ' ow' H' k' r' => h2 v σ' ow' H' (k13.trans k') r'
      | exc c fs S4 => rw [e] at h2; exact fun cls d σ' ow' H' k' r' => h2 cls d σ' ow' H' (k13.trans k') r'
      | bad => rw [e] at h2; exact h2
  · left
    have e : i = ds.length := by omega
    subst e
    refine ⟨(wk ow2 H2 k2.keep ds.length).2 rfl, ?_⟩
    rw [List.drop_length] at h2
    exact h2 σ2 ow2 H2 k12 (r2.kill kl)
end
end Ev

/-! EvM1: try with several clauses, some of which name their exception. -/
namespace Ev
open PySem PySem.Spec PyProof.Rows L2

/-- a clause: its class, the slot of its name, its suite's promise -/
abbrev ClN := Value × Option Nat × (Addr → Value → Option Addr → TS)
/-- the ends, the name being gone -/
def goneD (D : Ends) (i : Nat) : Ends := { nx := fun t G => D.nx (t.set i none) G, rt := D.rt, bk := fun t G => D.bk (t.set i none) G, ct := fun t G => D.ct (t.set i none) G }
def clAsk (t : ClN) (D : Ends) (cls : Value) (d : Option Addr) (σ : L2.St) (H : Hp) (a : Addr) : Prop := match t.2.1 with
  | none => t.2.2 a cls d D σ H
  | some i => t.2.2 a cls d (goneD D i) (σ.set i (some (.ref a))) H
def wNam (K : PySem.W.Frag) (Wo : WX) (D : Ends) : List ClN → WX
  | [] => Wo
  | t :: r => fun cls d σ H => ∃ b, PySem.W.exmOne K cls t.1 = some b ∧ (b = true → ∀ a, H a = none → clAsk t D cls d σ H a) ∧ (b = false → wNam K Wo D r cls d σ H)
/-- the suite keeps its promise, whatever exception it holds -/
def SuOk (X : Cx) (su : List Stmt) (ts : Addr → Value → Option Addr → TS) : Prop :=
  ∀ (a : Addr) (oe : Obj) (cls : Value) (d : Option Addr) (pn : List (Addr × Obj)), Zc cls d oe → (∃ vs, oe.data = .fields vs) → PSs (X.suite a ((a, oe) :: pn)) su (ts a cls d)
inductive ClOk (X : Cx) : List ExceptHandler → List ClN → Prop
  | nil : ClOk X [] []
  | anon {x : Str} {c : Value} {ts : Addr → Value → Option Addr → TS} {b : Stmt} {su : List Stmt} {p q : Pos} {hs : List ExceptHandler} {l : List ClN} : Names X x c → SuOk X (b :: su) ts → ClOk X hs l →
      ClOk X (.ExceptHandler (some (.Name x p)) none (b :: su) q :: hs) ((c, none, ts) :: l)
  | named {x y : Str} {i : Nat} {c : Value} {ts : Addr → Value → Option Addr → TS} {b : Stmt} {su : List Stmt} {p q : Pos} {hs : List ExceptHandler} {l : List ClN} : Names X x c → X.N[i]? = some y → X.env.kindOf y = some .local → SuOk X (b :: su) ts → ClOk X hs l →
      ClOk X (.ExceptHandler (some (.Name x p)) (some y) (b :: su) q :: hs) ((c, some i, ts) :: l)
section
variable {X : Cx} {body : List Stmt} {h0 : ExceptHandler} {hds : List ExceptHandler} {l : List ClN} {pos : Pos} {tb : WX → TS} {Wo : WX}
theorem ps_try_nam (es : X.stack = X.env :: X.outer) (ef : X.env.frame = some X.env.locals) (nd : X.N.Nodup) (tk : Takes X Wo)
    (hb : ∀ (U : WX) (pn : List (Addr × Obj)) (xe : Value → Shared → Prop), Takes (X.tr pn xe) U → PassesOwn (model X.prog X.w) X.A X.env xe → PSs (X.tr pn xe) body (tb U))
    (hh : ClOk X (h0 :: hds) l) : PS X (.Try body (h0 :: hds) [] [] pos) (fun D σ H => tb (wNam X.K Wo D l) D σ H) := by
  constructor
  intro pins s σ H D I h
  have ok := I.ok
  have efr : X.A.frames = some (X.env :: X.outer) := by
    rw [ok.frames, es]
  apply wpAny_Try_except
  have run := (hb (wNam X.K Wo D l) (X.pn ++ pins) (fun u t => wpAny (model X.prog X.w) X.A (noteFrame u X.env) (fun _ t2 => wpAny (model X.prog X.w) X.A (setFlight u none) (fun _ t3 => wpAny (model X.prog X.w) X.A (handleBy u X.env (h0 :: hds)) (SP X pins D) X.xe t3) X.xe t2) X.xe t) ?_ PassesOwn.looking).run [] s σ H D (I.toTry _) h
  · refine wpAny_mono run (fun fl t z => ?_) fun _ _ z => z
    -- the body ran through
    cases fl with
    | next => obtain ⟨σ1, H1, J, q⟩ := z; exact wpAny_execs_nil ⟨σ1, H1, J.ofTry ok, q⟩
    | brk => obtain ⟨σ1, H1, J, q⟩ := z; exact ⟨σ1, H1, J.ofTry ok, q⟩
    | cont => obtain ⟨σ1, H1, J, q⟩ := z; exact ⟨σ1, H1, J.ofTry ok, q⟩
    | ret u => obtain ⟨v, σ1, H1, J, r, q⟩ := z; exact ⟨v, σ1, H1, J.ofTry ok, r, q⟩
  · -- an exception left it
    rintro u t ⟨a, B, tI, pins1, σ1, H1, cls, d, rfl, J0, nb, up, sky, na, os, ag, w⟩
    have J : Inv X pins σ1 H1 tI := J0.ofTry ok
    have sky1 : Sky B (X.env :: X.outer) a (Zc cls d) X.env.locals t.heap := es ▸ sky
    show wpAny (model X.prog X.w) X.A (noteFrame (.ref a) X.env) _ _ _
    refine Sky.land Zc.steady efr ef sky1 fun g3 fl3 up3 => ?_
    have J3 : Inv X pins σ1 H1 { t with heap := g3 } := J.landed nb fl3.1 (up.trans up3) os ag
    obtain ⟨o3, vs3, at3, z3, f3⟩ := fl3.there
    have out : ∀ e ∈ X.env :: X.outer, e.frame ≠ some a := fun e he q => by
      have hm : a ∈ frs (X.env :: X.outer) := List.mem_filterMap.mpr ⟨e, he, q⟩
      obtain ⟨_, o1, e1, n1⟩ := fl3.2.2.1.mem hm
      rw [at3] at e1
      cases e1
      exact n1 _ f3
    have nL : a ≠ X.env.locals := fun q => out X.env List.mem_cons_self (by rw [ef, q])
    have nF : a ∉ X.fs := fun hm => by
      obtain ⟨e, he, q⟩ := List.mem_filterMap.mp hm
      exact out e (List.mem_cons_of_mem _ he) q
    have S3 := J3.suite at3 f3 na nL nF
    have LT : PySem.W.Looks (model X.prog X.w) g3 (typeOf (.ref a)) cls := fun _ _ _ _ kk q => wpAny_typeOf_ref (kk _ _ at3) (by rw [z3.1]; exact q)
    -- a clause's class is asked
    have ask : ∀ {x : Str} {c : Value} {p : Pos} {Q E : Value → Shared → Prop}, Names X x c → Q c { t with heap := g3 } → wpAny (model X.prog X.w) (X.A.mark (some (.ref a))) (eval (.Name x p) X.env) Q E { t with heap := g3 } := by
      rintro x c p Q E ⟨hg, hdb, hm | ⟨hm, hv, hn⟩⟩ q
      · exact ld_glob (X := X.suite a ((a, o3) :: (X.pn ++ pins))) S3 hg hm q hdb
      · exact ld_blt (X := X.suite a ((a, o3) :: (X.pn ++ pins))) S3 hg hm hv q hn hdb
    have go : ∀ {hs : List ExceptHandler} {l1 : List ClN}, ClOk X hs l1 → wNam X.K Wo D l1 cls d σ1 H1 → wpAny (model X.prog X.w) X.A (handleBy (.ref a) X.env hs) (SP X pins D) X.xe { t with heap := g3 } := by
      intro hs l1 hk
      induction hk with
      | nil =>
        intro w
        apply wpAny_handleBy_nil
        obtain ⟨_, _, _, oe, vs, T, oT, ts', he, _, hd, hT, _⟩ := id fl3
        unfold PySem.passOn
        apply wpAny_bind (wpAny_field he hd hT _)
        rw [if_neg (by simp)]
        have fin : wpAny (model X.prog X.w) X.A (setFlight (.ref a) X.env.frame) (fun _ t4 => wpAny (model X.prog X.w) X.A (throw (.ref a) : Sem Flow) (SP X pins D) X.xe t4) X.xe { t with heap := g3 } := by
          rw [ef]
          refine HandSPX.setFlight_upZ fl3 fun g4 sk4 up4 => wpAny_throw (tk _ _ ?_)
          exact ⟨a, B, tI, pins, σ1, H1, cls, d, rfl, J, nb, (up.trans up3).trans up4, .inr (.inr (by rw [es]; exact sk4)), na, os, ag, w⟩
        first
          | exact wpAny_bind (wpAny_pure (wpAny_bind fin))
          | exact wpAny_bind fin
      | anon hc su r ih =>
        rintro ⟨b, e1, y1, n1⟩
        refine wpAny_handleBy_cons (codeAny_handlers_test (ask hc ((PySem.W.exm_one (M := model X.prog X.w) J3.kIn LT e1).here ?_))) (fun q => by cases q)
        cases b with
        | false => exact ih (n1 rfl)
        | true =>
          refine codeAny_handlers_suite (HandSPX.lands_againZ fl3 fun g4 fl4 up4 => ?_)
          obtain ⟨o4, vs4, at4, z4, f4⟩ := fl4.there
          have S4 := (J.landed (s' := { t with heap := g4 }) nb fl4.1 ((up.trans up3).trans up4) os ag).suite at4 f4 na nL nF
          refine wpAny_mono ((su a o4 cls d (X.pn ++ pins) z4 ⟨_, f4⟩).run [] _ _ H1 _ S4 (y1 rfl a na)) (fun fl t6 z => ?_) fun _ _ z => z.elim
          cases fl with
          | next => obtain ⟨σ6, H6, S6, q6⟩ := z; exact ⟨_, _, S6.unsuite ok, q6⟩
          | brk => obtain ⟨σ6, H6, S6, q6⟩ := z; exact ⟨_, _, S6.unsuite ok, q6⟩
          | cont => obtain ⟨σ6, H6, S6, q6⟩ := z; exact ⟨_, _, S6.unsuite ok, q6⟩
          | ret u => obtain ⟨v6, σ6, H6, S6, r6, q6⟩ := z; exact ⟨_, _, _, S6.unsuite ok, r6, q6⟩
      | @named x y i c ts b su p q hs l hc hi hl sok r ih =>
        rintro ⟨b, e1, y1, n1⟩
        refine wpAny_handleBy_cons (codeAny_handlers_test (ask hc ((PySem.W.exm_one (M := model X.prog X.w) J3.kIn LT e1).here ?_))) (fun q => by cases q)
        cases b with
        | false => exact ih (n1 rfl)
        | true =>
          refine codeAny_handlers_suite_as (HandSPX.lands_againZ fl3 fun g4 fl4 up4 => ?_)
          obtain ⟨o4, vs4, at4, z4, f4⟩ := fl4.there
          have S4 := (J.landed (s' := { t with heap := g4 }) nb fl4.1 ((up.trans up3).trans up4) os ag).suite at4 f4 na nL nF
          refine store_ok (X := X.suite a ((a, o4) :: (X.pn ++ pins))) (v := .ref a) S4 nd hi (.inl hl) rfl (fun t5 S5 => ?_) (.inr hl)
          refine wpAny_mono ((sok a o4 cls d (X.pn ++ pins) z4 ⟨_, f4⟩).run [] t5 _ H1 _ S5 (y1 rfl a na)) (fun fl t6 z => ?_) fun _ _ z => z.elim
          have last : ∀ {σ6 : L2.St} {H6 : Hp} {Q : Shared → Prop}, Inv (X.suite a ((a, o4) :: (X.pn ++ pins))) [] σ6 H6 t6 → (∀ t7, Inv X pins (σ6.set i none) H6 t7 → Q t7) → wpAny (model X.prog X.w) X.A (do bindName X.env y .none; unbindBehindTheSuite X.env y q) (fun _ t7 => Q t7) X.xe t6 :=
            fun {σ6 H6 Q} S6 hq => gone_ok (S6.unsuite ok) nd hi hl hq
          cases fl with
          | next => obtain ⟨σ6, H6, S6, q6⟩ := z; exact last S6 fun t7 J7 => ⟨_, _, J7, q6⟩
          | brk => obtain ⟨σ6, H6, S6, q6⟩ := z; exact last S6 fun t7 J7 => ⟨_, _, J7, q6⟩
          | cont => obtain ⟨σ6, H6, S6, q6⟩ := z; exact last S6 fun t7 J7 => ⟨_, _, J7, q6⟩
          | ret u => obtain ⟨v6, σ6, H6, S6, r6, q6⟩ := z; exact last S6 fun t7 J7 => ⟨_, _, _, J7, r6, q6⟩
    exact go hh w
end
end Ev

/-! EvM2: an instance's own list: added to, put in. -/
namespace Ev
open PySem PySem.Spec PyProof.Rows L2
section
variable {W : Wd} {M : MC} {cl : Calls} {gl : Str → Option D} {k : Nat} {X : Cx} {sc : Scope} {Wx : WX} {a : Expr} {ia : E} {pos p1 p2 p3 p4 p5 p6 : Pos} {c f g x : Str} {i : Nat}
/-- x.f.append(x.g) -/
theorem snd_fap (G : CxG W M cl gl k X sc Wx) (hq : (c, f) ∈ M.flds) (hq2 : (c, g) ∈ M.flds) (hN : X.N[i]? = some x) (hv : Vis X.env.scope x) (hd : (x == ("__debug__" : Str)) = false) (hcd : (x == ("__classdict__" : Str)) = false) (hl : (p2.endLine == p3.line) = true) :
    SndS W cl gl X Wx (.Expr (.Call (.Attribute (.Attribute (.Name x p1) f p4) "append" p2) [.Attribute (.Name x p5) g p6] [] p3) pos) (.fap c i f g) := by
  intro pv H0 ow H S σ D en r h
  simp only [exS] at h
  obtain ⟨hm, hn⟩ := G.fld _ hq
  obtain ⟨_, hn2⟩ := G.fld _ hq2
  have hs : noStar (.Attribute (.Name x p5) g p6) = true := rfl
  refine RS.of (ps_expr (pe_bm PySem.F.plainAttrs_list PySem.F.slot_list_append PySem.F.type_list_append mt_append (pe_fld (pe_var hN hv hd hcd) (attr_base rfl)) (pa_cons (pe_fld (pe_var hN hv hd hcd) (attr_base rfl)) pa_nil (star_cons hs)) (attr_base rfl) (by rw [star_cons hs]; rfl) hl (star_cons hs) rfl) rfl) ?_
  split at h
  · next fs e0 =>
    split at h
    · next xs d e2 e9 =>
      split at h
      · next hz =>
        obtain ⟨v, hv', ad, dx, gs, rfl, hmem, e1, t1, e8, t8, rf⟩ := r.obj (insF_ok e0)
        obtain ⟨la, us, e3, e4, t4, rl, put⟩ := repV_lst rf e2
        obtain ⟨u, e5, rep⟩ := repV_lookup rf e9
        have hnn : H la ≠ none := by rw [e4]; simp
        obtain ⟨u1, u2, u3⟩ := upd_sl (o := .lst (us ++ [u])) t4 hnn
        have n1 : ad ≠ la := fun z => by rw [z, e4] at e1; cases e1
        have n2 : dx ≠ la := fun z => by rw [z, e4] at e8; cases e8
        have cl1 : Cls X.K (W.cad c) := by rw [G.K]; exact (G.cls _ hm).2.cl
        refine ⟨_, hv', ad, _, dx, gs, .ref la, rfl, e1, cl1, by rw [G.K]; exact hn, e3, .inl ⟨rfl, _, SqL.of e4⟩, _, hv', ad, _, dx, gs, u, rfl, e1, cl1, by rw [G.K]; exact hn2, e5, la, us, u, rfl, rfl, e4, by rw [← rl.length]; simpa using hz, ?_⟩
        exact h σ ow _ u3 (r.putO (insF_ok e0) hv' u1 u2 ⟨ad, dx, gs, rfl, hmem, by rw [upd_ne n1]; exact e1, t1, by rw [upd_ne n2]; exact e8, t8, put u1 upd_same t4 ((rl.append (.one rep)).keep u1)⟩)
      · exact False.elim h
    · exact False.elim h
  · exact False.elim h
/-- x.f = a new list -/
theorem snd_atl (G : CxG W M cl gl k X sc Wx) (hq : (c, f) ∈ M.flds) (hN : X.N[i]? = some x) (hv : Vis X.env.scope x) (hd : (x == ("__debug__" : Str)) = false) (hcd : (x == ("__classdict__" : Str)) = false) (hn : noComp a = true) (ha : SndE W cl gl X Wx a ia) :
    SndS W cl gl X Wx (.Assign [.Attribute (.Name x p1) f p2] a pos) (.atl c i f ia) := by
  intro pv H0 ow H S σ D en r h
  simp only [exS] at h
  obtain ⟨hm, hna⟩ := G.fld _ hq
  refine RS.of (ps_fld (pe_var hN hv hd hcd) pe_RE (swaps_no hn)) (RE.mono (ha pv ow H S σ _ r (PostS.seq h)) ?_)
  rintro y H1 ⟨ry, S1, ow1, -, k1, r1, p1, h1⟩
  split at h1
  · next xs fs e5 =>
    split at h1
    · next hz =>
      obtain ⟨ow2, k2, _, r2, la, us, rfl, e4, ⟨t4, _⟩, rl⟩ := asg_cell (z := false) (c := .own (.lst xs)) (t := .sl i) r1 k1 p1 rfl
      obtain ⟨v, hv', ad, dx, gs, rfl, hm', e1, t1, e2, t2, rf⟩ := r2.obj (insF_ok e5)
      have hnn : H1 ad ≠ none := by rw [e1]; simp
      obtain ⟨u1, u2, u3⟩ := upd_sl (o := .ins (W.cad c) dx (putF f (.ref la) gs)) t1 hnn
      have hne : dx ≠ ad := fun z => by rw [z, e1] at e2; cases e2
      refine ⟨_, hv', ad, _, dx, gs, rfl, e1, by rw [G.K]; exact (G.cls _ hm).2.cl, by rw [G.K]; exact hna, by rw [← repV_len rf]; omega, ?_⟩
      exact h1 σ ow2 _ (k2.trans u3) (r2.putO (insF_ok e5) hv' u1 u2 ⟨ad, dx, _, rfl, hm', upd_same, t1, by rw [upd_ne hne]; exact e2, t2, repV_upd t1 (fun us z => by rw [e1] at z; cases z) (repV_putL e4 t4 rl rf)⟩)
    · exact False.elim h1
  · exact False.elim h1
end
end Ev

/-! EvM3: lists whose items may be lists of their own: added to, returned, changed; a choice of two dicts. -/
namespace Ev
open PySem PySem.Spec PyProof.Rows L2
section
variable {W : Wd} {pv : Nat → Option V} {ow : Ow} {H : Hp} {S : Fr} {σ : L2.St}
theorem take_in {Ha : Hp} {t : Tag} {ow : Ow} {p : Addr} (h1 : ow p = .tm) (h2 : Ha p = none) : owTake Ha t ow p = t := by unfold owTake; rw [if_pos ⟨h1, h2⟩]
theorem take_out {Ha : Hp} {t u : Tag} {ow : Ow} {p : Addr} (h1 : ow p = u) (h2 : u ≠ .tm) : owTake Ha t ow p = u := by
  unfold owTake
  rw [if_neg (fun z => h2 (h1 ▸ z.1))]
  exact h1
/-- a slot's object goes out of the frame -/
theorem ret_own {H0 : Hp} {i : Nat} {o : Ob} {v : V} (en : Ent pv H0 ow H) (r : Rel W pv ow H S σ) (hc : getC S i = some (.own o)) (hv : σ[i]? = some (some v)) :
    ∃ ow', Step ow H ow' H ∧ Rel W pv ow' H (setC S i none) σ ∧ ObRep W ow' H (fun p => ow' p = .tm ∧ H0 p = none) o v := by
  obtain ⟨u, hu, q⟩ := r.cell i _ hc
  rw [hv] at hu
  cases hu
  have hpv : pv i = none := by
    cases e : pv i with
    | none => rfl
    | some w =>
      obtain ⟨o', z, _⟩ := r.par i w e
      rw [hc] at z
      cases z
  have hnew : ∀ p, ow p = .sl i → H0 p = none := fun p hp => by
    cases z : H0 p with
    | none => rfl
    | some o' =>
      rcases (en p (by rw [z]; simp)).2 with q | q | q | ⟨j, w, hw, q⟩ <;> rw [hp] at q <;> cases q
      rw [hpv] at hw
      cases hw
  have hk : Keep ow H (owTo i ow) H := fun p _ e => ⟨rfl, by unfold owTo; rw [if_neg (by rw [e]; simp)]; exact e⟩
  have hst : Step ow H (owTo i ow) H := fun p hp => by
    refine ⟨hp, fun e => ⟨rfl, by unfold owTo; rw [if_neg (e i)]⟩, fun j e => ?_⟩
    unfold owTo
    split
    · exact .inr (.inr rfl)
    · exact .inl e
  refine ⟨owTo i ow, hst, ⟨by simp [setC, r.len], fun j c' hc' => ?_, fun j u hu => ?_, fun j o' hc' => ?_⟩, ObRep.keep hk (fun p _ e => ⟨rfl, by unfold owTo; rw [if_pos e], hnew p e⟩) q⟩
  · have hj : i ≠ j := fun z => by subst z; rw [getC_set_self (getC_lt hc)] at hc'; cases hc'
    rw [getC_set_ne hj] at hc'
    obtain ⟨u, hu, q'⟩ := r.cell j c' hc'
    have kt : ∀ p, H p ≠ none → ow p = .sl j → H p = H p ∧ owTo i ow p = .sl j := fun p _ e => ⟨rfl, by unfold owTo; rw [if_neg (by rw [e]; simp [Ne.symm hj])]; exact e⟩
    refine ⟨u, hu, ?_⟩
    cases c' with
    | val d => exact Rep.keep hk q'
    | own o => exact ObRep.keep hk kt q'
    | par o => exact ObRep.keep hk kt q'
    | exc _ _ => exact q'
  · obtain ⟨o', h2, h3⟩ := r.par j u hu
    have hj : i ≠ j := fun z => by subst z; rw [hpv] at hu; cases hu
    exact ⟨o', by rw [getC_set_ne hj]; exact h2, h3⟩
  · have hj : i ≠ j := fun z => by subst z; rw [getC_set_self (getC_lt hc)] at hc'; cases hc'
    rw [getC_set_ne hj] at hc'
    exact r.unpar j o' hc'
theorem rrepL_len {H0 : Hp} {rs : List R} {vs : List V} (q : RRepL W H0 ow H σ rs vs) : rs.length = vs.length := by
  induction q with
  | nil => rfl
  | cons _ _ ih => simp [ih]
theorem setC_two {S : Fr} {i : Nat} {a b : Option Cell} : setC (setC S i a) i b = setC S i b := by
  unfold setC
  rw [List.set_set]
theorem putC_own {S : Fr} {i : Nat} {o : Ob} {c : Cell} (h : getC S i = some (.own o)) : putC S i c = some (setC S i (some c)) := by
  unfold putC
  rw [h]
/-- the slot's list and new items in one new list -/
theorem cat_ok {H1 : Hp} {ow1 : Ow} {S1 : Fr} {i : Nat} {xs ys : List FV} {rs : List R} {us ws : List V} {a p q : Addr} (k1 : Step ow H ow1 H1) (r1 : Rel W pv ow1 H1 S1 σ) (hc : getC S1 i = some (.own (.ll xs))) (hv : σ[i]? = some (some (.ref a))) (hus : H1 a = some (.lst us))
    (hr : RRepL W H ow1 H1 σ rs ws) (hy : fvRs rs = some ys) (hp : H1 p = none) (hq : upd H1 p (.lst ws) q = none) :
    ∃ ow', Step ow H ow' (upd (upd H1 p (.lst ws)) q (.lst (us ++ ws))) ∧ Rel W pv ow' (upd (upd H1 p (.lst ws)) q (.lst (us ++ ws))) (setC S1 i (some (.own (.ll (xs ++ ys))))) (σ.set i (some (.ref q))) := by
  obtain ⟨v, hv', a', vs, rfl, g1, g2, g3⟩ := r1.cell i _ hc
  rw [hv] at hv'
  cases hv'
  rw [hus] at g1
  cases g1
  have hqp : q ≠ p := fun z => by rw [z, upd_same] at hq; cases hq
  have hq1 : H1 q = none := by rw [upd_ne hqp] at hq; exact hq
  have G1 := Grow.new (ow := ow1) (o := .lst ws) (t := .tm) hp
  have G2 := Grow.new (ow := fun z => if z = p then Tag.tm else ow1 z) (o := .lst (us ++ ws)) (t := .tm) hq
  have GG := G1.trans G2
  have k3 := k1.trans GG.step
  have r3 := r1.grow GG
  refine ⟨_, owTake_step (t := .sl i) k3, put_cell (c := .own (.ll (xs ++ ys))) (owTake_rel (t := .sl i) (Ha := H) r3) (by simp) ?_ (putC_own hc)⟩
  have kk : Keep ow1 H1 (owTake H (.sl i) (fun z => if z = q then Tag.tm else if z = p then Tag.tm else ow1 z)) (upd (upd H1 p (.lst ws)) q (.lst (us ++ ws))) := fun z hz e => by
    obtain ⟨e1, e2⟩ := GG z hz
    exact ⟨e1, take_out (e2.trans e) (by simp)⟩
  refine ⟨q, us ++ ws, rfl, upd_same, ?_, RepX.append (g3.keep kk fun z hz e => ?_) ((repX_of hr hy).keep kk fun z hz e => ?_)⟩
  · exact take_in (if_pos rfl) (k1.none hq1)
  · obtain ⟨e1, e2⟩ := GG z hz
    have hzq : z ≠ q := fun y => hz (y ▸ hq1)
    exact ⟨e1, take_out (e2.trans e.1) (by simp), hzq⟩
  · obtain ⟨e1, e2⟩ := GG z hz
    have hzq : z ≠ q := fun y => hz (y ▸ hq1)
    exact ⟨e1, take_in (e2.trans e.1) e.2, hzq⟩
end
section
variable {W : Wd} {M : MC} {cl : Calls} {gl : Str → Option D} {k : Nat} {X : Cx} {sc : Scope} {Wx : WX} {a : Expr} {ia : E} {es : List Expr} {ies : Es} {pos p1 p2 p3 p4 p5 : Pos} {x y : Str} {i j : Nat}
/-- x = x + [..] -/
theorem snd_catL (hND : X.N.Nodup) (hN : X.N[i]? = some x) (hv : Vis X.env.scope x) (hd : (x == ("__debug__" : Str)) = false) (hcd : (x == ("__classdict__" : Str)) = false) (hx : Loc X.env.scope x) (hf : X.fn x = true) (he : SndRs W cl gl X Wx es ies) :
    SndS W cl gl X Wx (.Assign [.Name x p1] (.BinOp (.Name x p2) .Add (.List es p3) p4) pos) (.catL i ies) := by
  intro pv H0 ow H S σ D en r h
  simp only [exS] at h
  refine RS.of (ps_set hND hN hx (pe_op (r := fun x y H Q => ∃ rr, OpR X (binaryOp .Add) rr ∧ rr x y H Q) (fun pins s σ H x y v u Q I rx ry q => let ⟨rr, ho, q⟩ := q; ho pins s σ H x y v u Q I rx ry q) (pe_var hN hv hd hcd) (pe_lst pa_RA)) (swaps_no rfl) (.inl hf)) ?_
  split at h
  · next xs0 hg =>
    obtain ⟨v, hv, a0, us0, rfl, hl0, ht0, _⟩ := r.cell i _ (llC_ok hg)
    refine ⟨_, hv, RA.mono (he pv ow H S σ _ r (PostS.seq h)) ?_⟩
    rintro ws H1 ⟨rs, S1, ow1, -, k1, r1, q1, h1⟩
    split at h1
    · next xs ys hx1 hy1 =>
      split at h1
      · next hz =>
        simp only [Bool.and_eq_true] at hz
        have hc := llC_ok hx1
        obtain ⟨v', hv', a1, us, rfl, g1, g2, g3⟩ := r1.cell i _ hc
        rw [hv] at hv'
        cases hv'
        refine ⟨by rw [← rrepL_len q1]; exact lineOk_ok hz.1, fun p hp => ?_⟩
        have hap : a0 ≠ p := fun e => by rw [e, hp] at g1; cases g1
        have hly : ys.length = ws.length := (repX_of q1 hy1).length
        refine ⟨_, op_cat, a0, p, us, ws, rfl, rfl, by rw [upd_ne hap]; exact g1, upd_same, by rw [← g3.length, ← hly]; exact lineOk_ok hz.2, fun q hq => ?_⟩
        obtain ⟨ow', s1, r'⟩ := cat_ok k1 r1 hc hv g1 q1 hy1 hp hq
        exact h1 _ ow' _ s1 r'
      · exact False.elim h1
    · exact False.elim h1
  · exact False.elim h
/-- return x + [..] -/
theorem snd_retL (hN : X.N[i]? = some x) (hv : Vis X.env.scope x) (hd : (x == ("__debug__" : Str)) = false) (hcd : (x == ("__classdict__" : Str)) = false) (he : SndRs W cl gl X Wx es ies) :
    SndS W cl gl X Wx (.Return (some (.BinOp (.Name x p2) .Add (.List es p3) p4)) pos) (.retL i ies) := by
  intro pv H0 ow H S σ D en r h
  simp only [exS] at h
  refine RS.of (ps_ret (pe_op (r := fun x y H Q => ∃ rr, OpR X (binaryOp .Add) rr ∧ rr x y H Q) (fun pins s σ H x y v u Q I rx ry q => let ⟨rr, ho, q⟩ := q; ho pins s σ H x y v u Q I rx ry q) (pe_var hN hv hd hcd) (pe_lst pa_RA))) ?_
  split at h
  · next xs0 hg =>
    obtain ⟨v, hv, a0, us0, rfl, hl0, ht0, _⟩ := r.cell i _ (llC_ok hg)
    refine ⟨_, hv, RA.mono (he pv ow H S σ _ r (PostS.seq h)) ?_⟩
    rintro ws H1 ⟨rs, S1, ow1, -, k1, r1, q1, h1⟩
    split at h1
    · next xs ys hx1 hy1 =>
      split at h1
      · next hz =>
        simp only [Bool.and_eq_true] at hz
        have hc := llC_ok hx1
        obtain ⟨v', hv', a1, us, rfl, g1, g2, g3⟩ := r1.cell i _ hc
        rw [hv] at hv'
        cases hv'
        refine ⟨by rw [← rrepL_len q1]; exact lineOk_ok hz.1, fun p hp => ?_⟩
        have hap : a0 ≠ p := fun e => by rw [e, hp] at g1; cases g1
        have hly : ys.length = ws.length := (repX_of q1 hy1).length
        refine ⟨_, op_cat, a0, p, us, ws, rfl, rfl, by rw [upd_ne hap]; exact g1, upd_same, by rw [← g3.length, ← hly]; exact lineOk_ok hz.2, fun q hq => ?_⟩
        obtain ⟨ow', s1, r'⟩ := cat_ok k1 r1 hc hv g1 q1 hy1 hp hq
        have hlt : i < S1.length := getC_lt hc
        have hls : i < σ.length := (List.getElem?_eq_some_iff.mp hv).1
        obtain ⟨ow2, s2, r2, o2⟩ := ret_own (en.step s1) r' (getC_set_self hlt) (List.getElem?_set_self hls)
        rw [setC_two] at r2
        exact h1 _ _ ow2 _ (s1.trans s2) r2 o2
      · exact False.elim h1
    · exact False.elim h1
  · exact False.elim h
/-- x.append(e) -/
theorem snd_appL (hs : noStar a = true) (hN : X.N[i]? = some x) (hv : Vis X.env.scope x) (hd : (x == ("__debug__" : Str)) = false) (hcd : (x == ("__classdict__" : Str)) = false) (hl : (p2.endLine == p3.line) = true) (ha : SndE W cl gl X Wx a ia) :
    SndS W cl gl X Wx (.Expr (.Call (.Attribute (.Name x p1) "append" p2) [a] [] p3) pos) (.appL i ia) := by
  intro pv H0 ow H S σ D en r h
  simp only [exS] at h
  refine RS.of (ps_expr (pe_bm PySem.F.plainAttrs_list PySem.F.slot_list_append PySem.F.type_list_append mt_append (pe_var hN hv hd hcd) (pa_cons pe_RE pa_nil (star_cons hs)) (attr_base rfl) (by rw [star_cons hs]; rfl) hl (star_cons hs) rfl) rfl) ?_
  split at h
  · next xs0 hg =>
    obtain ⟨v, hv, l, us, rfl, hl0, ht0, _⟩ := r.cell i _ (llC_ok hg)
    refine ⟨_, hv, .inl ⟨rfl, _, SqL.of hl0⟩, RE.mono (ha pv ow H S σ _ r (PostS.seq h)) ?_⟩
    rintro y H1 ⟨ry, S1, ow1, -, k1, r1, p1, h1⟩
    obtain ⟨d, S2, ow2, k2, _, r2, p2, h2⟩ := PostS.esc r1 k1 p1 h1
    split at h2
    · next xs hg2 =>
      split at h2
      · next hz =>
        have hc := llC_ok hg2
        obtain ⟨v', hv', l', vs, rfl, hl', tl', rl'⟩ := r2.cell i _ hc
        rw [hv] at hv'
        cases hv'
        have hn : H1 l ≠ none := by rw [hl']; simp
        obtain ⟨u1, u2, u3⟩ := upd_sl (o := .lst (vs ++ [y])) tl' hn
        refine ⟨l, vs, y, rfl, rfl, hl', by rw [← rl'.length]; simpa using hz, ?_⟩
        have ho : getO S2 i = some (.ll xs) := by unfold getO; rw [hc]
        have e : setC S2 i (some (.own (.ll (xs ++ [.v d])))) = putO S2 i (.ll (xs ++ [.v d])) := by unfold putO; rw [hc]
        rw [e] at h2
        refine h2 σ ow2 _ (k2.trans u3) (r2.putO ho hv u1 u2 ⟨l, vs ++ [y], rfl, upd_same, tl', RepX.append (rl'.keep u1 fun p hp z => ⟨upd_ne z.2, z⟩) (.val (p2.keep u1) .nil)⟩)
      · exact False.elim h2
    · exact False.elim h2
  · exact False.elim h
/-- x.reverse() -/
theorem snd_revS (hN : X.N[i]? = some x) (hv : Vis X.env.scope x) (hd : (x == ("__debug__" : Str)) = false) (hcd : (x == ("__classdict__" : Str)) = false) (hl : (p2.endLine == p3.line) = true) :
    SndS W cl gl X Wx (.Expr (.Call (.Attribute (.Name x p1) "reverse" p2) [] [] p3) pos) (.rev i) := by
  intro pv H0 ow H S σ D en r h
  simp only [exS] at h
  refine RS.of (ps_expr (pe_bm0 PySem.F.plainAttrs_list PySem.F.slot_list_reverse PySem.F.type_list_reverse mt_reverse (pe_var hN hv hd hcd) (attr_base rfl) hl) rfl) ?_
  split at h
  · next xs hg =>
    obtain ⟨v, hv, l, us, rfl, hl0, ht0, hr⟩ := r.obj hg
    have hn : H l ≠ none := by rw [hl0]; simp
    obtain ⟨u1, u2, u3⟩ := upd_sl (o := .lst us.reverse) ht0 hn
    have hrev : ∀ {d : List Ev.D} {v : List V}, RepL W ow H d v → RepL W ow H d.reverse v.reverse := by
      intro d v q
      induction d generalizing v with
      | nil => cases q; exact .nil
      | cons x d ih =>
        cases q with
        | cons q1 q2 =>
          simp only [List.reverse_cons]
          exact (ih q2).append (.one q1)
    exact ⟨_, hv, .inl ⟨rfl, _, SqL.of hl0⟩, l, us, rfl, rfl, hl0, h σ ow _ u3 (r.putO hg hv u1 u2 ⟨l, us.reverse, rfl, upd_same, ht0, (hrev hr).keep u1⟩)⟩
  · exact False.elim h
/-! ### for y in x: f(y) -/
open Classical in
noncomputable def owOne (b : Addr) (t : Tag) (ow : Ow) : Ow := fun p => if p = b then t else ow p
theorem one_self {b : Addr} {t : Tag} {ow : Ow} : owOne b t ow b = t := by unfold owOne; rw [if_pos rfl]
theorem one_ne {b p : Addr} {t : Tag} {ow : Ow} (h : p ≠ b) : owOne b t ow p = ow p := by unfold owOne; rw [if_neg h]
theorem one_keep {b : Addr} {t : Tag} {ow : Ow} {H : Hp} (h : ow b ≠ .fz) : Keep ow H (owOne b t ow) H := fun p _ e => ⟨rfl, by rw [one_ne (fun z => h (by rw [← z]; exact e))]; exact e⟩
/-- an address that no slot but one may hold gets another tag -/
theorem one_rel {pv : Nat → Option V} {ow : Ow} {H : Hp} {S : Fr} {σ : L2.St} {b : Addr} {t u : Tag} (r : Rel W pv ow H S σ) (hb : ow b = u) (h1 : u ≠ .fz) (h2 : ∀ m c, getC S m = some c → u ≠ .sl m) : Rel W pv (owOne b t ow) H S σ := by
  have kk : Keep ow H (owOne b t ow) H := one_keep (by rw [hb]; exact h1)
  refine ⟨r.len, fun m c hc => ?_, r.par, r.unpar⟩
  obtain ⟨v, hv, q⟩ := r.cell m c hc
  refine ⟨v, hv, ?_⟩
  have kt : ∀ p, H p ≠ none → ow p = .sl m → H p = H p ∧ owOne b t ow p = .sl m := fun p _ e => ⟨rfl, by rw [one_ne (fun z => h2 m c hc (by rw [← hb, ← z]; exact e))]; exact e⟩
  cases c with
  | val d => exact Rep.keep kk q
  | own o => exact ObRep.keep kk kt q
  | par o => exact ObRep.keep kk kt q
  | exc _ _ => exact q
/-- an item of the list, n items behind its start -/
def ItC (W : Wd) (ow0 : Ow) (i : Nat) (a : Addr) (n : Nat) (ow : Ow) (H : Hp) : FV → V → Prop
  | .v d, u => Rep W ow H d u
  | .l _, u => ∃ b us zs, u = .ref b ∧ b ≠ a ∧ ow0 b = .sl i ∧ H b = some (.lst us) ∧ ow b = .tm ∧ RepL W ow H zs us ∧ zs.length ≤ 1000000 + n
theorem itC_of {ow : Ow} {H : Hp} {a : Addr} {B : Nat} (hB : B ≤ 1000000) {ow1 : Ow} (k : Keep ow H ow1 H) (ht : ∀ p, ow p = .sl i → p ≠ a → ow1 p = .tm) : ∀ {xs : List FV} {vs : List V}, RepX W ow H (fun p => ow p = .sl i ∧ p ≠ a) xs vs → (∀ ys, FV.l ys ∈ xs → ys.length ≤ B) → ∀ (m : Nat) (z : FV), xs[m]? = some z → ∃ u, vs[m]? = some u ∧ ItC W ow i a 0 ow1 H z u
  | [], _, _, _, m, z, e => by simp at e
  | w :: xs, _, h, hl, m, z, e => by
    cases h with
    | val q l =>
      cases m with
      | zero => simp at e; subst e; exact ⟨_, rfl, Rep.keep k q⟩
      | succ m => simpa using itC_of hB k ht l (fun ys hy => hl ys (List.mem_cons_of_mem _ hy)) m z (by simpa using e)
    | lst g1 g2 g3 l =>
      cases m with
      | zero =>
        simp at e
        subst e
        exact ⟨_, rfl, _, _, _, rfl, g2.2, g2.1, g1, ht _ g2.1 g2.2, g3.keep k, by have := hl _ List.mem_cons_self; omega⟩
      | succ m => simpa using itC_of hB k ht l (fun ys hy => hl ys (List.mem_cons_of_mem _ hy)) m z (by simpa using e)
theorem ItC.keep {ow0 ow ow1 : Ow} {H H1 : Hp} {a : Addr} {n : Nat} {z : FV} {u : V} (k : Step ow H ow1 H1) (h : ItC W ow0 i a n ow H z u) : ItC W ow0 i a (n + 1) ow1 H1 z u := by
  cases z with
  | v d => exact Rep.keep k.keep h
  | l ys =>
    obtain ⟨b, us, zs, e1, e2, e3, e4, e5, e6, e7⟩ := h
    obtain ⟨q1, q2⟩ := k.tag (p := b) (by rw [e4]; simp) e5 (by simp)
    exact ⟨b, us, zs, e1, e2, e3, q1.trans e4, q2, e6.keep k.keep, by omega⟩
theorem free_none {S : Fr} {j : Nat} (h : isFree S j = true) : getC S j = none ∧ j < S.length := by
  unfold isFree at h
  simpa only [Bool.and_eq_true, decide_eq_true_eq, Option.isNone_iff_eq_none] using h
theorem set_back {S : Fr} {j : Nat} {c : Option Cell} (h : getC S j = none) : setC (setC S j c) j none = S := by
  unfold setC
  rw [List.set_set]
  refine List.ext_getElem? fun m => ?_
  by_cases hm : j = m
  · subst hm
    by_cases hl : j < S.length
    · rw [List.getElem?_set_self hl]
      unfold getC at h
      rw [List.getElem?_eq_getElem hl] at h ⊢
      simp only at h
      rw [h]
    · rw [List.getElem?_eq_none (by simpa using hl), List.getElem?_eq_none (by simpa using hl)]
  · rw [List.getElem?_set_ne hm]
theorem set_back2 {S : Fr} {j : Nat} {c c' : Option Cell} (h : getC S j = none) : setC (setC (setC S j c) j c') j none = S := by
  rw [setC_two (b := c')]
  exact set_back h
theorem snd_chgL (G : CxG W M cl gl k X sc Wx) {f : Str} {call : Expr} (hN : X.N[i]? = some x) (hv : Vis X.env.scope x) (hd : (x == ("__debug__" : Str)) = false) (hcd : (x == ("__classdict__" : Str)) = false)
    (hg : PG X (.Name y p1) (gOf X.K (.one j))) (hn : noComp call = true) (hcv : SndE W cl gl X Wx call (.call f (.cons (.var j) .nil))) (hcr : SndE W cl gl X Wx call (.call f (.cons (.ref j) .nil))) :
    SndS W cl gl X Wx (.For (.Name y p1) (.Name x p2) [.Expr call p3] [] pos) (.chgL j i f) := by
  intro pv H0 ow H S σ D en r h
  simp only [exS] at h
  refine RS.of (ps_for G.pw G.calm (pi_list (pe_var hN hv hd hcd)) hg pss_RS (fun _ => rfl)) ?_
  split at h
  case h_2 => exact False.elim h
  next xs e1 =>
  unfold chgR at h
  split at h
  case isFalse => exact False.elim h
  next hc =>
  obtain ⟨hfree, c1, c2, c3, c4⟩ := hc
  have hci := llC_ok e1
  obtain ⟨v, hv', a, vs, rfl, g1, g2, g3⟩ := r.cell i _ hci
  have hpv : pv i = none := by
    cases e : pv i with
    | none => rfl
    | some w =>
      obtain ⟨o', z, _⟩ := r.par i w e
      rw [hci] at z
      cases z
  obtain ⟨hj0, hjl⟩ := free_none hfree
  have hij : i ≠ j := fun e => by rw [← e, hci] at hj0; cases hj0
  refine ⟨_, hv', a, rfl, ⟨vs, SqL.of g1⟩, ?_⟩
  have hlen : xs.length = vs.length := g3.length
  have kT : Keep ow H (owTo i ow) H := fun p _ e => ⟨rfl, by unfold owTo; rw [if_neg (by rw [e]; simp)]; exact e⟩
  have sT : Step ow H (owTo i ow) H := fun p hp => by
    refine ⟨hp, fun e => ⟨rfl, by unfold owTo; rw [if_neg (e i)]⟩, fun m e => ?_⟩
    unfold owTo
    split
    · exact .inr (.inr rfl)
    · exact .inl e
  have tT : ∀ p, ow p = .sl i → owTo i ow p = .tm := fun p e => by unfold owTo; rw [if_pos e]
  have hS1 : ∀ m c, getC (setC S i none) m = some c → m ≠ i ∧ getC S m = some c := fun m c hc => by
    by_cases hm : i = m
    · subst hm
      rw [getC_set_self (getC_lt hci)] at hc
      cases hc
    · rw [getC_set_ne hm] at hc
      exact ⟨Ne.symm hm, hc⟩
  have hj1 : getC (setC S i none) j = none := by rw [getC_set_ne hij]; exact hj0
  have hjl1 : j < (setC S i none).length := by simpa [setC] using hjl
  have rT : Rel W pv (owTo i ow) H (setC S i none) σ := by
    refine ⟨by simp [setC, r.len], fun m c hc => ?_, fun m u hu => ?_, fun m o hc => ?_⟩
    · obtain ⟨hm, hc⟩ := hS1 m c hc
      obtain ⟨u, hu, q⟩ := r.cell m c hc
      have kt : ∀ p, H p ≠ none → ow p = .sl m → H p = H p ∧ owTo i ow p = .sl m := fun p _ e => ⟨rfl, by unfold owTo; rw [if_neg (by rw [e]; simp [hm])]; exact e⟩
      refine ⟨u, hu, ?_⟩
      cases c with
      | val d => exact Rep.keep kT q
      | own o => exact ObRep.keep kT kt q
      | par o => exact ObRep.keep kT kt q
      | exc _ _ => exact q
    · obtain ⟨o', h2, h3⟩ := r.par m u hu
      have hm : i ≠ m := fun z => by subst z; rw [hpv] at hu; cases hu
      exact ⟨o', by rw [getC_set_ne hm]; exact h2, h3⟩
    · exact r.unpar m o (hS1 m _ hc).2
  have it0 := itC_of (i := i) (a := a) (Nat.le_refl _) kT (fun p e _ => tT p e) g3 c2
  refine ⟨fun n m σ' H' => m = vs.length - n ∧ n ≤ vs.length ∧ ∃ ow', Step ow H ow' H' ∧ Rel W pv ow' H' (setC S i none) σ' ∧ H' a = some (.lst vs) ∧ ow' a = .tm ∧ ∀ (m : Nat) (z : FV), xs[m]? = some z → ∃ u, vs[m]? = some u ∧ ItC W ow i a n ow' H' z u,
    ⟨vs.length, by simp, Nat.zero_le _, owTo i ow, sT, rT, g1, tT a g2, it0⟩, ?_⟩
  rintro n m σ2 H2 ⟨rfl, hle, ow2, s2, r2, ha2, ta2, it2⟩
  by_cases hlt : n < vs.length
  case neg => exact .inl ⟨⟨vs, SqL.of ha2, by omega⟩, h σ2 ow2 H2 s2 r2⟩
  right
  obtain ⟨z, hz⟩ : ∃ z, xs[n]? = some z := ⟨_, List.getElem?_eq_getElem (by omega)⟩
  obtain ⟨u, hu, hit⟩ := it2 n z hz
  have h1000 : n ≤ 1000 := by omega
  refine ⟨⟨vs, u, SqL.of ha2, hu⟩, fun σ' H' => vs.length - (n + 1) = vs.length - (n + 1) ∧ n + 1 ≤ vs.length ∧ ∃ ow', Step ow H ow' H' ∧ Rel W pv ow' H' (setC S i none) σ' ∧ H' a = some (.lst vs) ∧ ow' a = .tm ∧ ∀ (m : Nat) (z : FV), xs[m]? = some z → ∃ u, vs[m]? = some u ∧ ItC W ow i a (n + 1) ow' H' z u, fun σ' H' q => ⟨_, by omega, q⟩, ?_⟩
  rintro w H3 ⟨rfl, hw⟩
  have hw := hw vs (SqL.of ha2)
  rw [hu] at hw
  cases hw
  have hann : H3 a ≠ none := by rw [ha2]; simp
  have hput : ∀ c, putC (setC S i none) j c = some (setC (setC S i none) j (some c)) := fun c => by unfold putC; rw [hj1]
  refine RSs.of (pss_cons ps_RS pss_nil) (RS.of (ps_expr pe_RE (swaps_no hn)) ?_)
  cases z with
  | v d =>
    have rd : Rep W ow2 H3 d u := hit
    have r3 := put_cell (c := .val d) r2 (by simp) rd (hput _)
    have hcl := c4 d (List.mem_of_getElem? hz)
    refine hcv pv ow2 H3 _ _ _ r3 ?_
    have hgj : getC (setC (setC S i none) j (some (.val d))) j = some (.val d) := getC_set_self hjl1
    simp only [evE, evAs, Out.bind, frz, hgj, esc, callR, argCs, argC, refsOf, List.nodup_nil, if_true, hcl, back, rcR]
    intro b ow' H' k' r' p'
    obtain ⟨q1, q2⟩ := k'.tag hann ta2 (by simp)
    refine ⟨trivial, by omega, ow', s2.trans k', ?_, q1.trans ha2, q2, fun m z hm => ?_⟩
    · have := r'.kill [j]
      simp only [killS, kill1, hgj] at this
      rw [set_back hj1] at this
      exact this
    · obtain ⟨u', hu', q⟩ := it2 m z hm
      exact ⟨u', hu', q.keep k'⟩
  | l ys =>
    obtain ⟨b, us, zs, rfl, hba, hob, hHb, htb, hrz, hzl⟩ := hit
    have hbn : H3 b ≠ none := by rw [hHb]; simp
    have kO : Keep ow2 H3 (owOne b (.sl j) ow2) H3 := one_keep (by rw [htb]; simp)
    have rO : Rel W pv (owOne b (.sl j) ow2) H3 (setC S i none) σ2 := one_rel r2 htb (by simp) (fun _ _ _ => by simp)
    have r3 := put_cell (i := j) (c := .own (.lst zs)) (v := .ref b) rO (by simp) ⟨b, us, rfl, hHb, one_self, hrz.keep kO⟩ (hput _)
    obtain ⟨zs', hcl, hzl'⟩ := c3 zs (by omega)
    refine hcr pv (owOne b (.sl j) ow2) H3 _ _ _ r3 ?_
    have hgj : ∀ c, getC (setC (setC S i none) j c) j = c := fun c => getC_set_self hjl1
    have hgo : getO (setC (setC S i none) j (some (.own (.lst zs)))) j = some (.lst zs) := by unfold getO; rw [hgj]
    have hpo : putO (setC (setC S i none) j (some (.own (.lst zs)))) j (.lst zs') = setC (setC (setC S i none) j (some (.own (.lst zs)))) j (some (.own (.lst zs'))) := by unfold putO; rw [hgj]
    simp only [evE, evAs, Out.bind, hgj, callR, argCs, argC, hgo, Option.map_some, refsOf, List.nodup_cons, List.not_mem_nil, not_false_eq_true, List.nodup_nil, and_self, if_true, hcl, back, hpo, rcR]
    intro b' ow' H' k' r' p'
    have hσ : (σ2.set j (some (.ref b)))[j]? = some (some (.ref b)) := List.getElem?_set_self (by rw [← r2.len]; exact hjl1)
    have hgj2 : getC (setC (setC (setC S i none) j (some (.own (.lst zs)))) j (some (.own (.lst zs')))) j = some (.own (.lst zs')) := getC_set_self (by simpa [setC] using hjl1)
    obtain ⟨w, hw, bb, us', e0, f1, f2, f3⟩ := r'.cell j _ hgj2
    rw [hσ] at hw
    cases hw
    cases e0
    have kO2 : Keep ow' H' (owOne b .tm ow') H' := one_keep (by rw [f2]; simp)
    have rK := r'.kill [j]
    simp only [killS, kill1, hgj2] at rK
    rw [set_back2 hj1] at rK
    have taj : owOne b (.sl j) ow2 a = .tm := by rw [one_ne (Ne.symm hba)]; exact ta2
    obtain ⟨q1, q2⟩ := k'.tag hann taj (by simp)
    refine ⟨trivial, by omega, owOne b .tm ow', fun p hp => ?_, one_rel rK f2 (by simp) (fun m c hc z => ?_), q1.trans ha2, by rw [one_ne (Ne.symm hba)]; exact q2, fun m z hm => ?_⟩
    · obtain ⟨z1, z2, z3⟩ := s2 p hp
      by_cases hpb : p = b
      · subst hpb
        refine ⟨by rw [f1]; simp, fun e => absurd hob (e i), fun m e => .inr (.inr one_self)⟩
      · have t1 : owOne b (.sl j) ow2 p = ow2 p := one_ne hpb
        obtain ⟨y1, y2, y3⟩ := k' p z1
        rw [one_ne hpb]
        refine ⟨y1, fun e => ?_, fun m e => ?_⟩
        · obtain ⟨x1, x2⟩ := z2 e
          obtain ⟨w1, w2⟩ := y2 (by rw [t1, x2]; exact e)
          exact ⟨w1.trans x1, by rw [w2, t1, x2]⟩
        · rcases z3 m e with q | q | q
          · rw [← t1] at q
            exact y3 m q
          · rw [← t1] at q
            exact .inr (.inl ((y2 (by rw [q]; simp)).2.trans q))
          · rw [← t1] at q
            exact .inr (.inr ((y2 (by rw [q]; simp)).2.trans q))
    · cases z
      rw [hj1] at hc
      cases hc
    · obtain ⟨u', hu', q⟩ := it2 m z hm
      refine ⟨u', hu', ?_⟩
      cases z with
      | v d => exact Rep.keep kO2 (Rep.keep k'.keep (Rep.keep kO q))
      | l ys2 =>
        obtain ⟨b2, us2, zs2, rfl, e2, e3, e4, e5, e6, e7⟩ := q
        by_cases hb2 : b2 = b
        · subst hb2
          exact ⟨b2, us', zs', rfl, e2, e3, f1, one_self, f3.keep kO2, by omega⟩
        · obtain ⟨w1, w2⟩ := k'.tag (p := b2) (by rw [e4]; simp) (t := .tm) (by rw [one_ne hb2]; exact e5) (by simp)
          exact ⟨b2, us2, zs2, rfl, e2, e3, w1.trans e4, by rw [one_ne hb2]; exact w2, (((e6.keep kO).keep k'.keep).keep kO2), by omega⟩
/-! ### a choice of two dicts with texts as keys -/
/-- a name that is stored and read -/
def stNm (M : MC) (sc : Scope) (i : Nat) (x : Str) : Bool := slotB M sc i x && (match sc.names.lookup x with
  | some .local => true
  | some .cell => true
  | _ => false)
theorem stNm_ok (G : CxG W M cl gl k X sc Wx) {i : Nat} {x : Str} (h : stNm M sc i x = true) : X.N[i]? = some x ∧ Loc X.env.scope x ∧ Vis X.env.scope x ∧ (x == ("__debug__" : Str)) = false ∧ (x == ("__classdict__" : Str)) = false := by
  unfold stNm at h
  simp only [Bool.and_eq_true] at h
  obtain ⟨a1, a2, a3, a4⟩ := snd_at G h.1
  refine ⟨a1, ?_, a2, a3, a4⟩
  rw [G.sc]
  have := h.2
  split at this
  · next e => exact .inl e
  · next e => exact .inr e
  · cases this
theorem swaps_noD {keys : List (Option Expr)} {es : List Expr} {q : Pos} {t : Option Expr} {n : Nat} {env : Env} : swapsWith (.Dict keys es q) t n env = pure false := rfl
def keysB : List Str → List (Option Expr) → Bool
  | [], [] => true
  | k :: ks, some (.Constant (.str z) _ _) :: r => decide (z = k) && keysB ks r
  | _, _ => false
theorem keysB_len : ∀ {ks : List Str} {keys : List (Option Expr)}, keysB ks keys = true → keys.length = ks.length ∧ keys.all (·.isSome) = true
  | [], [], _ => ⟨rfl, rfl⟩
  | [], _ :: _, h => by simp [keysB] at h
  | _ :: _, [], h => by simp [keysB] at h
  | k :: ks, key :: keys, h => by
    unfold keysB at h
    split at h
    · rename_i hh _; cases hh
    · rename_i k0 ks0 z _ _ r h1 h2
      cases h1
      cases h2
      simp only [Bool.and_eq_true] at h
      obtain ⟨e1, e2⟩ := keysB_len h.2
      exact ⟨by simp [e1], by simpa using e2⟩
    · cases h
theorem put_new {acc : List (Key × V)} {q : Key} {v : V} (h : q ∉ acc.map (·.1)) : putK acc q v = acc ++ [(q, v)] := by
  unfold putK
  rw [if_neg]
  intro z
  obtain ⟨w, hw, e⟩ := List.any_eq_true.mp z
  exact h (List.mem_map.mpr ⟨w, hw, of_decide_eq_true e⟩)
theorem merge_new : ∀ (more acc : List (Key × V)), ((acc ++ more).map (·.1)).Nodup → mergeK acc more = acc ++ more
  | [], acc, _ => by simp [mergeK]
  | q :: more, acc, h => by
    have hq : q.1 ∉ acc.map (·.1) := by
      rw [List.map_append, List.map_cons] at h
      intro z
      exact (List.nodup_append.mp h).2.2 _ z _ List.mem_cons_self rfl
    have e : mergeK acc (q :: more) = mergeK (putK acc q.1 q.2) more := rfl
    rw [e, put_new hq, merge_new more _ (by simpa using h)]
    simp
def kvs (ks : List Str) (vs : List V) : List (Key × V) := (ks.zip vs).map fun q => (Sum.inr q.1, q.2)
theorem kvs_keys : ∀ {ks : List Str} {vs : List V}, vs.length = ks.length → (kvs ks vs).map (·.1) = ks.map Sum.inr
  | [], _, _ => by simp [kvs]
  | k :: ks, [], h => by simp at h
  | k :: ks, v :: vs, h => by
    have := kvs_keys (ks := ks) (vs := vs) (by simpa using h)
    simp only [kvs, List.map_map] at this ⊢
    simp [this]
theorem kvs_merge {ks : List Str} {vs : List V} (hl : vs.length = ks.length) (hn : ks.Nodup) : mergeK [] (kvs ks vs) = kvs ks vs := by
  refine merge_new _ _ ?_
  rw [List.nil_append, kvs_keys hl]
  exact List.Pairwise.map Sum.inr (fun a b q e => q (Sum.inr.inj e)) hn
theorem kvs_val {z : Str} : ∀ {ks : List Str} {vs : List V}, valV (kvs ks vs) (Sum.inr z) = (ks.zip vs).lookup z
  | [], _ => by simp [kvs, valV]
  | k :: ks, [] => by simp [kvs, valV]
  | k :: ks, v :: vs => by
    have ih := kvs_val (z := z) (ks := ks) (vs := vs)
    unfold kvs valV at ih ⊢
    simp only [List.zip_cons_cons, List.map_cons, List.find?_cons, List.lookup_cons]
    by_cases hk : k = z
    · subst hk; simp
    · have h1 : decide ((Sum.inr k : Key) = Sum.inr z) = false := by
        rw [decide_eq_false_iff_not]
        intro e
        cases e
        exact hk rfl
      have h2 : (z == k) = false := by
        rw [beq_eq_false_iff_ne]
        exact Ne.symm hk
      rw [h1, h2]
      exact ih
theorem rep_lookup {ow : Ow} {H : Hp} {z : Str} : ∀ {ks : List Str} {ds : List Ev.D} {vs : List V}, RepL W ow H ds vs → (∀ d, (ks.zip ds).lookup z = some d → ∃ v, (ks.zip vs).lookup z = some v ∧ Rep W ow H d v) ∧ ((ks.zip ds).lookup z = none → (ks.zip vs).lookup z = none)
  | [], _, _, _ => ⟨fun d h => by simp at h, fun _ => by simp⟩
  | k :: ks, _, _, .nil => ⟨fun d h => by simp at h, fun _ => by simp⟩
  | k :: ks, _, _, .cons q l => by
    obtain ⟨a1, a2⟩ := rep_lookup (z := z) (ks := ks) l
    simp only [List.zip_cons_cons, List.lookup_cons]
    cases hz : (z == k)
    · exact ⟨a1, a2⟩
    · exact ⟨fun d h => by cases h; exact ⟨_, rfl, q⟩, fun h => by cases h⟩
theorem disp_ok (G : CxG W M cl gl k X sc Wx) : ∀ {ks : List Str} {keys : List (Option Expr)} {es : List Expr} {ies : Es}, keysB ks keys = true → mEs W.own M sc ies es = true → ks.length = es.length →
    ∃ trs, PPs X pos keys es trs ∧ ∀ (pv : Nat → Option V) (ow : Ow) (H : Hp) (S : Fr) (σ : L2.St) (Q : List (V × V) → Hp → Prop), Rel W pv ow H S σ →
      Post W pv ow H σ Wx (fun ow' H' ds vs => RepL W ow' H' ds vs) (evEs cl gl ies S) (fun vs H' => Q ((ks.zip vs).map fun q => (V.str q.1, q.2)) H') → tPairs trs σ H Q
  | [], keys, [], ies, hk, hm, _ => by
    cases keys with
    | cons _ _ => simp [keysB] at hk
    | nil =>
      cases ies with
      | cons _ _ => simp [mEs] at hm
      | nil =>
        refine ⟨[], pps_nil, fun pv ow H S σ Q r h => ?_⟩
        simp only [evEs] at h
        exact h [] ow H Step.refl r .nil
  | [], _, _ :: _, _, _, _, hl => by simp at hl
  | _ :: _, _, [], _, _, _, hl => by simp at hl
  | _ :: _, [], _ :: _, _, hk, _, _ => by simp [keysB] at hk
  | k0 :: ks, key :: keys, e :: es, ies, hk, hm, hl => by
    unfold keysB at hk
    split at hk
    · rename_i hh _; cases hh
    · rename_i k1 ks1 z i1 i2 r h1 h2
      cases h1
      cases h2
      simp only [Bool.and_eq_true, decide_eq_true_eq] at hk
      obtain ⟨rfl, hk⟩ := hk
      cases ies with
      | nil => simp [mEs] at hm
      | cons ie ies =>
        simp only [mEs, Bool.and_eq_true] at hm
        obtain ⟨⟨m1, m2⟩, m3⟩ := hm
        obtain ⟨trs, P, F⟩ := disp_ok G (ies := ies) hk m3 (by simpa using hl)
        refine ⟨_, pps_cons pe_RE pe_RE P, fun pv ow H S σ Q r h => ?_⟩
        refine RE.of pe_str ?_
        simp only [evEs] at h
        refine RE.mono (sndE ie G m2 pv ow H S σ _ r (Post.seq h)) ?_
        rintro v H1 ⟨x, S1, ow1, -, k1, r1, p1, h1⟩
        obtain ⟨d, S2, ow2, k2, r2, p2, h2⟩ := Post.esc r1 k1 p1 h1
        refine F pv ow2 H1 S2 σ _ r2 ?_
        have h3 := Post.seq2 (rep1 := fun ow' H' ds vs => RepL W ow' H' ds vs) h2 k2
        revert h3
        cases evEs cl gl ies S2 with
        | ok ds S3 =>
          intro h3 vs ow' H' k' r' q'
          obtain ⟨ds', S3', ow3, e3, k3, r3, q3, h4⟩ := h3 vs ow' H' k' r' q'
          exact h4 (v :: vs) ow3 H' (k2.trans k3) r3 (.cons (Rep.keep k3.keep p2) q3)
        | exc c fs S3 => exact fun h3 => h3
        | bad => exact fun h3 => h3
    · cases hk
theorem rel_free_set {pv : Nat → Option V} {ow : Ow} {H : Hp} {S : Fr} {σ : L2.St} {i : Nat} {x : Option V} (r : Rel W pv ow H S σ) (h : isFree S i = true) : Rel W pv ow H S (σ.set i x) := by
  obtain ⟨h1, h2⟩ := free_none h
  refine ⟨by rw [List.length_set]; exact r.len, fun j c e => ?_, fun j v e => ?_, r.unpar⟩
  · have hj : i ≠ j := fun z => by rw [← z, h1] at e; cases e
    rw [List.getElem?_set_ne hj]
    exact r.cell j c e
  · obtain ⟨o, g1, g2⟩ := r.par j v e
    have hj : i ≠ j := fun z => by rw [← z, h1] at g1; cases g1
    exact ⟨o, g1, by rw [List.getElem?_set_ne hj]; exact g2⟩
theorem rel_upd {pv : Nat → Option V} {ow : Ow} {H : Hp} {S : Fr} {σ : L2.St} {p : Addr} {o : HO} (r : Rel W pv ow H S σ) (h : ow p = .tm) : Rel W pv ow (upd H p o) S σ := by
  have kk : Keep ow H ow (upd H p o) := fun q _ e => ⟨upd_ne (fun z => by rw [z, h] at e; cases e), e⟩
  refine ⟨r.len, fun m c hc => ?_, r.par, r.unpar⟩
  obtain ⟨v, hv, q⟩ := r.cell m c hc
  refine ⟨v, hv, ?_⟩
  have kt : ∀ q, H q ≠ none → ow q = .sl m → upd H p o q = H q ∧ ow q = .sl m := fun q _ e => ⟨upd_ne (fun z => by rw [z, h] at e; cases e), e⟩
  cases c with
  | val d => exact Rep.keep kk q
  | own o => exact ObRep.keep kk kt q
  | par o => exact ObRep.keep kk kt q
  | exc _ _ => exact q
theorem step_upd {ow ow1 : Ow} {H H1 : Hp} {p : Addr} {o : HO} (k : Step ow H ow1 H1) (h : H p = none) : Step ow H ow1 (upd H1 p o) := fun q hq => by
  have hne : q ≠ p := fun z => hq (z ▸ h)
  rw [upd_ne hne]
  exact k q hq
theorem snd_dsel (G : CxG W M cl gl k X sc Wx) (hfn : ∀ x, X.fn x = true) {x1 x2 : Str} {i1 i2 iy : Nat} {ks1 ks2 : List Str} {e1 e2 : Es} {keys1 keys2 : List (Option Expr)} {es1 es2 : List Expr} {q1 q2 q3 q4 q5 q6 q7 q8 q9 q10 q11 q12 q13 q14 q15 q16 q17 : Pos}
    (n1 : stNm M sc i1 x1 = true) (n2 : stNm M sc i2 x2 = true) (n3 : slotB M sc iy y = true) (hk1 : keysB ks1 keys1 = true) (hk2 : keysB ks2 keys2 = true) (hm1 : mEs W.own M sc e1 es1 = true) (hm2 : mEs W.own M sc e2 es2 = true) (hl1 : ks1.length = es1.length) (hl2 : ks2.length = es2.length) (h01 : ks1.length ≠ 0) (h02 : ks2.length ≠ 0) (h51 : ks1.length ≤ 15) (h52 : ks2.length ≤ 15) :
    SndSs W cl gl X Wx [.Assign [.Name x1 q1] (.Dict keys1 es1 q2) q3, .Assign [.Name x2 q4] (.Dict keys2 es2 q5) q6, .Return (some (.IfExp (.Compare (.Name y q7) [.In] [.Name x1 q8] q9) (.Subscript (.Name x1 q10) (.Name y q11) q12) (.Subscript (.Name x2 q13) (.Name y q14) q15) q16)) q17] (.dsel i1 ks1 e1 i2 ks2 e2 iy) := by
  intro pv H0 ow H S σ D en r h
  obtain ⟨a1, a2, a3, a4, a5⟩ := stNm_ok G n1
  obtain ⟨b1, b2, b3, b4, b5⟩ := stNm_ok G n2
  obtain ⟨c1, c2, c3, c4⟩ := snd_at G n3
  obtain ⟨t1, P1, F1⟩ := disp_ok G (pos := q2) hk1 hm1 hl1
  obtain ⟨t2, P2, F2⟩ := disp_ok G (pos := q5) hk2 hm2 hl2
  obtain ⟨kl1, ka1⟩ := keysB_len hk1
  obtain ⟨kl2, ka2⟩ := keysB_len hk2
  have hu : X.A.units + 1 < cLine := by have := G.units; omega
  have hND : X.N.Nodup := by rw [G.N]; exact G.nd
  refine RSs.of (pss_cons (ps_set hND a1 a2 (pe_disp P1 ka1 (by omega) (fun e => by rw [e] at kl1; exact h01 kl1.symm) (by omega)) (swaps_noD) (.inl (hfn _))) (pss_cons (ps_set hND b1 b2 (pe_disp P2 ka2 (by omega) (fun e => by rw [e] at kl2; exact h02 kl2.symm) (by omega)) (swaps_noD) (.inl (hfn _)))
    (pss_cons (ps_ret (pe_ifExp (pt_cmp (pc_din hu (pe_var c1 c2 c3 c4) (pe_var a1 a3 a4 a5)) rfl) (pe_dget hu (pe_var a1 a3 a4 a5) (pe_var c1 c2 c3 c4) (fun _ _ => rfl)) (pe_dget hu (pe_var b1 b3 b4 b5) (pe_var c1 c2 c3 c4) (fun _ _ => rfl)))) pss_nil))) ?_
  simp only [exSs] at h
  split at h
  case isFalse => exact False.elim h
  next hcond =>
  simp only [Bool.and_eq_true, decide_eq_true_eq] at hcond
  obtain ⟨⟨⟨hf1, hy1⟩, hy2⟩, h12⟩ := hcond
  intro p hp
  have g := Grow.new (ow := ow) (o := .dK []) (t := .tm) hp
  refine F1 pv _ _ S σ _ (r.grow g) ?_
  have h1 := PostS.seq2 (rep1 := fun ow' H' ds vs => RepL W ow' H' ds vs) (σ := σ) h g.step
  revert h1
  cases he1 : evEs cl gl e1 S with
  | exc c fs S1 => exact fun h1 => h1
  | bad => exact fun h1 => h1
  | ok d1 S1 =>
  intro h1 vs1 ow1 H1 k1 r1 rl1
  obtain ⟨d1', S1', ow1', ee, k1', r1', rl1', h1⟩ := h1 vs1 ow1 H1 k1 r1 rl1
  cases ee
  clear k1 r1 rl1 ow1
  obtain ⟨hp1, tp1⟩ := k1'.tag (p := p) (by rw [upd_same]; simp) (if_pos rfl) (by simp)
  split at h1
  case isFalse => exact False.elim h1
  next hf1' =>
  refine ⟨hp1.trans upd_same, kvs ks1 vs1, by simp [kvs, kV, List.map_map, Function.comp_def], by unfold kvs; rw [List.length_map, List.length_zip]; omega, ?_⟩
  have s1 : Step ow H ow1' (upd H1 p (.dK (mergeK [] (kvs ks1 vs1)))) := step_upd (g.step.trans k1') hp
  have r2 : Rel W pv ow1' (upd H1 p (.dK (mergeK [] (kvs ks1 vs1)))) S1 (σ.set i1 (some (.ref p))) := rel_free_set (rel_upd r1' tp1) hf1'
  have kp1 : Keep ow1' H1 ow1' (upd H1 p (.dK (mergeK [] (kvs ks1 vs1)))) := fun z _ e => ⟨upd_ne (fun y => by rw [y, tp1] at e; cases e), e⟩
  intro q hq
  have hqp : q ≠ p := fun e => by rw [e, upd_same] at hq; cases hq
  have g2 := Grow.new (ow := ow1') (o := .dK []) (t := .tm) hq
  refine F2 pv _ _ S1 _ _ (r2.grow g2) ?_
  have h2 := PostS.seq2 (rep1 := fun ow' H' ds vs => RepL W ow' H' ds vs) (σ := σ.set i1 (some (.ref p))) h1 (s1.trans g2.step)
  revert h2
  cases he2 : evEs cl gl e2 S1 with
  | exc c fs S2 => exact fun h2 => h2
  | bad => exact fun h2 => h2
  | ok d2 S2 =>
  intro h2 vs2 ow2 H2 k2 r2 rl2
  obtain ⟨d2', S2', ow2', ee, k2', r2', rl2', h2⟩ := h2 vs2 ow2 H2 k2 r2 rl2
  cases ee
  clear k2 r2 rl2 ow2
  obtain ⟨hq2, tq2⟩ := k2'.tag (p := q) (by rw [upd_same]; simp) (if_pos rfl) (by simp)
  have tpp : (fun z => if z = q then Tag.tm else ow1' z) p = .tm := (if_neg (Ne.symm hqp)).trans tp1
  obtain ⟨hp2, tp2⟩ := k2'.tag (p := p) (by rw [upd_ne (Ne.symm hqp), upd_same]; simp) tpp (by simp)
  rw [upd_ne (Ne.symm hqp), upd_same] at hp2
  split at h2
  case isFalse => exact False.elim h2
  next hff =>
  simp only [Bool.and_eq_true] at hff
  refine ⟨hq2.trans upd_same, kvs ks2 vs2, by simp [kvs, kV, List.map_map, Function.comp_def], by unfold kvs; rw [List.length_map, List.length_zip]; omega, ?_⟩
  have s2 : Step ow H ow2' (upd H2 q (.dK (mergeK [] (kvs ks2 vs2)))) := by
    have hqH : H q = none := s1.none hq
    exact step_upd ((s1.trans g2.step).trans k2') hqH
  have r3 : Rel W pv ow2' (upd H2 q (.dK (mergeK [] (kvs ks2 vs2)))) S2 ((σ.set i1 (some (.ref p))).set i2 (some (.ref q))) := rel_free_set (rel_upd r2' tq2) hff.2
  have kp2 : Keep ow2' H2 ow2' (upd H2 q (.dK (mergeK [] (kvs ks2 vs2)))) := fun z _ e => ⟨upd_ne (fun y => by rw [y, tq2] at e; cases e), e⟩
  unfold dselR at h2
  split at h2
  case h_2 => exact False.elim h2
  next z hyc =>
  split at h2
  case isFalse => exact False.elim h2
  next hall =>
  obtain ⟨l1, l2, nd1, nd2, _, _⟩ := hall
  obtain ⟨u, hu, qy⟩ := r3.cell iy _ hyc
  cases (show Rep W _ _ (.str z) u from qy)
  have L1 : vs1.length = ks1.length := by rw [← rl1'.length]; exact l1
  have L2 : vs2.length = ks2.length := by rw [← rl2'.length]; exact l2
  have RL1 : RepL W ow2' (upd H2 q (.dK (mergeK [] (kvs ks2 vs2)))) d1 vs1 := (((rl1'.keep kp1).keep g2.keep).keep k2'.keep).keep kp2
  have RL2 : RepL W ow2' (upd H2 q (.dK (mergeK [] (kvs ks2 vs2)))) d2 vs2 := rl2'.keep kp2
  rw [kvs_merge L2 nd2] at s2 r3 RL1 RL2 ⊢
  rw [kvs_merge L1 nd1] at hp2
  have hlen : i1 < σ.length := by rw [← r.len]; exact (free_none hf1).2
  have hlen2 : i2 < (σ.set i1 (some (.ref p))).length := by rw [← r2'.len]; exact (free_none hff.2).2
  have hx1 : ((σ.set i1 (some (.ref p))).set i2 (some (.ref q)))[i1]? = some (some (.ref p)) := by rw [List.getElem?_set_ne (Ne.symm h12)]; exact List.getElem?_set_self hlen
  have hx2 : ((σ.set i1 (some (.ref p))).set i2 (some (.ref q)))[i2]? = some (some (.ref q)) := List.getElem?_set_self hlen2
  have Hp : upd H2 q (.dK (kvs ks2 vs2)) p = some (.dK (kvs ks1 vs1)) := by rw [upd_ne (Ne.symm hqp)]; exact hp2
  have Hq : upd H2 q (.dK (kvs ks2 vs2)) q = some (.dK (kvs ks2 vs2)) := upd_same
  obtain ⟨lk1, lk1n⟩ := rep_lookup (z := z) (ks := ks1) RL1
  obtain ⟨lk2, _⟩ := rep_lookup (z := z) (ks := ks2) RL2
  refine ⟨_, hu, _, hx1, p, _, rfl, DGet.k (k := Sum.inr z) Hp, ?_⟩
  split at h2
  · next d hd =>
    obtain ⟨v, hv, rv⟩ := lk1 d hd
    rw [kvs_val, hv]
    refine ⟨true, rfl, ?_⟩
    simp only [if_true]
    refine ⟨_, hx1, _, hu, p, v, rfl, ?_, h2 v _ ow2' _ s2 r3 rv⟩
    have := DGet.k (k := Sum.inr z) Hp
    rw [kvs_val, hv] at this
    exact this
  · next hd =>
    rw [kvs_val, lk1n hd]
    refine ⟨false, rfl, ?_⟩
    simp only [Bool.false_eq_true, if_false]
    split at h2
    · next d hd2 =>
      obtain ⟨v, hv, rv⟩ := lk2 d hd2
      refine ⟨_, hx2, _, hu, q, v, rfl, ?_, h2 v _ ow2' _ s2 r3 rv⟩
      have := DGet.k (k := Sum.inr z) Hq
      rw [kvs_val, hv] at this
      exact this
    · exact False.elim h2
end
end Ev

/-! EvN: the text's statements against the small syntax; every statement is sound. -/
namespace Ev
open PySem PySem.Spec PyProof.Rows L2

/-! ### shapes -/
def isLc : Expr → Bool
  | .ListComp _ _ _ _ => true
  | .DictComp _ _ _ _ _ => true
  | _ => false
/-- a comprehension stored on its own line -/
def swB (sc : Scope) (x : Str) (px : Pos) : Expr → Bool
  | .ListComp _ _ scope pos => (sc.names.lookup x == some .local) && (px.line == pos.line) && !(scope.names.any fun (n, k) => n == x && (k == .local || k == .cell))
  | .DictComp _ _ _ scope pos => (sc.names.lookup x == some .local) && (px.line == pos.line) && !(scope.names.any fun (n, k) => n == x && (k == .local || k == .cell))
  | _ => false
theorem swB_ok {sc : Scope} {x : Str} {px : Pos} {a : Expr} {l : Nat} {env : Env} (he : env.scope = sc) (hk : sc.kind = .function) (hl : (noComp a || isLc a) = true) : swapsWith a (some (.Name x px)) l env = pure (swB sc x px a) := by
  cases h : noComp a with
  | true =>
    rw [swaps_no h]
    cases a <;> first | rfl | cases h
  | false =>
    rw [h] at hl
    cases a <;> simp [isLc] at hl
    all_goals
      have hb : env.blockKind = .function := by unfold Env.blockKind; rw [he, hk]; rfl
      unfold swapsWith swB
      simp only [hb, Env.kindOf, he, Expr.pos]
      simp
def isStar : Expr → Bool
  | .Starred _ _ => true
  | _ => false
/-- the order of the stores of a tuple, as the model's rule has it -/
def swpS (sc : Scope) (ts vs : List Expr) : Option (Option (List Str)) :=
  if !(ts.length == 2 || ts.length == 3) || vs.length != ts.length then some none
  else if vs.any (fun | .Starred .. => true | _ => false) then some none
  else
    let line := (ts.head?.map (·.pos.line)).getD 0
    let names := ts.filterMap fun
      | .Name id pos => if sc.names.lookup id == some .local && pos.line == line then some id else none
      | _ => none
    if names.length != ts.length || names.eraseDups.length != names.length then some none
    else if vs.all (foldedForSure 8) then some none
    else if vs.all (constantsAlone 8) then none
    else some (some names)
theorem swp_ok {sc : Scope} {ts vs : List Expr} {k1 k2 : Nat} {q1 q2 : Pos} {env : Env} {r : Option (List Str)} (he : env.scope = sc) (hk : sc.kind = .function) (h : swpS sc ts vs = some r) : swappedStores [.Tuple ts k1 q1] (.Tuple vs k2 q2) env = pure r := by
  have hb : env.blockKind = .function := by unfold Env.blockKind; rw [he, hk]; rfl
  unfold swpS at h
  unfold swappedStores
  simp only [hb, Env.kindOf, he]
  simp only [bne_self_eq_false, Bool.or_false]
  split at h
  · next h1 => cases h; simp only [h1, if_true]
  · next h1 =>
    simp only [h1]
    rw [if_neg (by decide)]
    split at h
    · next h2 => cases h; exact if_pos h2
    · next h2 =>
      refine (if_neg h2).trans ?_
      simp only at h
      split at h
      · next h3 => cases h; exact if_pos h3
      · next h3 =>
        refine (if_neg h3).trans ?_
        split at h
        · next h4 => cases h; exact if_pos h4
        · next h4 =>
          refine (if_neg h4).trans ?_
          split at h
          · cases h
          · next h5 => cases h; exact if_neg h5
theorem swp_no {ts : List Expr} {k1 : Nat} {q1 : Pos} {env : Env} {a : Expr} (h : isTupT a = false) : swappedStores [.Tuple ts k1 q1] a env = pure none := by
  cases a <;> first | rfl | cases h
theorem swp_sub {o i : Expr} {q1 : Pos} {env : Env} {a : Expr} : swappedStores [.Subscript o i q1] a env = pure none := by cases a <;> rfl
theorem sw_sub {o i : Expr} {q1 : Pos} {env : Env} {a : Expr} {l : Nat} : swapsWithSole [.Subscript o i q1] a l env = pure false := by cases a <;> rfl
/-- a name that a statement stores -/
def stB (M : MC) (sc : Scope) (i : Nat) (x : Str) : Bool := decide (M.N[i]? = some x) && (match sc.names.lookup x with
  | some .local => true
  | some .cell => true
  | _ => false)
theorem stB_ok {M : MC} {X : Cx} {sc : Scope} {i : Nat} {x : Str} (hs : X.env.scope = sc) (hN : X.N = M.N) (h : stB M sc i x = true) : X.N[i]? = some x ∧ Loc X.env.scope x := by
  unfold stB at h
  simp only [Bool.and_eq_true, decide_eq_true_eq] at h
  refine ⟨by rw [hN]; exact h.1, ?_⟩
  rw [hs]
  have := h.2
  split at this
  · next e => exact .inl e
  · next e => exact .inr e
  · cases this
def mPar (own : List Str) (M : MC) (sc : Scope) : List Bool → Es → List Expr → Bool
  | [], .nil, [] => true
  | _ :: zs, .cons e es, x :: r => noStar x && mE own M sc e x && mPar own M sc zs es r
  | _, _, _ => false
def namesE : List Expr → Option (List Str)
  | [] => some []
  | .Name x _ :: r => (namesE r).map (x :: ·)
  | _ => none
def allLoc (M : MC) (sc : Scope) : List Nat → List Expr → Bool
  | [], [] => true
  | i :: is, .Name x _ :: es => decide (M.N[i]? = some x) && (sc.names.lookup x == some .local) && allLoc M sc is es
  | _, _ => false
/-- a class of exceptions that has such a field -/
def fldB (M : MC) (c f : Str) : Bool := M.exi.any fun q => decide (q.1 = c) && q.2.contains f
def mHTs (M : MC) (c y : Str) : List HT → List Expr → Bool
  | [], [] => true
  | .con d :: xs, .Constant cn _ _ :: es => conOk d cn && mHTs M c y xs es
  | .fld f :: xs, .Attribute (.Name z _) g _ :: es => decide (z = y) && decide (g = f) && fldB M c f && mHTs M c y xs es
  | _, _ => false
/-- isinstance(y, c) -/
def mIsX (sc : Scope) (y c : Str) : Expr → Bool
  | .Call (.Name g _) [.Name z _, .Name d _] [] _ => decide (g = "isinstance") && decide (z = y) && decide (d = c) && glB sc g && glB sc c && okN c
  | _ => false
/-- [w] if isinstance(y, c) else [] -/
def mPce (M : MC) (sc : Scope) (y w c : Str) : Expr → Bool
  | .IfExp t (.List [.Constant (.str v) _ _] _) (.List [] _) _ => decide (v = w) && M.allx.contains c && mIsX sc y c t
  | _ => false
def mChn (M : MC) (sc : Scope) (y x w c : Str) : List (Str × Str) → List Stmt → Bool
  | [], [.Return (some (.BinOp (.Name x1 _) .Add e _)) _] => decide (x1 = x) && mPce M sc y w c e
  | (w1, c1) :: ws, .Assign [.Name x1 _] (.BinOp (.Name x2 _) .Add e _) _ :: r => decide (x1 = x) && decide (x2 = x) && mPce M sc y w1 c1 e && mChn M sc y x w c ws r
  | _, _ => false
/-- the suite of a clause; y: the exception's name -/
def mHB (M : MC) (sc : Scope) (k : Str) (a : Bool) (y : Option Str) : HB → List Stmt → Bool
  | .ret d, [.Return (some (.Constant cn _ _)) _] => conOk d cn
  | .retT xs, [.Return (some (.Tuple es _ _)) _] => (match y with
    | some y => !a && sc.names.lookup y == some .local && okN y && mHTs M k y xs es
    | none => false)
  | .asgT j xs, [.Assign [.Name x _] (.IfExp t (.Tuple es _ _) (.Constant .none _ _) _) _] => (match y, M.base with
    | some y, some b => !a && sc.names.lookup y == some .local && okN y && mHTs M k y xs es && mIsX sc y b t && decide (M.N[j]? = some x) && sc.names.lookup x == some .local
    | _, _ => false)
  | .chn j ((w1, c1) :: ws) w c, .Assign [.Name x _] e _ :: r => (match y with
    | some y => sc.names.lookup y == some .local && okN y && mPce M sc y w1 c1 e && decide (M.N[j]? = some x) && sc.names.lookup x == some .local && okN x && decide (x ≠ y) && mChn M sc y x w c ws r
    | none => false)
  | _, _ => false
def mNam (M : MC) (sc : Scope) : Option Nat → Option Str → Bool
  | none, none => true
  | some i, some y => decide (M.N[i]? = some y) && (sc.names.lookup y == some .local)
  | _, _ => false
def mHs (M : MC) (sc : Scope) : List Hdl → List ExceptHandler → Bool
  | [], [] => true
  | (c, a, i, b) :: hs, .ExceptHandler (some (.Name x _)) y (s0 :: su) _ :: hds => decide (x = c) && (if a then decide (M.base = some c) else M.allx.contains c) && glB sc x && okN x && mNam M sc i y && mHB M sc c a y b (s0 :: su) && mHs M sc hs hds
  | _, _ => false
def asgNe (t : Hdl) : Bool := match t.2.2.1, t.2.2.2 with
  | some i, .asgT j _ => decide (j ≠ i)
  | _, _ => true
mutual
def mS (own : List Str) (M : MC) (sc : Scope) : St → Stmt → Bool
  | .asg _ i e, st => (match st with
    | .Assign [.Name x px] a _ => stB M sc i x && (noComp a || isLc a) && mE own M sc e a
    | _ => false)
  | .unp is e, st => (match st with
    | .Assign [.Tuple ts _ _] a _ => mNames M sc sc is ts && mE own M sc e a && (match a with
      | .Tuple vs _ _ => decide (swpS sc ts vs = some none)
      | _ => true)
    | _ => false)
  | .par zs is es, st => (match st with
    | .Assign [.Tuple ts _ _] (.Tuple vs _ _) _ => (ts.length == 2 || ts.length == 3) && vs.length == ts.length && decide is.Nodup && allLoc M sc is ts && decide ((namesE ts).isSome ∧ swpS sc ts vs = some (namesE ts)) && mPar own M sc zs es vs
    | _ => false)
  | .app i e, st => (match st with
    | .Expr (.Call (.Attribute (.Name x _) m p2) [a] [] p3) _ => decide (m = "append") && slotB M sc i x && noStar a && (p2.endLine == p3.line) && mE own M sc e a
    | _ => false)
  | .six i k e, st => (match st with
    | .Assign [.Subscript (.Name x _) y _] a _ => slotB M sc i x && plainS y && mE own M sc k y && mE own M sc e a
    | _ => false)
  | .del i k, st => (match st with
    | .Delete [.Subscript (.Name x _) y _] _ => slotB M sc i x && mE own M sc k y
    | _ => false)
  | .atr c i f e, st => (match st with
    | .Assign [.Attribute (.Name x _) g _] a _ => decide (f = g) && M.flds.contains (c, f) && slotB M sc i x && noComp a && mE own M sc e a
    | _ => false)
  | .fap c i f g, st => (match st with
    | .Expr (.Call (.Attribute (.Attribute (.Name x _) f' _) m p2) [.Attribute (.Name x' _) g' _] [] p3) _ => decide (m = "append") && decide (f = f') && decide (g = g') && decide (x = x') && M.flds.contains (c, f) && M.flds.contains (c, g) && slotB M sc i x && (p2.endLine == p3.line)
    | _ => false)
  | .atl c i f e, st => (match st with
    | .Assign [.Attribute (.Name x _) g _] a _ => decide (f = g) && M.flds.contains (c, f) && slotB M sc i x && noComp a && mE own M sc e a
    | _ => false)
  | .aug op i e, st => (match st with
    | .AugAssign (.Name x _) o a _ => opB op o && (match op with
      | .add => true
      | .sub => true
      | _ => false) && stB M sc i x && mE own M sc e a
    | _ => false)
  | .ife c a b, st => (match st with
    | .If t x y _ => mT own M sc c t && mSs own M sc a x && mSs own M sc b y
    | _ => false)
  | .whl _ c _ b, st => (match st with
    | .While t x [] _ => mT own M sc c t && mSs own M sc b x
    | _ => false)
  | .fr tg it _ b, st => (match st with
    | .For t i x [] _ => mTg M sc sc tg t && mI own M sc it t i && noSet i && mSs own M sc b x
    | _ => false)
  | .ret _ e, st => (match st with
    | .Return (some a) _ => mE own M sc e a
    | _ => false)
  | .retN, st => (match st with
    | .Return none _ => true
    | _ => false)
  | .rse c fs es, st => (match st with
    | .Raise (some (.Call (.Name x _) l [] _)) none _ => decide (x = c) && glB sc x && okN x && (match fs, es, l with
      | [], .nil, [] => M.excs.contains c
      | f :: r, es, a :: l => decide ((c, f :: r) ∈ M.exi) && mEs own M sc es (a :: l) && decide (l.length = r.length) && decide (r.length < 900)
      | _, _, _ => false)
    | _ => false)
  | .tr ok b hs, st => (match st with
    | .Try x hds [] [] _ => (ok.all fun c => M.allx.contains c) && mSs own M sc b x && mHs M sc hs hds && !hds.isEmpty && hs.all asgNe
    | _ => false)
  | .exp e, st => (match st with
    | .Expr a _ => noComp a && mE own M sc e a
    | _ => false)
  | .pas, st => (match st with
    | .Pass _ => true
    | _ => false)
  | .brk, st => (match st with
    | .Break _ => true
    | _ => false)
  | .kill _, _ => false
  | .catL i es, st => (match st with
    | .Assign [.Name x _] (.BinOp (.Name y _) .Add (.List l _) _) _ => decide (y = x) && stNm M sc i x && mEs own M sc es l
    | _ => false)
  | .retL i es, st => (match st with
    | .Return (some (.BinOp (.Name x _) .Add (.List l _) _)) _ => slotB M sc i x && mEs own M sc es l
    | _ => false)
  | .appL i e, st => (match st with
    | .Expr (.Call (.Attribute (.Name x _) m p2) [a] [] p3) _ => decide (m = "append") && slotB M sc i x && noStar a && (p2.endLine == p3.line) && mE own M sc e a
    | _ => false)
  | .rev i, st => (match st with
    | .Expr (.Call (.Attribute (.Name x _) m p2) [] [] p3) _ => decide (m = "reverse") && slotB M sc i x && (p2.endLine == p3.line)
    | _ => false)
  | .chgL j i f, st => (match st with
    | .For (.Name y q1) (.Name x _) [.Expr c _] [] _ => slotB M sc i x && mTg M sc sc (.one j) (.Name y q1) && noComp c && mE own M sc (.call f (.cons (.var j) .nil)) c && mE own M sc (.call f (.cons (.ref j) .nil)) c
    | _ => false)
def mSs (own : List Str) (M : MC) (sc : Scope) : Ss → List Stmt → Bool
  | .nil, l => l.isEmpty
  | .cons (.kill _) ss, l => mSs own M sc ss l
  | .cons s ss, l => (match l with
    | x :: r => mS own M sc s x && mSs own M sc ss r
    | _ => false)
  | .dsel i1 k1 e1 i2 k2 e2 iy, l => (match l with
    | [.Assign [.Name x1 _] (.Dict ks1 vs1 _) _, .Assign [.Name x2 _] (.Dict ks2 vs2 _) _, .Return (some (.IfExp (.Compare (.Name y1 _) [.In] [.Name x3 _] _) (.Subscript (.Name x4 _) (.Name y2 _) _) (.Subscript (.Name x5 _) (.Name y3 _) _) _)) _] =>
      decide (x3 = x1) && decide (x4 = x1) && decide (x5 = x2) && decide (y2 = y1) && decide (y3 = y1) && stNm M sc i1 x1 && stNm M sc i2 x2 && slotB M sc iy y1 && keysB k1 ks1 && keysB k2 ks2 && mEs own M sc e1 vs1 && mEs own M sc e2 vs2 &&
      decide (k1.length = vs1.length) && decide (k2.length = vs2.length) && decide (k1.length ≠ 0) && decide (k2.length ≠ 0) && decide (k1.length ≤ 15) && decide (k2.length ≤ 15)
    | _ => false)
end

section
variable {W : Wd} {M : MC} {cl : Calls} {gl : Str → Option D} {k : Nat} {X : Cx} {sc : Scope} {Wx : WX}
theorem slotB_ok (G : CxG W M cl gl k X sc Wx) {i : Nat} {x : Str} (h : slotB M sc i x = true) : X.N[i]? = some x ∧ Vis X.env.scope x ∧ (x == ("__debug__" : Str)) = false ∧ (x == ("__classdict__" : Str)) = false := by
  unfold slotB at h
  simp only [Bool.and_eq_true, decide_eq_true_eq] at h
  obtain ⟨⟨h1, h2⟩, h3⟩ := h
  exact ⟨by rw [G.N]; exact h1, by rw [G.sc]; exact visB_ok h2, (okN_ok h3).1, (okN_ok h3).2.1⟩
/-! ### xs[i] = e -/
/-- whatever the store needs -/
def RSt (X : Cx) : TSet := fun o i v H Q => ∀ (pins : List (Addr × Obj)) (s : Shared) (σ : L2.St) (ov iv u : Value), Inv X pins σ H s → RelV o ov → RelV i iv → RelV v u →
    wpAny (model X.prog X.w) X.A (setItem ov iv u) (fun _ s' => ∃ H', Inv X pins σ H' s' ∧ Q H') X.xe s
theorem pset_R : PSet X (RSt X) := fun pins s σ H o i v ov iv u Q I r1 r2 r3 h => h pins s σ ov iv u I r1 r2 r3
theorem RSt.of {t : TSet} (h : PSet X t) {o i v : V} {H : Hp} {Q : Hp → Prop} (q : t o i v H Q) : RSt X o i v H Q := fun pins s σ ov iv u I r1 r2 r3 => h pins s σ H o i v ov iv u Q I r1 r2 r3 q
theorem repL_set {ow : Ow} {H : Hp} {d : D} {v : V} (hd : Rep W ow H d v) : ∀ {ds : List D} {vs : List V} (j : Nat), RepL W ow H ds vs → RepL W ow H (ds.set j d) (vs.set j v)
  | _, _, _, .nil => .nil
  | _, _, 0, .cons a l => .cons hd l
  | _, _, j + 1, .cons a l => .cons a (repL_set hd j l)
theorem repK_del {ow : Ow} {H : Hp} {k : NestedKey} : ∀ {kvs : List (NestedKey × D)} {es : List (NestedKey × Addr × V)}, RepK W ow H kvs es → RepK W ow H (kvs.filter fun p => !decide (p.1 = k)) (es.filter fun x => decide (x.1 ≠ k))
  | _, _, .nil => .nil
  | _, _, .cons (k := k0) r1 r2 r3 r4 => by
    by_cases h : k0 = k
    · rw [List.filter_cons_of_neg (by simpa using h), List.filter_cons_of_neg (by simpa using h)]
      exact repK_del r4
    · rw [List.filter_cons_of_pos (by simpa using h), List.filter_cons_of_pos (by simpa using h)]
      exact .cons r1 r2 r3 (repK_del r4)
theorem pr_del {k : NestedKey} : ∀ {es : List (NestedKey × Addr × V)} {xs : List (NestedKey × Addr × Value)}, Paired PR es xs → Paired PR (es.filter fun x => decide (x.1 ≠ k)) (withoutH xs k)
  | _, _, .nil => .nil
  | e :: es, x :: xs, .cons h l => by
    unfold withoutH
    by_cases hk : e.1 = k
    · rw [List.filter_cons_of_neg (by simpa using hk), List.filter_cons_of_neg (by rw [← h.1]; simpa using hk)]
      exact pr_del l
    · rw [List.filter_cons_of_pos (by simpa using hk), List.filter_cons_of_pos (by rw [← h.1]; simpa using hk)]
      exact .cons h (pr_del l)
theorem snd_del (G : CxG W M cl gl k X sc Wx) {i : Nat} {x : Str} {ik : E} {y : Expr} {p1 p2 pos : Pos} (hN : X.N[i]? = some x) (hv : Vis X.env.scope x) (hd : (x == ("__debug__" : Str)) = false) (hcd : (x == ("__classdict__" : Str)) = false) (hk : SndE W cl gl X Wx y ik) :
    SndS W cl gl X Wx (.Delete [.Subscript (.Name x p1) y p2] pos) (.del i ik) := by
  intro pv H0 ow H S σ D en r h
  simp only [exS] at h
  split at h
  · next o0 hg0 =>
    have hs : ∃ u, σ[i]? = some (some u) := by
      rcases (getO_cell hg0).1 with hc | hc
      · obtain ⟨u, hu, _⟩ := r.cell i _ hc; exact ⟨u, hu⟩
      · obtain ⟨u, hu, _⟩ := r.cell i _ hc; exact ⟨u, hu⟩
    obtain ⟨u, hu⟩ := hs
    intro pins s I
    refine wpAny_Delete (wpAny_deleteEach_cons (wpAny_delete_Subscript (thn ((RE.of (pe_var hN hv hd hcd) (σ := σ) (H := H) (Q := fun v H1 => v = u ∧ H1 = H) ⟨u, hu, rfl, rfl⟩) pins s I) fun ov s1 hh => ?_)))
    obtain ⟨v1, H1, I1, rv, rfl, rfl⟩ := hh
    refine thn (hk pv ow H1 S σ _ r (PostS.seq h) pins s1 I1) fun iv s2 hh => ?_
    obtain ⟨w, H2, I2, rw', x3, S3, ow3, -, k3, r3, p3, h3⟩ := hh
    obtain ⟨d4, S4, ow4, k4, kp4, r4, p4, h4⟩ := PostS.esc r3 k3 p3 h3
    split at h4
    · next o hg =>
      split at h4
      · next o' hz =>
        unfold delIx at hz
        split at hz
        · next kvs ks =>
          simp only [Option.bind_eq_some_iff] at hz
          obtain ⟨kk, hkk, hz⟩ := hz
          split at hz
          case isFalse => cases hz
          next hhas =>
          cases hz
          obtain ⟨u', hu', a0, o0, es, rfl, ha0, hs0, t0, hd0, hk0⟩ := r4.obj hg
          rw [hu] at hu'
          cases hu'
          have p4' : Rep W ow4 H2 (.tup ks) w := p4
          have hw : ∃ b, w = .ref b := by
            cases p4'
            exact ⟨_, rfl⟩
          obtain ⟨b0, rfl⟩ := hw
          obtain rfl : ov = Value.ref a0 := rv
          obtain rfl : iv = Value.ref b0 := rw'
          have hne : H2 a0 ≠ none := by rw [ha0]; simp
          obtain ⟨hgd, xs, hp, hm⟩ := dictOf G.prog G.w G.K I2 ha0 hd0 hk0
          have hat : (atKey xs (.tup kk)).isSome = true := by
            have := (at_some hk0 hp (k := .tup kk)).1
            rw [valueAt_pairsH, Option.isSome_map, hhas] at this
            exact this
          obtain ⟨pp, hpp⟩ := Option.isSome_iff_exists.mp hat
          have hl1 := Paired.length hp
          have hl2 := hd0.1
          refine wpAny_delItem_heap (hsz := by omega) (room_in1 (by have := G.room.un; omega)) (keyIs G.K I2 p4'.rd hkk) hs0 hm hpp fun h' hm' hsb => wpAny_deleteEach_nil ?_
          obtain ⟨o', ds, ep, g1, g2, g3, g4, g5, g6⟩ := hm'
          obtain ⟨u1, u2, u3⟩ := upd_sl (o := objAt a0 o') t0 hne
          refine ⟨σ, _, d_write I2 (by rw [ha0]; exact True.intro) hsb ⟨o', g1⟩ (ext_ok g1), ?_⟩
          refine h4 σ ow4 _ (k4.trans u3) (r4.putO hg hu u1 u2 ⟨a0, o', es.filter fun x => decide (x.1 ≠ .tup kk), rfl, upd_same, hs0, t0, ⟨?_, g2, _, pr_del hp, ds, ep, g3, ?_, g6⟩, (repK_del hk0).keep u1⟩)
          · exact Nat.le_trans (List.length_filter_le _ _) hl2
          · rw [← G.prog, ← G.w]
            exact g4
        · cases hz
      · exact False.elim h4
    · exact False.elim h4
  · exact False.elim h
theorem snd_six (G : CxG W M cl gl k X sc Wx) {i : Nat} {x : Str} {ik ie : E} {y a : Expr} {p1 p2 pos : Pos} (hN : X.N[i]? = some x) (hv : Vis X.env.scope x) (hd : (x == ("__debug__" : Str)) = false) (hcd : (x == ("__classdict__" : Str)) = false) (hy : plainS y = true) (hk : SndE W cl gl X Wx y ik) (ha : SndE W cl gl X Wx a ie) :
    SndS W cl gl X Wx (.Assign [.Subscript (.Name x p1) y p2] a pos) (.six i ik ie) := by
  intro pv H0 ow H S σ D en r h
  simp only [exS] at h
  refine RS.of (ps_asg pe_RE (pg_sub (pe_var hN hv hd hcd) pe_RE pset_R (by intro v; cases y <;> first | rfl | cases hy)) sw_sub swp_sub) ?_
  split at h
  · next o0 hg0 =>
    refine RE.mono (ha pv ow H S σ _ r (PostS.seq h)) ?_
    rintro v H1 ⟨x1, S1, ow1, -, k1, r1, p1, h1⟩
    obtain ⟨d, S2, ow2, k2, kp2, r2, p2, h2⟩ := PostS.esc r1 k1 p1 h1
    have hs : ∃ u, σ[i]? = some (some u) := by
      rcases (getO_cell hg0).1 with hc | hc
      · obtain ⟨u, hu, _⟩ := r.cell i _ hc; exact ⟨u, hu⟩
      · obtain ⟨u, hu, _⟩ := r.cell i _ hc; exact ⟨u, hu⟩
    obtain ⟨u, hu⟩ := hs
    refine ⟨u, hu, RE.mono (hk pv ow2 H1 S2 σ _ r2 (PostS.seq2 h2 k2)) ?_⟩
    rintro w H2 ⟨x3, S3, ow3, -, k3, r3, p3, h3⟩
    obtain ⟨d4, S4, ow4, k4, kp4, r4, p4, h4⟩ := PostS.esc r3 k3 p3 h3
    split at h4
    · next o hg =>
      split at h4
      · next o' hz =>
        unfold setIx at hz
        split at hz
        · next xs j =>
          simp only [Option.map_eq_some_iff] at hz
          obtain ⟨n, hn, rfl⟩ := hz
          obtain ⟨u', hu', l, vs, rfl, hl, tl, rl⟩ := r4.obj hg
          rw [hu] at hu'
          cases hu'
          cases (show Rep W ow4 H2 (.int j) w from p4)
          have hne : H2 l ≠ none := by rw [hl]; simp
          obtain ⟨u1, u2, u3⟩ := upd_sl (o := .lst (vs.set n v)) tl hne
          refine RSt.of set_list ⟨l, vs, j, n, rfl, rfl, hl, by rw [← rl.length]; exact hn, ?_⟩
          have pd : Rep W ow4 H2 d v := Rep.keep kp4 (Rep.keep k3.keep p2)
          exact h4 σ ow4 _ (k2.trans (k4.trans u3)) (r4.putO hg hu u1 u2 ⟨l, vs.set n v, rfl, upd_same, tl, (repL_set pd n rl).keep u1⟩)
        · next kvs ks =>
          simp only [Option.bind_eq_some_iff] at hz
          obtain ⟨kk, hkk, hz⟩ := hz
          split at hz
          case isFalse => cases hz
          next hlt =>
          cases hz
          obtain ⟨u', hu', a0, o0, es, rfl, ha0, hs0, t0, hd0, hk0⟩ := r4.obj hg
          rw [hu] at hu'
          cases hu'
          have p4' : Rep W ow4 H2 (.tup ks) w := p4
          have hw : ∃ b, w = .ref b := by
            cases p4'
            exact ⟨_, rfl⟩
          obtain ⟨b0, rfl⟩ := hw
          have hne : H2 a0 ≠ none := by rw [ha0]; simp
          have pd : Rep W ow4 H2 d v := Rep.keep kp4 (Rep.keep k3.keep p2)
          intro pins s σ' ov iv u I q1 q2 q3
          obtain rfl : ov = Value.ref a0 := q1
          obtain rfl : iv = Value.ref b0 := q2
          refine G.ds ow4 H2 ks kvs kk d a0 b0 v _ hkk ⟨a0, o0, es, rfl, ha0, hs0, hd0, hk0⟩ p4' pd hlt (fun o' es' _ hd' hr' => ?_) pins s σ' u I q3
          obtain ⟨u1, u2, u3⟩ := upd_sl (o := objAt a0 o') t0 hne
          exact h4 σ ow4 _ (k2.trans (k4.trans u3)) (r4.putO hg hu u1 u2 ⟨a0, o', es', rfl, upd_same, hs0, t0, hd', hr'.keep u1⟩)
        · cases hz
      · exact False.elim h4
    · exact False.elim h4
  · exact False.elim h
/-! ### raise, try -/
/-- X() of an exception class of the text -/
theorem pmk_own0 {x : Str} {C : Addr} {p pos : Pos} (q : ExcOk X.K C) (gC : X.mg x = some (.ref C)) (hg : Gl X x) (hdb : (x == ("__debug__" : Str)) = false) : PMk X (.Call (.Name x p) [] [] pos) (fun _ H Q => Q (.ref C) none H) := by
  intro pins s σ H Q I h
  obtain ⟨q1, q2, q3, q4⟩ := q
  refine wpAny_Call_Name_kw (ld_glob I hg gC ?_ hdb)
  refine PySem.W.callWith_K0 I.kIn q2 ?_
  show wpAny _ _ (call (.ref C) []) _ _ _
  obtain ⟨bm, N, nm, qn, bs, hdct, sn, sub, ab, col, dd, k0, k1, k2, k3, k5, mN, hC, hN, hni, T⟩ := exc_obj I.kIn q1
  refine wpAny_call_exc_subT PySem.F.excBase_ValueError T hC hN hni (fun h' e hm => ?_) (Nat.zero_le _)
  exact mk_of I hm (raises_own q3 q4) h (I.hok.gone hm.new)
theorem snd_rse0 (G : CxG W M cl gl k X sc Wx) {c : Str} {p p2 pos : Pos} (hc : c ∈ M.excs) (hg : Gl X c) (hd : (c == ("__debug__" : Str)) = false) : SndS W cl gl X Wx (.Raise (some (.Call (.Name c p) [] [] p2)) none pos) (.rse c [] .nil) := by
  intro pv H0 ow H S σ D en r h
  simp only [exS, rseR, evEs, Fl.bindO, List.length_nil, if_true, List.zip_nil_left, List.reverse_nil] at h
  obtain ⟨h1, h2⟩ := G.exc c hc
  refine RS.of (ps_raise G.calm G.tk (pmk_own0 (G.K ▸ h2) h1 hg hd)) ?_
  exact h _ none σ ow H Step.refl r ⟨rfl, .inl ⟨rfl, rfl⟩⟩
theorem repF_zip {ow : Ow} {H : Hp} : ∀ {fs : List Str} {ds : List D} {vs : List V}, RepL W ow H ds vs → RepF W ow H (fs.zip ds) (fs.zip vs)
  | [], _, _, _ => by simp; exact .nil
  | f :: fs, _, _, .nil => by simp; exact .nil
  | f :: fs, _, _, .cons a l => by simp only [List.zip_cons_cons]; exact .cons a (repF_zip l)
theorem repF_app {ow : Ow} {H : Hp} : ∀ {a : List (Str × D)} {b : List (Str × V)} {c : List (Str × D)} {d : List (Str × V)}, RepF W ow H a b → RepF W ow H c d → RepF W ow H (a ++ c) (b ++ d)
  | _, _, _, _, .nil, h => h
  | _, _, _, _, .cons a l, h => .cons a (repF_app l h)
theorem repF_rev {ow : Ow} {H : Hp} : ∀ {a : List (Str × D)} {b : List (Str × V)}, RepF W ow H a b → RepF W ow H a.reverse b.reverse
  | _, _, .nil => .nil
  | _, _, .cons a l => by
    simp only [List.reverse_cons]
    exact repF_app (repF_rev l) (.cons a .nil)
theorem RepF.keep' {ow ow' : Ow} {H H' : Hp} (k : Keep ow H ow' H') {a : List (Str × D)} {b : List (Str × V)} (h : RepF W ow H a b) : RepF W ow' H' a b := RepF.keep k h
theorem del_upd {H : Hp} {a d : Addr} {o1 o2 o3 o4 : HO} (ha : H a = none) (hne : d ≠ a) : upd (L2.del (upd (upd (upd H a o1) d o2) a o3) a) d o4 = upd H d o4 := by
  funext p
  unfold upd L2.del
  by_cases h1 : p = d
  · simp [h1]
  · by_cases h2 : p = a
    · subst h2; simp [h1, ha]
    · simp [h1, h2]
theorem snd_rseF (G : CxG W M cl gl k X sc Wx) {c : Str} {f : Str} {fs : List Str} {e : Expr} {es : List Expr} {ies : Es} {p p2 pos : Pos} (hc : (c, f :: fs) ∈ M.exi) (hg : Gl X c) (hd : (c == ("__debug__" : Str)) = false) (hs : noStar e = true) (hpl : (backTo p2 (starEach es X.env)).any (·.1) = false) (he : SndEs W cl gl X Wx (e :: es) ies) (hl : es.length = fs.length) (h9 : fs.length < 900) :
    SndS W cl gl X Wx (.Raise (some (.Call (.Name c p) (e :: es) [] p2)) none pos) (.rse c (f :: fs) ies) := by
  intro pv H0 ow H S σ D en r h
  simp only [exS, rseR] at h
  obtain ⟨h1, I⟩ := G.exi _ hc
  obtain ⟨fI, fd, ps, i1, i2, i3, i4⟩ := I.ini
  have T : OexC X.K (W.cad c) := I.oex
  refine RS.of (ps_raise G.calm G.tk (pmk_oex (dvs := []) (ds := []) (ta := RA X (e :: es)) T i1 i2 i4 (G.room.mono (by omega)) i3 .nil (passes_call G.tk fun _ _ _ _ z => z.elim) hg h1 pa_RA hd (star_cons hs) hpl)) ?_
  refine RA.mono (he pv ow H S σ _ r (PostS.seq h)) ?_
  rintro vs H1 ⟨ds, S1, ow1, -, k1, r1, p1, q1⟩
  split at q1
  · next hlen =>
    have hvl : vs.length = (f :: fs).length := by rw [← p1.length, hlen]
    refine ⟨by rw [hvl]; simp only [List.length_cons]; omega, fun a ha => ?_⟩
    refine ⟨a, vs, by rw [List.append_nil], hvl, upd_same, fun dx hdx => ⟨rfl, dx, ((f :: fs).zip vs).reverse, upd_same, ?_⟩⟩
    have hne : dx ≠ a := fun z => by rw [z, upd_same] at hdx; cases hdx
    have hd0 : H1 dx = none := by rw [upd_ne hne] at hdx; exact hdx
    refine ⟨by rw [upd_ne hne, upd_same], hd0, ?_⟩
    rw [del_upd ha hne]
    have g := Grow.new (ow := ow1) (o := .xd ((f :: fs).zip vs).reverse) (t := .fz) hd0
    have hfs : ((f :: fs).zip ds).reverse ≠ [] := by
      cases ds with
      | nil => simp at hlen
      | cons x y => simp
    exact q1 _ _ σ _ _ (k1.trans g.step) (r1.grow g) ⟨rfl, .inr ⟨hfs, dx, _, rfl, upd_same, RepF.keep' g.keep (repF_rev (repF_zip p1))⟩⟩
  · exact False.elim q1
theorem CxG.tr (G : CxG W M cl gl k X sc Wx) {pn : List (Addr × Obj)} {xe : Value → Shared → Prop} {Wy : WX} (tk : Takes (X.tr pn xe) Wy) (pw : PassesOwn (model X.prog X.w) X.A X.env xe) : CxG W M cl gl k (X.tr pn xe) sc Wy :=
  ⟨G.prog, G.w, G.K, G.N, G.nd, G.sc, G.calm, G.room, tk, pw, G.free, G.fn, G.con, G.cls, G.kit, G.kitO, G.fld, G.prop, G.made, G.eq, G.dic, G.exc, G.exi, G.exm, G.exb, G.exC, G.met, G.len⟩
/-- a block, as a promise -/
def tBlk (W : Wd) (cl : Calls) (gl : Str → Option D) (iss : Ss) (Wy : WX) : TS := fun D σ H => ∃ pv H0 ow S, Ent pv H0 ow H ∧ Rel W pv ow H S σ ∧ PostS W pv H0 ow H Wy (exSs cl gl iss S) D
def retC (d : D) : Ss := .cons (.ret false (.con d)) .nil
/-- a clause's promise -/
def tSu (W : Wd) (M : MC) (t : Hdl) : Addr → Value → Option Addr → TS := fun a cls d D σ H => ∃ pv H0 ow S c fs, (t.2.1 = false → c = t.1) ∧ c ∈ M.allx ∧ Ent pv H0 ow H ∧ Rel W pv ow H S σ ∧ ExRep W ow H c fs cls d ∧
  (∀ i, t.2.2.1 = some i → σ[i]? = some (some (.ref a)) ∧ isFree S i = true) ∧ PostS W pv H0 ow H noWx (hbR c fs S t.2.2.2) D
def cls3 (W : Wd) (M : MC) (hs : List Hdl) : List ClN := hs.map fun t => (.ref (W.cad t.1), t.2.2.1, tSu W M t)
theorem fldB_ok (G : CxG W M cl gl k X sc Wx) {c f : Str} (h : fldB M c f = true) : XfC X.K (W.cad c) ∧ PySem.W.findIn X.K (.ref (W.cad c)) f = some none := by
  unfold fldB at h
  obtain ⟨q, hq, e⟩ := List.any_eq_true.mp h
  simp only [Bool.and_eq_true, decide_eq_true_eq] at e
  obtain ⟨rfl, e2⟩ := e
  have I := (G.exi q hq).2
  exact ⟨I.xf, I.no f (List.contains_iff_mem.mp e2)⟩
/-- what the suite's tuple tells -/
theorem ra_hts (G : CxG W M cl gl k X sc Wx) {c y : Str} {a : Addr} {oe : Obj} {cls : Value} {dd : Option Addr} {pn : List (Addr × Obj)} {i : Nat} (hy : X.N[i]? = some y) (hl : X.env.scope.names.lookup y = some .local) (hn : okN y = true) (hz : Zc cls dd oe) (hf : ∃ vs, oe.data = .fields vs) {σ : L2.St} {ow : Ow} {H : Hp} {fs : List (Str × D)} (hs : σ[i]? = some (some (.ref a))) (ex : ExRep W ow H c fs cls dd) :
    ∀ {xs : List HT} {es : List Expr} {ds : List D} {Q : List V → Hp → Prop}, mHTs M c y xs es = true → htDs fs xs = some ds → (∀ vs, RepL W ow H ds vs → Q vs H) → RA (X.suite a ((a, oe) :: pn)) es σ H Q
  | [], [], ds, Q, _, e, q => by
    cases e
    exact RA.of pa_nil (q [] .nil)
  | .con d :: xs, e :: es, ds, Q, m, e1, q => by
    unfold mHTs at m
    split at m
    · rename_i hh _; cases hh
    · rename_i d' xs' cn jj pp es' h1 h2
      cases h1
      cases h2
      simp only [Bool.and_eq_true] at m
      simp only [htDs, htD] at e1
      split at e1
      · rename_i d0 ds0 q1 q2
        cases q1
        cases e1
        refine RA.of (pa_cons pe_RE pa_RA (star_cons rfl)) ?_
        have go : ∀ v, Rep W ow H d v → RA (X.suite a ((a, oe) :: pn)) _ σ H fun vs H2 => Q (v :: vs) H2 := fun v rv => ra_hts G hy hl hn hz hf hs ex m.2 q2 fun vs rl => q (v :: vs) (.cons rv rl)
        have hc := m.1
        cases d with
        | non => cases cn <;> simp [conOk] at hc; exact RE.of pe_non (go _ .non)
        | bl b => cases cn <;> simp [conOk] at hc; subst hc; exact RE.of pe_bl (go _ (.bl b))
        | int b => cases cn <;> simp [conOk] at hc; subst hc; exact RE.of pe_int (go _ (.int b))
        | str b => cases cn <;> simp [conOk] at hc; subst hc; exact RE.of pe_str (go _ (.str b))
        | _ => simp [conOk] at hc
      · cases e1
    · rename_i h1 _; cases h1
    · cases m
  | .fld f :: xs, e :: es, ds, Q, m, e1, q => by
    unfold mHTs at m
    split at m
    · rename_i hh _; cases hh
    · rename_i h1 _; cases h1
    · rename_i f' xs' z pz g pp es' h1 h2
      cases h1
      cases h2
      simp only [Bool.and_eq_true, decide_eq_true_eq] at m
      obtain ⟨⟨⟨rfl, rfl⟩, m3⟩, m4⟩ := m
      simp only [htDs, htD] at e1
      split at e1
      · rename_i d0 ds0 q1 q2
        cases e1
        obtain ⟨T, hno⟩ := fldB_ok G m3
        obtain ⟨rfl, ⟨rfl, _⟩ | ⟨hne, da, gs, rfl, hda, rf⟩⟩ := ex
        · cases q1
        obtain ⟨u, hu, ru⟩ := rf.lookup q1
        have ex' : ExRep W ow H c fs (.ref (W.cad c)) (some da) := ⟨rfl, .inr ⟨hne, da, gs, rfl, hda, rf⟩⟩
        refine RA.of (pa_cons (pe_xf T hno hz hf pe_RE) pa_RA (star_cons rfl)) ?_
        refine RE.of (pe_var hy (.inl hl) (okN_ok hn).1 (okN_ok hn).2.1) ⟨.ref a, hs, rfl, rfl, da, gs, u, rfl, hda, hu, ?_⟩
        exact ra_hts G hy hl hn hz hf hs ex' m4 q2 fun vs rl => q (u :: vs) (.cons ru rl)
      · cases e1
    · cases m
  | [], _ :: _, _, _, m, _, _ => by simp [mHTs] at m
  | _ :: _, [], _, _, m, _, _ => by simp [mHTs] at m
/-- isinstance(y, c) -/
theorem isx_ok (G : CxG W M cl gl k X sc Wx) {y c c' : Str} {a : Addr} {oe : Obj} {cls : Value} {dd : Option Addr} {pn : List (Addr × Obj)} {i : Nat} {b : Bool} {t : Expr} (hy : X.N[i]? = some y) (hl : X.env.scope.names.lookup y = some .local) (hn : okN y = true) (hz : Zc cls dd oe) (hf : ∃ vs, oe.data = .fields vs) {σ : L2.St} {ow : Ow} {H : Hp} {fs : List (Str × D)} (hs : σ[i]? = some (some (.ref a))) (ex : ExRep W ow H c fs cls dd) (hc : c ∈ M.allx)
    (hm : mIsX sc y c' t = true) (hg : X.mg c' = some (.ref (W.cad c'))) (he : PySem.W.exmOne W.K (.ref (W.cad c)) (.ref (W.cad c')) = some b) (h2 : W.cad c = W.cad c' → b = true) {Q : Bool → Hp → Prop} (q : Q b H) : RT (X.suite a ((a, oe) :: pn)) t σ H Q := by
  unfold mIsX at hm
  split at hm
  · rename_i g0 p3 z0 p2 d0 p1 p0
    simp only [Bool.and_eq_true, decide_eq_true_eq] at hm
    obtain ⟨⟨⟨⟨⟨rfl, rfl⟩, rfl⟩, m4⟩, m5⟩, m6⟩ := hm
    obtain ⟨rfl, ed⟩ := ex
    have T : ExcC X.K (W.cad c) := by
      rw [G.K]
      exact G.exC c hc
    have hko : PySem.W.kitOne X.K (.ref (W.cad c)) (.ref (W.cad d0)) = some b := by
      rw [G.K]
      exact kitOne_exm he fun z => h2 (Value.ref.inj (beq_iff_eq.mp z))
    refine RT.of (pt_val (pe_callB (x := "isinstance") (call_isX T hz hf) (glB_ok G.sc m4) (G.free _ (by decide)) (by decide +kernel) (pa_cons (pe_var hy (.inl hl) (okN_ok hn).1 (okN_ok hn).2.1) (pa_cons (pe_glob (v := .ref (W.cad d0)) (glB_ok G.sc m5) hg rfl (okN_ok m6).1) pa_nil rfl) rfl) (he := rfl) (hpl := rfl))) ?_
    refine ⟨_, hs, .ref (W.cad d0), .ref (W.cad d0), b, rfl, fun u z => z, hko, fun d9 e0 => ?_, b, rfl, q⟩
    rcases ed with ⟨_, e1⟩ | ⟨_, a1, gs, e1, e2, _⟩
    · rw [e1] at e0; cases e0
    · rw [e1] at e0; cases e0; exact ⟨gs, e2⟩
  · cases hm
/-- [w] if isinstance(y, c) else [] -/
theorem pce_ok (G : CxG W M cl gl k X sc Wx) {y w c c' : Str} {a : Addr} {oe : Obj} {cls : Value} {dd : Option Addr} {pn : List (Addr × Obj)} {i : Nat} {e : Expr} (hy : X.N[i]? = some y) (hl : X.env.scope.names.lookup y = some .local) (hn : okN y = true) (hz : Zc cls dd oe) (hf : ∃ vs, oe.data = .fields vs) {σ : L2.St} {ow : Ow} {H : Hp} {fs : List (Str × D)} (hs : σ[i]? = some (some (.ref a))) (ex : ExRep W ow H c fs cls dd) (hc : c ∈ M.allx)
    (hm : mPce M sc y w c' e = true) {Q : VK} (q : ∀ p, H p = none → Q (.ref p) (upd H p (.lst (if c' = c then [V.str w] else [])))) : RE (X.suite a ((a, oe) :: pn)) e σ H Q := by
  unfold mPce at hm
  split at hm
  · simp only [Bool.and_eq_true, decide_eq_true_eq] at hm
    obtain ⟨⟨rfl, m2⟩, m3⟩ := hm
    have hc' := List.contains_iff_mem.mp m2
    have hg : X.mg c' = some (.ref (W.cad c')) := by
      rcases List.mem_append.mp hc' with hx | hx
      · exact (G.exc c' hx).1
      · obtain ⟨z, hz, rfl⟩ := List.mem_map.mp hx
        exact (G.exi z hz).1
    have he := G.exm c hc c' hc'
    refine RE.of (pe_ifExp pt_RT (pe_lst (pa_cons pe_str pa_nil rfl)) (pe_lst pa_nil)) ?_
    refine isx_ok G hy hl hn hz hf hs ex hc m3 hg he (fun z => ?_) ?_
    · have h1 := G.exm c hc c hc
      rw [z] at h1
      rw [z, h1] at he
      simpa using he.symm
    · by_cases hcc : c = c'
      · rw [decide_eq_true hcc, if_pos rfl]
        refine ⟨by simp [sizeLine_eq], fun p hp => ?_⟩
        have := q p hp
        rw [if_pos hcc.symm] at this
        exact this
      · rw [decide_eq_false hcc, if_neg (by simp)]
        refine ⟨by simp, fun p hp => ?_⟩
        have := q p hp
        rw [if_neg (Ne.symm hcc)] at this
        exact this
  · cases hm
theorem pce_comp {y w c' : Str} {e : Expr} (h : mPce M sc y w c' e = true) : noComp e = true := by
  unfold mPce at h
  split at h
  · rfl
  · cases h
theorem exRep_keep {ow ow1 : Ow} {H H1 : Hp} {c : Str} {fs : List (Str × D)} {cls : Value} {d : Option Addr} (k : Keep ow H ow1 H1) (hx : ∀ a gs, H a = some (.xd gs) → H1 a = H a) (h : ExRep W ow H c fs cls d) : ExRep W ow1 H1 c fs cls d := by
  obtain ⟨h1, h2⟩ := h
  refine ⟨h1, ?_⟩
  rcases h2 with h2 | ⟨h2, a, gs, h3, h4, h5⟩
  · exact .inl h2
  · exact .inr ⟨h2, a, gs, h3, (hx a gs h4).trans h4, h5.keep k⟩
theorem chn_ok (G : CxG W M cl gl k X sc Wx) {y x w c c' : Str} {a : Addr} {oe : Obj} {cls : Value} {dd : Option Addr} {pn : List (Addr × Obj)} {i j : Nat} (hy : X.N[i]? = some y) (hl : X.env.scope.names.lookup y = some .local) (hn : okN y = true) (hx : X.N[j]? = some x) (hxl : X.env.scope.names.lookup x = some .local) (hxn : okN x = true) (hij : j ≠ i) (hz : Zc cls dd oe) (hf : ∃ vs, oe.data = .fields vs) (hc : c ∈ M.allx) {pv : Nat → Option V} {S : Fr} {D : Ends} (hfr : isFree S j = true) :
    ∀ {ws : List (Str × Str)} {sts : List Stmt} {acc : List Str} {σ : L2.St} {ow : Ow} {H : Hp} {p : Addr} {fs : List (Str × Ev.D)}, mChn M sc y x w c' ws sts = true → acc.length + ws.length ≤ 2000 → σ[i]? = some (some (.ref a)) → ExRep W ow H c fs cls dd → Rel W pv ow H S σ → σ[j]? = some (some (.ref p)) → H p = some (.lst (acc.map V.str)) →
    (∀ q ow' H', Step ow H ow' H' → (∃ σ', Rel W pv ow' H' S σ') → H q = none → ow' q = .tm → H' q = some (.lst ((acc ++ (((ws ++ [(w, c')]).filter fun p => decide (p.2 = c)).map (·.1))).map V.str)) → D.rt (.ref q) H') → RSs (X.suite a ((a, oe) :: pn)) sts D σ H
  | [], sts, acc, σ, ow, H, p, fs, m, hlen, hs, ex, r, hj, hp, fin => by
    unfold mChn at m
    split at m
    case h_2 hh => cases hh
    case h_3 => cases m
    rename_i x1 px e pb ps hh
    simp only [Bool.and_eq_true, decide_eq_true_eq] at m
    obtain ⟨rfl, m2⟩ := m
    refine RSs.of (pss_cons (ps_ret (pe_op op_cat (pe_var hx (.inl hxl) (okN_ok hxn).1 (okN_ok hxn).2.1) pe_RE)) pss_nil) ?_
    refine ⟨_, hj, pce_ok G hy hl hn hz hf hs ex hc m2 fun p1 hp1 => ?_⟩
    have hne : p ≠ p1 := fun z => by rw [z, hp1] at hp; cases hp
    have hsz := sizeLine_eq
    refine ⟨p, p1, _, _, rfl, rfl, by rw [upd_ne hne]; exact hp, upd_same, ?_, fun q hq => ?_⟩
    · simp only [List.length_nil, Nat.add_zero] at hlen
      rw [List.length_map]
      split <;> simp <;> omega
    · have hqp : q ≠ p1 := fun z => by rw [z, upd_same] at hq; cases hq
      have hq0 : H q = none := by rw [upd_ne hqp] at hq; exact hq
      have g := (Grow.new (ow := ow) (o := .lst (if c' = c then [V.str w] else [])) (t := .tm) hp1).trans (Grow.new (o := .lst (acc.map V.str ++ if c' = c then [V.str w] else [])) (t := .tm) hq)
      refine fin q _ _ g.step ⟨σ, r.grow g⟩ hq0 (if_pos rfl) ?_
      rw [upd_same]
      by_cases hcc : c' = c
      · simp [hcc]
      · simp [hcc]
  | (w1, c1) :: ws, sts, acc, σ, ow, H, p, fs, m, hlen, hs, ex, r, hj, hp, fin => by
    unfold mChn at m
    split at m
    case h_1 hh => cases hh
    case h_3 => cases m
    rename_i w1' c1' ws' x1 q1 x2 q2 e q3 q4 r0 hh
    cases hh
    simp only [Bool.and_eq_true, decide_eq_true_eq] at m
    obtain ⟨⟨⟨rfl, rfl⟩, m2⟩, m3⟩ := m
    refine RSs.of (pss_cons (ps_set (X := X.suite a ((a, oe) :: pn)) (by show X.N.Nodup; rw [G.N]; exact G.nd) hx (.inl hxl) (pe_op op_cat (pe_var hx (.inl hxl) (okN_ok hxn).1 (okN_ok hxn).2.1) pe_RE) (swaps_no rfl) (.inr hxl)) pss_RS) ?_
    refine ⟨_, hj, pce_ok G hy hl hn hz hf hs ex hc m2 fun p1 hp1 => ?_⟩
    have hne : p ≠ p1 := fun z => by rw [z, hp1] at hp; cases hp
    have hsz := sizeLine_eq
    simp only [List.length_cons] at hlen
    refine ⟨p, p1, _, _, rfl, rfl, by rw [upd_ne hne]; exact hp, upd_same, ?_, fun q hq => ?_⟩
    · rw [List.length_map]
      split <;> simp <;> omega
    · have hqp : q ≠ p1 := fun z => by rw [z, upd_same] at hq; cases hq
      have hq0 : H q = none := by rw [upd_ne hqp] at hq; exact hq
      have g := (Grow.new (ow := ow) (o := .lst (if c1 = c then [V.str w1] else [])) (t := .tm) hp1).trans (Grow.new (o := .lst (acc.map V.str ++ if c1 = c then [V.str w1] else [])) (t := .tm) hq)
      have hjl : j < σ.length := by rw [← r.len]; exact (free_none hfr).2
      have hxd : ∀ z gs, H z = some (.xd gs) → upd (upd H p1 (.lst (if c1 = c then [V.str w1] else []))) q (.lst (acc.map V.str ++ if c1 = c then [V.str w1] else [])) z = H z := fun z gs e => (g z (by rw [e]; simp)).1
      refine chn_ok G hy hl hn hx hxl hxn hij hz hf hc hfr (acc := acc ++ if c1 = c then [w1] else []) m3 (by split <;> simp <;> omega) (by rw [List.getElem?_set_ne hij]; exact hs) (exRep_keep g.keep hxd ex) (rel_free_set (r.grow g) hfr) (List.getElem?_set_self hjl) (by rw [upd_same]; split <;> simp) fun q' ow' H' k' r' hn' ht' hq' => ?_
      refine fin q' ow' H' (g.step.trans k') r' (g.step.none hn') ht' ?_
      rw [hq']
      by_cases hcc : c1 = c
      · simp [hcc]
      · simp [hcc]
/-- a clause's suite keeps its promise -/
theorem su_ok (G : CxG W M cl gl k X sc Wx) {t : Hdl} {y : Option Str} {su : List Stmt} (hn : mNam M sc t.2.2.1 y = true) (m : mHB M sc t.1 t.2.1 y t.2.2.2 su = true) : SuOk X su (tSu W M t) := by
  intro a oe cls dd pn hz hf
  obtain ⟨c0, an, oi, hb⟩ := t
  refine ⟨fun pins s σ H D I q => ?_⟩
  obtain ⟨pv, H0, ow, S, c, fs, hc, hx, en, r, ex, hnm, hp⟩ := q
  unfold mHB at m
  split at m
  · rename_i d cn j1 p1 p2 e1
    have e1 : hb = .ret d := e1
    subst e1
    exact snd_scons (cl := cl) (gl := gl) (snd_ret (snd_con m)) snd_snil pv H0 ow H S σ D en r (by
      show PostS W pv H0 ow H noWx (exSs cl gl (retC d) S) D
      simp only [retC, exSs, exS, evE, Fl.bindO]
      exact hp) pins s I
  · rename_i xs es j1 p1 p2 e1
    have e1 : hb = .retT xs := e1
    subst e1
    simp only at m hc hnm
    split at m
    · rename_i y
      simp only [Bool.and_eq_true, Bool.not_eq_true', beq_iff_eq] at m
      obtain ⟨⟨⟨m1, m2⟩, m3⟩, m4⟩ := m
      obtain rfl := hc m1
      cases oi with
      | none => simp [mNam] at hn
      | some i =>
        simp only [mNam, Bool.and_eq_true, decide_eq_true_eq, beq_iff_eq] at hn
        simp only [hbR] at hp
        split at hp
        · rename_i ds he
          split at hp
          · rename_i hlen
            refine RSs.of (pss_cons (ps_ret (pe_tup pa_RA)) pss_nil) (ra_hts G (by rw [G.N]; exact hn.1) (by rw [G.sc]; exact m2) m3 hz hf (hnm i rfl).1 ex m4 he fun vs rl => ?_) pins s I
            refine ⟨by rw [← rl.length, sizeLine_eq]; omega, fun p hpn => ?_⟩
            have g := Grow.new (ow := ow) (o := .tup vs) (t := .fz) hpn
            exact hp (.ref p) σ _ _ g.step (r.grow g) (.tup (.inl ⟨.inl upd_same, if_pos rfl⟩) (rl.keep g.keep))
          · exact False.elim hp
        · exact False.elim hp
    · cases m
  · rename_i j xs x px t es q1 q2 q3 q4 q5 q6 e1
    have e1 : hb = .asgT j xs := e1
    subst e1
    simp only at m hc hnm
    split at m
    · rename_i y b hb0
      simp only [Bool.and_eq_true, Bool.not_eq_true', beq_iff_eq, decide_eq_true_eq] at m
      obtain ⟨⟨⟨⟨⟨⟨m1, m2⟩, m3⟩, m4⟩, m5⟩, m6⟩, m7⟩ := m
      obtain rfl := hc m1
      cases oi with
      | none => simp [mNam] at hn
      | some i =>
        simp only [mNam, Bool.and_eq_true, decide_eq_true_eq, beq_iff_eq] at hn
        simp only [hbR] at hp
        obtain ⟨hgb, heb⟩ := G.exb b hb0
        have hyl : X.env.scope.names.lookup y = some .local := by rw [G.sc]; exact m2
        have hxl : X.env.scope.names.lookup x = some .local := by rw [G.sc]; exact m7
        split at hp
        · rename_i ds he
          split at hp
          · rename_i hlen
            refine RSs.of (pss_cons (ps_set (X := X.suite a ((a, oe) :: pn)) (by show X.N.Nodup; rw [G.N]; exact G.nd) (by rw [G.N]; exact m6) (.inl hxl) (pe_ifExp pt_RT (pe_tup pa_RA) pe_non) rfl (.inr hxl)) pss_nil) ?_ pins s I
            refine isx_ok G (by rw [G.N]; exact hn.1) hyl m3 hz hf (hnm i rfl).1 ex hx m5 hgb (heb _ hx) (fun _ => rfl) ?_
            rw [if_pos rfl]
            refine ra_hts G (by rw [G.N]; exact hn.1) hyl m3 hz hf (hnm i rfl).1 ex m4 he fun vs rl => ?_
            refine ⟨by rw [← rl.length, sizeLine_eq]; omega, fun p hpn => ?_⟩
            have g := Grow.new (ow := ow) (o := .tup vs) (t := .fz) hpn
            cases e3 : putC S j (.val (.tup ds)) with
            | none => rw [e3] at hp; exact False.elim hp
            | some S2 =>
              rw [e3] at hp
              exact hp _ _ _ g.step (put_cell (c := .val (.tup ds)) (r.grow g) (by simp) (.tup (.inl ⟨.inl upd_same, if_pos rfl⟩) (rl.keep g.keep)) e3)
          · exact False.elim hp
        · exact False.elim hp
    · cases m
  · rename_i j w1 c1 ws w c2 x px e q1 r0 e1
    have e1 : hb = .chn j ((w1, c1) :: ws) w c2 := e1
    subst e1
    simp only at m hc hnm
    split at m
    · rename_i y
      simp only [Bool.and_eq_true, beq_iff_eq, decide_eq_true_eq] at m
      obtain ⟨⟨⟨⟨⟨⟨⟨m2, m3⟩, m4⟩, m6⟩, m7⟩, m8⟩, m9⟩, m10⟩ := m
      cases oi with
      | none => simp [mNam] at hn
      | some i =>
        simp only [mNam, Bool.and_eq_true, decide_eq_true_eq, beq_iff_eq] at hn
        simp only [hbR] at hp
        have hyl : X.env.scope.names.lookup y = some .local := by rw [G.sc]; exact m2
        have hxl : X.env.scope.names.lookup x = some .local := by rw [G.sc]; exact m7
        have hyN : X.N[i]? = some y := by rw [G.N]; exact hn.1
        have hxN : X.N[j]? = some x := by rw [G.N]; exact m6
        have hij : j ≠ i := fun z => by
          subst z
          rw [hxN] at hyN
          exact m9 (Option.some.inj hyN)
        split at hp
        · rename_i hcd
          simp only [Bool.and_eq_true, decide_eq_true_eq] at hcd
          obtain ⟨hfr, hlen⟩ := hcd
          refine RSs.of (pss_cons (ps_set (X := X.suite a ((a, oe) :: pn)) (by show X.N.Nodup; rw [G.N]; exact G.nd) hxN (.inl hxl) pe_RE (swaps_no (pce_comp m4)) (.inr hxl)) pss_RS) ?_ pins s I
          refine pce_ok G hyN hyl m3 hz hf (hnm i rfl).1 ex hx m4 fun p hpn => ?_
          have g := Grow.new (ow := ow) (o := .lst (if c1 = c then [V.str w1] else [])) (t := .tm) hpn
          have hjl : j < σ.length := by rw [← r.len]; exact (free_none hfr).2
          have hxd : ∀ z gs, H z = some (.xd gs) → upd H p (.lst (if c1 = c then [V.str w1] else [])) z = H z := fun z gs e => (g z (by rw [e]; simp)).1
          refine chn_ok G hyN hyl m3 hxN hxl m8 hij hz hf hx hfr (acc := if c1 = c then [w1] else []) m10 (by simp only [List.length_cons] at hlen; split <;> simp <;> omega) (by rw [List.getElem?_set_ne hij]; exact (hnm i rfl).1) (exRep_keep g.keep hxd ex) (rel_free_set (r.grow g) hfr) (List.getElem?_set_self hjl) (by rw [upd_same]; split <;> simp) fun q ow' H' k' r' hnq ht hq => ?_
          obtain ⟨σ', r'⟩ := r'
          have hH0 : H0 q = none := by
            have hnH := g.step.none hnq
            cases z : H0 q with
            | none => rfl
            | some o => exact absurd hnH (en q (by rw [z]; simp)).1
          refine hp (.ref q) σ' ow' H' (g.step.trans k') r' ⟨q, _, rfl, hq, ⟨ht, hH0⟩, ?_⟩
          have strL : ∀ l : List Str, RepL W ow' H' (l.map Ev.D.str) (l.map V.str) := fun l => by
            induction l with
            | nil => exact .nil
            | cons x l ih => exact .cons (.str x) ih
          have e5 : (((((w1, c1) :: ws) ++ [(w, c2)]).filter fun p => decide (p.2 = c)).map fun p => Ev.D.str p.1) = (((if c1 = c then [w1] else []) ++ (((ws ++ [(w, c2)]).filter fun p => decide (p.2 = c)).map (·.1))).map Ev.D.str) := by
            rw [show (fun p : Str × Str => Ev.D.str p.1) = Ev.D.str ∘ Prod.fst from rfl, ← List.map_map, List.cons_append, List.filter_cons]
            by_cases hcc : c1 = c
            · rw [if_pos hcc, if_pos (decide_eq_true hcc)]
              rfl
            · rw [if_neg hcc, if_neg (by simpa using hcc)]
              rfl
          rw [e5]
          exact strL _
        · exact False.elim hp
    · cases m
  · cases m
theorem cls3_ok (G : CxG W M cl gl k X sc Wx) : ∀ {hs : List Hdl} {hds : List ExceptHandler}, mHs M sc hs hds = true → ClOk X hds (cls3 W M hs)
  | [], [], _ => .nil
  | [], _ :: _, h => by simp [mHs] at h
  | _ :: _, [], h => by simp [mHs] at h
  | (c, a, i, b) :: hs, hd :: hds, h => by
    unfold mHs at h
    split at h
    · rename_i hzero _; cases hzero
    · rename_i _ _ c' a' i' b' hs' x px y s0 su ph hds' e1 e2
      cases e1
      cases e2
      simp only [Bool.and_eq_true, decide_eq_true_eq] at h
      obtain ⟨⟨⟨⟨⟨⟨rfl, h2⟩, h3⟩, h4⟩, h5⟩, h6⟩, h7⟩ := h
      have hm : X.mg x = some (.ref (W.cad x)) := by
        split at h2
        · exact (G.exb x (of_decide_eq_true h2)).1
        · have hx := List.contains_iff_mem.mp h2
          rcases List.mem_append.mp hx with hx | hx
          · exact (G.exc x hx).1
          · obtain ⟨q, hq, rfl⟩ := List.mem_map.mp hx
            exact (G.exi q hq).1
      have hN : Names X x (.ref (W.cad x)) := ⟨glB_ok G.sc h3, (okN_ok h4).1, .inl hm⟩
      have hsu := su_ok (t := (x, a, i, b)) G h5 h6
      cases i with
      | none =>
        cases y with
        | none => exact .anon hN hsu (cls3_ok G h7)
        | some y => simp [mNam] at h5
      | some i =>
        cases y with
        | none => simp [mNam] at h5
        | some y =>
          simp only [mNam, Bool.and_eq_true, decide_eq_true_eq, beq_iff_eq] at h5
          refine .named hN (by rw [G.N]; exact h5.1) ?_ hsu (cls3_ok G h7)
          unfold Env.kindOf
          rw [G.sc]
          exact h5.2
    · cases h
theorem rel_set_free {pv : Nat → Option V} {ow : Ow} {H : Hp} {S : Fr} {σ : L2.St} {i : Nat} {x : Option V} (r : Rel W pv ow H S σ) (h : isFree S i = true) : Rel W pv ow H S (σ.set i x) := by
  unfold isFree at h
  simp only [Bool.and_eq_true, decide_eq_true_eq, Option.isNone_iff_eq_none] at h
  refine ⟨by rw [List.length_set]; exact r.len, fun j c e => ?_, fun j v e => ?_, r.unpar⟩
  · have hj : i ≠ j := fun z => by rw [← z, h.1] at e; cases e
    rw [List.getElem?_set_ne hj]
    exact r.cell j c e
  · obtain ⟨o, h1, h2⟩ := r.par j v e
    have hj : i ≠ j := fun z => by rw [← z, h.1] at h1; cases h1
    exact ⟨o, h1, by rw [List.getElem?_set_ne hj]; exact h2⟩
theorem hbR_free {c : Str} {fs : List (Str × D)} {S S' : Fr} {b : HB} {i : Nat} (h : hbR c fs S b = .nx S') (hf : isFree S i = true) (hb : ∀ j xs, b = .asgT j xs → j ≠ i) : isFree S' i = true := by
  cases b with
  | ret d => cases h
  | retT xs =>
    simp only [hbR] at h
    split at h
    · split at h <;> cases h
    · cases h
  | asgT j xs =>
    have hj := hb j xs rfl
    have go : ∀ {cc : Cell}, nxO (putC S j cc) = .nx S' → isFree S' i = true := by
      intro cc e
      unfold putC at e
      split at e
      · cases e
      · cases e
        unfold isFree at hf ⊢
        unfold setC
        simp only [Bool.and_eq_true, decide_eq_true_eq, Option.isNone_iff_eq_none, List.length_set] at hf ⊢
        refine ⟨?_, hf.2⟩
        have := hf.1
        unfold getC at this ⊢
        rw [List.getElem?_set_ne hj]
        exact this
    simp only [hbR] at h
    split at h
    · split at h
      · exact go h
      · cases h
    · cases h
  | chn j ws w k =>
    simp only [hbR] at h
    split at h <;> cases h
def plainFl : Fl → Bool
  | .nx _ => true
  | .ret _ _ => true
  | .bad => true
  | _ => false
theorem hbR_plain {c : Str} {fs : List (Str × D)} {S : Fr} {b : HB} : plainFl (hbR c fs S b) = true := by
  have np : ∀ o : Option Fr, plainFl (nxO o) = true := fun o => by cases o <;> rfl
  cases b with
  | ret d => rfl
  | retT xs =>
    simp only [hbR]
    split
    · split <;> rfl
    · rfl
  | asgT j xs =>
    simp only [hbR]
    split
    · split
      · exact np _
      · rfl
    · rfl
  | chn j ws w k =>
    simp only [hbR]
    split <;> rfl
theorem post_plain {pv : Nat → Option V} {H0 : Hp} {ow ow1 : Ow} {H H1 : Hp} {U1 U2 : WX} {x : Fl} {D : Ends} (hx : plainFl x = true) (st : Step ow H ow1 H1) (h : PostS W pv H0 ow H U1 x D) : PostS W pv H0 ow1 H1 U2 x D := by
  cases x with
  | nx S' => exact fun σ' ow' H' k' r' => h σ' ow' H' (st.trans k') r'
  | ret v S' => exact fun u σ' ow' H' k' r' q' => h u σ' ow' H' (st.trans k') r' q'
  | bad => exact h
  | brk S' => cases hx
  | cnt S' => cases hx
  | exc c fs S' => cases hx
theorem nam_of (G : CxG W M cl gl k X sc Wx) {De : Ends} {c : Str} {fs : List (Str × D)} {cls : Value} {dd : Option Addr} {pv : Nat → Option V} {H0 : Hp} {ow : Ow} {S : Fr} {σ : L2.St} {H : Hp} (hc : c ∈ M.allx) (en : Ent pv H0 ow H) (rl : Rel W pv ow H S σ) (ex : ExRep W ow H c fs cls dd) : ∀ {hs : List Hdl} {hds : List ExceptHandler}, mHs M sc hs hds = true → hs.all asgNe = true →
    (∀ i b, findH c hs = some (i, b) → nmFree S i = true ∧ PostS W pv H0 ow H noWx (hbR c fs S b) De) → (findH c hs = none → Wx cls dd σ H) → wNam X.K Wx De (cls3 W M hs) cls dd σ H
  | [], _, _, _, _, h2 => h2 rfl
  | (k1, a1, i1, b1) :: hs, hds, hm, hj, h1, h2 => by
    cases hds with
    | nil => simp [mHs] at hm
    | cons hd hds =>
    unfold mHs at hm
    split at hm
    · rename_i hzero _; cases hzero
    · rename_i _ _ c' a' i' b' hs' x px y s0 su ph hds' e1 e2
      cases e1
      cases e2
      simp only [Bool.and_eq_true, decide_eq_true_eq] at hm
      obtain ⟨⟨⟨⟨⟨⟨rfl, m2⟩, m3⟩, m4⟩, m5⟩, m6⟩, m7⟩ := hm
      simp only [List.all_cons, Bool.and_eq_true] at hj
      have hcls : cls = .ref (W.cad c) := ex.1
      have hit : PySem.W.exmOne X.K cls (.ref (W.cad x)) = some (decide (a1 = true ∨ c = x)) := by
        rw [G.K, hcls]
        split at m2
        · next ha =>
          rw [(G.exb x (of_decide_eq_true m2)).2 c hc]
          simp [ha]
        · next ha =>
          rw [G.exm c hc x (List.contains_iff_mem.mp m2)]
          simp [ha]
      refine ⟨_, hit, fun hb a hna => ?_, fun hb => ?_⟩
      · have hb := of_decide_eq_true hb
        obtain ⟨f1, p1⟩ := h1 i1 b1 (by simp only [findH]; rw [if_pos hb])
        have hcx : a1 = false → c = x := fun z => by
          rcases hb with hb | hb
          · rw [z] at hb; cases hb
          · exact hb
        cases i1 with
        | none => exact ⟨pv, H0, ow, S, c, fs, hcx, hc, en, rl, ex, fun i z => (by cases z), p1⟩
        | some i =>
          have hfr : isFree S i = true := f1
          have hlt : i < σ.length := by
            have h9 := hfr
            unfold isFree at h9
            simp only [Bool.and_eq_true, decide_eq_true_eq] at h9
            rw [← rl.len]; exact h9.2
          refine ⟨pv, H0, ow, S, c, fs, hcx, hc, en, rel_set_free rl hfr, ex, fun j z => ?_, ?_⟩
          · cases z
            exact ⟨List.getElem?_set_self hlt, hfr⟩
          · have hpl := hbR_plain (c := c) (fs := fs) (S := S) (b := b1)
            show PostS W pv H0 ow H noWx (hbR c fs S b1) (goneD De i)
            cases e : hbR c fs S b1 with
            | nx S' =>
              rw [e] at p1
              intro σ' ow' H' k' r'
              have hf2 : isFree S' i = true := hbR_free e hfr (fun j xs z => by
                have := hj.1
                simp only [asgNe, z, decide_eq_true_eq] at this
                exact this)
              exact p1 (σ'.set i none) ow' H' k' (rel_set_free r' hf2)
            | ret v S' => rw [e] at p1; exact p1
            | brk S' => rw [e] at hpl; cases hpl
            | cnt S' => rw [e] at hpl; cases hpl
            | exc k gs S' => rw [e] at hpl; cases hpl
            | bad => rw [e] at p1; exact p1
      · have hb := of_decide_eq_false hb
        exact nam_of G hc en rl ex m7 hj.2 (fun i b hh => h1 i b (by simp only [findH]; rw [if_neg hb]; exact hh)) (fun hn => h2 (by simp only [findH]; rw [if_neg hb]; exact hn))
    · cases hm
theorem snd_tr (G : CxG W M cl gl k X sc Wx) (hst : X.stack = X.env :: X.outer) (hfr : X.env.frame = some X.env.locals) {ok : List Str} {b : Ss} {hs : List Hdl} {body : List Stmt} {h0 : ExceptHandler} {hds : List ExceptHandler} {pos : Pos} (hok : ∀ c ∈ ok, c ∈ M.allx)
    (hb : ∀ (pn : List (Addr × Obj)) (xe : Value → Shared → Prop) (Wy : WX), CxG W M cl gl k (X.tr pn xe) sc Wy → SndSs W cl gl (X.tr pn xe) Wy body b) (hm : mHs M sc hs (h0 :: hds) = true) (hj : hs.all asgNe = true) : SndS W cl gl X Wx (.Try body (h0 :: hds) [] [] pos) (.tr ok b hs) := by
  intro pv H0 ow H S σ D en r h
  simp only [exS] at h
  refine RS.of (ps_try_nam (tb := fun Wy => tBlk W cl gl b Wy) hst hfr (by rw [G.N]; exact G.nd) G.tk (fun Wy pn xe tk pw => ⟨fun pins s σ H D I q => ?_⟩) (cls3_ok G hm)) ?_
  · obtain ⟨pv, H0, ow, S, en, r, hp⟩ := q
    exact hb pn xe Wy (G.tr tk pw) pv H0 ow H S σ D en r hp pins s I
  · refine ⟨pv, H0, ow, S, en, r, ?_⟩
    cases e : exSs cl gl b S with
    | exc c fs S' =>
      rw [e] at h
      simp only [catchR] at h
      split at h
      · next hc =>
        intro cls d σ' ow' H' st rl ex
        have hc' := hok c (List.contains_iff_mem.mp hc)
        refine nam_of G hc' (en.step st) rl ex hm hj (fun i b' hd' => ?_) (fun hn => ?_)
        · rw [hd'] at h
          simp only at h
          split at h
          · next hf => exact ⟨hf, post_plain hbR_plain st h⟩
          · exact False.elim h
        · rw [hn] at h
          exact h cls d σ' ow' H' st rl ex
      · exact False.elim h
    | _ => rw [e] at h; exact h
theorem sndPar (G : CxG W M cl gl k X sc Wx) : ∀ {zs : List Bool} {ies : Es} {es : List Expr} {n : Nat}, mPar W.own M sc zs ies es = true → SndPar W cl gl X Wx n zs es ies
  | [], .nil, [], n, _ => snd_par0
  | z :: zs, .cons e es, x :: r, n, h => by
    simp only [mPar, Bool.and_eq_true] at h
    exact snd_par1 h.1.1 (sndE e G h.1.2) (sndPar G h.2)
  | [], .nil, _ :: _, n, h => by simp [mPar] at h
  | [], .cons _ _, _, n, h => by simp [mPar] at h
  | _ :: _, .nil, _, n, h => by simp [mPar] at h
  | _ :: _, .cons _ _, [], n, h => by simp [mPar] at h
theorem allLoc_len : ∀ {is : List Nat} {ts : List Expr}, allLoc M sc is ts = true → is.length = ts.length
  | [], [], _ => rfl
  | [], _ :: _, h => by simp [allLoc] at h
  | _ :: _, [], h => by simp [allLoc] at h
  | i :: is, t :: ts, h => by
    cases t <;> simp only [allLoc] at h <;> try (cases h)
    simp only [Bool.and_eq_true] at h
    simp [allLoc_len h.2]
theorem allLoc_cons {i : Nat} {is : List Nat} {t : Expr} {ts : List Expr} (h : allLoc M sc (i :: is) (t :: ts) = true) : ∃ x p, t = .Name x p ∧ M.N[i]? = some x ∧ sc.names.lookup x = some .local ∧ allLoc M sc is ts = true := by
  cases t <;> simp only [allLoc] at h <;> try (cases h)
  next x p =>
    simp only [Bool.and_eq_true, decide_eq_true_eq, beq_iff_eq] at h
    exact ⟨x, p, rfl, h.1.1, h.1.2, h.2⟩
theorem sndParS (G : CxG W M cl gl k X sc Wx) (hk : sc.kind = .function) {zs : List Bool} {is : List Nat} {ies : Es} {ts vs : List Expr} {k1 k2 : Nat} {q1 q2 pos : Pos}
    (h1 : (ts.length == 2 || ts.length == 3) = true) (h2 : vs.length = ts.length) (hd : is.Nodup) (hl : allLoc M sc is ts = true) (hn : (namesE ts).isSome = true) (hw : swpS sc ts vs = some (namesE ts)) (ha : SndPar W cl gl X Wx 0 zs vs ies) :
    SndS W cl gl X Wx (.Assign [.Tuple ts k1 q1] (.Tuple vs k2 q2) pos) (.par zs is ies) := by
  have hlen := allLoc_len hl
  simp only [Bool.or_eq_true, beq_iff_eq] at h1
  rcases h1 with h1 | h1
  · match ts, vs, is, h1, h2, hlen, hl, hd, hn, hw, ha with
    | [t1, t2], [a, b], [i, j], _, _, _, hl, hd, hn, hw, ha =>
      obtain ⟨x, px, rfl, e1, l1, hl⟩ := allLoc_cons hl
      obtain ⟨y, py, rfl, e2, l2, hl⟩ := allLoc_cons hl
      refine snd_parS2 G ?_ (by rw [G.N]; exact e1) (by rw [G.N]; exact e2) (by rw [G.sc]; exact l1) (by rw [G.sc]; exact l2) (swp_ok G.sc hk hw) ha
      intro z
      subst z
      simp at hd
  · match ts, vs, is, h1, h2, hlen, hl, hd, hn, hw, ha with
    | [t1, t2, t3], [a, b, c], [i, j, l], _, _, _, hl, hd, hn, hw, ha =>
      obtain ⟨x, px, rfl, e1, l1, hl⟩ := allLoc_cons hl
      obtain ⟨y, py, rfl, e2, l2, hl⟩ := allLoc_cons hl
      obtain ⟨w, pw, rfl, e3, l3, hl⟩ := allLoc_cons hl
      simp at hd
      refine snd_parS3 G hd.1.1 hd.1.2 hd.2 (by rw [G.N]; exact e1) (by rw [G.N]; exact e2) (by rw [G.N]; exact e3) (by rw [G.sc]; exact l1) (by rw [G.sc]; exact l2) (by rw [G.sc]; exact l3) (swp_ok G.sc hk hw) ha
theorem sndAsg (G : CxG W M cl gl k X sc Wx) (hk : sc.kind = .function) (hfn : ∀ x, X.fn x = true) {z : Bool} {i : Nat} {x : Str} {ia : E} {a : Expr} {px pos : Pos} (h1 : stB M sc i x = true) (h2 : (noComp a || isLc a) = true) (h3 : mE W.own M sc ia a = true) : SndS W cl gl X Wx (.Assign [.Name x px] a pos) (.asg z i ia) := by
  obtain ⟨e1, e2⟩ := stB_ok G.sc G.N h1
  have hsw := swB_ok (x := x) (px := px) (l := pos.line) G.sc hk h2
  cases hb : swB sc x px a with
  | false =>
    rw [hb] at hsw
    exact snd_asgS (by rw [G.N]; exact G.nd) e1 e2 (.inl (hfn x)) hsw (sndE ia G h3)
  | true =>
    rw [hb] at hsw
    cases a <;> simp only [swB] at hb <;> try (cases hb)
    next elt gs scope p =>
      simp only [Bool.and_eq_true, beq_iff_eq] at hb
      cases ia <;> simp only [mE] at h3 <;> try (cases h3)
      next ie tg it ot =>
        split at h3
        · next el t i' ifs scope2 p2 he =>
          cases he
          simp only [Bool.and_eq_true] at h3
          obtain ⟨⟨⟨⟨⟨g1, g2⟩, g3⟩, g4⟩, g5⟩, g6⟩ := h3
          refine snd_asgLc (own := ownOf M tg) G e1 (by rw [G.sc]; exact hb.1.1) hsw (by rw [G.N, G.sc]; exact blkOk_by g1) (by simp [ownOf, Function.comp_def]) (sndI it G g3) (fun s H C cc fp => ?_) (fun s H C cc fp => sndOt ot (G.blk scope s H C cc fp) g5) (fun s H C cc fp => sndE ie (G.blk scope s H C cc fp) g6) (noSet_ok g4)
          have G' := G.blk scope s H C cc fp
          exact pg_of (orig := scope) G'.calm G'.N G'.nd G'.sc (fun x hx => by show (scope.names.lookup x == some .cell) = true; rw [hx]; rfl) g2
        · cases h3
      next ie tg it tg1 it1 =>
        split at h3
        · next el t i' t1 i1 scope2 p2 he =>
          cases he
          simp only [Bool.and_eq_true] at h3
          obtain ⟨⟨⟨⟨⟨⟨⟨g1, g2⟩, g3⟩, g4⟩, g5⟩, g6⟩, g7⟩, g8⟩ := h3
          refine snd_asgLc2 (own := ownOf M tg ++ ownOf M tg1) G e1 (by rw [G.sc]; exact hb.1.1) hsw (by rw [G.N, G.sc]; exact blkOk_by g1) (by simp [ownOf, Function.comp_def]) (sndI it G g3) (fun s H C cc fp => ?_) (fun s H C cc fp => sndI it1 (G.blk scope s H C cc fp) g6) (fun s H C cc fp => ?_) (fun s H C cc fp => sndE ie (G.blk scope s H C cc fp) g8) (noSet_ok g4) (fun env => noSet_ok g7)
          · have G' := G.blk scope s H C cc fp
            exact pg_of (orig := scope) G'.calm G'.N G'.nd G'.sc (fun x hx => by show (scope.names.lookup x == some .cell) = true; rw [hx]; rfl) g2
          · have G' := G.blk scope s H C cc fp
            exact pg_of (orig := scope) G'.calm G'.N G'.nd G'.sc (fun x hx => by show (scope.names.lookup x == some .cell) = true; rw [hx]; rfl) g5
        · cases h3
      next hj ih =>
        cases ih <;> simp only [mE, isLcI, Bool.false_and, Bool.true_and] at h3 <;> try (cases h3)
        next ie tg it ot =>
          split at h3
          · next el t i' ifs scope2 p2 he =>
            cases he
            simp only [Bool.and_eq_true] at h3
            obtain ⟨⟨⟨⟨⟨g1, g2⟩, g3⟩, g4⟩, g5⟩, g6⟩ := h3
            refine snd_asgLcH (own := ownOf M tg) G e1 (by rw [G.sc]; exact hb.1.1) hsw (by rw [G.N, G.sc]; exact blkOk_by g1) (by simp [ownOf, Function.comp_def]) (sndI it G g3) (fun s H C cc fp => ?_) (fun s H C cc fp => sndOt ot (G.blk scope s H C cc fp) g5) (fun s H C cc fp => sndE ie (G.blk scope s H C cc fp) g6) (noSet_ok g4)
            have G' := G.blk scope s H C cc fp
            exact pg_of (orig := scope) G'.calm G'.N G'.nd G'.sc (fun x hx => by show (scope.names.lookup x == some .cell) = true; rw [hx]; rfl) g2
          · cases h3
    next kx vx gs scope p =>
      simp only [Bool.and_eq_true, beq_iff_eq] at hb
      cases ia <;> simp only [mE] at h3 <;> try (cases h3)
      next hj ih =>
        cases ih <;> simp only [mE, isLcI, Bool.false_and, Bool.true_and] at h3 <;> try (cases h3)
      next ka va tg it =>
        split at h3
        · next kx' vx' t i' scope2 p2 he =>
          cases he
          simp only [Bool.and_eq_true] at h3
          obtain ⟨⟨⟨⟨⟨g1, g2⟩, g3⟩, g4⟩, g5⟩, g6⟩ := h3
          refine snd_asgDc (own := ownOf M tg) G e1 (by rw [G.sc]; exact hb.1.1) hsw (by rw [G.N, G.sc]; exact blkOk_by g1) (by simp [ownOf, Function.comp_def]) (sndI it G g3) (fun s H C cc fp => ?_) (fun s H C cc fp => sndE ka (G.blk scope s H C cc fp) g5) (fun s H C cc fp => sndE va (G.blk scope s H C cc fp) g6) (noSet_ok g4)
          have G' := G.blk scope s H C cc fp
          exact pg_of (orig := scope) G'.calm G'.N G'.nd G'.sc (fun x hx => by show (scope.names.lookup x == some .cell) = true; rw [hx]; rfl) g2
        · cases h3
mutual
theorem sndS {X : Cx} {Wx : WX} (G : CxG W M cl gl k X sc Wx) (hk : sc.kind = .function) (hfn : ∀ x, X.fn x = true) (hst : X.stack = X.env :: X.outer) (hfr : X.env.frame = some X.env.locals) : ∀ (is : St) {st : Stmt}, mS W.own M sc is st = true → SndS W cl gl X Wx st is
  | .asg z i e, st, h => by
    simp only [mS] at h
    split at h
    · simp only [Bool.and_eq_true] at h
      exact sndAsg G hk hfn h.1.1 h.1.2 h.2
    · cases h
  | .unp is e, st, h => by
    simp only [mS] at h
    split at h
    · next ts kk q a pos =>
      simp only [Bool.and_eq_true] at h
      obtain ⟨⟨h1, h2⟩, h3⟩ := h
      refine snd_unp G (pg_of (orig := sc) (tg := .many is) G.calm G.N G.nd G.sc (fun x _ => hfn x) h1) ?_ (sndE e G h2)
      split at h3
      · exact swp_ok G.sc hk (of_decide_eq_true h3)
      · next hz => exact swp_no (by cases a <;> first | rfl | exact absurd rfl (hz _ _ _))
    · cases h
  | .par zs is es, st, h => by
    simp only [mS] at h
    split at h
    · simp only [Bool.and_eq_true, decide_eq_true_eq, beq_iff_eq] at h
      obtain ⟨⟨⟨⟨⟨h1, h2⟩, h3⟩, h4⟩, h5⟩, h6⟩ := h
      exact sndParS G hk h1 h2 h3 h4 h5.1 h5.2 (sndPar G h6)
    · cases h
  | .app i e, st, h => by
    simp only [mS] at h
    split at h
    · simp only [Bool.and_eq_true, decide_eq_true_eq] at h
      obtain ⟨⟨⟨⟨rfl, h2⟩, h3⟩, h4⟩, h5⟩ := h
      obtain ⟨e1, e2, e3, e4⟩ := slotB_ok G h2
      exact snd_app h3 e1 e2 e3 e4 h4 (sndE e G h5)
    · cases h
  | .six i k' e, st, h => by
    simp only [mS] at h
    split at h
    · simp only [Bool.and_eq_true] at h
      obtain ⟨⟨⟨h1, h2⟩, h3⟩, h4⟩ := h
      obtain ⟨e1, e2, e3, e4⟩ := slotB_ok G h1
      exact snd_six G e1 e2 e3 e4 h2 (sndE k' G h3) (sndE e G h4)
    · cases h
  | .del i k', st, h => by
    simp only [mS] at h
    split at h
    · simp only [Bool.and_eq_true] at h
      obtain ⟨e1, e2, e3, e4⟩ := slotB_ok G h.1
      exact snd_del G e1 e2 e3 e4 (sndE k' G h.2)
    · cases h
  | .atr c i f e, st, h => by
    simp only [mS] at h
    split at h
    · simp only [Bool.and_eq_true, decide_eq_true_eq] at h
      obtain ⟨⟨⟨⟨rfl, h1⟩, h2⟩, h3⟩, h4⟩ := h
      obtain ⟨e1, e2, e3, e4⟩ := slotB_ok G h2
      exact snd_atr G (List.contains_iff_mem.mp h1) e1 e2 e3 e4 h3 (sndE e G h4)
    · cases h
  | .fap c i f g, st, h => by
    simp only [mS] at h
    split at h
    · simp only [Bool.and_eq_true, decide_eq_true_eq] at h
      obtain ⟨⟨⟨⟨⟨⟨⟨rfl, rfl⟩, rfl⟩, rfl⟩, h1⟩, h2⟩, h3⟩, h4⟩ := h
      obtain ⟨e1, e2, e3, e4⟩ := slotB_ok G h3
      exact snd_fap G (List.contains_iff_mem.mp h1) (List.contains_iff_mem.mp h2) e1 e2 e3 e4 h4
    · cases h
  | .atl c i f e, st, h => by
    simp only [mS] at h
    split at h
    · simp only [Bool.and_eq_true, decide_eq_true_eq] at h
      obtain ⟨⟨⟨⟨rfl, h1⟩, h2⟩, h3⟩, h4⟩ := h
      obtain ⟨e1, e2, e3, e4⟩ := slotB_ok G h2
      exact snd_atl G (List.contains_iff_mem.mp h1) e1 e2 e3 e4 h3 (sndE e G h4)
    · cases h
  | .aug op i e, st, h => by
    simp only [mS] at h
    split at h
    · simp only [Bool.and_eq_true] at h
      obtain ⟨⟨⟨h1, h2⟩, h3⟩, h4⟩ := h
      obtain ⟨e1, e2⟩ := stB_ok G.sc G.N h3
      have := opB_ok h1
      subst this
      exact snd_aug (by cases op <;> first | exact .inl rfl | exact .inr rfl | cases h2) (by rw [G.N]; exact G.nd) e1 e2 (.inl (hfn _)) (sndE e G h4)
    · cases h
  | .ife c a b, st, h => by
    simp only [mS] at h
    split at h
    · simp only [Bool.and_eq_true] at h
      exact snd_ife (sndT c G h.1.1) (sndSs G hk hfn hst hfr a h.1.2) (sndSs G hk hfn hst hfr b h.2)
    · cases h
  | .whl n c kl b, st, h => by
    simp only [mS] at h
    split at h
    · simp only [Bool.and_eq_true] at h
      exact snd_whl G (sndT c G h.1) (sndSs G hk hfn hst hfr b h.2)
    · cases h
  | .fr tg it kl b, st, h => by
    simp only [mS] at h
    split at h
    · simp only [Bool.and_eq_true] at h
      obtain ⟨⟨⟨h1, h2⟩, h3⟩, h4⟩ := h
      exact snd_for G (noSet_ok h3) (pg_of (orig := sc) G.calm G.N G.nd G.sc (fun x _ => hfn x) h1) (sndI it G h2) (sndSs G hk hfn hst hfr b h4)
    · cases h
  | .ret z e, st, h => by
    simp only [mS] at h
    split at h
    · exact snd_ret (sndE e G h)
    · cases h
  | .retN, st, h => by
    simp only [mS] at h
    split at h
    · exact snd_retN
    · cases h
  | .rse c fs es, st, h => by
    simp only [mS] at h
    split at h
    · next x px l p2 pos =>
      simp only [Bool.and_eq_true, decide_eq_true_eq] at h
      obtain ⟨⟨⟨rfl, h2⟩, h3⟩, h4⟩ := h
      split at h4
      · exact snd_rse0 G (List.contains_iff_mem.mp h4) (glB_ok G.sc h2) (okN_ok h3).1
      · next f r es a l =>
        simp only [Bool.and_eq_true, decide_eq_true_eq] at h4
        obtain ⟨⟨⟨q1, q2⟩, q3⟩, q4⟩ := h4
        have hns := (mEs_star q2).1
        simp only [List.all_cons, Bool.and_eq_true] at hns
        exact snd_rseF G q1 (glB_ok G.sc h2) (okN_ok h3).1 hns.1 (star_any hns.2) (sndEs _ G q2) q3 q4
      · cases h4
    · cases h
  | .tr ok b hs, st, h => by
    simp only [mS] at h
    split at h
    · next x hds pos =>
      simp only [Bool.and_eq_true, Bool.not_eq_true'] at h
      obtain ⟨⟨⟨⟨h1, h2⟩, h3⟩, h4⟩, h5⟩ := h
      cases hds with
      | nil => cases h4
      | cons h0 hds => exact snd_tr G hst hfr (fun c hc => List.contains_iff_mem.mp (List.all_eq_true.mp h1 c hc)) (fun pn xe Wy G' => sndSs G' hk hfn hst hfr b h2) h3 h5
    · cases h
  | .exp e, st, h => by
    simp only [mS] at h
    split at h
    · simp only [Bool.and_eq_true] at h
      exact snd_exp h.1 (sndE e G h.2)
    · cases h
  | .pas, st, h => by
    simp only [mS] at h
    split at h
    · exact snd_pas
    · cases h
  | .brk, st, h => by
    simp only [mS] at h
    split at h
    · exact snd_brk
    · cases h
  | .kill _, st, h => by simp [mS] at h
  | .catL i es, st, h => by
    simp only [mS] at h
    split at h
    · simp only [Bool.and_eq_true, decide_eq_true_eq] at h
      obtain ⟨⟨rfl, h2⟩, h3⟩ := h
      obtain ⟨e1, e2, e3, e4, e5⟩ := stNm_ok G h2
      exact snd_catL (by rw [G.N]; exact G.nd) e1 e3 e4 e5 e2 (hfn _) (sndRs es G h3)
    · cases h
  | .retL i es, st, h => by
    simp only [mS] at h
    split at h
    · simp only [Bool.and_eq_true] at h
      obtain ⟨e1, e2, e3, e4⟩ := slotB_ok G h.1
      exact snd_retL e1 e2 e3 e4 (sndRs es G h.2)
    · cases h
  | .appL i e, st, h => by
    simp only [mS] at h
    split at h
    · simp only [Bool.and_eq_true, decide_eq_true_eq] at h
      obtain ⟨⟨⟨⟨rfl, h2⟩, h3⟩, h4⟩, h5⟩ := h
      obtain ⟨e1, e2, e3, e4⟩ := slotB_ok G h2
      exact snd_appL h3 e1 e2 e3 e4 h4 (sndE e G h5)
    · cases h
  | .rev i, st, h => by
    simp only [mS] at h
    split at h
    · simp only [Bool.and_eq_true, decide_eq_true_eq] at h
      obtain ⟨⟨rfl, h2⟩, h3⟩ := h
      obtain ⟨e1, e2, e3, e4⟩ := slotB_ok G h2
      exact snd_revS e1 e2 e3 e4 h3
    · cases h
  | .chgL j i f, st, h => by
    simp only [mS] at h
    split at h
    · simp only [Bool.and_eq_true] at h
      obtain ⟨⟨⟨⟨h1, h2⟩, h3⟩, h4⟩, h5⟩ := h
      obtain ⟨e1, e2, e3, e4⟩ := slotB_ok G h1
      exact snd_chgL G e1 e2 e3 e4 (pg_of (orig := sc) G.calm G.N G.nd G.sc (fun x _ => hfn x) h2) h3 (sndE _ G h4) (sndE _ G h5)
    · cases h
theorem sndSs {X : Cx} {Wx : WX} (G : CxG W M cl gl k X sc Wx) (hk : sc.kind = .function) (hfn : ∀ x, X.fn x = true) (hst : X.stack = X.env :: X.outer) (hfr : X.env.frame = some X.env.locals) : ∀ (iss : Ss) {sts : List Stmt}, mSs W.own M sc iss sts = true → SndSs W cl gl X Wx sts iss
  | .nil, sts, h => by
    simp only [mSs] at h
    cases sts with
    | nil => exact snd_snil
    | cons _ _ => cases h
  | .cons s ss, sts, h => by
    by_cases hkl : ∃ ks, s = .kill ks
    · obtain ⟨ks, rfl⟩ := hkl
      simp only [mSs] at h
      exact snd_kill (sndSs G hk hfn hst hfr ss h)
    · cases sts with
      | nil => cases s <;> first | exact absurd ⟨_, rfl⟩ hkl | (simp only [mSs] at h; cases h)
      | cons x r =>
        have h' : (mS W.own M sc s x && mSs W.own M sc ss r) = true := by
          cases s <;> first | exact absurd ⟨_, rfl⟩ hkl | (simp only [mSs] at h; exact h)
        simp only [Bool.and_eq_true] at h'
        exact snd_scons (sndS G hk hfn hst hfr s h'.1) (sndSs G hk hfn hst hfr ss h'.2)
  | .dsel i1 k1 e1 i2 k2 e2 iy, sts, h => by
    simp only [mSs] at h
    split at h
    · simp only [Bool.and_eq_true, decide_eq_true_eq] at h
      obtain ⟨⟨⟨⟨⟨⟨⟨⟨⟨⟨⟨⟨⟨⟨⟨⟨⟨rfl, rfl⟩, rfl⟩, rfl⟩, rfl⟩, h1⟩, h2⟩, h3⟩, h4⟩, h5⟩, h6⟩, h7⟩, h8⟩, h9⟩, h10⟩, h11⟩, h12⟩, h13⟩ := h
      exact snd_dsel G hfn h1 h2 h3 h4 h5 h6 h7 h8 h9 h10 h11 h12 h13
    · cases h
end
end
end Ev

/-! EvO: defs. A def of the text keeps the promise that its small syntax makes. -/
namespace Ev
open PySem PySem.Spec PyProof.Rows L2

/-! ### entry and end of a def -/
def pvOf (cs : List Cell) (vs : List V) (i : Nat) : Option V := match cs[i]? with
  | some (.par _) => vs[i]?
  | _ => none
section
variable {W : Wd} {ow : Ow} {H : Hp}
theorem argsRep_len : ∀ {i : Nat} {cs : List Cell} {vs : List V}, ArgsRep W ow H i cs vs → cs.length = vs.length
  | _, [], [], _ => rfl
  | _, [], _ :: _, h => h.elim
  | _, _ :: _, [], h => h.elim
  | _, _ :: _, _ :: _, h => by simp [argsRep_len h.2]
theorem argsRep_at : ∀ {i : Nat} {cs : List Cell} {vs : List V}, ArgsRep W ow H i cs vs → ∀ {j : Nat} {c : Cell}, cs[j]? = some c → ∃ v, vs[j]? = some v ∧ CellRep W ow H (i + j) c v
  | _, [], [], _, j, c, h => by simp at h
  | _, [], _ :: _, h, _, _, _ => h.elim
  | _, _ :: _, [], h, _, _, _ => h.elim
  | i, c0 :: cs, v0 :: vs, h, 0, c, e => by simp at e; subst e; exact ⟨v0, rfl, h.1⟩
  | i, c0 :: cs, v0 :: vs, h, j + 1, c, e => by
    obtain ⟨v, h1, h2⟩ := argsRep_at h.2 (j := j) (c := c) (by simpa using e)
    exact ⟨v, by simpa using h1, by rw [show i + (j + 1) = i + 1 + j by omega]; exact h2⟩
theorem startF_get {f : Fn} {cs : List Cell} {i : Nat} {c : Cell} (h : getC (startF f cs) i = some c) : cs[i]? = some c := by
  unfold getC startF at h
  by_cases hi : i < cs.length
  · rw [List.getElem?_append_left (by simpa using hi), List.getElem?_map] at h
    cases e : cs[i]? with
    | none => rw [e] at h; cases h
    | some c' => rw [e] at h; exact h
  · rw [List.getElem?_append_right (by simpa using hi), List.getElem?_replicate] at h
    split at h
    · next e => split at e <;> cases e <;> cases h
    · cases h
theorem startF_get' {f : Fn} {cs : List Cell} {i : Nat} {c : Cell} (h : cs[i]? = some c) : getC (startF f cs) i = some c := by
  unfold getC startF
  have hi : i < cs.length := by
    rcases Nat.lt_or_ge i cs.length with q | q
    · exact q
    · rw [List.getElem?_eq_none q] at h; cases h
  rw [List.getElem?_append_left (by simpa using hi), List.getElem?_map, h]
  rfl
theorem start_get {N : List Str} {vs : List V} {i : Nat} {v : V} (h : vs[i]? = some v) : (L2.start N vs)[i]? = some (some v) := by
  unfold L2.start
  have hi : i < vs.length := by
    rcases Nat.lt_or_ge i vs.length with q | q
    · exact q
    · rw [List.getElem?_eq_none q] at h; cases h
  rw [List.getElem?_append_left (by simpa using hi), List.getElem?_map, h]
  rfl
theorem rel_start {f : Fn} {cs : List Cell} {vs : List V} (h : ArgsRep W ow H 0 cs vs) : Rel W (pvOf cs vs) ow H (startF f cs) (L2.start f.N vs) := by
  have hl := argsRep_len h
  refine ⟨by simp [startF, L2.start, hl], fun i c hc => ?_, fun i v hv => ?_, fun i o hc => ?_⟩
  · obtain ⟨v, h1, h2⟩ := argsRep_at h (startF_get hc)
    exact ⟨v, start_get h1, by simpa using h2⟩
  · unfold pvOf at hv
    split at hv
    · next o e => exact ⟨o, startF_get' e, start_get hv⟩
    · cases hv
  · have e := startF_get hc
    obtain ⟨v, h1, _⟩ := argsRep_at h e
    exact ⟨v, by unfold pvOf; rw [e]; exact h1⟩
theorem ent_start {cs : List Cell} {vs : List V} (h : ArgsRep W ow H 0 cs vs) (e : EntryOk ow H cs) : Ent (pvOf cs vs) H ow H := fun p hp => by
  refine ⟨hp, ?_⟩
  rcases e p hp with q | q | ⟨i, q1, q2⟩
  · exact .inl q
  · exact .inr (.inl q)
  · refine .inr (.inr (.inr ⟨i, ?_⟩))
    cases hc : cs[i]? with
    | none => rw [hc] at q1; cases q1
    | some c =>
      rw [hc] at q1
      cases c with
      | par o =>
        obtain ⟨v, h1, _⟩ := argsRep_at h hc
        exact ⟨v, by unfold pvOf; rw [hc]; exact h1, q2⟩
      | _ => cases q1
theorem outs_end : ∀ {cs : List Cell} {vs : List V} {S : Fr} {os : List Ob} {i : Nat}, cs.length = vs.length → (∀ j v, pvOf cs vs j = some v → ∃ o, getC S j = some (.par o) ∧ ObRep W ow H (fun p => ow p = .sl (i + j)) o v) → outsOf cs S = some os → OutsRep W ow H i cs vs os
  | [], [], S, os, i, _, _, h => by simp [outsOf] at h; subst h; trivial
  | [], _ :: _, _, _, _, hl, _, _ => by simp at hl
  | _ :: _, [], _, _, _, hl, _, _ => by simp at hl
  | c :: cs, v :: vs, S, os, i, hl, hp, h => by
    have tl : ∀ (c0 : Option Cell) (S' : Fr), S = c0 :: S' → ∀ j u, pvOf cs vs j = some u → ∃ o, getC S' j = some (.par o) ∧ ObRep W ow H (fun p => ow p = .sl (i + 1 + j)) o u := fun c0 S' e j u hu => by
      obtain ⟨o, h1, h2⟩ := hp (j + 1) u (by simpa [pvOf] using hu)
      refine ⟨o, ?_, by rw [show i + 1 + j = i + (j + 1) by omega]; exact h2⟩
      rw [e] at h1
      simpa [getC] using h1
    cases c with
    | par o0 =>
      cases S with
      | nil => simp [outsOf] at h
      | cons c0 S =>
        cases c0 with
        | none => simp [outsOf] at h
        | some c0 =>
          cases c0 with
          | par o =>
            simp only [outsOf, Option.map_eq_some_iff] at h
            obtain ⟨os', h1, rfl⟩ := h
            refine ⟨?_, outs_end (by simpa using hl) (tl _ S rfl) h1⟩
            obtain ⟨o', h2, h3⟩ := hp 0 v (by simp [pvOf])
            simp [getC] at h2
            subst h2
            simpa using h3
          | _ => simp [outsOf] at h
    | val d =>
      cases S with
      | nil => simp [outsOf] at h
      | cons c0 S =>
        simp only [outsOf] at h
        have q : OutsRep W ow H (i + 1) cs vs os := outs_end (by simpa using hl) (tl _ S rfl) h
        cases os <;> exact q
    | own o => simp [outsOf] at h
    | exc _ _ => simp [outsOf] at h
theorem rel_outs {cs : List Cell} {vs : List V} {S : Fr} {σ : L2.St} {os : List Ob} (hl : cs.length = vs.length) (r : Rel W (pvOf cs vs) ow H S σ) (h : outsOf cs S = some os) : OutsRep W ow H 0 cs vs os := by
  refine outs_end hl (fun j v hv => ?_) h
  obtain ⟨o, h1, h2⟩ := r.par j v hv
  obtain ⟨u, h3, h4⟩ := r.cell j _ h1
  rw [h2] at h3
  cases h3
  exact ⟨o, h1, by rw [Nat.zero_add]; exact h4⟩
end

/-! ### one def -/
section
variable {W : Wd} {M : MC} {cl : Calls} {gl : Str → Option D} {k : Nat} {X : Cx} {sc : Scope}
theorem body_ok {f : Fn} {sts : List Stmt} {E : XK} (G : CxG W M cl gl k X sc (fun cls d _ H => E cls d H)) (hk : sc.kind = .function) (hfn : ∀ x, X.fn x = true) (hst : X.stack = X.env :: X.outer) (hfr : X.env.frame = some X.env.locals) (hm : mSs W.own M sc f.body sts = true) {ow : Ow} {H : Hp} {cs : List Cell} {vs : List V} {Q : VK}
    (ha : ArgsRep W ow H 0 cs vs) (hall : cs.all isArg = true) (he : EntryOk ow H cs) (hp : PostF W ow H cs vs (runFn cl gl f cs) Q E) : RSs X sts { nx := fun _ H' => Q .non H', rt := Q } (L2.start f.N vs) H := by
  have hl := argsRep_len ha
  unfold runFn at hp
  split at hp
  · refine sndSs G hk hfn hst hfr f.body hm (pvOf cs vs) H ow H (startF f cs) (L2.start f.N vs) _ (ent_start ha he) (rel_start ha) ?_
    cases e : exSs cl gl f.body (startF f cs) with
    | nx S =>
      rw [e] at hp
      simp only [endF] at hp
      split at hp
      · next os ho => exact fun σ' ow' H' st r => hp .non ow' H' st .non (rel_outs hl r ho)
      · exact False.elim hp
    | ret rc S =>
      rw [e] at hp
      simp only [endF] at hp
      split at hp
      · next os ho => exact fun v σ' ow' H' st r q => hp v ow' H' st q (rel_outs hl r ho)
      · exact False.elim hp
    | exc c fs S =>
      rw [e] at hp
      simp only [endF] at hp
      split at hp
      · next os ho => exact fun cls d σ' ow' H' st r q => hp cls d ow' H' st q (rel_outs hl r ho)
      · exact False.elim hp
    | brk S => rw [e] at hp; exact False.elim hp
    | cnt S => rw [e] at hp; exact False.elim hp
    | bad => rw [e] at hp; exact False.elim hp
  · exact False.elim hp
end
/-- the text's side of a def -/
structure FnB (own : List Str) (M : MC) (f : Fn) (d : He.DefD) : Prop where
  m : mSs own { M with N := f.N } d.scope f.body d.body = true
  s : FnScope f.N f.ps d.scope
  d0 : d.dfl = []
  k0 : kwdB1 (M.kwd.lookup f.name) d.kwd = true
  b : bindB (M.kwd.lookup f.name) d.params f.ps = true
def fnBB (own : List Str) (M : MC) (f : Fn) (d : He.DefD) : Bool := mSs own { M with N := f.N } d.scope f.body d.body && (d.scope.kind == .function) && !d.scope.isCoroutine && !d.scope.isGenerator && decide f.N.Nodup && decide (f.N.take f.ps.length = f.ps) &&
  (f.ps.all fun x => d.scope.names.lookup x == some .local || d.scope.names.lookup x == some .cell) && (d.scope.names.all fun y => y.2 != .free) && d.dfl.isEmpty && kwdB1 (M.kwd.lookup f.name) d.kwd
theorem fnB_of {own : List Str} {M : MC} {f : Fn} {d : He.DefD} (h : fnBB own M f d = true) (b : bindB (M.kwd.lookup f.name) d.params f.ps = true) : FnB own M f d := by
  unfold fnBB at h
  simp only [Bool.and_eq_true, decide_eq_true_eq, Bool.not_eq_true', List.all_eq_true, Bool.or_eq_true, beq_iff_eq, bne_iff_ne, List.isEmpty_iff] at h
  obtain ⟨⟨⟨⟨⟨⟨⟨⟨⟨h1, h2⟩, h3⟩, h4⟩, h5⟩, h6⟩, h7⟩, h8⟩, h9⟩, h10⟩ := h
  exact ⟨h1, ⟨h2, h3, h4, h5, h6, h7, h8⟩, h9, h10, b⟩
theorem FnB.plain {own : List Str} {M : MC} {f : Fn} {d : He.DefD} (B : FnB own M f d) (e : M.kwd.lookup f.name = none) : d.kwd = [] ∧ simpPs d.params f.ps = true := by
  have h1 := B.k0
  have h2 := B.b
  rw [e] at h1 h2
  exact ⟨by simpa [kwdB1] using h1, h2⟩
theorem bindF_of {own : List Str} {M : MC} {f : Fn} {d : He.DefD} {K : PySem.W.Frag} {fa : Addr} {fd : FuncData} (B : FnB own M f d) (D : FunD K d.name d.qual d.params d.body d.scope (d.dvs K) (d.kws K) fa fd) : BindF K fd f.ps (M.kwd.lookup f.name) := by
  have e1 : d.dvs K = [] := by unfold He.DefD.dvs; rw [B.d0]; rfl
  rw [e1] at D
  cases e : M.kwd.lookup f.name with
  | none =>
    obtain ⟨h1, h2⟩ := B.plain e
    have e2 : d.kws K = [] := by unfold He.DefD.kws; rw [h1]; rfl
    rw [e2] at D
    exact D.bindsN (bind_simp h2)
  | some y =>
    have h1 := B.k0
    have h2 : kwPs d.params f.ps y = true := by have := B.b; rw [e] at this; exact this
    rw [e] at h1
    have h3 : d.kwd = [(y, .non)] := by
      revert h1
      generalize d.kwd = l
      intro h1
      unfold kwdB1 at h1
      split at h1
      · cases ‹some y = none›
      · next z w hz => cases hz; rw [of_decide_eq_true h1]
      · cases h1
    have e2 : d.kws K = [(y, V.non)] := by unfold He.DefD.kws; rw [h3]; rfl
    rw [e2] at D
    obtain ⟨a, b, hps, _⟩ := kwPs_ok h2
    have hl : f.ps.length = 3 := by rw [hps]; rfl
    refine ⟨?_, ?_⟩
    · exact D.binds0 2 (by simp) (by rw [hl]; rfl) fun D' doc pm an cdv ct us ks hu hk => bind_kw0 h2 D' doc pm an cdv ct us ks hu hk
    · obtain ⟨mv, q⟩ := D.kbinds0 (ps := f.ps) 2 [y] [] (fun us _ ws => us ++ ws) (by simp) (by simp) (fun r1 _ r3 => r1.append r3) (fun D' doc pm an cdv ct us mv ws l1 l2 l3 => bind_kw1 h2 (.ref D') doc pm an cdv ct us ws l1 l3)
      rw [hl]
      exact q
/-- a def of the text with its promise -/
def FnAtG (W : Wd) (mg : Str → Option Value) (base : Heap) (cl : Calls) (k : Nat) (fa : Addr) (f : Str) : Prop := ∃ fd ps, PySem.W.keepIn W.K (.ref fa) = true ∧ Binds W.K fd ps [] ∧ FnOk W.P W.w W.K mg base (L2.CX W.P W.w) k fa fd ps (spOf W cl f)
/-- .. however its parameters are bound -/
def FnAtH (W : Wd) (M : MC) (mg : Str → Option Value) (base : Heap) (cl : Calls) (k : Nat) (fa : Addr) (f : Str) : Prop := ∃ fd ps, PySem.W.keepIn W.K (.ref fa) = true ∧ BindF W.K fd ps (M.kwd.lookup f) ∧ FnOk W.P W.w W.K mg base (L2.CX W.P W.w) k fa fd ps (spOf W cl f)
theorem FnAtH.plain {W : Wd} {M : MC} {mg : Str → Option Value} {base : Heap} {cl : Calls} {k : Nat} {fa : Addr} {f : Str} (h : FnAtH W M mg base cl k fa f) (e : M.kwd.lookup f = none) : FnAtG W mg base cl k fa f := by
  obtain ⟨fd, ps, h1, h2, h3⟩ := h
  rw [e] at h2
  exact ⟨fd, ps, h1, h2, h3⟩
/-- what is known of the written part, the calls aside -/
structure PF (W : Wd) (M : MC) (gl : Str → Option D) (mg : Str → Option Value) (adr : Str → Addr) (Γ : List Fn) (pr : Prims) : Prop where
  free : ∀ x ∈ freeNames, mg x = none
  fn : ∀ f ∈ M.fns, mg f = some (.ref (adr f)) ∧ ((pr f).isSome = true ∨ (findFn Γ f).isSome = true)
  con : ∀ x ∈ M.cons, ∃ d v u, gl x = some d ∧ mg x = some u ∧ RelV v u ∧ ∀ ow H, Rep W ow H d v
  cls : ∀ c ∈ W.own, mg c = some (.ref (W.cad c)) ∧ C8.InsC W.K (W.cad c)
  kit : ∀ c ∈ biCls, ∀ d, isDic d = false → (∀ k fs, d = .ins k fs → k ∈ W.own) → PySem.W.kitOne W.K (tyV W d) (.type c.2) = some (isiD c.1 d)
  kitO : ∀ c ∈ W.own, ∀ d, isDic d = false → (∀ k fs, d = .ins k fs → k ∈ W.own) → PySem.W.kitOne W.K (tyV W d) (.ref (W.cad c)) = some (isiD c d)
  fld : ∀ q ∈ M.flds, q.1 ∈ W.own ∧ NoAttr W.K (W.cad q.1) q.2
  prop : ∀ q ∈ M.props, q.1 ∈ W.own ∧ (∃ p, PropOf W.K (W.cad q.1) q.2 p (adr (q.1 ++ "." ++ q.2))) ∧ ((pr (q.1 ++ "." ++ q.2)).isSome = true ∨ (findFn Γ (q.1 ++ "." ++ q.2)).isSome = true)
  made : ∀ c ∈ M.made, c ∈ W.own ∧ Mk W.K (W.cad c) (adr (c ++ ".__init__")) ∧ ((pr (c ++ ".__init__")).isSome = true ∨ (findFn Γ (c ++ ".__init__")).isSome = true)
  eq : ∀ c ∈ W.own, (pr (c ++ ".__eq__") = none ∧ findFn Γ (c ++ ".__eq__") = none) ∨ (((pr (c ++ ".__eq__")).isSome = true ∨ (findFn Γ (c ++ ".__eq__")).isSome = true) ∧ PySem.W.findIn W.K (.ref (W.cad c)) "__eq__" = some (some (.ref (adr (c ++ ".__eq__")))) ∧ PySem.W.isFn W.K (.ref (adr (c ++ ".__eq__"))) = true ∧
    ∀ d, isDic d = false → (∀ k fs, d = .ins k fs → k ∈ W.own) → PySem.W.notFirst W.K (W.cad c) (tyV W d) = true)
  dic : DicAll W
  exc : ∀ c ∈ M.excs, mg c = some (.ref (W.cad c)) ∧ ExcOk W.K (W.cad c)
  exi : ∀ q ∈ M.exi, mg q.1 = some (.ref (W.cad q.1)) ∧ ∀ base, IniOk W.P W.w W.K mg base (W.cad q.1) q.2
  exm : ∀ c ∈ M.allx, ∀ c' ∈ M.allx, PySem.W.exmOne W.K (.ref (W.cad c)) (.ref (W.cad c')) = some (decide (c = c'))
  exb : ∀ h, M.base = some h → mg h = some (.ref (W.cad h)) ∧ ∀ c ∈ M.allx, PySem.W.exmOne W.K (.ref (W.cad c)) (.ref (W.cad h)) = some true
  exC : ∀ c ∈ M.allx, ExcC W.K (W.cad c)
  met : ∀ q ∈ M.mets, q.1 ∈ W.own ∧ Meth W.K (W.cad q.1) q.2 (adr (q.1 ++ "." ++ q.2)) ∧ ((pr (q.1 ++ "." ++ q.2)).isSome = true ∨ (findFn Γ (q.1 ++ "." ++ q.2)).isSome = true)
  len : ∀ c ∈ M.lens, c ∈ W.own ∧ PySem.W.findIn W.K (.ref (W.cad c)) "__len__" = some (some (.ref (adr (c ++ ".__len__")))) ∧ PySem.W.isFn W.K (.ref (adr (c ++ ".__len__"))) = true ∧ ((pr (c ++ ".__len__")).isSome = true ∨ (findFn Γ (c ++ ".__len__")).isSome = true)
  kfn : ∀ f ∈ M.fns, M.kwd.lookup f = none
  kprop : ∀ q ∈ M.props, M.kwd.lookup (q.1 ++ "." ++ q.2) = none
  kmade : ∀ c ∈ M.made, M.kwd.lookup (c ++ ".__init__") = none
  keq : ∀ c ∈ W.own, M.kwd.lookup (c ++ ".__eq__") = none
  klen : ∀ c ∈ M.lens, M.kwd.lookup (c ++ ".__len__") = none
  kpr : ∀ f, (pr f).isSome = true → M.kwd.lookup f = none
section
variable {W : Wd} {M : MC} {gl : Str → Option D} {mg : Str → Option Value} {base : Heap} {adr : Str → Addr} {Γ : List Fn} {pr : Prims}
theorem cxG_of (F : PF W M gl mg adr Γ pr) {n : Nat} (hat : ∀ f, ((pr f).isSome = true ∨ (findFn Γ f).isSome = true) → FnAtH W M mg base (callN Γ pr gl n) (3 * n) (adr f) f) {N : List Str} (nd : N.Nodup) {qual : Str} {scope : Scope} {f : Addr} {cd : Value} {A : Around} {outer : List Env} {s : Shared} {H : Hp} {E : XK}
    (hr : Room (3 * n + 2) (A.deeper (envOfC qual scope s.heap.objs.size f cd))) : CxG W { M with N := N } (callN Γ pr gl n) gl (3 * n) (cxOf (L2.CX W.P W.w) W.P W.w W.K mg base N qual scope f cd A outer s H E) scope (fun cls d _ H => E cls d H) where
  prog := rfl
  w := rfl
  K := rfl
  N := rfl
  nd := nd
  sc := rfl
  calm := rfl
  room := hr
  tk := takes_of (E := E) rfl rfl rfl rfl
  pw := passes_of rfl
  free := F.free
  fn := fun f hf => ⟨adr f, (F.fn f hf).1, (hat f (F.fn f hf).2).plain (F.kfn f hf)⟩
  con := F.con
  cls := F.cls
  kit := F.kit
  kitO := F.kitO
  fld := F.fld
  prop := fun q hq => let ⟨h1, ⟨p, h2⟩, h3⟩ := F.prop q hq; ⟨h1, p, _, h2, (hat _ h3).plain (F.kprop q hq)⟩
  made := fun c hc => let ⟨h1, h2, h3⟩ := F.made c hc; ⟨h1, _, h2, (hat _ h3).plain (F.kmade c hc)⟩
  eq := fun c hc => by
    rcases F.eq c hc with ⟨h1, h2⟩ | ⟨h1, h2, h3, h4⟩
    · refine .inl fun as => ?_
      cases n with
      | zero => rfl
      | succ n => simp only [callN, h1, h2]
    · exact .inr ⟨_, h2, h3, (hat _ h1).plain (F.keq c hc), h4⟩
  dic := F.dic
  exc := F.exc
  exi := fun q hq => ⟨(F.exi q hq).1, (F.exi q hq).2 _⟩
  exm := F.exm
  exb := F.exb
  exC := F.exC
  met := fun q hq => let ⟨h1, h2, h3⟩ := F.met q hq; ⟨h1, _, h2, hat _ h3⟩
  len := fun c hc => let ⟨h1, h2, h3, h4⟩ := F.len c hc; ⟨h1, _, h2, h3, (hat _ h4).plain (F.klen c hc)⟩
theorem fn_stepK (F : PF W M gl mg adr Γ pr) {n : Nat} (hat : ∀ f, ((pr f).isSome = true ∨ (findFn Γ f).isSome = true) → FnAtH W M mg base (callN Γ pr gl n) (3 * n) (adr f) f) {f : Fn} {d : He.DefD} {fd : FuncData} (B : FnB W.own M f d) (hpr : pr f.name = none) (hf : findFn Γ f.name = some f)
    (D : FunD W.K d.name d.qual d.params d.body d.scope (d.dvs W.K) (d.kws W.K) (adr f.name) fd) : FnOk W.P W.w W.K mg base (L2.CX W.P W.w) (3 * (n + 1)) (adr f.name) fd f.ps (spOf W (callN Γ pr gl (n + 1)) f.name) := by
  have ecl : ∀ as, callN Γ pr gl (n + 1) f.name as = runFn (callN Γ pr gl n) gl f as := fun as => by simp only [callN, hpr, hf]
  refine D.ok (k := 3 * n + 2) (N := f.N) B.s (fun vs H Q E h => ?_) (fun cdv A outer s H vs Q E hr h => ?_)
  · obtain ⟨ow, cs, h1, _, _, h4⟩ := h
    rw [ecl] at h4
    unfold runFn at h4
    split at h4
    · next hl => rw [← argsRep_len h1]; exact hl
    · exact False.elim h4
  · obtain ⟨ow, cs, h1, h2, h3, h4⟩ := h
    rw [ecl] at h4
    exact ⟨_, pss_RS, body_ok (cxG_of F hat B.s.nd hr) B.s.kind (fun _ => rfl) rfl rfl B.m h1 h2 h3 h4⟩
theorem fn_step (F : PF W M gl mg adr Γ pr) {n : Nat} (hat : ∀ f, ((pr f).isSome = true ∨ (findFn Γ f).isSome = true) → FnAtH W M mg base (callN Γ pr gl n) (3 * n) (adr f) f) {f : Fn} {d : He.DefD} {fd : FuncData} (B : FnB W.own M f d) (hpr : pr f.name = none) (hf : findFn Γ f.name = some f)
    (D : FunD W.K d.name d.qual d.params d.body d.scope (d.dvs W.K) (d.kws W.K) (adr f.name) fd) : FnAtH W M mg base (callN Γ pr gl (n + 1)) (3 * (n + 1)) (adr f.name) f.name := by
  exact ⟨fd, f.ps, D.kp, bindF_of B D, fn_stepK F hat B hpr hf D⟩
/-- every def keeps its promise, at every depth -/
theorem all_ok (F : PF W M gl mg adr Γ pr) (hpr : ∀ n f g, pr f = some g → FnAtG W mg base (fun _ => g) (3 * (n + 1)) (adr f) f)
    (hΓ : ∀ f ∈ Γ, ∃ d fd, FnB W.own M f d ∧ FunD W.K d.name d.qual d.params d.body d.scope (d.dvs W.K) (d.kws W.K) (adr f.name) fd)
    (h0 : ∀ f, ((pr f).isSome = true ∨ (findFn Γ f).isSome = true) → ∃ fd ps, PySem.W.keepIn W.K (.ref (adr f)) = true ∧ BindF W.K fd ps (M.kwd.lookup f)) :
    ∀ (n : Nat) (f : Str), ((pr f).isSome = true ∨ (findFn Γ f).isSome = true) → FnAtH W M mg base (callN Γ pr gl n) (3 * n) (adr f) f
  | 0, f, hf => by
    obtain ⟨fd, ps, h1, h2⟩ := h0 f hf
    refine ⟨fd, ps, h1, h2, fun vs H Q E h => ?_, fun A outer s H args us vs Q E _ _ _ _ h => ?_⟩
    · obtain ⟨_, _, _, _, _, h4⟩ := h; exact False.elim h4
    · obtain ⟨_, _, _, _, _, h4⟩ := h; exact False.elim h4
  | n + 1, f, hf => by
    cases hp : pr f with
    | some g =>
      obtain ⟨fd, ps, h1, h2, h3⟩ := hpr n f g hp
      refine ⟨fd, ps, h1, (by rw [F.kpr f (by rw [hp]; rfl)]; exact h2), h3.imp fun vs H Q E h => ?_⟩
      have e : ∀ as, callN Γ pr gl (n + 1) f as = g as := fun as => by simp only [callN, hp]
      obtain ⟨ow, cs, q1, q2, q3, q4⟩ := h
      rw [e] at q4
      exact ⟨ow, cs, q1, q2, q3, q4⟩
    | none =>
      rcases hf with hf | hf
      · rw [hp] at hf; cases hf
      · cases e : findFn Γ f with
        | none => rw [e] at hf; cases hf
        | some fn =>
          have hm : fn ∈ Γ := List.mem_of_find?_eq_some e
          have hn : fn.name = f := by
            have := List.find?_some e
            simpa using this
          subst hn
          obtain ⟨d, fd, B, D⟩ := hΓ fn hm
          exact fn_step F (all_ok F hpr hΓ h0 n) B hp e D
end
end Ev

/-! EvP: the law's own generator: _law_mix, _law_next. -/
namespace Ev
open PySem PySem.Spec PyProof.Rows L2

abbrev mixE (p1 p2 p3 p4 p5 p6 p7 p8 p9 p10 p11 p12 p13 p14 p15 p16 p17 p18 p19 p20 p21 p22 p23 p24 p25 p26 p27 p28 p29 p30 : Pos) (k1 k2 k3 k4 k5 : Nat) : List Stmt :=
  [.Assign [(.Name "_law_state" p1)] (.Name "_law_seed" p2) p3,
   .For (.Name "_law_cell" p4) (.Name "_law_script" p5) [.Assign [(.Name "_law_state" p6)] (.BinOp (.Call (.Name "int" p7) [(.BinOp (.BinOp (.BinOp (.Name "_law_state" p8) .Mult (.Constant (.int 48271) k1 p9) p10) .Add (.BinOp (.Call (.Name "int" p11) [(.Name "_law_cell" p12)] [] p13) .Mod (.Constant (.int 2147483629) k2 p14) p15) p16) .Add (.Constant (.int 1) k3 p17) p18)] [] p19) .Mod (.Constant (.int 2147483647) k4 p20) p21) p22] [] p23,
   .Return (some (.List [(.Name "_law_state" p24), (.Call (.Name "list" p25) [(.Name "_law_script" p26)] [] p27), (.Constant (.int 0) k5 p28)] p29)) p30]
abbrev nextE (p1 p2 p3 p4 p5 p6 p7 p8 p9 p10 p11 p12 p13 p14 p15 p16 p17 p18 p19 p20 p21 p22 p23 p24 p25 p26 p27 p28 p29 p30 p31 p32 p33 p34 p35 p36 p37 p38 p39 p40 p41 p42 p43 p44 p45 p46 p47 p48 p49 p50 p51 p52 p53 p54 p55 p56 p57 p58 p59 p60 p61 p62 p63 p64 p65 p66 p67 p68 p69 p70 p71 p72 p73 p74 p75 p76 p77 p78 p79 p80 p81 p82 p83 p84 p85 p86 p87 p88 p89 p90 p91 p92 p93 : Pos) (k1 k2 k3 k4 k5 k6 k7 k8 k9 k10 k11 k12 k13 k14 k15 k16 k17 k18 k19 k20 : Nat) : List Stmt :=
  [.Assign [(.Name "_law_cell" p1)] (.Subscript (.BinOp (.Subscript (.Name "_law_h" p2) (.Constant (.int 1) k1 p3) p4) .Add (.List [(.Constant (.int 0) k2 p5)] p6) p7) (.BinOp (.Call (.Name "int" p8) [(.Subscript (.Name "_law_h" p9) (.Constant (.int 2) k3 p10) p11)] [] p12) .Mod (.Call (.Name "max" p13) [(.Constant (.int 1) k4 p14), (.Call (.Name "len" p15) [(.Subscript (.Name "_law_h" p16) (.Constant (.int 1) k5 p17) p18)] [] p19)] [] p20) p21) p22) p23,
   .If (.Compare (.Name "_law_cell" p24) [.GtE] [(.BinOp (.Constant (.int 10) k6 p25) .Pow (.Constant (.int 18) k7 p26) p27)] p28) [.Assign [(.Name "_law_cells" p29)] (.Subscript (.Name "_law_h" p30) (.Constant (.int 1) k8 p31) p32) p33, .Assign [(.Subscript (.Name "_law_cells" p34) (.BinOp (.Call (.Name "int" p35) [(.Subscript (.Name "_law_h" p36) (.Constant (.int 2) k9 p37) p38)] [] p39) .Mod (.Call (.Name "len" p40) [(.Name "_law_cells" p41)] [] p42) p43) p44)] (.BinOp (.Name "_law_cell" p45) .FloorDiv (.Name "_law_bound" p46) p47) p48, .Return (some (.BinOp (.Call (.Name "int" p49) [(.Name "_law_cell" p50)] [] p51) .Mod (.Name "_law_bound" p52) p53)) p54] [] p55,
   .Assign [(.Subscript (.Name "_law_h" p56) (.Constant (.int 0) k10 p57) p58)] (.BinOp (.Call (.Name "int" p59) [(.BinOp (.BinOp (.BinOp (.Subscript (.Name "_law_h" p60) (.Constant (.int 0) k11 p61) p62) .Mult (.Constant (.int 48271) k12 p63) p64) .Add (.BinOp (.Name "_law_cell" p65) .Mult (.Constant (.int 69621) k13 p66) p67) p68) .Add (.Constant (.int 11) k14 p69) p70)] [] p71) .Mod (.Constant (.int 2147483647) k15 p72) p73) p74,
   .Assign [(.Subscript (.Name "_law_h" p75) (.Constant (.int 2) k16 p76) p77)] (.BinOp (.Subscript (.Name "_law_h" p78) (.Constant (.int 2) k17 p79) p80) .Add (.Constant (.int 1) k18 p81) p82) p83,
   .Return (some (.BinOp (.Call (.Name "int" p84) [(.BinOp (.Subscript (.Name "_law_h" p85) (.Constant (.int 0) k19 p86) p87) .FloorDiv (.Constant (.int 7) k20 p88) p89)] [] p90) .Mod (.Name "_law_bound" p91) p92)) p93]

/-! ### what they compute -/
def atC (cs : List Int) (k : Int) : Nat := (k % (if (cs.length : Int) > 1 then (cs.length : Int) else 1)).toNat
def cellC (cs : List Int) (k : Int) : Int := (cs ++ [0]).getD (atC cs k) 0
def bigC : Int := 1000000000000000000
/-- value, state, cells, place -/
def nextV (s : Int) (cs : List Int) (k b : Int) : Int × Int × List Int × Int :=
  if bigC ≤ cellC cs k then (cellC cs k % b, s, cs.set (atC cs k) (cellC cs k / b), k)
  else (((s * 48271 + cellC cs k * 69621 + 11) % 2147483647) / 7 % b, (s * 48271 + cellC cs k * 69621 + 11) % 2147483647, cs, k + 1)
def bndOk (b : Int) : Bool := decide (0 < b) && decide (b < 4611686018427387904)
def pNext : List Cell → FnRes
  | [.par (.rng s cs k), .val (.int b)] => if bndOk b && decide (cs.length ≤ 1000) then .ok (.val (.int (nextV s cs k b).1)) [.rng (nextV s cs k b).2.1 (nextV s cs k b).2.2.1 (nextV s cs k b).2.2.2] else .bad
  | _ => .bad
def mixV (s : Int) (ns : List Int) : Int := ns.foldl (fun s n => (s * 48271 + n % 2147483629 + 1) % 2147483647) s
def pMix : List Cell → FnRes
  | [.par (.scr ns), .val (.int s)] => .ok (.own (.rng (mixV s ns) ns 0)) [.scr ns]
  | _ => .bad

theorem pNext_inv {cs : List Cell} (h : pNext cs ≠ .bad) : ∃ s cl k b, cs = [.par (.rng s cl k), .val (.int b)] ∧ bndOk b = true ∧ cl.length ≤ 1000 := by
  revert h
  unfold pNext
  split
  · next s cl k b =>
    intro h
    split at h
    · next hz =>
      simp only [Bool.and_eq_true, decide_eq_true_eq] at hz
      exact ⟨s, cl, k, b, rfl, hz.1, hz.2⟩
    · exact absurd rfl h
  · exact fun h => absurd rfl h
theorem pNext_eq {s k b : Int} {cl : List Int} (h1 : bndOk b = true) (h2 : cl.length ≤ 1000) : pNext [.par (.rng s cl k), .val (.int b)] = .ok (.val (.int (nextV s cl k b).1)) [.rng (nextV s cl k b).2.1 (nextV s cl k b).2.2.1 (nextV s cl k b).2.2.2] := by
  simp only [pNext, h1, h2, decide_true, Bool.and_self, if_true]
theorem pMix_inv {cs : List Cell} (h : pMix cs ≠ .bad) : ∃ ns s, cs = [.par (.scr ns), .val (.int s)] := by
  revert h
  unfold pMix
  split
  · next ns s => exact fun _ => ⟨ns, s, rfl⟩
  · exact fun h => absurd rfl h
theorem pMix_eq {s : Int} {ns : List Int} : pMix [.par (.scr ns), .val (.int s)] = .ok (.own (.rng (mixV s ns) ns 0)) [.scr ns] := by simp only [pMix]
theorem postF_bad {W : Wd} {ow : Ow} {H : Hp} {cs : List Cell} {vs : List V} {r : FnRes} {Q : VK} {E : XK} (h : PostF W ow H cs vs r Q E) : r ≠ .bad := fun e => by rw [e] at h; exact h
theorem args2 {W : Wd} {ow : Ow} {H : Hp} {c d : Cell} {vs : List V} (h : ArgsRep W ow H 0 [c, d] vs) : ∃ v u, vs = [v, u] ∧ CellRep W ow H 0 c v ∧ CellRep W ow H 1 d u := by
  match vs, h with
  | [], h => exact h.elim
  | [_], h => exact h.2.elim
  | [v, u], h => exact ⟨v, u, rfl, h.1, h.2.1⟩
  | _ :: _ :: _ :: _, h => exact h.2.2.elim

section
variable {X : Cx} {σ : L2.St} {H : Hp} {Q : VK} {a b e : Expr} {p p1 pos : Pos}
theorem re_name {i : Nat} {x : Str} {v : V} (hN : X.N[i]? = some x) (hl : X.env.scope.names.lookup x = some .local) (hs : σ[i]? = some (some v)) (q : Q v H) (hd : (x == ("__debug__" : Str)) = false := by decide) (hcd : (x == ("__classdict__" : Str)) = false := by decide) : RE X (.Name x p) σ H Q :=
  RE.of (pe_var hN (.inl hl) hd hcd) ⟨v, hs, q⟩
theorem re_int {n : Int} {k : Nat} (q : Q (.int n) H) : RE X (.Constant (.int n) k p) σ H Q := RE.of pe_int q
theorem re_bin {op : Operator} {r : R2} (ho : OpR X (binaryOp op) r) (h : RE X a σ H fun x H1 => RE X b σ H1 fun y H2 => r x y H2 Q) : RE X (.BinOp a op b p) σ H Q := RE.of (pe_op ho pe_RE pe_RE) h
theorem re_ix (hb : plainS b = true) (h : RE X a σ H fun x H1 => RE X b σ H1 fun y H2 => rIx X.K x y H2 Q) : RE X (.Subscript a b p) σ H Q := RE.of (pe_ix ix_seq pe_RE pe_RE (plain_ix hb)) h
theorem re_ixc {n : Int} {k : Nat} (h : RE X a σ H fun x H1 => rIx X.K x (.int n) H1 Q) : RE X (.Subscript a (.Constant (.int n) k p1) p) σ H Q := re_ix rfl (RE.mono h fun _ _ z => re_int z)
theorem re_callI (hg : Gl X "int") (hm : X.mg "int" = none) (hs : noStar a = true) (h : RE X a σ H fun x H1 => ∃ i, x = .int i ∧ Q (.int i) H1) : RE X (.Call (.Name "int" p1) [a] [] p) σ H Q := by
  refine RE.of (pe_callTy (x := "int") call_int1 hg hm (by decide +kernel) (pa_cons pe_RE pa_nil (star_cons hs)) (he := star_cons hs) (hpl := rfl)) (RE.mono h ?_)
  rintro x H1 ⟨i, rfl, q⟩
  exact .inl ⟨i, rfl, q⟩
theorem re_callL (hg : Gl X "len") (hm : X.mg "len" = none) (hs : noStar a = true) (h : RE X a σ H fun x H1 => ∃ l xs, x = .ref l ∧ SqL X.K H1 l xs ∧ Q (.int xs.length) H1) : RE X (.Call (.Name "len" p1) [a] [] p) σ H Q := by
  refine RE.of (pe_callB (x := "len") call_len_seq hg hm (by decide +kernel) (pa_cons pe_RE pa_nil (star_cons hs)) (he := star_cons hs) (hpl := rfl)) (RE.mono h ?_)
  rintro x H1 ⟨l, xs, rfl, hl, q⟩
  exact ⟨l, xs, rfl, .inl hl, q⟩
theorem re_callM (hc : X.calm = true) (hg : Gl X "max") (hm : X.mg "max" = none) (hs : noStar a = true) (hs2 : noStar b = true) (h : RE X a σ H fun x H1 => RE X b σ H1 fun y H2 => ∃ i j, x = .int i ∧ y = .int j ∧ Q (.int (if j > i then j else i)) H2) : RE X (.Call (.Name "max" p1) [a, b] [] p) σ H Q := by
  refine RE.of (pe_callB (x := "max") (call_max2 hc) hg hm (by decide +kernel) (pa_cons pe_RE (pa_cons pe_RE pa_nil (star_cons hs2)) (star_cons hs)) (he := star_cons hs) (hpl := star_any (by simp [hs2]))) (RE.mono h ?_)
  intro x H1 q
  refine RE.mono q ?_
  rintro y H2 ⟨i, j, rfl, rfl, q⟩
  exact ⟨i, j, rfl, q⟩
theorem re_listC {n : Int} {k : Nat} (q : ∀ q, H q = none → Q (.ref q) (upd H q (.lst [.int n]))) : RE X (.List [.Constant (.int n) k p1] p) σ H Q :=
  RE.of (pe_lst (pa_cons pe_int pa_nil)) ⟨by show 1 ≤ sizeLine; decide, q⟩
end
theorem atC_ok (cs : List Int) (k : Int) : ((atC cs k : Nat) : Int) = k % (if (cs.length : Int) > 1 then (cs.length : Int) else 1) ∧ (cs ++ [(0 : Int)])[atC cs k]? = some (cellC cs k) ∧ atC cs k < cs.length + 1 := by
  have h0 : (0 : Int) < (if (cs.length : Int) > 1 then (cs.length : Int) else 1) := by split <;> omega
  have h1 := Int.emod_nonneg k (Int.ne_of_gt h0)
  have h2 := Int.emod_lt_of_pos k h0
  have e : ((atC cs k : Nat) : Int) = k % (if (cs.length : Int) > 1 then (cs.length : Int) else 1) := Int.toNat_of_nonneg h1
  have h3 : atC cs k < cs.length + 1 := by
    have h4 : ((atC cs k : Nat) : Int) < (cs.length : Int) + 1 := by
      rw [e]
      refine Int.lt_of_lt_of_le h2 ?_
      split <;> omega
    omega
  refine ⟨e, ?_, h3⟩
  unfold cellC
  rw [List.getD_eq_getElem?_getD, List.getElem?_eq_getElem (by simpa using h3)]
  rfl
theorem cell_big {cs : List Int} {k : Int} (h : bigC ≤ cellC cs k) : atC cs k < cs.length ∧ ((atC cs k : Nat) : Int) = k % (cs.length : Int) := by
  obtain ⟨e1, e2, e3⟩ := atC_ok cs k
  have h1 : atC cs k < cs.length := by
    rcases Nat.lt_or_ge (atC cs k) cs.length with q | q
    · exact q
    · have e : atC cs k = cs.length := by omega
      rw [e] at e2
      simp at e2
      rw [← e2] at h
      exact absurd h (by decide)
  refine ⟨h1, ?_⟩
  rw [e1]
  split
  · rfl
  · have e : cs.length = 1 := by omega
    rw [e]; rfl
section
variable {X : Cx} {H : Hp} {Q : VK} {a c : Addr} {s k b : Int} {cs : List Int} {p1 p2 p3 p4 p5 p6 p7 p8 p9 p10 p11 p12 p13 p14 p15 p16 p17 p18 p19 p20 p21 p22 p23 p24 p25 p26 p27 p28 p29 p30 p31 p32 p33 p34 p35 p36 p37 p38 p39 p40 p41 p42 p43 p44 p45 p46 p47 p48 p49 p50 p51 p52 p53 p54 p55 p56 p57 p58 p59 p60 p61 p62 p63 p64 p65 p66 p67 p68 p69 p70 p71 p72 p73 p74 p75 p76 p77 p78 p79 p80 p81 p82 p83 p84 p85 p86 p87 p88 p89 p90 p91 p92 p93 : Pos} {k1 k2 k3 k4 k5 k6 k7 k8 k9 k10 k11 k12 k13 k14 k15 k16 k17 k18 k19 k20 : Nat}
abbrev nextN : List Str := ["_law_h", "_law_bound", "_law_cell", "_law_cells"]
theorem next_body (hN : X.N = nextN) (hc : X.calm = true) (hl : ∀ x ∈ nextN, X.env.scope.names.lookup x = some .local) (hg : ∀ x ∈ (["int", "max", "len"] : List Str), Gl X x) (hm : ∀ x ∈ (["int", "max", "len"] : List Str), X.mg x = none)
    (hac : a ≠ c) (ha : H a = some (.lst [.int s, .ref c, .int k])) (hcc : H c = some (.lst (cs.map V.int))) (hb : 0 < b ∧ b < 4611686018427387904) (hz : cs.length ≤ 1000)
    (q : ∀ H', (∀ p, H p ≠ none → p ≠ a → p ≠ c → H' p = H p) → H' a = some (.lst [.int (nextV s cs k b).2.1, .ref c, .int (nextV s cs k b).2.2.2]) → H' c = some (.lst ((nextV s cs k b).2.2.1.map V.int)) → Q (.int (nextV s cs k b).1) H') {nx : L2.St → Hp → Prop} :
    RSs X (nextE p1 p2 p3 p4 p5 p6 p7 p8 p9 p10 p11 p12 p13 p14 p15 p16 p17 p18 p19 p20 p21 p22 p23 p24 p25 p26 p27 p28 p29 p30 p31 p32 p33 p34 p35 p36 p37 p38 p39 p40 p41 p42 p43 p44 p45 p46 p47 p48 p49 p50 p51 p52 p53 p54 p55 p56 p57 p58 p59 p60 p61 p62 p63 p64 p65 p66 p67 p68 p69 p70 p71 p72 p73 p74 p75 p76 p77 p78 p79 p80 p81 p82 p83 p84 p85 p86 p87 p88 p89 p90 p91 p92 p93 k1 k2 k3 k4 k5 k6 k7 k8 k9 k10 k11 k12 k13 k14 k15 k16 k17 k18 k19 k20) { nx := nx, rt := Q } (L2.start nextN [.ref a, .int b]) H := by
  have hnd : X.N.Nodup := by rw [hN]; decide
  have n0 : X.N[0]? = some ("_law_h" : Str) := by rw [hN]; rfl
  have n1 : X.N[1]? = some ("_law_bound" : Str) := by rw [hN]; rfl
  have n2 : X.N[2]? = some ("_law_cell" : Str) := by rw [hN]; rfl
  have n3 : X.N[3]? = some ("_law_cells" : Str) := by rw [hN]; rfl
  have l0 := hl "_law_h" (by decide)
  have l1 := hl "_law_bound" (by decide)
  have l2 := hl "_law_cell" (by decide)
  have l3 := hl "_law_cells" (by decide)
  have gI := hg "int" (by decide)
  have gM := hg "max" (by decide)
  have gL := hg "len" (by decide)
  have mI := hm "int" (by decide)
  have mM := hm "max" (by decide)
  have mL := hm "len" (by decide)
  -- h[j]
  have rd : ∀ {σ : L2.St} {H1 : Hp} {Q1 : VK} {s1 k1 : Int} {q1 q2 q3 : Pos} {kk : Nat} (j : Int) (v : V), σ[0]? = some (some (.ref a)) → H1 a = some (.lst [.int s1, .ref c, .int k1]) → atI [V.int s1, .ref c, .int k1] j = some v → Q1 v H1 → RE X (.Subscript (.Name "_law_h" q1) (.Constant (.int j) kk q2) q3) σ H1 Q1 := by
    intro σ H1 Q1 s1 k1 q1 q2 q3 kk j v h1 h2 h3 h4
    exact re_ixc (re_name n0 l0 h1 (.inl ⟨a, _, j, v, rfl, rfl, SqL.of h2, h3, h4⟩))
  obtain ⟨i1, i2, i3⟩ := atC_ok cs k
  have hzz : (1000 : Nat) + 1 ≤ sizeLine := by decide
  refine RSs.of (pss_cons ps_RS pss_RS) ?_
  refine RS.of (ps_set hnd n2 (.inl l2) pe_RE rfl (.inr l2)) ?_
  refine re_ix rfl (re_bin op_cat (rd 1 (.ref c) rfl ha rfl (re_listC fun p hp => ?_)))
  have hpc : c ≠ p := fun z => by rw [z] at hcc; rw [hcc] at hp; cases hp
  have hpa : a ≠ p := fun z => by rw [z] at ha; rw [ha] at hp; cases hp
  refine ⟨c, p, cs.map V.int, [.int 0], rfl, rfl, by rw [upd_ne hpc]; exact hcc, upd_same, by simp; omega, fun p2 hp2 => ?_⟩
  have hp2p : p ≠ p2 := fun z => by rw [← z, upd_same] at hp2; cases hp2
  have hpc2 : c ≠ p2 := fun z => by rw [← z, upd_ne hpc, hcc] at hp2; cases hp2
  have hpa2 : a ≠ p2 := fun z => by rw [← z, upd_ne hpa, ha] at hp2; cases hp2
  generalize hH1 : upd (upd H p (.lst [.int 0])) p2 (.lst (cs.map V.int ++ [.int 0])) = H1
  have a1 : H1 a = some (.lst [.int s, .ref c, .int k]) := by rw [← hH1, upd_ne hpa2, upd_ne hpa]; exact ha
  have c1 : H1 c = some (.lst (cs.map V.int)) := by rw [← hH1, upd_ne hpc2, upd_ne hpc]; exact hcc
  have g1 : ∀ q, H q ≠ none → H1 q = H q := fun q hq => by
    rw [← hH1]
    have e2 : q ≠ p := fun z => hq (z ▸ hp)
    have e1 : q ≠ p2 := fun z => by
      rw [← z, upd_ne e2] at hp2
      exact hq hp2
    rw [upd_ne e1, upd_ne e2]
  have s1 : SqL X.K H1 p2 (cs.map V.int ++ [.int 0]) := SqL.of (by rw [← hH1]; exact upd_same)
  refine re_bin op_mod (re_callI gI mI rfl (rd 2 (.int k) rfl a1 rfl ⟨k, rfl, re_callM hc gM mM rfl rfl (re_int (re_callL gL mL rfl (rd 1 (.ref c) rfl a1 rfl ⟨c, _, rfl, SqL.of c1, 1, _, rfl, rfl, ?_⟩)))⟩))
  have ln : (((cs.map V.int).length : Nat) : Int) = (cs.length : Int) := by simp
  rw [ln]
  refine ⟨k, _, rfl, rfl, by split <;> omega, ?_⟩
  refine .inl ⟨p2, _, _, .int (cellC cs k), rfl, rfl, s1, ?_, ?_⟩
  · rw [← i1]
    refine L2.atI_nat ?_
    have : cs.map V.int ++ [V.int 0] = (cs ++ [(0 : Int)]).map V.int := by simp
    rw [this, List.getElem?_map, i2]
    rfl
  show RSs X _ _ [some (.ref a), some (.int b), some (.int (cellC cs k)), none] H1
  generalize hσ : ([some (.ref a), some (.int b), some (.int (cellC cs k)), none] : L2.St) = σ
  have z0 : σ[0]? = some (some (.ref a)) := by rw [← hσ]; rfl
  have z1 : σ[1]? = some (some (.int b)) := by rw [← hσ]; rfl
  have z2 : σ[2]? = some (some (.int (cellC cs k))) := by rw [← hσ]; rfl
  refine RSs.of (pss_cons ps_RS pss_RS) ?_
  refine RS.of (ps_if (pt_cmp (pc_ge pe_RE pe_RE)) pss_RS pss_RS) ?_
  refine re_name n2 l2 z2 (re_bin op_pow (re_int (re_int ⟨10, 18, rfl, rfl, ⟨by decide, by decide, by decide⟩, ?_⟩)))
  refine ⟨_, _, rfl, rfl, _, rfl, ?_⟩
  have e18 : (10 : Int) ^ (18 : Int).toNat = bigC := by decide
  rw [e18]
  by_cases hbig : bigC ≤ cellC cs k
  · obtain ⟨b1, b2⟩ := cell_big hbig
    refine (if_pos (show decide (bigC ≤ cellC cs k) = true from decide_eq_true hbig)).mpr ?_
    refine RSs.of (pss_cons ps_RS pss_RS) ?_
    refine RS.of (ps_set hnd n3 (.inl l3) pe_RE rfl (.inr l3)) (rd 1 (.ref c) z0 a1 rfl ?_)
    have y0 : (σ.set 3 (some (.ref c)))[0]? = some (some (.ref a)) := by rw [← hσ]; rfl
    have y1 : (σ.set 3 (some (.ref c)))[1]? = some (some (.int b)) := by rw [← hσ]; rfl
    have y2 : (σ.set 3 (some (.ref c)))[2]? = some (some (.int (cellC cs k))) := by rw [← hσ]; rfl
    have y3 : (σ.set 3 (some (.ref c)))[3]? = some (some (.ref c)) := by rw [← hσ]; rfl
    refine RSs.of (pss_cons ps_RS pss_RS) ?_
    refine RS.of (ps_asg pe_RE (pg_sub pe_RE pe_RE set_list) sw_sub swp_sub) ?_
    refine re_bin op_fdivW (re_name n2 l2 y2 (re_name n1 l1 y1 ⟨_, _, rfl, rfl, wide_div (b := 64) hb.1 (by omega) (by decide) (by decide), ?_⟩))
    refine re_name n3 l3 y3 (re_bin op_mod (re_callI gI mI rfl (rd 2 (.int k) y0 a1 rfl ⟨k, rfl, re_callL gL mL rfl (re_name n3 l3 y3 ⟨c, _, rfl, SqL.of c1, k, _, rfl, rfl, by rw [ln]; omega, ?_⟩)⟩)))
    refine ⟨c, _, _, atC cs k, rfl, rfl, c1, ?_, ?_⟩
    · rw [ln, ← b2]
      unfold L2.ixN
      rw [if_pos (by omega), if_pos (by rw [ln]; omega)]
      simp
    refine RSs.of (pss_one ps_RS) ?_
    refine RS.of (ps_ret pe_RE) (re_bin op_mod (re_callI gI mI rfl (re_name n2 l2 y2 ⟨_, rfl, re_name n1 l1 y1 ⟨_, _, rfl, rfl, hb.1, ?_⟩⟩)))
    have ev : nextV s cs k b = (cellC cs k % b, s, cs.set (atC cs k) (cellC cs k / b), k) := if_pos hbig
    rw [ev] at q
    refine q _ (fun p' hp' e1 e2 => by rw [upd_ne e2]; exact g1 p' hp') (by rw [upd_ne hac]; exact a1) ?_
    rw [upd_same]
    simp
  · refine (if_neg (show ¬ decide (bigC ≤ cellC cs k) = true from fun z => hbig (of_decide_eq_true z))).mpr ?_
    refine RSs.of pss_nil ?_
    refine RSs.of (pss_cons ps_RS pss_RS) ?_
    refine RS.of (ps_asg pe_RE (pg_sub pe_RE pe_RE set_list) sw_sub swp_sub) ?_
    refine re_bin op_mod (re_callI gI mI rfl (re_bin op_add (re_bin op_add (re_bin op_mul (rd 0 (.int s) z0 a1 rfl (re_int ⟨_, _, rfl, rfl, .inr ⟨by decide, by decide⟩, ?_⟩))))))
    refine re_bin op_mul (re_name n2 l2 z2 (re_int ⟨_, _, rfl, rfl, .inr ⟨by decide, by decide⟩, ?_⟩))
    refine ⟨_, _, rfl, rfl, re_int ⟨_, _, rfl, rfl, ⟨_, rfl, re_int ⟨_, _, rfl, rfl, (show (0 : Int) < 2147483647 by decide), ?_⟩⟩⟩⟩
    refine re_name n0 l0 z0 (re_int ⟨a, _, _, 0, rfl, rfl, a1, rfl, ?_⟩)
    have ev : nextV s cs k b = (((s * 48271 + cellC cs k * 69621 + 11) % 2147483647) / 7 % b, (s * 48271 + cellC cs k * 69621 + 11) % 2147483647, cs, k + 1) := if_neg hbig
    rw [ev] at q
    simp only at q
    refine RSs.of (pss_cons ps_RS pss_RS) ?_
    refine RS.of (ps_asg pe_RE (pg_sub pe_RE pe_RE set_list) sw_sub swp_sub) ?_
    have a2 : upd H1 a (.lst ([V.int s, .ref c, .int k].set 0 (.int ((s * 48271 + cellC cs k * 69621 + 11) % 2147483647)))) a = some (.lst [.int ((s * 48271 + cellC cs k * 69621 + 11) % 2147483647), .ref c, .int k]) := upd_same
    refine re_bin op_add (rd 2 (.int k) z0 a2 rfl (re_int ⟨_, _, rfl, rfl, re_name n0 l0 z0 (re_int ⟨a, _, _, 2, rfl, rfl, a2, rfl, ?_⟩)⟩))
    refine RSs.of (pss_one ps_RS) ?_
    refine RS.of (ps_ret pe_RE) (re_bin op_mod (re_callI gI mI rfl (re_bin op_fdiv (rd 0 (.int ((s * 48271 + cellC cs k * 69621 + 11) % 2147483647)) z0 upd_same rfl (re_int ⟨_, _, rfl, rfl, ⟨by decide, by decide⟩, ⟨_, rfl, re_name n1 l1 z1 ⟨_, _, rfl, rfl, hb.1, ?_⟩⟩⟩)))))
    refine q _ (fun p' hp' e1 e2 => by rw [upd_ne e1, upd_ne e1]; exact g1 p' hp') upd_same ?_
    rw [upd_ne (Ne.symm hac), upd_ne (Ne.symm hac)]
    exact c1
end
section
variable {X : Cx} {H : Hp} {Q : VK} {a : Addr} {s : Int} {ns : List Int} {p1 p2 p3 p4 p5 p6 p7 p8 p9 p10 p11 p12 p13 p14 p15 p16 p17 p18 p19 p20 p21 p22 p23 p24 p25 p26 p27 p28 p29 p30 : Pos} {k1 k2 k3 k4 k5 : Nat}
abbrev mixN : List Str := ["_law_script", "_law_seed", "_law_state", "_law_cell"]
theorem mix_body (hN : X.N = mixN) (hc : X.calm = true) (hpw : PassesOwn (model X.prog X.w) X.A X.env X.xe) (hl : ∀ x ∈ mixN, X.env.scope.names.lookup x = some .local) (hg : ∀ x ∈ (["int", "list"] : List Str), Gl X x) (hm : ∀ x ∈ (["int", "list"] : List Str), X.mg x = none)
    (ha : SqL X.K H a (ns.map V.int))
    (q : ∀ c l, H c = none → upd H c (.lst (ns.map V.int)) l = none → Q (.ref l) (upd (upd H c (.lst (ns.map V.int))) l (.lst [.int (mixV s ns), .ref c, .int 0]))) {nx : L2.St → Hp → Prop} :
    RSs X (mixE p1 p2 p3 p4 p5 p6 p7 p8 p9 p10 p11 p12 p13 p14 p15 p16 p17 p18 p19 p20 p21 p22 p23 p24 p25 p26 p27 p28 p29 p30 k1 k2 k3 k4 k5) { nx := nx, rt := Q } (L2.start mixN [.ref a, .int s]) H := by
  have hnd : X.N.Nodup := by rw [hN]; decide
  have n0 : X.N[0]? = some ("_law_script" : Str) := by rw [hN]; rfl
  have n1 : X.N[1]? = some ("_law_seed" : Str) := by rw [hN]; rfl
  have n2 : X.N[2]? = some ("_law_state" : Str) := by rw [hN]; rfl
  have n3 : X.N[3]? = some ("_law_cell" : Str) := by rw [hN]; rfl
  have l0 := hl "_law_script" (by decide)
  have l1 := hl "_law_seed" (by decide)
  have l2 := hl "_law_state" (by decide)
  have l3 := hl "_law_cell" (by decide)
  have gI := hg "int" (by decide)
  have gL := hg "list" (by decide)
  have mI := hm "int" (by decide)
  have mL := hm "list" (by decide)
  refine RSs.of (pss_cons ps_RS pss_RS) ?_
  refine RS.of (ps_set hnd n2 (.inl l2) pe_RE rfl (.inr l2)) (re_name n1 l1 rfl ?_)
  refine RSs.of (pss_cons ps_RS pss_RS) ?_
  refine RS.of (ps_for hpw hc (pi_list pe_RE) (pg_name hnd n3 (.inl l3) (.inr l3)) pss_RS) (re_name n0 l0 rfl ⟨a, rfl, ⟨_, ha⟩, ?_⟩)
  refine ⟨fun i m σ' H' => H' = H ∧ m = ns.length - i ∧ i ≤ ns.length ∧ ∃ c, σ' = [some (.ref a), some (.int s), some (.int (mixV s (ns.take i))), c], ⟨ns.length, rfl, by simp, Nat.zero_le _, none, rfl⟩, ?_⟩
  rintro i m σ' H' ⟨rfl, rfl, hi, c, rfl⟩
  by_cases hlt : i < ns.length
  · right
    have hx : (ns.map V.int)[i]? = some (.int ns[i]) := by rw [List.getElem?_map, List.getElem?_eq_getElem hlt]; rfl
    refine ⟨⟨_, _, ha, hx⟩, fun σ' H1 => H1 = H' ∧ ∃ c, σ' = [some (.ref a), some (.int s), some (.int (mixV s (ns.take (i + 1)))), c], fun σ1 H1 ⟨e1, e2⟩ => ⟨ns.length - (i + 1), by omega, e1, rfl, hlt, e2⟩, ?_⟩
    rintro x H1 ⟨rfl, hy⟩
    have hxx := hy _ ha
    rw [hx] at hxx
    cases hxx
    refine RSs.of (pss_one ps_RS) ?_
    refine RS.of (ps_set hnd n2 (.inl l2) pe_RE rfl (.inr l2)) ?_
    refine re_bin op_mod (re_callI gI mI rfl (re_bin op_add (re_bin op_add (re_bin op_mul (re_name n2 l2 rfl (re_int ⟨_, _, rfl, rfl, .inr ⟨by decide, by decide⟩, ?_⟩))))))
    refine re_bin op_mod (re_callI gI mI rfl (re_name n3 l3 rfl ⟨_, rfl, re_int ⟨_, _, rfl, rfl, (show (0 : Int) < 2147483629 by decide), ?_⟩⟩))
    refine ⟨_, _, rfl, rfl, re_int ⟨_, _, rfl, rfl, ⟨_, rfl, re_int ⟨_, _, rfl, rfl, (show (0 : Int) < 2147483647 by decide), ?_⟩⟩⟩⟩
    refine ⟨rfl, some (.int ns[i]), ?_⟩
    have e : mixV s (ns.take (i + 1)) = (mixV s (ns.take i) * 48271 + ns[i] % 2147483629 + 1) % 2147483647 := by
      unfold mixV
      rw [List.take_succ_eq_append_getElem hlt, List.foldl_append]
      rfl
    rw [e]
    rfl
  · left
    have e : i = ns.length := by omega
    subst e
    refine ⟨⟨_, ha, by simp⟩, ?_⟩
    rw [List.take_length]
    refine RSs.of (pss_one ps_RS) ?_
    refine RS.of (ps_ret pe_RE) ?_
    refine RE.of (pe_lst (pa_cons pe_RE (pa_cons (pe_callTy (x := "list") call_list_of gL mL (by decide +kernel) (pa_cons pe_RE pa_nil)) (pa_cons pe_int pa_nil)))) ?_
    refine re_name n2 l2 rfl (re_name n0 l0 rfl ⟨a, _, rfl, .inl ha, fun c hc' => ⟨by show 3 ≤ sizeLine; decide, fun l hl' => q c l hc' hl'⟩⟩)
end
/-! ### as defs -/
def localB (sc : Scope) (ls gs : List Str) : Bool := ls.all (fun x => sc.names.lookup x == some .local) && gs.all (fun x => sc.names.lookup x == some .globalImplicit)
theorem localB_ok {sc : Scope} {ls gs : List Str} (h : localB sc ls gs = true) : (∀ x ∈ ls, sc.names.lookup x = some .local) ∧ ∀ x ∈ gs, sc.names.lookup x = some .globalImplicit := by
  unfold localB at h
  simp only [Bool.and_eq_true, List.all_eq_true, beq_iff_eq] at h
  exact h
section
variable {W : Wd} {mg : Str → Option Value} {base : Heap} {x qual : Str} {params : Arguments} {scope : Scope} {f : Addr} {fd : FuncData} {p1 p2 p3 p4 p5 p6 p7 p8 p9 p10 p11 p12 p13 p14 p15 p16 p17 p18 p19 p20 p21 p22 p23 p24 p25 p26 p27 p28 p29 p30 p31 p32 p33 p34 p35 p36 p37 p38 p39 p40 p41 p42 p43 p44 p45 p46 p47 p48 p49 p50 p51 p52 p53 p54 p55 p56 p57 p58 p59 p60 p61 p62 p63 p64 p65 p66 p67 p68 p69 p70 p71 p72 p73 p74 p75 p76 p77 p78 p79 p80 p81 p82 p83 p84 p85 p86 p87 p88 p89 p90 p91 p92 p93 : Pos} {k1 k2 k3 k4 k5 k6 k7 k8 k9 k10 k11 k12 k13 k14 k15 k16 k17 k18 k19 k20 : Nat}
theorem next_ok {g : Str} (F : FunD W.K x qual params (nextE p1 p2 p3 p4 p5 p6 p7 p8 p9 p10 p11 p12 p13 p14 p15 p16 p17 p18 p19 p20 p21 p22 p23 p24 p25 p26 p27 p28 p29 p30 p31 p32 p33 p34 p35 p36 p37 p38 p39 p40 p41 p42 p43 p44 p45 p46 p47 p48 p49 p50 p51 p52 p53 p54 p55 p56 p57 p58 p59 p60 p61 p62 p63 p64 p65 p66 p67 p68 p69 p70 p71 p72 p73 p74 p75 p76 p77 p78 p79 p80 p81 p82 p83 p84 p85 p86 p87 p88 p89 p90 p91 p92 p93 k1 k2 k3 k4 k5 k6 k7 k8 k9 k10 k11 k12 k13 k14 k15 k16 k17 k18 k19 k20) scope [] [] f fd) (S : FnScope nextN ["_law_h", "_law_bound"] scope) (hs : localB scope nextN ["int", "max", "len"] = true) (hm : ∀ y ∈ freeNames, mg y = none) (hb : Binds W.K fd ["_law_h", "_law_bound"] []) (n : Nat) :
    FnAtG W mg base (fun _ => pNext) (3 * (n + 1)) f g := by
  obtain ⟨h1, h2⟩ := localB_ok hs
  have key : ∀ (vs : List V) (H : Hp) (Q : VK) (E : XK), spOf W (fun _ => pNext) g vs H Q E → ∃ (a c : Addr) (s k b : Int) (cs : List Int), vs = [.ref a, .int b] ∧ a ≠ c ∧ H a = some (.lst [.int s, .ref c, .int k]) ∧ H c = some (.lst (cs.map V.int)) ∧ (0 < b ∧ b < 4611686018427387904) ∧ cs.length ≤ 1000 ∧
      ∀ H', (∀ p, H p ≠ none → p ≠ a → p ≠ c → H' p = H p) → H' a = some (.lst [.int (nextV s cs k b).2.1, .ref c, .int (nextV s cs k b).2.2.2]) → H' c = some (.lst ((nextV s cs k b).2.2.1.map V.int)) → Q (.int (nextV s cs k b).1) H' := by
    rintro vs H Q E ⟨ow, cs, ha, _, _, hp⟩
    obtain ⟨s, cl, k, b, rfl, hb1, hb2⟩ := pNext_inv (postF_bad hp)
    have hp : PostF W ow H _ vs (pNext [.par (.rng s cl k), .val (.int b)]) Q E := hp
    rw [pNext_eq hb1 hb2] at hp
    obtain ⟨v, u, rfl, hv, hu⟩ := args2 ha
    obtain ⟨a, c, rfl, hac, h1, h2, t1, t2⟩ := hv
    cases (show Rep W ow H (.int b) u from hu)
    simp only [bndOk, Bool.and_eq_true, decide_eq_true_eq] at hb1
    refine ⟨a, c, s, k, b, cl, rfl, hac, h1, h2, hb1, hb2, fun H' g1 g2 g3 => ?_⟩
    refine hp (.int _) ow H' (fun p hp' => ?_) (.int _) ⟨⟨a, c, rfl, hac, g2, g3, t1, t2⟩, trivial⟩
    refine ⟨?_, fun hn => ⟨g1 p hp' (fun z => hn 0 (z ▸ t1)) (fun z => hn 0 (z ▸ t2)), rfl⟩, fun i e => .inl e⟩
    by_cases e1 : p = a
    · rw [e1, g2]; simp
    · by_cases e2 : p = c
      · rw [e2, g3]; simp
      · rw [g1 p hp' e1 e2]; exact hp'
  refine ⟨fd, _, F.kp, hb, ?_⟩
  refine F.ok (k := 3 * n + 2) (N := nextN) S (fun vs H Q E h => ?_) (fun cdv A outer s H vs Q E hr h => ?_)
  · obtain ⟨a, c, s, k, b, cs, rfl, _⟩ := key vs H Q E h
    rfl
  · obtain ⟨a, c, s', k, b, cs, rfl, e1, e2, e3, e4, e5, e6⟩ := key vs H Q E h
    refine ⟨_, pss_RS, next_body (X := cxOf (L2.CX W.P W.w) W.P W.w W.K mg base nextN qual scope f cdv A outer s H E) rfl rfl h1 (fun y hy => h2 y hy) (fun y hy => hm y (by revert hy; revert y; decide)) e1 e2 e3 e4 e5 e6⟩
end
section
variable {W : Wd} {mg : Str → Option Value} {base : Heap} {x qual : Str} {params : Arguments} {scope : Scope} {f : Addr} {fd : FuncData} {p1 p2 p3 p4 p5 p6 p7 p8 p9 p10 p11 p12 p13 p14 p15 p16 p17 p18 p19 p20 p21 p22 p23 p24 p25 p26 p27 p28 p29 p30 : Pos} {k1 k2 k3 k4 k5 : Nat}
theorem mix_ok {g : Str} (F : FunD W.K x qual params (mixE p1 p2 p3 p4 p5 p6 p7 p8 p9 p10 p11 p12 p13 p14 p15 p16 p17 p18 p19 p20 p21 p22 p23 p24 p25 p26 p27 p28 p29 p30 k1 k2 k3 k4 k5) scope [] [] f fd) (S : FnScope mixN ["_law_script", "_law_seed"] scope) (hs : localB scope mixN ["int", "list"] = true) (hm : ∀ y ∈ freeNames, mg y = none) (hb : Binds W.K fd ["_law_script", "_law_seed"] []) (n : Nat) :
    FnAtG W mg base (fun _ => pMix) (3 * (n + 1)) f g := by
  obtain ⟨h1, h2⟩ := localB_ok hs
  have key : ∀ (vs : List V) (H : Hp) (Q : VK) (E : XK), spOf W (fun _ => pMix) g vs H Q E → ∃ (a : Addr) (s : Int) (ns : List Int), vs = [.ref a, .int s] ∧ SqL W.K H a (ns.map V.int) ∧
      ∀ c l, H c = none → upd H c (.lst (ns.map V.int)) l = none → Q (.ref l) (upd (upd H c (.lst (ns.map V.int))) l (.lst [.int (mixV s ns), .ref c, .int 0])) := by
    rintro vs H Q E ⟨ow, cs, ha, _, _, hp⟩
    obtain ⟨ns, s, rfl⟩ := pMix_inv (postF_bad hp)
    have hp : PostF W ow H _ vs (pMix [.par (.scr ns), .val (.int s)]) Q E := hp
    rw [pMix_eq] at hp
    obtain ⟨v, u, rfl, hv, hu⟩ := args2 ha
    obtain ⟨a, rfl, h1⟩ := hv
    cases (show Rep W ow H (.int s) u from hu)
    have hq : SqL W.K H a (ns.map V.int) := by
      rcases h1 with ⟨h1, _⟩ | h1
      · exact .inl h1
      · rcases h1 with h1 | h1
        · rcases h1 with h1 | ⟨o, h1⟩ <;> cases h1
        · exact .inr h1
    refine ⟨a, s, ns, rfl, hq, fun c l hc hl => ?_⟩
    have g1 := Grow.new (ow := ow) (o := .lst (ns.map V.int)) (t := .tm) hc
    have g2 := Grow.new (ow := fun q => if q = c then .tm else ow q) (o := .lst [.int (mixV s ns), .ref c, .int 0]) (t := .tm) hl
    have g := g1.trans g2
    have hcl : c ≠ l := fun z => by rw [← z, upd_same] at hl; cases hl
    have hl0 : H l = none := by rw [upd_ne (Ne.symm hcl)] at hl; exact hl
    refine hp (.ref l) _ _ g.step ⟨l, c, rfl, Ne.symm hcl, upd_same, by rw [upd_ne hcl, upd_same], ⟨if_pos rfl, hl0⟩, ⟨(if_neg hcl).trans (if_pos rfl), hc⟩⟩ ⟨?_, trivial⟩
    refine ⟨a, rfl, ?_⟩
    rcases h1 with ⟨h1, t1⟩ | h1
    · left
      have hne : H a ≠ none := by
        rcases h1 with h1 | ⟨o, h1⟩ <;> rw [h1] <;> simp
      obtain ⟨e1, e2⟩ := g a hne
      refine ⟨?_, e2.trans t1⟩
      unfold Rd
      rw [e1]
      exact h1
    · exact .inr h1
  refine ⟨fd, _, F.kp, hb, ?_⟩
  refine F.ok (k := 3 * n + 2) (N := mixN) S (fun vs H Q E h => ?_) (fun cdv A outer s H vs Q E hr h => ?_)
  · obtain ⟨a, s, ns, rfl, _⟩ := key vs H Q E h
    rfl
  · obtain ⟨a, s', ns, rfl, e1, e2⟩ := key vs H Q E h
    refine ⟨_, pss_RS, mix_body (X := cxOf (L2.CX W.P W.w) W.P W.w W.K mg base mixN qual scope f cdv A outer s H E) rfl rfl (passes_of rfl) h1 (fun y hy => h2 y hy) (fun y hy => hm y (by revert hy; revert y; decide)) e1 e2⟩
end
end Ev

/-! EvQ: dicts whose keys are tuples: the rules that CxG asks. -/
namespace Ev
open PySem PySem.Spec PyProof.Rows L2

section
variable {W : Wd} {X : Cx} {pins : List (Addr × Obj)} {σ : L2.St} {H : Hp} {s : Shared} {ow : Ow}
theorem dic_in (hP : X.prog = W.P) (hw : X.w = W.w) (hK : X.K = W.K) (hu : X.A.units + 100 < cLine) : DicIn0 X W := by
  intro ow H ks kvs k x y Q hk hx hy
  obtain ⟨a, o, es, rfl, ha, hsm, hd, hr⟩ := hy
  have hx' : ∃ p, x = .ref p := by
    cases (show Rep W ow H (.tup ks) x from hx)
    exact ⟨_, rfl⟩
  obtain ⟨p, rfl⟩ := hx'
  refine ⟨fun q => ⟨fun x' y' H' Q' => x' = .ref p ∧ y' = .ref a ∧ H' = H ∧ Q' (.bl (hasKey kvs (.tup k))) H, ?_, rfl, rfl, rfl, q⟩, fun q => ⟨fun x' y' H' Q' => x' = .ref p ∧ y' = .ref a ∧ H' = H ∧ Q' (.bl (!hasKey kvs (.tup k))) H, ?_, rfl, rfl, rfl, q⟩⟩
  · rintro pins s σ H' x' y' v u Q' I rx ry ⟨rfl, rfl, rfl, q⟩
    cases rx
    cases ry
    obtain ⟨hg, xs, hp, hm⟩ := dictOf hP hw hK I ha hd hr
    refine in_keyed (room_in1 hu) (keyIs hK I hx hk) hsm ⟨xs, hm, rfl⟩ ?_
    rw [(at_some hr hp).1]
    exact ⟨.bl _, H', I.kept fun b u e => e, rfl, q⟩
  · rintro pins s σ H' x' y' v u Q' I rx ry ⟨rfl, rfl, rfl, q⟩
    cases rx
    cases ry
    obtain ⟨hg, xs, hp, hm⟩ := dictOf hP hw hK I ha hd hr
    refine notIn_keyed (room_in1 hu) (keyIs hK I hx hk) hsm ⟨xs, hm, rfl⟩ ?_
    rw [(at_some hr hp).1]
    exact ⟨.bl _, H', I.kept fun b u e => e, rfl, q⟩
/-- two dicts, the second one empty -/
theorem same0 {prog : Program} {w : World} {A : Around} {E : Value → Shared → Prop} {nm : String} {a b : Addr} {o1 o2 : Obj} {d1 d2 : Array DictEntry} {e1 e2 : Nat} {Q : Bool → Shared → Prop} (ha : (a == sysModules) = false) (hb : (b == sysModules) = false) (g1 : s.heap.get? a = some o1) (q1 : o1.data = .dict d1 e1) (g2 : s.heap.get? b = some o2) (q2 : o2.data = .dict d2 e2) (z : d2.size = 0) (h : Q (decide (d1.size = 0)) s) :
    wpAny (model prog w) A (Builtin.Dict.samePairs nm a b) Q E s := by
  unfold Builtin.Dict.samePairs Builtin.Dict.showsAll
  rw [if_neg (by rw [ha]; simp), if_neg (by rw [hb]; simp)]
  refine wpAny_bind (wpAny_pure (wpAny_bind (wpAny_pure (wpAny_bind (wpAny_dictEntries g1 q1 ?_)))))
  dsimp only
  refine wpAny_bind (wpAny_dictEntries g2 q2 ?_)
  by_cases hz : d1.size = 0
  · rw [if_neg (by rw [hz, z]; simp)]
    refine wpAny_bind (wpAny_dictEpoch g1 q1 (wpAny_bind ?_))
    rw [Std.Legacy.Range.forIn_eq_forIn_range']
    simp only [Std.Legacy.Range.size, hz]
    refine wpAny_pure (wpAny_pure ?_)
    simpa [hz] using h
  · rw [if_pos (by rw [z]; simpa using hz)]
    refine wpAny_bind (wpAny_rule (wpAny_pure ?_))
    simpa [hz] using h
theorem eq0 {prog : Program} {w : World} {A : Around} {E : Value → Shared → Prop} {a b : Addr} {d1 d2 : Array DictEntry} {e1 e2 : Nat} {Q : Value → Shared → Prop} (ha : (a == sysModules) = false) (hb : (b == sysModules) = false) (D1 : s.heap.DictRaw a d1 e1) (D2 : s.heap.DictRaw b d2 e2) (hu : A.units < cLine) (z : d2.size = 0) (h : Q (.bool (decide (d1.size = 0))) s) :
    wpAny (model prog w) A (compareOp .Eq (.ref a) (.ref b)) Q E s := by
  obtain ⟨o1, g1, x1, q1⟩ := id D1
  obtain ⟨o2, g2, x2, q2⟩ := id D2
  refine wpAny_richCompare_same_room (op := .Eq) D1.typeIs D2.typeIs PySem.F.slot_dict_eq (wpAny_call_entry PySem.F.slot_dict_eq D1.typeIs PySem.F.entry_dict_eq ?_ (PySem.F.args_dict_eq_2 _ _)) hu
  show wpAny _ _ (Builtin.Dict.dictSlotArgs "__eq__" ⟨[.ref a, .ref b], []⟩ >>= _) _ _ _
  refine wpAny_bind ?_
  unfold Builtin.Dict.dictSlotArgs
  refine wpAny_bind (wpAny_notOrdered_dict D1.typeIs ?_)
  show wpAny _ _ (pure (Value.ref a, Value.ref b)) _ _ _
  refine wpAny_pure (wpAny_bind (wpAny_isInstance (T := "dict") D2.typeIs PySem.F.sub_dict_dict ?_))
  simp only [Bool.not_true, Bool.false_eq_true, if_false]
  refine wpAny_bind (wpAny_pure (wpAny_bind (wpAny_pure (wpAny_bind (same0 ha hb g1 q1 g2 q2 z (wpAny_pure ⟨_, rfl, ?_, ?_⟩))))))
  · exact fun y => nomatch y
  · simpa using h
theorem dic_eq0 (hP : X.prog = W.P) (hw : X.w = W.w) (hK : X.K = W.K) (hu : X.A.units + 100 < cLine) : DicEq0 X W := by
  intro ow H kvs x y Q hx hy q
  obtain ⟨a, o, es, rfl, ha, hsm, hd, hr⟩ := hx
  obtain ⟨b, o2, es2, rfl, hb, hsm2, hd2, hr2⟩ := hy
  cases hr2
  refine ⟨fun x' y' H' Q' => x' = .ref a ∧ y' = .ref b ∧ H' = H ∧ Q' (.bl kvs.isEmpty) H, ?_, rfl, rfl, rfl, q⟩
  rintro pins s σ H' x' y' v u Q' I rx ry ⟨rfl, rfl, rfl, q⟩
  cases rx
  cases ry
  obtain ⟨hz, hx, xs, hp, ds, ep, e1, e2, e3⟩ := hd
  obtain ⟨hz2, hx2, xs2, hp2, ds2, ep2, f1, f2, f3⟩ := hd2
  cases hp2
  have s1 : ds.size = kvs.length := by
    have l1 := congrArg List.length e2
    have l2 := Paired.length hp
    have l3 := repK_len hr
    simp at l1
    omega
  have s2 : ds2.size = 0 := by
    have l1 := congrArg List.length f2
    simpa using l1
  refine eq0 hsm hsm2 ⟨o, (I.hok a _ ha).1, hx, e1⟩ ⟨o2, (I.hok b _ hb).1, hx2, f1⟩ (by omega) s2 ?_
  have e : decide (ds.size = 0) = kvs.isEmpty := by rw [s1]; cases kvs <;> simp
  rw [e]
  exact ⟨.bl _, H', I.kept fun b u e => e, rfl, q⟩
theorem dic_get (hP : X.prog = W.P) (hw : X.w = W.w) (hK : X.K = W.K) (hu : X.A.units + 100 < cLine) : DicGet X W := by
  intro ow H ks kvs k d x y Q hk hf hy hx q
  obtain ⟨a, o, es, rfl, ha, hsm, hd, hr⟩ := hy
  have hx' : ∃ p, y = .ref p := by
    cases (show Rep W ow H (.tup ks) y from hx)
    exact ⟨_, rfl⟩
  obtain ⟨p, rfl⟩ := hx'
  refine ⟨fun x' y' H' Q' => x' = .ref a ∧ y' = .ref p ∧ H' = H ∧ ∀ v, Rep W ow H d v → Q' v H, ?_, rfl, rfl, rfl, q⟩
  rintro va sl pins s σ H' x' y' v u Q' I rx ry ⟨rfl, rfl, rfl, q⟩ hs
  cases rx
  cases ry
  obtain ⟨hg, xs, hp, hm⟩ := dictOf hP hw hK I ha hd hr
  obtain ⟨v, u, q1, q2, q3⟩ := (at_some hr hp).2 d hf
  exact subscriptTail_builtinR (x := u) hm.typeIs F.slot_dict_getitem.lookup (getItem_keyed (Q := fun r s' => r = u ∧ EP X pins σ Q' r s') (room_in1 hu) (keyIs hK I hx hk) ⟨xs, hm, rfl⟩ q3 ⟨rfl, v, H', I.kept fun b u e => e, q2, q v q1⟩) hs
/-! ### truth, length -/
theorem len_body {A : Around} {E : Value → Shared → Prop} {prog : Program} {w : World} {d : Addr} {es : Array DictEntry} {ep : Nat} {Q : Value → Shared → Prop} (hd : (d == sysModules) = false) (hm : s.heap.DictRaw d es ep) (hfit : (es.size : Int) < 2 ^ 63)
    (h : Q (.int es.size (s.toks + 1)) { s with toks := s.toks + 1 + 1 }) : wpAny (model prog w) A (Builtin.«len» ⟨[.ref d], []⟩) (fun fin s' => ∃ r, fin = .done (.ret r) ∧ Q r s') E s := by
  unfold Builtin.«len»
  refine wpAny_bind (m := oneArg "len" _) (wpAny_pure ?_)
  refine wpAny_bind (m := callSpecial? (.ref d) (Str.ofString "__len__")) (wpAny_callSpecial?_slot (name := Str.ofString "__len__") hm.typeIs F.slot_dict_len (call_len_raw hd hm ?_))
  show wpAny _ _ _ _ _ { s with toks := s.toks + 1 }
  refine wpAny_bind (wpAny_holding (wpAny_pure ?_))
  refine wpAny_bind (wpAny_letGo ?_)
  show wpAny _ _ (if ((es.size : Nat) : Int) < 0 then _ else _) _ _ _
  rw [if_neg (by omega)]
  show wpAny _ _ (if ((es.size : Nat) : Int) ≥ 2 ^ 63 then _ else _) _ _ _
  rw [if_neg (by omega)]
  exact wpAny_bind (wpAny_mkInt (wpAny_pure ⟨_, rfl, h⟩))
theorem truthy_raw {A : Around} {E : Value → Shared → Prop} {prog : Program} {w : World} {d : Addr} {es : Array DictEntry} {ep : Nat} {Q : Bool → Shared → Prop} (hd : (d == sysModules) = false) (hm : s.heap.DictRaw d es ep) (hfit : (es.size : Int) < 2 ^ 63)
    (h : Q ((es.size : Int) != 0) { s with toks := s.toks + 1 + 1 }) : wpAny (model prog w) A (truthy (.ref d)) Q E s := by
  have key : wpAny (model prog w) A (runValue (.builtin "len" ⟨[.ref d], []⟩)) (fun r s' => r = .int es.size (s.toks + 1) ∧ Q ((es.size : Int) != 0) s') E s := by
    refine wpAny_runValue (codeAny_builtin entry_len ?_)
    rw [Around.under_plainId plain_len _]
    exact wpAny_mono (len_body (Q := fun r s' => r = .int es.size (s.toks + 1) ∧ Q ((es.size : Int) != 0) s') hd hm hfit ⟨rfl, h⟩) (fun fin s' h' => by obtain ⟨r, rfl, hq⟩ := h'; exact hq) fun _ _ e => e
  unfold truthy
  refine wpAny_bind (wpAny_callSpecial?_none (name := Str.ofString "__bool__") hm.typeIs noBool_dict ?_)
  refine wpAny_bind (wpAny_specialOf (name := Str.ofString "__len__") hm.typeIs F.slot_dict_len.lookup ?_)
  exact wpAny_bind (wpAny_mono key (fun r s' h' => by obtain ⟨rfl, hq⟩ := h'; exact wpAny_pure hq) fun _ _ e => e)
theorem repK_at : ∀ {kvs : List (NestedKey × D)} {es : List (NestedKey × Addr × V)}, RepK W ow H kvs es → ∀ {i : Nat} {q : NestedKey × Addr × V}, es[i]? = some q → ∃ p, kvs[i]? = some p ∧ p.1 = q.1 ∧ Rep W ow H (ofKey q.1) (.ref q.2.1) ∧ Rep W ow H p.2 q.2.2
  | _, _, .nil, i, q, h => by simp at h
  | _, _, .cons r1 r2 r3 r4, 0, q, h => by simp at h; subst h; exact ⟨_, rfl, rfl, r1, r3⟩
  | _, _, .cons r1 r2 r3 r4, i + 1, q, h => by
    obtain ⟨p, h1, h2⟩ := repK_at r4 (i := i) (q := q) (by simpa using h)
    exact ⟨p, by simpa using h1, h2⟩
theorem dic_tru (hP : X.prog = W.P) (hw : X.w = W.w) (hK : X.K = W.K) : DicTru X W := by
  intro ow H kvs x Q hy q
  obtain ⟨a, o, es, rfl, ha, hsm, hd, hr⟩ := hy
  refine ⟨fun x' H' Q' => x' = .ref a ∧ H' = H ∧ Q' (!kvs.isEmpty) H, ?_, rfl, rfl, q⟩
  rintro pins s σ H' x' v Q' I rx ⟨rfl, rfl, q⟩
  cases rx
  obtain ⟨hg, xs, hp, hm⟩ := dictOf hP hw hK I ha hd hr
  obtain ⟨hz, hx, xs', hp', ds, ep, e1, e2, e3⟩ := hd
  have hl : ds.size = kvs.length := by
    have h1 := congrArg List.length e2
    have h2 := Paired.length hp'
    have h3 := repK_len hr
    simp at h1
    omega
  have hz' : ds.size ≤ sizeLine := by
    have h3 := repK_len hr
    omega
  refine truthy_raw hsm ⟨o, hg, hx, e1⟩ (by have := line63; omega) ?_
  have e : ((ds.size : Int) != 0) = !kvs.isEmpty := by rw [hl]; cases kvs <;> simp <;> omega
  rw [e]
  exact ⟨H', I.kept fun b u e => e, q⟩
/-! ### its keys, one by one -/
theorem paired_get {α β : Type} {r : α → β → Prop} : ∀ {xs : List α} {ys : List β}, Paired r xs ys → ∀ {i : Nat} {x : α}, xs[i]? = some x → ∃ y, ys[i]? = some y ∧ r x y
  | _, _, .nil, i, x, h => by simp at h
  | _, _, .cons a l, 0, x, h => by simp at h; subst h; exact ⟨_, rfl, a⟩
  | _, _, .cons a l, i + 1, x, h => by
    obtain ⟨y, h1, h2⟩ := paired_get l (i := i) (x := x) (by simpa using h)
    exact ⟨y, by simpa using h1, h2⟩
/-- the keys of the dict object o at d -/
def Itq (d : Addr) (o : Obj) (es : List (NestedKey × Addr × V)) : L2.It :=
  ⟨fun i H => H d = some (objAt d o) ∧ i < es.length, fun i H x H' => H' = H ∧ ∃ q, es[i]? = some q ∧ x = .ref q.2.1, fun i H => H d = some (objAt d o) ∧ es.length ≤ i⟩
theorem turn_q {P : Program} {w : World} {K : PySem.W.Frag} {tg : Expr} {d : Addr} {o : Obj} {es : List (NestedKey × Addr × V)} {xs : List (NestedKey × Addr × Value)} {ds : Array DictEntry} {ep : Nat} (it : Addr) (hod : o.data = .dict ds ep) (e2 : ds.toList = xs.map (entryOfKey (nestedKind P w)))
    (hp : Paired (fun (p : NestedKey × Addr × V) (q : NestedKey × Addr × Value) => p.1 = q.1 ∧ p.2.1 = q.2.1 ∧ RelV p.2.2 q.2.2) es xs) : Turn P w K tg (Itq d o es) [it] it (fun i h => h.IsKeyIter it d i es.length ep) where
  mem := by simp
  obj := fun i h st b hb => by
    obtain rfl : b = it := by simpa using hb
    obtain ⟨oi, e, c, dd⟩ := st
    exact ⟨oi, e, fun v z => by rw [dd] at z; cases z⟩
  keep := fun i h h' st k => st.at fun oi e => k it (by simp) oi e
  item := by
    intro X hP hw hK hc i pins s σ H E I hf st hg
    subst hP; subst hw; subst hK
    obtain ⟨hd, hi⟩ := hg
    obtain ⟨f0, f1, f2, f3, f4, f5⟩ := hf it (by simp)
    have hgd : s.heap.get? d = some o := (I.hok d _ hd).1
    have hl := Paired.length hp
    have hsz : ds.size = es.length := by have := congrArg List.length e2; simp at this; omega
    obtain ⟨q, hq⟩ : ∃ q, es[i]? = some q := ⟨es[i], List.getElem?_eq_getElem hi⟩
    obtain ⟨r, hr, h1, h2, h3⟩ := paired_get hp hq
    have hen : ds[i]? = some (entryOfKey (nestedKind X.prog X.w) r) := by rw [← Array.getElem?_toList, e2, List.getElem?_map, hr]; rfl
    refine next_key_item st hgd hod hsz hen fun h' st' sb => ?_
    have I1 : Inv X pins σ H { s with heap := h' } := I.turned (t' := s.toks) (fun b ob hb e => (sb.2 b hb).trans e) f0 f1 f3 f4 f5
    obtain ⟨oi, e, c, dd⟩ := id st'
    exact ⟨.ref r.2.1, rfl, go_of (s := { s with heap := h' }) e c dd (by decide) ⟨.ref q.2.1, H, I1, by rw [h2]; rfl, ⟨rfl, q, hq, rfl⟩, st', fun b hb => (hf b hb).1⟩⟩
  done := by
    intro X hP hw hK hc i pins s σ H E I hf st hg
    subst hP; subst hw; subst hK
    obtain ⟨hd, hi⟩ := hg
    obtain ⟨f0, f1, f2, f3, f4, f5⟩ := hf it (by simp)
    have hgd : s.heap.get? d = some o := (I.hok d _ hd).1
    have hl := Paired.length hp
    have hsz : ds.size = es.length := by have := congrArg List.length e2; simp at this; omega
    exact next_key_end (I.ok.hd hc) st hgd hod hsz hi fun h' eb => ⟨rfl, I.turned (t' := s.toks) (fun b ob hb e => eb b ob hb e) f0 f1 f3 f4 f5⟩
  self := fun A i s Q E st h => wpAny_pyIter_keyiter st h
theorem dic_walk (hP : X.prog = W.P) (hw : X.w = W.w) (hK : X.K = W.K) : DicWalk X W := by
  intro tg e σ H R h pins s I
  refine thn (h pins s I) fun u s1 ⟨x, H1, I1, rx, ow, kvs, hr, q⟩ => ?_
  cases hr with
  | @dic a o es _ ha hsm hfz hd hk =>
    obtain rfl : u = Value.ref a := rx
    obtain ⟨hg, xs0, hp0, hm⟩ := dictOf hP hw hK I1 ha hd hk
    obtain ⟨hz, hx, xs, hp, ds, ep, e1, e2, e3⟩ := hd
    have hl := Paired.length hp
    have hsz : ds.size = es.length := by have := congrArg List.length e2; simp at this; omega
    rw [← hP, ← hw] at e2
    refine iter_keys hsm hg hx e1 (pi_one (tk := s1.toks) I1 _ (turn_q _ e1 e2 hp) ⟨_, Heap.get?_push_size _ rfl, rfl, by rw [hsz]; rfl⟩ (q _ ?_))
    intro ow' H' kp i
    have ha' : H' a = some (objAt a o) := (kp a (by rw [ha]; simp) hfz).1.trans ha
    have hk' := RepK.keep kp hk
    refine ⟨fun d hd => ?_, fun hi => ⟨ha', by rw [← repK_len hk]; simp at hi; omega⟩⟩
    have hlt : i < es.length := by
      have := (List.getElem?_eq_some_iff.mp hd).1
      rw [← repK_len hk]
      simpa using this
    refine ⟨⟨ha', hlt⟩, ?_⟩
    rintro x H'' ⟨rfl, q, hq, rfl⟩
    obtain ⟨p, h1, h2, h3, h4⟩ := repK_at hk' hq
    rw [List.getElem?_map, h1] at hd
    cases hd
    exact ⟨ow', Grow.refl, by show Rep W ow' _ (ofKey p.1) _; rw [h2]; exact h3⟩
/-! ### {}, {k: v}, d[k] = v, d.get(k, x), list(d) -/
theorem dic_new (hP : X.prog = W.P) (hw : X.w = W.w) : DicNew X W := by
  intro pos σ H Q q pins s I
  refine wpAny_Dict_empty ⟨.ref s.heap.objs.size, _, I.laid (a := s.heap.objs.size) (o := objAt s.heap.objs.size dict0) (t' := s.toks) (fun _ _ q => Heap.get?_push_of_some _ q) (Nat.le_refl _) (ext_ok (Heap.get?_push_size _ rfl)), rfl, q _ (I.hok.fresh (Nat.le_refl _)) ?_ (obj0 _ _)⟩
  exact beq_eq_false_iff_ne.mpr (Ne.symm (Nat.ne_of_lt I.big))
theorem dic_one (hP : X.prog = W.P) (hw : X.w = W.w) (hK : X.K = W.K) (hu : X.A.units + 100 < cLine) : DicOne X W := by
  intro ke ve pos σ H Q q pins s I
  have hshape := zip_pairTrees [some ke] [ve] X.env pos rfl rfl
  have hlen : (pairTrees [some ke] [ve] X.env pos).length = 1 := pairTrees_length [some ke] [ve] X.env pos rfl rfl
  rw [arm_eval_Dict, hshape, dictDisplay_pairs _ (by intro z; rw [z] at hlen; cases hlen) (by rw [hlen]; decide)]
  have hn : H s.heap.objs.size = none := I.hok.fresh (Nat.le_refl _)
  have hs : (s.heap.objs.size == sysModules) = false := beq_eq_false_iff_ne.mpr (Ne.symm (Nat.ne_of_lt I.big))
  have I1 : Inv X pins σ (upd H s.heap.objs.size (objAt s.heap.objs.size dict0)) { s with heap := s.heap.push dict0 } := I.laid (a := s.heap.objs.size) (o := objAt s.heap.objs.size dict0) (t' := s.toks) (fun _ _ q => Heap.get?_push_of_some _ q) (Nat.le_refl _) (ext_ok (Heap.get?_push_size _ rfl))
  refine wpAny_bind (wpAny_standAt (wpAny_bind (wpAny_subDictH (knd := nestedKind X.prog X.w) (Q := fun d s' => wpAny (model X.prog X.w) X.A (pure (Value.ref d)) (EP X pins σ Q) X.xe s') (show X.A.units + 8 < cLine by omega) (by rw [hlen]; decide) ?_)))
  refine pairTrees_cons_walk (thn (q _ hn hs pins _ I1) fun u s2 hh => ?_)
  obtain ⟨x, H1, I2, rx, q1⟩ := hh
  refine thn (q1 pins s2 I2) fun uv s3 hh => pairTrees_nil_walk ?_
  obtain ⟨y, H2, I3, ry, hp, ow, ks, k, d, b, rfl, hk, hx, hv, htf, fin⟩ := hh
  obtain rfl : u = Value.ref b := rx
  have hg : s3.heap.get? s.heap.objs.size = some dict0 := (I3.hok _ _ hp).1
  refine ⟨[(.tup k, b, uv)], ⟨rfl, rfl, keyIs hK I3 hx.rd hk, trivial⟩, ⟨dict0, #[], 0, hg, ⟨rfl, rfl, rfl⟩, rfl, rfl, by simp, List.nodup_nil⟩, fun h' tk hm' hs' => wpAny_pure ?_⟩
  obtain ⟨o', ds, ep, g1, g2, g3, g4, g5, g6⟩ := hm'
  have hst : storedAllH ([] : List (NestedKey × Addr × Value)) [(.tup k, b, uv)] = [(.tup k, b, uv)] := by simp [storedAllH, storedH, atKey]
  rw [hst] at g4 g6
  refine ⟨.ref s.heap.objs.size, _, d_write I3 (by rw [hp]; exact True.intro) hs' ⟨o', g1⟩ (ext_ok g1), rfl, fin o' [(.tup k, b, y)] ?_ (.cons (key_repK hk hx) (kOf_ok hk).2 hv .nil)⟩
  exact ⟨by show 1 ≤ sizeLine; rw [sizeLine_eq]; omega, g2, [(.tup k, b, uv)], .cons ⟨rfl, rfl, ry⟩ .nil, ds, ep, g3, by rw [← hP, ← hw]; exact g4, g6⟩
theorem dic_set (hP : X.prog = W.P) (hw : X.w = W.w) (hK : X.K = W.K) (hu : X.A.units + 100 < cLine) : DicSet X W := by
  intro ow H ks kvs k d a b v Q hk hy hx hv hz q pins s σ u I ru
  obtain ⟨a', o, es, e0, ha, hsm, hd, hr⟩ := hy
  cases e0
  obtain ⟨hg, xs, hp, hm⟩ := dictOf hP hw hK I ha hd hr
  have hl1 := Paired.length hp
  have hl2 := repK_len hr
  refine wpAny_setItem_heap (hsz := by omega) (room_in1 hu) (keyIs hK I hx.rd hk) hm fun h' hm' hs => ?_
  obtain ⟨o', ds, ep, g1, g2, g3, g4, g5, g6⟩ := hm'
  have hc : (atKey xs (.tup k)).isSome = hasKey kvs (.tup k) := by
    rw [← (at_some hr hp (k := .tup k)).1, valueAt_pairsH, Option.isSome_map]
  have hst : storedH xs (.tup k) b u = if hasKey kvs (.tup k) then xs.map (putAt (.tup k) u) else xs ++ [(.tup k, b, u)] := by
    unfold storedH
    rw [hc]
  have RK : RepK W ow H (storeK kvs (.tup k) d) (storeE (hasKey kvs (.tup k)) es (.tup k) b v) := by
    unfold storeK storeE
    cases hasKey kvs (.tup k) with
    | true => exact repK_map hv hr
    | false => exact repK_app (key_repK hk hx) (kOf_ok hk).2 hv hr
  have PRs : Paired PR (storeE (hasKey kvs (.tup k)) es (.tup k) b v) (storedH xs (.tup k) b u) := by
    rw [hst]
    unfold storeE
    cases hasKey kvs (.tup k) with
    | true => exact pr_map ru hp
    | false => exact pr_app ⟨rfl, rfl, ru⟩ hp
  have hlen : (storeE (hasKey kvs (.tup k)) es (.tup k) b v).length ≤ sizeLine := by
    unfold storeE
    cases hasKey kvs (.tup k) with
    | true => simp; omega
    | false => simp; omega
  refine ⟨_, d_write I (by rw [ha]; exact True.intro) hs ⟨o', g1⟩ (ext_ok g1), q o' _ hsm ?_ RK⟩
  exact ⟨hlen, g2, _, PRs, ds, ep, g3, by rw [← hP, ← hw]; exact g4, g6⟩
theorem dic_go (hP : X.prog = W.P) (hw : X.w = W.w) (hK : X.K = W.K) (hu : X.A.units + 100 < cLine) : DicGo X W := by
  refine ⟨fun pins s σ H ow kvs x I hy => ?_, fun ow H ks kvs k a b x z Q hk hy hx hz q pins s σ u I ru => ?_⟩
  · obtain ⟨a, o, es, rfl, ha, hsm, hd, hr⟩ := hy
    obtain ⟨hg, xs, hp, hm⟩ := dictOf hP hw hK I ha hd hr
    refine ⟨a, rfl, hm.typeIs, fun b e => ?_⟩
    cases e
    exact ⟨o, hg, hd.2.1.2.1⟩
  · obtain ⟨a', o, es, e0, ha, hsm, hd, hr⟩ := hy
    cases e0
    obtain ⟨hg, xs, hp, hm⟩ := dictOf hP hw hK I ha hd hr
    refine getOr_keyed (room_in1 hu) (keyIs hK I hx.rd hk) hsm ⟨xs, hm, rfl⟩ ?_
    cases e : valK kvs (.tup k) with
    | some d =>
      obtain ⟨v, w, q1, q2, q3⟩ := (at_some hr hp (k := .tup k)).2 d e
      rw [q3]
      exact ⟨v, H, I.kept fun b u e => e, q2, q v (by rw [e]; exact q1)⟩
    | none =>
      have hn : hasKey kvs (.tup k) = false := by
        unfold valK at e
        simp only [Option.map_eq_none_iff, List.find?_eq_none] at e
        unfold hasKey
        rw [List.any_eq_false]
        exact fun p hp => by simpa using e p hp
      have h1 := (at_some hr hp (k := .tup k)).1
      rw [hn] at h1
      rw [Option.isSome_eq_false_iff, Option.isNone_iff_eq_none] at h1
      rw [h1]
      exact ⟨z, H, I.kept fun b u e => e, ru, q z (by rw [e]; exact hz)⟩
theorem rep_keys : ∀ {kvs : List (NestedKey × D)} {es : List (NestedKey × Addr × V)}, RepK W ow H kvs es → RepL W ow H (kvs.map fun p => ofKey p.1) (es.map fun q => V.ref q.2.1)
  | _, _, .nil => .nil
  | _, _, .cons r1 r2 r3 r4 => .cons r1 (rep_keys r4)
theorem vals_keys {P : Program} {w : World} : ∀ {es : List (NestedKey × Addr × V)} {xs : List (NestedKey × Addr × Value)}, Paired PR es xs → Vals (es.map fun q => V.ref q.2.1) (xs.map fun x => (entryOfKey (nestedKind P w) x).key)
  | _, _, .nil => .nil
  | _, _, .cons h l => .cons (by dsimp only; rw [h.2.1]; rfl) (vals_keys l)
theorem dic_len (hP : X.prog = W.P) (hw : X.w = W.w) (hK : X.K = W.K) : DicLen X W := by
  intro ow H kvs x Q hy q
  obtain ⟨a, o, es, rfl, ha, hsm, hd, hr⟩ := hy
  refine ⟨fun xs H' Q' => xs = [.ref a] ∧ H' = H ∧ Q' (.int ((kvs.length : Nat) : Int)) H, ?_, rfl, rfl, q⟩
  rintro pins s σ H' xs us Q' I rs ⟨rfl, rfl, q⟩
  obtain ⟨u, rfl, rx⟩ := vals1 rs
  cases rx
  obtain ⟨hg, xs, hp, hm⟩ := dictOf hP hw hK I ha hd hr
  have h2 := Paired.length hp
  have h3 := repK_len hr
  have hz := hd.1
  have hl : xs.length = kvs.length := by omega
  refine call_len_dictH hsm hm (by have := line63; omega) ?_
  rw [hl]
  exact ⟨.int ((kvs.length : Nat) : Int), H', I.tok _, ⟨_, rfl⟩, q⟩
theorem dic_lst0 (hP : X.prog = W.P) (hw : X.w = W.w) (hK : X.K = W.K) (hc : X.calm = true) : DicLst0 X W := by
  intro ow H kvs x Q hy q
  obtain ⟨a, o, es, rfl, ha, hsm, hd, hr⟩ := hy
  refine ⟨fun xs H' Q' => xs = [.ref a] ∧ H' = H ∧ ∀ p us, H p = none → RepL W ow H (kvs.map fun p => ofKey p.1) us → Q' (.ref p) (upd H p (.lst us)), ?_, rfl, rfl, q⟩
  rintro pins s σ H' xs us Q' I rs ⟨rfl, rfl, q⟩
  obtain ⟨u, rfl, rx⟩ := vals1 rs
  cases rx
  obtain ⟨hz, hx, ys, hp, ds, ep, e1, e2, e3⟩ := hd
  have hg : s.heap.get? a = some o := (I.hok a _ ha).1
  have hl1 := Paired.length hp
  have hsz : ds.size = es.length := by have := congrArg List.length e2; simp at this; omega
  refine PySem.W.kdl_call (KdlSrc.rawDict (prog := X.prog) (w := X.w) hsm) (I.ok.hd hc) ⟨o, hg, hx, e1⟩ (by omega) fun h' tk acc' c' kp e hit => ?_
  have hacc : acc'.toList = ys.map fun x => (entryOfKey (nestedKind W.P W.w) x).key := by
    refine List.ext_getElem? fun j => ?_
    rw [List.getElem?_map]
    cases ej : acc'.toList[j]? with
    | none =>
      have : acc'.size ≤ j := by simpa using ej
      have h1 := hit.1
      have : ys[j]? = none := List.getElem?_eq_none (by omega)
      rw [this]; rfl
    | some w' =>
      have ej' : acc'[j]? = some w' := by rw [← Array.getElem?_toList]; exact ej
      obtain ⟨hj, rfl⟩ := hit.2 j w' ej'
      have hd' : ds.toList[j]? = some ds[j] := by rw [Array.getElem?_toList]; exact Array.getElem?_eq_getElem hj
      rw [e2, List.getElem?_map] at hd'
      cases ey : ys[j]? with
      | none => rw [ey] at hd'; cases hd'
      | some y =>
        rw [ey] at hd'
        simp only [Option.map_some, Option.some.injEq] at hd' ⊢
        rw [hd']
  refine ⟨.ref s.heap.objs.size, _, I.laid (t' := tk) kp (Nat.le_refl _) (show ObjOk X.prog X.w _ h' _ (.lst (es.map fun q => V.ref q.2.1)) from ⟨by simp; omega, acc'.toList, c', ?_, by simpa using e⟩), rfl, q _ _ (I.hok.fresh (Nat.le_refl _)) (rep_keys hr)⟩
  rw [hacc]
  exact vals_keys hp
end
theorem dicAll (W : Wd) : DicAll W := fun X hP hw hK hc hu => ⟨⟨dic_in hP hw hK hu, dic_eq0 hP hw hK hu⟩, dic_tru hP hw hK, dic_get hP hw hK hu, dic_walk hP hw hK, ⟨dic_lst0 hP hw hK hc, dic_len hP hw hK⟩, dic_new hP hw, dic_one hP hw hK hu, dic_set hP hw hK hu, dic_go hP hw hK hu⟩
end Ev

/-! EvR: a law put together: what is looked at behind the top; every def keeps its promise. -/
namespace Ev
open PySem PySem.Spec PyProof.Rows L2

/-! ### binding of plain parameters -/
/-! ### where things stand -/
inductive Pl where
  | fn (x : Str) | me (c m : Str) | gt (c p : Str)
  deriving DecidableEq
def Pl.nm : Pl → Str
  | .fn x => x
  | .me c m => c ++ "." ++ m
  | .gt c p => c ++ "." ++ p
def getterAt (K : PySem.W.Frag) (a : Addr) : Addr := match PySem.W.recIn K a "property" with
  | some (.ref g :: _) => g
  | _ => 0
def Pl.ad (K : PySem.W.Frag) : Pl → Addr
  | .fn x => He.ga K x
  | .me c m => He.ma K (He.ga K c) m
  | .gt c p => getterAt K (He.ma K (He.ga K c) p)
/-- a constant of the module -/
inductive CV where
  | int (i : Int) | tup (xs : List Str)
def CV.d : CV → D
  | .int i => .int i
  | .tup xs => .tup (xs.map .str)
def CV.ok (K : PySem.W.Frag) (x : Str) : CV → Bool
  | .int i => (He.Fa.int x i).ok K
  | .tup xs => (He.Fa.glo x).ok K && He.tupB K x (xs.map .str)
structure Dfn where
  pl : Pl
  f : Fn
  d : He.DefD
/-- a law's text, as it is told -/
structure Lw where
  ds : List Dfn
  mix : He.DefD
  nxt : He.DefD
  own : List Str
  M : MC
  con : List (Str × CV)
  inis : List (Str × List Str × He.DefD) := []
def Lw.Γ (L : Lw) : List Fn := L.ds.map (·.f)
def Lw.gl (L : Lw) (x : Str) : Option D := (L.con.lookup x).map CV.d
def prL : Prims := fun f => if f = "_law_mix" then some pMix else if f = "_law_next" then some pNext else none
def Lw.pls (L : Lw) : List Pl := .fn "_law_mix" :: .fn "_law_next" :: L.ds.map (·.pl)
def Lw.adr (L : Lw) (K : PySem.W.Frag) (f : Str) : Addr := match L.pls.find? fun p => p.nm == f with
  | some p => p.ad K
  | none => 0
/-- the defs that are looked at -/
def Lw.dl (L : Lw) : List (Pl × He.DefD) := (.fn "_law_mix", L.mix) :: (.fn "_law_next", L.nxt) :: ((L.ds.map fun x => (x.pl, x.d)) ++ L.inis.map fun x => (.me x.1 "__init__", x.2.2))
def Lw.wd (L : Lw) (P : Program) (w : World) (K : PySem.W.Frag) : Wd := ⟨P, w, K, He.ga K, L.own⟩
def hasF (L : Lw) (f : Str) : Bool := (prL f).isSome || (findFn L.Γ f).isSome

/-! ### a def, looked at -/
def seenW (K : PySem.W.Frag) (a : Addr) : He.FnW := match K.lookup a with
  | some ob => (match ob.data with
    | .func fd => some (fd.name, fd.qualname, fd.params, fd.body, fd.scope, fd.globals, fd.closure, fd.builtins)
    | _ => none)
  | none => none
def seenB (K : PySem.W.Frag) (d : He.DefD) (a : Addr) : Bool := match K.lookup a with
  | some ob => (match ob.data with
    | .func fd => PySem.W.keepIn K (.ref a) && PySem.W.codeIn K fd.code d.qual && He.dflB K fd.defaults (d.dvs K) && He.kwdB K fd.kwdefaults (d.kws K)
    | _ => false)
  | none => false
theorem seen_ok {K : PySem.W.Frag} {d : He.DefD} {a : Addr} (e : seenW K a = d.val) (c : seenB K d a = true) : ∃ fd, FunD K d.name d.qual d.params d.body d.scope (d.dvs K) (d.kws K) a fd := by
  unfold seenW at e
  unfold seenB at c
  cases hk : K.lookup a with
  | none => rw [hk] at c; simp at c
  | some ob =>
    rw [hk] at e c
    simp only at e c
    obtain ⟨c1, c2, c3, c4⟩ := ob
    cases c3 with
    | func fd =>
      simp only [Bool.and_eq_true] at e c
      obtain ⟨⟨⟨q1, q2⟩, q3⟩, q4⟩ := c
      obtain ⟨g1, g2, g3, g4, g5, g6, g7, g8, g9, g10, g11, g12, g13, g14, g15⟩ := fd
      simp only [He.DefD.val, Option.some.injEq, Prod.mk.injEq] at e
      obtain ⟨z1, z2, z3, z4, z5, z6, z7, z8⟩ := e
      subst z1 z2 z3 z4 z5 z6 z7 z8
      exact ⟨_, ⟨c1, c2, g8, g9, g10, g11, g12, g13, g14, c4, rfl, hk, q2, He.dflB_ok q3, He.kwdB_ok q4⟩, q1⟩
    | _ => simp at c

/-! ### the facts of the written part, as one Bool -/
def tyReps (own : List Str) : List D := [.non, .bl true, .int 0, .str "", .tup [], .lst []] ++ own.map (.ins · [])
def tyK (K : PySem.W.Frag) : D → Value
  | .ins c _ => .ref (He.ga K c)
  | .non => .type "NoneType"
  | .bl _ => .type "bool"
  | .int _ => .type "int"
  | .str _ => .type "str"
  | .tup _ => .type "tuple"
  | .lst _ => .type "list"
  | .dic _ => .type "dict"
def clsB (K : PySem.W.Frag) (c : Str) : Bool := (He.Fa.glo c).ok K && (He.Fa.cls c).ok K && He.eqO (PySem.W.findIn K (.ref (He.ga K c)) "__class__") (some (some (.builtin "object.__class__"))) &&
  decide (PySem.W.specialIn K (.builtin "object.__class__") "__get__" = some (some (.builtin "getset_descriptor.__get__"))) && decide (PySem.W.takesIn K (.builtin "object.__class__") = some true) && decide (PySem.W.mroIn K (He.ga K c) (.type "object") = some true) &&
  decide (PySem.W.kitOne K (.ref (He.ga K c)) (.ref (He.ga K c)) = some true)
def propB (K : PySem.W.Frag) (c p : Str) : Bool := He.eqO (PySem.W.findIn K (.ref (He.ga K c)) p) (some (some (.ref (He.ma K (He.ga K c) p)))) &&
  decide (PySem.W.specialIn K (.ref (He.ma K (He.ga K c) p)) "__get__" = some (some (.builtin "property.__get__"))) && decide (PySem.W.takesIn K (.ref (He.ma K (He.ga K c) p)) = some true) &&
  (match PySem.W.recIn K (He.ma K (He.ga K c) p) "property" with
  | some (.ref _ :: _) => true
  | _ => false)
def eqB (L : Lw) (K : PySem.W.Frag) (c : Str) : Bool := (!hasF L (c ++ ".__eq__")) || (He.eqO (PySem.W.findIn K (.ref (He.ga K c)) "__eq__") (some (some (.ref (He.ma K (He.ga K c) "__eq__")))) && PySem.W.isFn K (.ref (He.ma K (He.ga K c) "__eq__")) && (tyReps L.own).all fun d => PySem.W.notFirst K (He.ga K c) (tyK K d))
def excB (K : PySem.W.Frag) (c : Str) : Bool := (He.Fa.glo c).ok K && PySem.W.excIn K (He.ga K c) [.type "ValueError", .type "Exception", .type "BaseException", .type "object"] "ValueError.__new__" && PySem.W.keepIn K (.ref (He.ga K c)) && decide (PySem.W.subIn K (.ref (He.ga K c)) (.type "BaseException") = some true) && decide (PySem.W.typeIn K (.ref (He.ga K c)) = some (.type "type"))
/-- an exception class with an __init__ -/
def exiB (K : PySem.W.Frag) (q : Str × List Str) : Bool := (He.Fa.glo q.1).ok K && oexB K (He.ga K q.1) && xfB K (He.ga K q.1) && (q.2.all fun f => decide (PySem.W.findIn K (.ref (He.ga K q.1)) f = some none)) &&
  decide (PySem.W.findIn K (.ref (He.ga K q.1)) "__init__" = some (some (.ref (He.ma K (He.ga K q.1) "__init__")))) && decide (PySem.W.typeIn K (.ref (He.ma K (He.ga K q.1) "__init__")) = some (.type "function"))
def exmB (K : PySem.W.Frag) (M : MC) : Bool := (M.allx.all fun c => M.allx.all fun c' => decide (PySem.W.exmOne K (.ref (He.ga K c)) (.ref (He.ga K c')) = some (decide (c = c')))) && (match M.base with
  | some h => (He.Fa.glo h).ok K && M.allx.all fun c => decide (PySem.W.exmOne K (.ref (He.ga K c)) (.ref (He.ga K h)) = some true)
  | none => true) && (M.allx.all fun c => excCB K (He.ga K c))
/-- the text of such an __init__ -/
def scpB (N : List Str) (sc : Scope) : Bool := (sc.kind == .function) && !sc.isCoroutine && !sc.isGenerator && decide N.Nodup && (N.all fun x => sc.names.lookup x == some .local) && (sc.names.all fun y => y.2 != .free) && N.all nmOk
def iniB (fs : List Str) (d : He.DefD) : Bool := d.dfl.isEmpty && d.kwd.isEmpty && (match fs, d.body with
  | [f1], [.Assign [.Attribute (.Name sf _) g1 _] (.Name x1 _) _] => decide (g1 = f1) && scpB [sf, x1] d.scope && simpPs d.params [sf, x1]
  | [f1, f2], [.Assign [.Attribute (.Name sf _) g1 _] (.Name x1 _) _, .Assign [.Attribute (.Name s2 _) g2 _] (.Name x2 _) _] => decide (g1 = f1) && decide (g2 = f2) && decide (s2 = sf) && scpB [sf, x1, x2] d.scope && simpPs d.params [sf, x1, x2]
  | _, _ => false)
theorem scpB_ok {N : List Str} {sc : Scope} (h : scpB N sc = true) : FnScope N N sc ∧ (∀ x ∈ N, sc.names.lookup x = some .local) ∧ ∀ x ∈ N, nmOk x = true := by
  unfold scpB at h
  simp only [Bool.and_eq_true, beq_iff_eq, Bool.not_eq_true', decide_eq_true_eq, List.all_eq_true, bne_iff_ne] at h
  obtain ⟨⟨⟨⟨⟨⟨h1, h2⟩, h3⟩, h4⟩, h5⟩, h6⟩, h7⟩ := h
  exact ⟨⟨h1, h2, h3, h4, List.take_length, fun x hx => .inl (h5 x hx), h6⟩, h5, h7⟩
theorem ini_fn {W : Wd} {mg : Str → Option Value} {base : Heap} {f : Addr} {fd : FuncData} {C : Addr} {fs : List Str} {d : He.DefD} (h : iniB fs d = true) (F : FunD W.K d.name d.qual d.params d.body d.scope (d.dvs W.K) (d.kws W.K) f fd)
    (T : OexC W.K C) (no : ∀ f ∈ fs, PySem.W.findIn W.K (.ref C) f = some none) : ∃ ps, Binds W.K fd ps [] ∧ FnOk W.P W.w W.K mg base (L2.CX W.P W.w) 1 f fd ps (spIni C fs) := by
  unfold iniB at h
  simp only [Bool.and_eq_true, List.isEmpty_iff] at h
  obtain ⟨⟨h1, h2⟩, h3⟩ := h
  obtain ⟨nm, dn, dq, dp, db, dsc, dd, dk⟩ := d
  simp only at h1 h2 h3
  subst h1 h2
  simp only [He.DefD.dvs, He.DefD.kws, List.map_nil] at F
  split at h3
  · next f1 sf _ g1 _ x1 _ _ =>
    simp only [Bool.and_eq_true, decide_eq_true_eq] at h3
    obtain ⟨⟨rfl, h4⟩, h5⟩ := h3
    obtain ⟨S, l, n⟩ := scpB_ok h4
    exact ⟨_, F.bindsN (bind_simp h5), ini1_ok F S (l _ (by simp)) (l _ (by simp)) (n _ (by simp)) (n _ (by simp)) T (no _ (by simp))⟩
  · next f1 f2 sf _ g1 _ x1 _ _ s2 _ g2 _ x2 _ _ =>
    simp only [Bool.and_eq_true, decide_eq_true_eq] at h3
    obtain ⟨⟨⟨⟨rfl, rfl⟩, rfl⟩, h4⟩, h5⟩ := h3
    obtain ⟨S, l, n⟩ := scpB_ok h4
    exact ⟨_, F.bindsN (bind_simp h5), ini2_ok F S (l _ (by simp)) (l _ (by simp)) (l _ (by simp)) (n _ (by simp)) (n _ (by simp)) (n _ (by simp)) T (no _ (by simp)) (no _ (by simp))⟩
  · cases h3
def Lw.chk0 (L : Lw) (K : PySem.W.Frag) : Bool :=
  (freeNames.all fun x => (He.Fa.free x).ok K) && (L.M.fns.all fun f => (He.Fa.glo f).ok K) && (L.con.all fun q => q.2.ok K q.1) && (L.own.all fun c => clsB K c) &&
  (biCls.all fun c => (tyReps L.own).all fun d => decide (PySem.W.kitOne K (tyK K d) (.type c.2) = some (isiD c.1 d))) &&
  (L.own.all fun c => (tyReps L.own).all fun d => decide (PySem.W.kitOne K (tyK K d) (.ref (He.ga K c)) = some (isiD c d))) &&
  (L.M.flds.all fun q => (He.Fa.noat q.1 q.2).ok K) && (L.M.props.all fun q => propB K q.1 q.2) && (L.M.made.all fun c => (He.Fa.mkr c).ok K) && (L.own.all fun c => eqB L K c) &&
  (L.M.excs.all fun c => excB K c) && (L.M.exi.all fun q => exiB K q) && exmB K L.M
/-- a method -/
def metB (K : PySem.W.Frag) (c m : Str) : Bool := He.eqO (PySem.W.findIn K (.ref (He.ga K c)) m) (some (some (.ref (He.ma K (He.ga K c) m)))) && PySem.W.isFn K (.ref (He.ma K (He.ga K c) m)) && PySem.W.keepIn K (.ref (He.ma K (He.ga K c) m))
def Lw.chkK (L : Lw) (K : PySem.W.Frag) : Bool := (L.M.mets.all fun q => metB K q.1 q.2) && (L.M.lens.all fun c => metB K c "__len__")
def Lw.chk (L : Lw) (K : PySem.W.Frag) : Bool := L.chk0 K && L.chkK K
/-- what is told by the text alone -/
def Lw.stat0 (L : Lw) : Bool :=
  (L.pls.all fun p => decide (L.pls.find? (fun q => q.nm == p.nm) = some p)) && (L.ds.all fun x => (x.pl.nm == x.f.name) && fnBB L.own L.M x.f x.d && bindB (L.M.kwd.lookup x.f.name) x.d.params x.f.ps) &&
  (L.M.fns.all fun f => hasF L f && L.pls.contains (.fn f)) && (L.M.cons.all fun x => (L.con.lookup x).isSome) &&
  (L.M.flds.all fun q => L.own.contains q.1) && (L.M.props.all fun q => L.own.contains q.1 && hasF L (q.1 ++ "." ++ q.2) && L.pls.contains (.gt q.1 q.2)) &&
  (L.M.made.all fun c => L.own.contains c && hasF L (c ++ ".__init__") && L.pls.contains (.me c "__init__") && decide (c ++ "." ++ "__init__" = c ++ ".__init__")) &&
  (L.own.all fun c => !hasF L (c ++ ".__eq__") || (L.pls.contains (.me c "__eq__") && decide (c ++ "." ++ "__eq__" = c ++ ".__eq__"))) &&
  L.mix.dfl.isEmpty && L.mix.kwd.isEmpty && L.nxt.dfl.isEmpty && L.nxt.kwd.isEmpty && simpPs L.mix.params ["_law_script", "_law_seed"] && simpPs L.nxt.params ["_law_h", "_law_bound"] &&
  (L.inis.all fun x => iniB x.2.1 x.2.2) && decide (L.M.exi = L.inis.map fun x => (x.1, x.2.1)) &&
  L.pls.contains (.fn "law") && hasF L "law" && L.M.fns.contains "law" && (match L.ds.find? (fun x => x.f.name == ("law" : Str)) with
  | some x => decide (x.f.ps = (["_law_script"] : List Str))
  | none => false)
def Lw.statK (L : Lw) : Bool := (L.M.fns.all fun f => (L.M.kwd.lookup f).isNone) && (L.M.props.all fun q => (L.M.kwd.lookup (q.1 ++ "." ++ q.2)).isNone) && (L.M.made.all fun c => (L.M.kwd.lookup (c ++ ".__init__")).isNone) && (L.own.all fun c => (L.M.kwd.lookup (c ++ ".__eq__")).isNone) &&
  (L.M.lens.all fun c => (L.M.kwd.lookup (c ++ ".__len__")).isNone && L.own.contains c && hasF L (c ++ ".__len__") && L.pls.contains (.me c "__len__") && decide (c ++ "." ++ "__len__" = c ++ ".__len__")) &&
  (L.M.mets.all fun q => L.own.contains q.1 && hasF L (q.1 ++ "." ++ q.2) && L.pls.contains (.me q.1 q.2)) && (L.M.kwd.lookup ("_law_mix" : Str)).isNone && (L.M.kwd.lookup ("_law_next" : Str)).isNone
def Lw.stat (L : Lw) : Bool := L.stat0 && L.statK
theorem stat0_of {L : Lw} (h : L.stat = true) : L.stat0 = true := (Bool.and_eq_true_iff.mp h).1

section
variable {L : Lw} {P : Program} {w : World} {K : PySem.W.Frag}
theorem adr_pl (hs : L.stat = true) {p : Pl} (h : p ∈ L.pls) : L.adr K p.nm = p.ad K := by
  have hs := stat0_of hs
  unfold Lw.stat0 at hs
  simp only [Bool.and_eq_true] at hs
  have h1 := hs.1.1.1.1.1.1.1.1.1.1.1.1.1.1.1.1.1.1.1
  have h2 := List.all_eq_true.mp h1 p h
  have h3 := of_decide_eq_true h2
  unfold Lw.adr
  rw [h3]
theorem tyK_ty {d : D} (h : isDic d = false) (hi : ∀ k fs, d = .ins k fs → k ∈ L.own) : ∃ r ∈ tyReps L.own, tyV (L.wd P w K) d = tyK K r ∧ ∀ c, isiD c d = isiD c r := by
  unfold tyReps
  cases d with
  | non => exact ⟨.non, by simp, rfl, fun _ => rfl⟩
  | bl b => exact ⟨.bl true, by simp, rfl, fun _ => rfl⟩
  | int b => exact ⟨.int 0, by simp, rfl, fun _ => rfl⟩
  | str b => exact ⟨.str "", by simp, rfl, fun _ => rfl⟩
  | tup b => exact ⟨.tup [], by simp, rfl, fun _ => rfl⟩
  | lst b => exact ⟨.lst [], by simp, rfl, fun _ => rfl⟩
  | dic b => simp [isDic] at h
  | ins c fs => exact ⟨.ins c [], by simp [hi c fs rfl], rfl, fun _ => rfl⟩
theorem repStrs {W : Wd} {ow : Ow} {H : Hp} : ∀ {xs : List Str}, RepL W ow H (xs.map .str) (xs.map V.str)
  | [] => .nil
  | x :: xs => .cons (.str x) repStrs
theorem lookup_in {α : Type} : ∀ {l : List (Str × α)} {x : Str} {c : α}, l.lookup x = some c → (x, c) ∈ l
  | [], x, c, h => by cases h
  | (y, d) :: r, x, c, h => by
    rw [List.lookup_cons] at h
    split at h
    · next e => rw [eq_of_beq e]; cases h; exact List.mem_cons_self
    · exact List.mem_cons_of_mem _ (lookup_in h)
theorem con_ok {mg : Str → Option Value} {h : Heap} (X : K.In h) (G : h.Ns mainGlobals mg) {x : Str} {c : CV} (e : c.ok K x = true) : ∃ v u, mg x = some u ∧ RelV v u ∧ ∀ ow H, Rep (L.wd P w K) ow H c.d v := by
  cases c with
  | int i =>
    obtain ⟨t, ht⟩ := He.int_ok X G e
    exact ⟨.int i, _, ht, ⟨t, rfl⟩, fun ow H => .int i⟩
  | tup xs =>
    obtain ⟨e1, e2⟩ := He.ba (show ((He.Fa.glo x).ok K && He.tupB K x (xs.map .str)) = true from e)
    refine ⟨.ref (He.ga K x), _, He.glo_ok X G e1, rfl, fun ow H => ?_⟩
    have q := He.tupB_ok e2 noH
    refine .tup (vs := xs.map .str) (.inr ?_) ?_
    · have ev : (xs.map He.Dv.str).map (He.Dv.v K) = xs.map V.str := by simp [List.map_map, Function.comp_def, He.Dv.v]
      rw [ev] at q
      exact q
    · exact repStrs
/-- the defs looked at -/
def DefsOk (L : Lw) (K : PySem.W.Frag) : Prop := ∀ p ∈ L.dl, ∃ fd, FunD K p.2.name p.2.qual p.2.params p.2.body p.2.scope (p.2.dvs K) (p.2.kws K) (p.1.ad K) fd
theorem pf_of {mg : Str → Option Value} {h : Heap} (X : K.In h) (G : h.Ns mainGlobals mg) (hs : L.stat = true) (hc : L.chk K = true) (hd : DefsOk L K) : PF (L.wd P w K) L.M L.gl mg (L.adr K) L.Γ prL := by
  have hs0 := hs
  have hs := stat0_of hs
  unfold Lw.stat0 at hs
  simp only [Bool.and_eq_true, List.all_eq_true, List.contains_iff_mem, decide_eq_true_eq, Bool.or_eq_true, Bool.not_eq_true'] at hs
  obtain ⟨⟨⟨⟨⟨⟨⟨⟨⟨⟨⟨⟨⟨⟨⟨⟨⟨⟨⟨s1, s2⟩, s3⟩, s4⟩, s5⟩, s6⟩, s7⟩, s8⟩, s9⟩, s10⟩, s11⟩, s12⟩, s13⟩, s14⟩, t1⟩, t2⟩, s15⟩, s16⟩, s17⟩, s18⟩ := hs
  obtain ⟨hc, hcK⟩ := Bool.and_eq_true_iff.mp hc
  have hsK := (Bool.and_eq_true_iff.mp hs0).2
  unfold Lw.statK at hsK
  simp only [Bool.and_eq_true, List.all_eq_true, List.contains_iff_mem, decide_eq_true_eq, Option.isNone_iff_eq_none] at hsK
  obtain ⟨⟨⟨⟨⟨⟨⟨u1, u2⟩, u3⟩, u4⟩, u5⟩, u6⟩, u7⟩, u8⟩ := hsK
  unfold Lw.chkK metB at hcK
  simp only [Bool.and_eq_true, List.all_eq_true] at hcK
  obtain ⟨w1, w2⟩ := hcK
  unfold Lw.chk0 at hc
  simp only [Bool.and_eq_true, List.all_eq_true] at hc
  obtain ⟨⟨⟨⟨⟨⟨⟨⟨⟨⟨⟨⟨c1, c2⟩, c3⟩, c4⟩, c5⟩, c6⟩, c7⟩, c8⟩, c9⟩, c10⟩, c11⟩, c12⟩, c13⟩ := hc
  have hF : ∀ {f : Str}, hasF L f = true → ((prL f).isSome = true ∨ (findFn L.Γ f).isSome = true) := fun h => by
    unfold hasF at h
    simpa using h
  exact {
    free := fun x hx => He.free_ok X G (c1 x hx)
    fn := fun f hf => by
      refine ⟨?_, hF (s3 f hf).1⟩
      have e := He.glo_ok X G (c2 f hf)
      rw [e]
      have e2 : L.adr K (Pl.fn f).nm = (Pl.fn f).ad K := adr_pl hs0 (s3 f hf).2
      rw [show L.adr K f = He.ga K f from e2]
    con := fun x hx => by
      have e := s4 x hx
      cases q : L.con.lookup x with
      | none => rw [q] at e; cases e
      | some c =>
        have hm : (x, c) ∈ L.con := lookup_in q
        obtain ⟨v, u, h1, h2, h3⟩ := con_ok (L := L) (P := P) (w := w) X G (c3 _ hm)
        exact ⟨c.d, v, u, by unfold Lw.gl; rw [q]; rfl, h1, h2, h3⟩
    cls := fun c hcm => by
      have q := c4 c hcm
      unfold clsB at q
      simp only [Bool.and_eq_true, decide_eq_true_eq] at q
      obtain ⟨⟨⟨⟨⟨⟨q1, q2⟩, q3⟩, q4⟩, q5⟩, q6⟩, q7⟩ := q
      exact ⟨He.glo_ok X G q1, He.cls_ok q2, He.eqO_ok q3, q4, q5, q6, q7⟩
    kit := fun c hcm d hd hi => by
      obtain ⟨r, hr, e1, e2⟩ := tyK_ty (P := P) (w := w) (K := K) hd hi
      rw [e1, e2]
      exact of_decide_eq_true (c5 c hcm r hr)
    kitO := fun c hcm d hd hi => by
      obtain ⟨r, hr, e1, e2⟩ := tyK_ty (P := P) (w := w) (K := K) hd hi
      rw [e1, e2]
      exact of_decide_eq_true (c6 c hcm r hr)
    fld := fun q hq => ⟨s5 q hq, He.noat_ok (c7 q hq)⟩
    prop := fun q hq => by
      obtain ⟨⟨h1, h2⟩, h3⟩ := s6 q hq
      refine ⟨h1, ⟨He.ma K (He.ga K q.1) q.2, ?_⟩, hF h2⟩
      have e2 : L.adr K (Pl.gt q.1 q.2).nm = (Pl.gt q.1 q.2).ad K := adr_pl hs0 h3
      have z := c8 q hq
      unfold propB at z
      simp only [Bool.and_eq_true, decide_eq_true_eq] at z
      obtain ⟨⟨⟨z1, z2⟩, z3⟩, z4⟩ := z
      refine ⟨He.eqO_ok z1, z2, z3, ?_⟩
      rw [show L.adr K (q.1 ++ "." ++ q.2) = getterAt K (He.ma K (He.ga K q.1) q.2) from e2]
      unfold getterAt
      split at z4
      · next g rest e => exact ⟨rest, e⟩
      · cases z4
    made := fun c hcm => by
      obtain ⟨⟨⟨h1, h2⟩, h3⟩, h4⟩ := s7 c hcm
      have e2 : L.adr K (Pl.me c "__init__").nm = (Pl.me c "__init__").ad K := adr_pl hs0 h3
      refine ⟨h1, ?_, hF h2⟩
      have e3 : L.adr K (c ++ ".__init__") = He.ma K (He.ga K c) "__init__" := by
        rw [← h4]
        exact e2
      rw [e3]
      exact He.mkr_ok (c9 c hcm)
    eq := fun c hcm => by
      have z := c10 c hcm
      unfold eqB at z
      cases hh : hasF L (c ++ ".__eq__") with
      | false =>
        left
        unfold hasF at hh
        simpa using hh
      | true =>
        right
        rw [hh] at z
        simp only [Bool.not_true, Bool.false_or, Bool.and_eq_true, List.all_eq_true] at z
        obtain ⟨⟨z1, z2⟩, z3⟩ := z
        rcases s8 c hcm with q | ⟨q1, q2⟩
        · rw [hh] at q; cases q
        have e2 : L.adr K (Pl.me c "__eq__").nm = (Pl.me c "__eq__").ad K := adr_pl hs0 q1
        have e3 : L.adr K (c ++ ".__eq__") = He.ma K (He.ga K c) "__eq__" := by
          rw [← q2]
          exact e2
        rw [e3]
        refine ⟨hF hh, He.eqO_ok z1, z2, fun d hd hi => ?_⟩
        obtain ⟨r, hr, e1, _⟩ := tyK_ty (P := P) (w := w) (K := K) hd hi
        rw [e1]
        exact z3 r hr
    dic := dicAll _
    exc := fun c hcm => by
      have q := c11 c hcm
      unfold excB at q
      simp only [Bool.and_eq_true, decide_eq_true_eq] at q
      obtain ⟨⟨⟨⟨q1, q2⟩, q3⟩, q4⟩, q5⟩ := q
      exact ⟨He.glo_ok X G q1, ⟨q2, q3, q4, q5⟩⟩
    exi := fun q hq => by
      have z := c12 q hq
      unfold exiB at z
      simp only [Bool.and_eq_true, decide_eq_true_eq, List.all_eq_true] at z
      obtain ⟨⟨⟨⟨⟨z1, z2⟩, z3⟩, z4⟩, z5⟩, z6⟩ := z
      have T := oexB_ok X z2
      rw [t2] at hq
      obtain ⟨x, hx, rfl⟩ := List.mem_map.mp hq
      obtain ⟨fd, F⟩ := hd (.me x.1 "__init__", x.2.2) (List.mem_cons_of_mem _ (List.mem_cons_of_mem _ (List.mem_append_right _ (List.mem_map.mpr ⟨x, hx, rfl⟩))))
      refine ⟨He.glo_ok X G z1, fun base => ⟨T, xfB_ok z3, z4, ?_⟩⟩
      obtain ⟨ps, b1, b2⟩ := ini_fn (W := L.wd P w K) (mg := mg) (base := base) (t1 x hx) F T z4
      exact ⟨_, fd, ps, z5, z6, b1, b2⟩
    exm := fun c hc c' hc' => by
      have z := c13
      unfold exmB at z
      simp only [Bool.and_eq_true, List.all_eq_true, decide_eq_true_eq] at z
      exact z.1.1 c hc c' hc'
    exb := fun h hb => by
      have z := c13
      unfold exmB at z
      simp only [Bool.and_eq_true, List.all_eq_true, decide_eq_true_eq] at z
      have z2 := z.1.2
      rw [hb] at z2
      simp only [Bool.and_eq_true, List.all_eq_true, decide_eq_true_eq] at z2
      exact ⟨He.glo_ok X G z2.1, z2.2⟩
    exC := fun c hc => by
      have z := c13
      unfold exmB at z
      simp only [Bool.and_eq_true, List.all_eq_true, decide_eq_true_eq] at z
      exact excCB_ok (z.2 c hc)
    met := fun q hq => by
      obtain ⟨⟨h1, h2⟩, h3⟩ := u6 q hq
      obtain ⟨⟨z1, z2⟩, z3⟩ := w1 q hq
      have e2 : L.adr K (Pl.me q.1 q.2).nm = (Pl.me q.1 q.2).ad K := adr_pl hs0 h3
      have e3 : L.adr K (q.1 ++ "." ++ q.2) = He.ma K (He.ga K q.1) q.2 := e2
      rw [e3]
      exact ⟨h1, ⟨He.eqO_ok z1, z2, z3⟩, hF h2⟩
    len := fun c hcm => by
      obtain ⟨⟨⟨⟨h0, h1⟩, h2⟩, h3⟩, h4⟩ := u5 c hcm
      obtain ⟨⟨z1, z2⟩, z3⟩ := w2 c hcm
      have e2 : L.adr K (Pl.me c "__len__").nm = (Pl.me c "__len__").ad K := adr_pl hs0 h3
      have e3 : L.adr K (c ++ ".__len__") = He.ma K (He.ga K c) "__len__" := by
        rw [← h4]
        exact e2
      rw [e3]
      exact ⟨h1, He.eqO_ok z1, z2, hF h2⟩
    kfn := u1
    kprop := u2
    kmade := u3
    keq := u4
    klen := fun c hcm => (u5 c hcm).1.1.1.1
    kpr := fun f hf => by
      unfold prL at hf
      split at hf
      · next e => rw [e]; exact u7
      · split at hf
        · next e => rw [e]; exact u8
        · cases hf }
theorem all_keep {mg : Str → Option Value} {h base : Heap} (X : K.In h) (G : h.Ns mainGlobals mg) (hs : L.stat = true) (hc : L.chk K = true) (hd : DefsOk L K)
    (hmix : ∀ (n : Nat) (f : Addr) (fd : FuncData), FunD K L.mix.name L.mix.qual L.mix.params L.mix.body L.mix.scope [] [] f fd → (∀ y ∈ freeNames, mg y = none) → Binds K fd ["_law_script", "_law_seed"] [] → FnAtG (L.wd P w K) mg base (fun _ => pMix) (3 * (n + 1)) f "_law_mix")
    (hnxt : ∀ (n : Nat) (f : Addr) (fd : FuncData), FunD K L.nxt.name L.nxt.qual L.nxt.params L.nxt.body L.nxt.scope [] [] f fd → (∀ y ∈ freeNames, mg y = none) → Binds K fd ["_law_h", "_law_bound"] [] → FnAtG (L.wd P w K) mg base (fun _ => pNext) (3 * (n + 1)) f "_law_next") :
    ∀ (n : Nat) (f : Str), hasF L f = true → FnAtH (L.wd P w K) L.M mg base (callN L.Γ prL L.gl n) (3 * n) (L.adr K f) f := by
  have F := pf_of (P := P) (w := w) X G hs hc hd
  have hs0 := hs
  have hs := stat0_of hs
  unfold Lw.stat0 at hs
  simp only [Bool.and_eq_true, List.all_eq_true, List.contains_iff_mem, decide_eq_true_eq, Bool.or_eq_true, Bool.not_eq_true', List.isEmpty_iff] at hs
  obtain ⟨⟨⟨⟨⟨⟨⟨⟨⟨⟨⟨⟨⟨⟨⟨⟨⟨⟨⟨s1, s2⟩, s3⟩, s4⟩, s5⟩, s6⟩, s7⟩, s8⟩, s9⟩, s10⟩, s11⟩, s12⟩, s13⟩, s14⟩, t1⟩, t2⟩, s15⟩, s16⟩, s17⟩, s18⟩ := hs
  have am : L.adr K "_law_mix" = He.ga K "_law_mix" := adr_pl hs0 (p := .fn "_law_mix") (by simp [Lw.pls])
  have an : L.adr K "_law_next" = He.ga K "_law_next" := adr_pl hs0 (p := .fn "_law_next") (by simp [Lw.pls])
  obtain ⟨fm, Fm⟩ := hd (.fn "_law_mix", L.mix) (by simp [Lw.dl])
  obtain ⟨fn, Fn⟩ := hd (.fn "_law_next", L.nxt) (by simp [Lw.dl])
  simp only [He.DefD.dvs, He.DefD.kws, s9, s10, s11, s12, List.map_nil] at Fm Fn
  have bm : Binds K fm ["_law_script", "_law_seed"] [] := Fm.bindsN (bind_simp s13)
  have bn : Binds K fn ["_law_h", "_law_bound"] [] := Fn.bindsN (bind_simp s14)
  have hpr : ∀ f g, prL f = some g → (f = "_law_mix" ∧ g = pMix) ∨ (f = "_law_next" ∧ g = pNext) := fun f g h => by
    unfold prL at h
    split at h
    · next e => cases h; exact .inl ⟨e, rfl⟩
    · split at h
      · next e => cases h; exact .inr ⟨e, rfl⟩
      · cases h
  have hmem : ∀ f ∈ L.Γ, ∃ x ∈ L.ds, x.f = f := fun f hf => by
    unfold Lw.Γ at hf
    obtain ⟨x, h1, h2⟩ := List.mem_map.mp hf
    exact ⟨x, h1, h2⟩
  have hat : ∀ x ∈ L.ds, L.adr K x.f.name = x.pl.ad K := fun x hx => by
    have e := (s2 x hx).1.1
    rw [← eq_of_beq e]
    exact adr_pl hs0 (by simp [Lw.pls]; exact .inr (.inr ⟨x, hx, rfl⟩))
  have hfd : ∀ x ∈ L.ds, ∃ fd, FunD K x.d.name x.d.qual x.d.params x.d.body x.d.scope (x.d.dvs K) (x.d.kws K) (L.adr K x.f.name) fd := fun x hx => by
    rw [hat x hx]
    exact hd (x.pl, x.d) (List.mem_cons_of_mem _ (List.mem_cons_of_mem _ (List.mem_append_left _ (List.mem_map.mpr ⟨x, hx, rfl⟩))))
  have hB : ∀ x ∈ L.ds, FnB L.own L.M x.f x.d := fun x hx => fnB_of (s2 x hx).1.2 (s2 x hx).2
  intro n f hf
  refine all_ok F ?_ ?_ ?_ n f (by unfold hasF at hf; simpa using hf)
  · intro n f g hg
    rcases hpr f g hg with ⟨rfl, rfl⟩ | ⟨rfl, rfl⟩
    · rw [am]; exact hmix n _ fm Fm F.free bm
    · rw [an]; exact hnxt n _ fn Fn F.free bn
  · intro f hf
    obtain ⟨x, hx, rfl⟩ := hmem f hf
    obtain ⟨fd, D⟩ := hfd x hx
    exact ⟨x.d, fd, hB x hx, D⟩
  · intro f hf
    cases hp : prL f with
    | some g =>
      rcases hpr f g hp with ⟨rfl, rfl⟩ | ⟨rfl, rfl⟩
      · exact ⟨fm, _, by rw [am]; exact Fm.kp, by rw [F.kpr _ (by rw [hp]; rfl)]; exact bm⟩
      · exact ⟨fn, _, by rw [an]; exact Fn.kp, by rw [F.kpr _ (by rw [hp]; rfl)]; exact bn⟩
    | none =>
      rcases hf with hf | hf
      · rw [hp] at hf; cases hf
      · cases e : findFn L.Γ f with
        | none => rw [e] at hf; cases hf
        | some g =>
          have hm : g ∈ L.Γ := List.mem_of_find?_eq_some e
          have hn : g.name = f := by
            have := List.find?_some e
            simpa using this
          subst hn
          obtain ⟨x, hx, rfl⟩ := hmem g hm
          obtain ⟨fd, D⟩ := hfd x hx
          exact ⟨fd, x.f.ps, D.kp, bindF_of (hB x hx) D⟩
/-- the law's own promise at a script -/
theorem law_sp {cl : Calls} {H : Hp} {a : Addr} {ns : List Int} (hS : SqL K H a (ns.map V.int)) (h : ∃ os, cl "law" [.par (.scr ns)] = .ok (.val (.bl true)) os) : spOf (L.wd P w K) cl "law" [.ref a] H (fun v _ => v = .bl true) fun _ _ _ => False := by
  obtain ⟨os, e⟩ := h
  refine ⟨fun _ => .sl 0, [.par (.scr ns)], ⟨⟨a, rfl, ?_⟩, trivial⟩, rfl, fun p _ => .inr (.inr ⟨0, rfl, rfl⟩), ?_⟩
  · rcases hS with r | r
    · exact .inl ⟨r, rfl⟩
    · exact .inr (.inr r)
  · rw [e]
    intro v ow' H' _ q _
    cases (show Rep (L.wd P w K) ow' H' (.bl true) v from q)
    rfl
end

/-! ### the look behind the top -/
abbrev AlL : Type := Bool × List He.FnW
def Lw.obs (L : Lw) (n : Nat) (g : Addr → Option Obj) : AlL := (L.chk (He.frG g (He.asD g n)) && L.dl.all fun p => seenB (He.frG g (He.asD g n)) p.2 (p.1.ad (He.frG g (He.asD g n))), L.dl.map fun p => seenW (He.frG g (He.asD g n)) (p.1.ad (He.frG g (He.asD g n))))
def Lw.vals (L : Lw) : AlL := (true, L.dl.map fun p => p.2.val)
theorem seen_all {L : Lw} {K : PySem.W.Frag} : ∀ {l : List (Pl × He.DefD)}, (l.all fun p => seenB K p.2 (p.1.ad K)) = true → (l.map fun p => seenW K (p.1.ad K)) = l.map (fun p => p.2.val) → ∀ p ∈ l, ∃ fd, FunD K p.2.name p.2.qual p.2.params p.2.body p.2.scope (p.2.dvs K) (p.2.kws K) (p.1.ad K) fd
  | [], _, _, p, hp => by cases hp
  | x :: l, h1, h2, p, hp => by
    simp only [List.all_cons, Bool.and_eq_true] at h1
    simp only [List.map_cons, List.cons.injEq] at h2
    rcases List.mem_cons.mp hp with rfl | hp
    · exact seen_ok h2.1 h1.1
    · exact seen_all (L := L) h1.2 h2.2 p hp
theorem obs_says {L : Lw} {n : Nat} {g : Addr → Option Obj} (e : L.obs n g = L.vals) : L.chk (He.frG g (He.asD g n)) = true ∧ DefsOk L (He.frG g (He.asD g n)) := by
  have e1 := congrArg (fun z : AlL => z.1) e
  have e2 := congrArg (fun z : AlL => z.2) e
  simp only [Lw.obs, Lw.vals, Bool.and_eq_true] at e1 e2
  exact ⟨e1.1, seen_all (L := L) e1.2 e2⟩
def Lw.hook (L : Lw) (n : Nat) : PySem.W.Hook where
  α := AlL
  obs := fun s => L.obs n s.heap.get?
  val := fun _ => L.vals
  says := fun _ h => ∃ K : PySem.W.Frag, K.In h ∧ L.chk K = true ∧ DefsOk L K
  of := fun _ s e => ⟨_, He.frG_in, obs_says e⟩
  keeps := fun _ _ _ ⟨K, h1, h2⟩ k => ⟨K, PySem.W.Frag.In.keeps h1 k, h2⟩
def Lw.ob (L : Lw) (n : Nat) (s : PySem.W.SharedT) : AlL := L.obs n (HandSHeadRun.getT s)
theorem Lw.ob_eq (L : Lw) (n : Nat) (s : PySem.W.SharedT) : L.ob n s = (L.hook n).obs s.abs := by
  have e : HandSHeadRun.getT s = s.abs.heap.get? := funext (HandSHeadRun.getT_eq s)
  show L.obs n (HandSHeadRun.getT s) = L.obs n s.abs.heap.get?
  rw [e]
/-- what may be let out, in whatever world -/
def CXw (P : Program) : CXT := fun outer H s E u s' => ∃ w : World, L2.CX P w outer H s E u s'
theorem fnOk_cxw {P : Program} {w : World} {K : PySem.W.Frag} {mg : Str → Option Value} {base : Heap} {k : Nat} {f : Addr} {fd : FuncData} {ps : List Str} {sp : Sp} (F : FnOk P w K mg base (L2.CX P w) k f fd ps sp) : FnOk P w K mg base (CXw P) k f fd ps sp :=
  ⟨F.len, fun A outer s H args us vs Q E hr he hb hv hs => codeAny_mono (F.run A outer s H args us vs Q E hr he hb hv hs) fun r s' q => by
    cases r with
    | error e => exact ⟨w, q⟩
    | ok fl => cases fl <;> exact q⟩
theorem cxw_no {P : Program} (H : Hp) (s : Shared) (e : Value) (s' : Shared) (z : CXw P [] H s (fun _ _ _ => False) e s') : False := by
  obtain ⟨w, a, B, H', cls, d, _, _, _, _, _, _, _, q⟩ := z
  exact q
/-- what the end of the walk asks -/
theorem law_facts {L : Lw} {l : PySem.W.OpenLaw} {N0 : Nat} (hs : L.stat = true)
    (hmix : ∀ (W : Wd) (mg : Str → Option Value) (base : Heap) (n : Nat) (f : Addr) (fd : FuncData), FunD W.K L.mix.name L.mix.qual L.mix.params L.mix.body L.mix.scope [] [] f fd → (∀ y ∈ freeNames, mg y = none) → Binds W.K fd ["_law_script", "_law_seed"] [] → FnAtG W mg base (fun _ => pMix) (3 * (n + 1)) f "_law_mix")
    (hnxt : ∀ (W : Wd) (mg : Str → Option Value) (base : Heap) (n : Nat) (f : Addr) (fd : FuncData), FunD W.K L.nxt.name L.nxt.qual L.nxt.params L.nxt.body L.nxt.scope [] [] f fd → (∀ y ∈ freeNames, mg y = none) → Binds W.K fd ["_law_h", "_law_bound"] [] → FnAtG W mg base (fun _ => pNext) (3 * (n + 1)) f "_law_next")
    (law : ∀ ns : List Int, ns.length ≤ 63 → ∃ os, callN L.Γ prL L.gl (N0 + 1) "law" [.par (.scr ns)] = .ok (.val (.bl true)) os)
    (w : World) (mg : Str → Option Value) (fa : Addr) (h : Heap) (Y : (L.hook 5).says w h) (G : h.Ns mainGlobals mg) (hmg : mg ("law" : Str) = some (.ref fa)) :
    ∃ (K : PySem.W.Frag) (fd : FuncData) (sp : Sp), K.In h ∧ (∀ (s : Shared) (u : Value), BindsTo s fd ⟨[u], []⟩ [("_law_script", u)]) ∧
      (∀ (H : Hp) (a : Addr) (ns : List Int), ns.length ≤ 63 → Only H → SqL K H a (ns.map V.int) → sp [.ref a] H (fun v _ => v = .bl true) fun _ _ _ => False) ∧
      ∀ base : Heap, K.In base → base.Ns mainGlobals mg → FnOk l.prog w K mg base (CXw l.prog) (3 * (N0 + 1)) fa fd ["_law_script"] sp := by
  obtain ⟨K, X, hc, hd⟩ := Y
  have hs0 := hs
  have F := pf_of (P := l.prog) (w := w) X G hs hc hd
  have hs := stat0_of hs
  unfold Lw.stat0 at hs
  simp only [Bool.and_eq_true, List.all_eq_true, List.contains_iff_mem, decide_eq_true_eq, Bool.or_eq_true, Bool.not_eq_true', List.isEmpty_iff] at hs
  obtain ⟨⟨⟨⟨⟨⟨⟨⟨⟨⟨⟨⟨⟨⟨⟨⟨⟨⟨⟨s1, s2⟩, s3⟩, s4⟩, s5⟩, s6⟩, s7⟩, s8⟩, s9⟩, s10⟩, s11⟩, s12⟩, s13⟩, s14⟩, t1⟩, t2⟩, s15⟩, s16⟩, s17⟩, s18⟩ := hs
  split at s18
  case h_2 => cases s18
  next x hx =>
  have hps := of_decide_eq_true s18
  have hxm : x ∈ L.ds := List.mem_of_find?_eq_some hx
  have hxn : x.f.name = "law" := by
    have := List.find?_some hx
    simpa using this
  have hpl : L.adr K "law" = x.pl.ad K := by
    have e := (s2 x hxm).1.1
    rw [← hxn, ← eq_of_beq e]
    exact adr_pl hs0 (by simp [Lw.pls]; exact .inr (.inr ⟨x, hxm, rfl⟩))
  have hfa : fa = L.adr K "law" := by
    have e := (F.fn "law" s17).1
    rw [hmg] at e
    cases e
    rfl
  obtain ⟨fd, D⟩ := hd (x.pl, x.d) (List.mem_cons_of_mem _ (List.mem_cons_of_mem _ (List.mem_append_left _ (List.mem_map.mpr ⟨x, hxm, rfl⟩))))
  have B := fnB_of (s2 x hxm).1.2 (s2 x hxm).2
  obtain ⟨B1, B2⟩ := B.plain (by rw [hxn]; exact F.kfn "law" s17)
  have e1 : x.d.dvs K = [] := by unfold He.DefD.dvs; rw [B.d0]; rfl
  have e2 : x.d.kws K = [] := by unfold He.DefD.kws; rw [B1]; rfl
  have e1' : x.d.dvs (L.wd l.prog w K).K = [] := e1
  have e2' : x.d.kws (L.wd l.prog w K).K = [] := e2
  simp only [e1, e2, ← hpl, ← hfa] at D
  have b := FunD.bindsA (ps := x.f.ps) D (bind_simp B2)
  rw [hps] at b
  refine ⟨K, fd, spOf (L.wd l.prog w K) (callN L.Γ prL L.gl (N0 + 1)) "law", X, fun s u => b s [u] rfl, fun H a ns hl _ hS => law_sp hS (law ns hl), fun base Xb Gb => ?_⟩
  have hf : findFn L.Γ "law" = some x.f := by
    unfold findFn Lw.Γ
    rw [List.find?_map, show ((fun g : Fn => g.name == "law") ∘ fun y : Dfn => y.f) = fun y => y.f.name == ("law" : Str) from rfl, hx]
    rfl
  have hpr : prL "law" = none := by decide
  have k := fn_stepK (W := L.wd l.prog w K) (base := base) F (n := N0) (fun f hf => all_keep (P := l.prog) (w := w) (base := base) X G hs0 hc hd (fun n f fd => hmix (L.wd l.prog w K) mg base n f fd) (fun n f fd => hnxt (L.wd l.prog w K) mg base n f fd) N0 f (by unfold hasF; simpa using hf)) B (by rw [hxn]; exact hpr) (by rw [hxn]; exact hf) (fd := fd) (by rw [e1', e2', hxn, ← hfa]; exact D)
  rw [hxn, hps, ← hfa] at k
  exact fnOk_cxw k
end Ev

/-! EvS: the evaluator's equations, told so that simp walks them in order. -/
namespace Ev
open PySem L2

/-! ### order of evaluation: what depends on a function hides it from simp -/
structure Wp {α : Type} (a : α) : Type where
def seqF (x : Fl) (f : Fr → Fl) (_ : Wp f := {}) : Fl := match x with
  | .nx S => f S
  | .brk S => .brk S
  | .cnt S => .cnt S
  | .ret r S => .ret r S
  | .exc c fs S => .exc c fs S
  | .bad => .bad
def bdO {α : Type} (x : Out α) (f : α → Fr → Fl) (_ : Wp f := {}) : Fl := Fl.bindO x f
def Out.bd {α β : Type} (x : Out α) (f : α → Fr → Out β) (_ : Wp f := {}) : Out β := Out.bind x f
theorem bd_ext {α β : Type} {x : Out α} {f g : α → Fr → Out β} {w : Wp g} (h : ∀ a S, f a S = g a S) : Out.bind x f = Out.bd x g w := by
  rw [show f = g from funext fun a => funext fun S => h a S]
  rfl
section
variable {α β : Type} {S : Fr} {f : Fr → Fl} {r : RC} {c : Str} {fs : List (Str × D)} {a : α} {g : α → Fr → Fl} {h : α → Fr → Out β} {w : Wp f} {w1 : Wp g} {w2 : Wp h}
@[simp] theorem seq_nx : seqF (.nx S) f w = f S := by cases w; rfl
@[simp] theorem seq_brk : seqF (.brk S) f w = .brk S := by cases w; rfl
@[simp] theorem seq_cnt : seqF (.cnt S) f w = .cnt S := by cases w; rfl
@[simp] theorem seq_ret : seqF (.ret r S) f w = .ret r S := by cases w; rfl
@[simp] theorem seq_exc : seqF (.exc c fs S) f w = .exc c fs S := by cases w; rfl
@[simp] theorem seq_bad : seqF .bad f w = .bad := by cases w; rfl
@[simp] theorem bindO_ok : bdO (.ok a S) g w1 = g a S := by cases w1; rfl
@[simp] theorem bindO_exc : bdO (.exc c fs S) g w1 = .exc c fs S := by cases w1; rfl
@[simp] theorem bindO_bad : bdO .bad g w1 = .bad := by cases w1; rfl
@[simp] theorem bind_ok : Out.bd (.ok a S) h w2 = h a S := by cases w2; rfl
@[simp] theorem bind_exc : Out.bd (.exc c fs S) h w2 = .exc c fs S := by cases w2; rfl
@[simp] theorem bind_bad : Out.bd .bad h w2 = .bad := by cases w2; rfl
end

/-! ### slots -/
section
variable {c : Option Cell} {S : Fr} {i : Nat} {o : Ob} {d : D}
@[simp] theorem getC_nil : getC [] i = none := rfl
@[simp] theorem getC_zero : getC (c :: S) 0 = c := rfl
@[simp] theorem getC_succ : getC (c :: S) (i + 1) = getC S i := rfl
@[simp] theorem setC_zero {x : Option Cell} : setC (c :: S) 0 x = x :: S := rfl
@[simp] theorem setC_succ {x : Option Cell} : setC (c :: S) (i + 1) x = c :: setC S i x := rfl
def putX : Option Cell → Fr → Nat → Cell → Option Fr
  | some (.par _), _, _, _ => none
  | _, S, i, c => some (setC S i (some c))
@[simp] theorem putC_eq {x : Cell} : putC S i x = putX (getC S i) S i x := by
  unfold putC putX
  split <;> rename_i h <;> first | rw [h] | (split <;> first | rfl | (rename_i h2; simp_all))
@[simp] theorem putX_none {x : Cell} : putX none S i x = some (setC S i (some x)) := rfl
@[simp] theorem putX_val {x : Cell} : putX (some (.val d)) S i x = some (setC S i (some x)) := rfl
@[simp] theorem putX_own {x : Cell} : putX (some (.own o)) S i x = some (setC S i (some x)) := rfl
def killX : Option Cell → Fr → Nat → Fr
  | some (.par _), S, _ => S
  | _, S, i => setC S i none
@[simp] theorem kill1_eq : kill1 S i = killX (getC S i) S i := by
  unfold kill1 killX
  split <;> rename_i h <;> first | rw [h] | (split <;> first | rfl | (rename_i h2; simp_all))
@[simp] theorem killX_none : killX none S i = setC S i none := rfl
@[simp] theorem killX_val : killX (some (.val d)) S i = setC S i none := rfl
@[simp] theorem killX_own : killX (some (.own o)) S i = setC S i none := rfl
@[simp] theorem killX_par : killX (some (.par o)) S i = S := rfl
@[simp] theorem killS_nil : killS S [] = S := rfl
@[simp] theorem killS_cons {is : List Nat} : killS S (i :: is) = killS (kill1 S i) is := rfl
def obX : Option Cell → Option Ob
  | some (.own o) => some o
  | some (.par o) => some o
  | _ => none
@[simp] theorem getO_eq : getO S i = obX (getC S i) := rfl
@[simp] theorem obX_none : obX none = none := rfl
@[simp] theorem obX_val : obX (some (.val d)) = none := rfl
@[simp] theorem obX_own : obX (some (.own o)) = some o := rfl
@[simp] theorem obX_par : obX (some (.par o)) = some o := rfl
def putOX : Option Cell → Fr → Nat → Ob → Fr
  | some (.par _), S, i, o => setC S i (some (.par o))
  | _, S, i, o => setC S i (some (.own o))
@[simp] theorem putO_eq : putO S i o = putOX (getC S i) S i o := by
  unfold putO putOX
  split <;> rename_i h <;> first | rw [h] | (split <;> first | rfl | (rename_i h2; simp_all))
@[simp] theorem putOX_own {o' : Ob} : putOX (some (.own o')) S i o = setC S i (some (.own o)) := rfl
@[simp] theorem putOX_par {o' : Ob} : putOX (some (.par o')) S i o = setC S i (some (.par o)) := rfl
@[simp] theorem obFz_lst {xs : List D} : obFz (.lst xs) = some (.lst xs) := rfl
@[simp] theorem obFz_dic {kvs : List (NestedKey × D)} : obFz (.dic kvs) = some (.dic kvs) := rfl
@[simp] theorem obFz_ins {c : Str} {fs : List (Str × FV)} : obFz (.ins c fs) = (fvsOf fs).map (.ins c ·) := rfl
@[simp] theorem fvsOf_nil : fvsOf [] = some [] := rfl
@[simp] theorem fvsOf_v {f : Str} {r : List (Str × FV)} : fvsOf ((f, .v d) :: r) = (fvsOf r).map ((f, d) :: ·) := rfl
@[simp] theorem cont_val : cont S (.val d) = some d := rfl
@[simp] theorem obRd_lst {xs : List D} : obRd (.lst xs) = some (.lst xs) := rfl
@[simp] theorem obRd_dic {kvs : List (NestedKey × D)} : obRd (.dic kvs) = some (.dic kvs) := rfl
@[simp] theorem obRd_ins {c : Str} {fs : List (Str × FV)} : obRd (.ins c fs) = (fvsOf fs).map (.ins c ·) := rfl
@[simp] theorem obFz_ll {xs : List FV} : obFz (.ll xs) = some (.lst (xs.map fvD)) := rfl
@[simp] theorem cont_tmp : cont S (.tmp o) = obRd o := rfl
@[simp] theorem cont_bor : cont S (.bor i) = (obX (getC S i)).bind obRd := rfl
def frzO : Option D → Fr → Nat → Out D
  | some d, S, i => .ok d (setC S i (some (.val d)))
  | none, _, _ => .bad
@[simp] theorem frzO_some : frzO (some d) S i = .ok d (setC S i (some (.val d))) := rfl
def frzX : Option Cell → Fr → Nat → Out D
  | some (.val d), S, _ => .ok d S
  | some (.own o), S, i => frzO (obFz o) S i
  | _, _, _ => .bad
@[simp] theorem frz_eq : frz S i = frzX (getC S i) S i := by
  unfold frz frzX frzO
  rcases getC S i with _ | (d | o | o | _) <;> try rfl
  dsimp only
  cases h : obFz o <;> rfl
@[simp] theorem frzX_val : frzX (some (.val d)) S i = .ok d S := rfl
@[simp] theorem frzX_own : frzX (some (.own o)) S i = frzO (obFz o) S i := rfl
def escO : Option D → Fr → Out D
  | some d, S => .ok d S
  | none, _ => .bad
@[simp] theorem escO_some : escO (some d) S = .ok d S := rfl
@[simp] theorem esc_val : esc (.val d) S = .ok d S := rfl
@[simp] theorem esc_tmp : esc (.tmp o) S = escO (obFz o) S := by
  unfold esc escO
  dsimp only
  cases h : obFz o <;> rfl
@[simp] theorem esc_bor : esc (.bor i) S = frz S i := rfl
def refX : Option Cell → Fr → Nat → Out R
  | some (.own _), S, i => .ok (.bor i) S
  | some (.par _), S, i => .ok (.bor i) S
  | some (.val d), S, _ => .ok (.val d) S
  | _, _, _ => .bad
@[simp] theorem refX_val : refX (some (.val d)) S i = .ok (.val d) S := rfl
@[simp] theorem refX_own : refX (some (.own o)) S i = .ok (.bor i) S := rfl
@[simp] theorem refX_par : refX (some (.par o)) S i = .ok (.bor i) S := rfl
end

/-! ### expressions -/
def optR {α β : Type} (o : Option α) (S : Fr) (k : α → Fr → Out β) (_ : Wp k := {}) : Out β := match o with
  | some a => k a S
  | none => .bad
@[simp] theorem optR_some {α β : Type} {a : α} {S : Fr} {k : α → Fr → Out β} {w : Wp k} : optR (some a) S k w = k a S := by cases w; rfl
@[simp] theorem optR_none {α β : Type} {S : Fr} {k : α → Fr → Out β} {w : Wp k} : optR none S k w = .bad := by cases w; rfl
def optF {α : Type} (o : Option α) (k : α → Fl) (_ : Wp k := {}) : Fl := match o with
  | some a => k a
  | none => .bad
@[simp] theorem optF_some {α : Type} {a : α} {k : α → Fl} {w : Wp k} : optF (some a) k w = k a := by cases w; rfl
@[simp] theorem optF_none {α : Type} {k : α → Fl} {w : Wp k} : optF none k w = .bad := by cases w; rfl
def boolOf : D → Option Bool
  | .bl b => some b
  | _ => none
@[simp] theorem boolOf_bl {b : Bool} : boolOf (.bl b) = some b := rfl
def intOf : R → Option Int
  | .val (.int i) => some i
  | _ => none
@[simp] theorem intOf_int {i : Int} : intOf (.val (.int i)) = some i := rfl
def dInt : D → Option Int
  | .int i => some i
  | _ => none
@[simp] theorem dInt_int {i : Int} : dInt (.int i) = some i := rfl
def fldOf (c f : Str) : D → Option D
  | .ins k fs => if k = c then fs.lookup f else none
  | _ => none
@[simp] theorem fldOf_ins {c f : Str} {fs : List (Str × D)} : fldOf c f (.ins c fs) = fs.lookup f := by simp [fldOf]
def insOf (c : Str) : D → Option (List (Str × D))
  | .ins k fs => if k = c then some fs else none
  | _ => none
@[simp] theorem insOf_ins {c : Str} {fs : List (Str × D)} : insOf c (.ins c fs) = some fs := by simp [insOf]
def lcBody (cl : Calls) (gl : Str → Option D) (elt : E) (c : Ot) (S : Fr) : Out (Option D) :=
  (evOt cl gl c S).bd fun k S => if k then (evE cl gl elt S).bd fun x S => (esc x S).bd fun d S => .ok (some d) S else .ok none S
section
variable {cl : Calls} {gl : Str → Option D} {S : Fr} {i : Nat} {d : D} {a b c : E} {es : Es} {t : T} {x f p : Str} {op q : COp} {e : E}
@[simp] theorem evE_var : evE cl gl (.var i) S = (frz S i).bd fun d S => .ok (.val d) S := by rw [evE] <;> rfl
@[simp] theorem evE_ref : evE cl gl (.ref i) S = refX (getC S i) S i := by
  rw [evE]
  rcases getC S i with _ | (d | o | o | _) <;> rfl
@[simp] theorem evE_con : evE cl gl (.con d) S = .ok (.val d) S := by rw [evE] <;> rfl
@[simp] theorem evE_glo : evE cl gl (.glo x) S = optR (gl x) S fun d S => .ok (.val d) S := by
  rw [evE]
  cases gl x <;> rfl
@[simp] theorem evE_tup : evE cl gl (.tup es) S = (evEs cl gl es S).bd fun ds S => if lineOk ds.length then .ok (.val (.tup ds)) S else .bad := by rw [evE] <;> rfl
@[simp] theorem evE_lst : evE cl gl (.lst es) S = (evEs cl gl es S).bd fun ds S => if lineOk ds.length then .ok (.tmp (.lst ds)) S else .bad := by rw [evE] <;> rfl
@[simp] theorem evE_bin {op : BOp} : evE cl gl (.bin op a b) S = (evE cl gl a S).bd fun x S => (evE cl gl b S).bd fun y S => optR (cont S x) S fun d S => optR (cont S y) S fun e S => optR (binD op d e) S fun r S => .ok r S := by
  rw [evE]
  refine bd_ext fun x S => ?_
  refine bd_ext fun y S => ?_
  rcases cont S x with _ | d
  · rfl
  · simp only [optR_some]
    rcases cont S y with _ | e
    · rfl
    · simp only [optR_some]
      cases binD op d e <;> rfl
@[simp] theorem evE_neg : evE cl gl (.neg a) S = (evE cl gl a S).bd fun x S => optR (cont S x) S fun d S => optR (negD d) S fun r S => .ok r S := by
  rw [evE]
  refine bd_ext fun x S => ?_
  rcases cont S x with _ | d
  · rfl
  · simp only [optR_some]
    cases negD d <;> rfl
@[simp] theorem evE_not : evE cl gl (.not a) S = (evE cl gl a S).bd fun x S => optR ((cont S x).bind boolOf) S fun b S => .ok (.val (.bl (!b))) S := by
  rw [evE]
  refine bd_ext fun x S => ?_
  rcases cont S x with _ | d
  · rfl
  · cases d <;> rfl
@[simp] theorem evE_cmp : evE cl gl (.cmp op a b) S = (evE cl gl a S).bd fun x S => (evE cl gl b S).bd fun y S => (cmpR cl op x y S).bd fun b S => .ok (.val (.bl b)) S := by rw [evE] <;> rfl
def chainR (p q : COp) (x y : R) (S : Fr) (k : Fr → Out R) : Out Bool := optR (intOf x) S fun i S => optR (intOf y) S fun j S => optR (intCmp p i j) S fun t S => if t then (k S).bd fun z S => optR (intOf z) S fun l S => optR (intCmp q j l) S fun t S => .ok t S else .ok false S
theorem chain_aux {β : Type} {p q : COp} {x y : R} {S : Fr} {k : Fr → Out R} {g : Bool → β} : (match x, y with
    | .val (.int i), .val (.int j) => (match intCmp p i j with
      | some true => (k S).bind fun z S => (match z with
        | .val (.int l) => (match intCmp q j l with
          | some t => .ok (g t) S
          | none => .bad)
        | _ => .bad)
      | some false => .ok (g false) S
      | none => .bad)
    | _, _ => .bad : Out β) = (chainR p q x y S k).bd fun t S => .ok (g t) S := by
  unfold chainR
  rcases x with (_ | _ | _ | _ | _ | _ | _ | _) | _ | _ <;> try rfl
  rcases y with (_ | _ | _ | _ | _ | _ | _ | _) | _ | _ <;> try rfl
  simp only [intOf_int, optR_some]
  split
  · next h =>
    rw [h]
    simp only [optR_some, if_true]
    cases k S with
    | ok z S =>
      simp only [bind_ok]
      rcases z with (_ | _ | _ | _ | _ | _ | _ | _) | _ | _ <;> try rfl
      simp only [intOf_int, optR_some]
      show (match intCmp q _ _ with
        | some t => Out.ok (g t) _
        | none => .bad) = _
      split <;> next h => rw [h]; rfl
    | exc => rfl
    | bad => rfl
  · next h => rw [h]; rfl
  · next h => rw [h]; rfl
@[simp] theorem evE_chain {p q : COp} : evE cl gl (.chain p q a b c) S = (evE cl gl a S).bd fun x S => (evE cl gl b S).bd fun y S => (chainR p q x y S (evE cl gl c)).bd fun t S => .ok (.val (.bl t)) S := by
  rw [evE]
  refine bd_ext fun x S => ?_
  refine bd_ext fun y S => ?_
  exact chain_aux (g := fun t => R.val (.bl t))
@[simp] theorem evE_and : evE cl gl (.and es) S = evAnd cl gl es S := by rw [evE] <;> rfl
@[simp] theorem evE_or : evE cl gl (.or es) S = evOr cl gl es S := by rw [evE] <;> rfl
@[simp] theorem evE_ite : evE cl gl (.ite t a b) S = (evT cl gl t S).bd fun k S => if k then evE cl gl a S else evE cl gl b S := by rw [evE] <;> rfl
@[simp] theorem evE_call : evE cl gl (.call f es) S = (evAs cl gl es S).bd fun as S => callR cl f as S := by rw [evE] <;> rfl
@[simp] theorem evE_new : evE cl gl (.new f es) S = (evEs cl gl es S).bd fun ds S => newR cl f ds S := by rw [evE] <;> rfl
@[simp] theorem evE_prop : evE cl gl (.prop x p a) S = (evE cl gl a S).bd fun y S => (esc y S).bd fun d S => optR (insOf x d) S fun fs S => noExc (callR cl (x ++ "." ++ p) [.v (.ins x fs)] S) := by
  rw [evE]
  refine bd_ext fun y S => ?_
  refine bd_ext fun d S => ?_
  cases d with
  | ins k fs =>
    simp only [insOf]
    split
    · next h => subst h; rfl
    · rfl
  | _ => rfl
@[simp] theorem evE_fld : evE cl gl (.fld x a f) S = (evE cl gl a S).bd fun y S => optR ((cont S y).bind (fldOf x f)) S fun d S => .ok (.val d) S := by
  rw [evE]
  refine bd_ext fun y S => ?_
  rcases cont S y with _ | d
  · rfl
  · cases d with
    | ins k fs =>
      simp only [Option.bind_some, fldOf]
      split
      · cases fs.lookup f <;> rfl
      · rfl
    | _ => rfl
@[simp] theorem evE_bi {b : BI} : evE cl gl (.bi b es) S = (evRs cl gl es S).bd fun rs S => optR (rs.mapM (cont S)) S fun ds S => optR (biD b ds) S fun r S => .ok r S := by
  rw [evE]
  refine bd_ext fun rs S => ?_
  rcases rs.mapM (cont S) with _ | ds
  · rfl
  · simp only [optR_some]
    cases biD b ds <;> rfl
@[simp] theorem evE_isi : evE cl gl (.isi a x) S = (evE cl gl a S).bd fun y S => optR (cont S y) S fun d S => if isDic d then .bad else .ok (.val (.bl (isiD x d))) S := by
  rw [evE]
  refine bd_ext fun y S => ?_
  rcases cont S y with _ | d <;> rfl
@[simp] theorem evE_sub : evE cl gl (.sub a b) S = (evE cl gl a S).bd fun x S => (evE cl gl b S).bd fun y S => optR (cont S x) S fun d S => optR (cont S y) S fun e S => optR (subD d e) S fun r S => .ok (.val r) S := by
  rw [evE]
  refine bd_ext fun x S => ?_
  refine bd_ext fun y S => ?_
  rcases cont S x with _ | d
  · rfl
  · simp only [optR_some]
    rcases cont S y with _ | e
    · rfl
    · simp only [optR_some]
      cases subD d e <;> rfl
@[simp] theorem evE_sli {lo hi : Oe} : evE cl gl (.sli a lo hi) S = (evE cl gl a S).bd fun x S => (evO cl gl lo S).bd fun l S => (evO cl gl hi S).bd fun h S => optR (cont S x) S fun d S => optR (sliD d l h) S fun r S => .ok r S := by
  rw [evE]
  refine bd_ext fun x S => ?_
  refine bd_ext fun l S => ?_
  refine bd_ext fun h S => ?_
  rcases cont S x with _ | d
  · rfl
  · simp only [optR_some]
    cases sliD d l h <;> rfl
@[simp] theorem evE_lc {tg : Tg} {it : It} {c : Ot} : evE cl gl (.lc e tg it c) S = (evI cl gl it S).bd fun ds S => if noOwn S (slotsT tg) && lineOk ds.length then
      (lcLoop tg (lcBody cl gl e c) ds [] (killS S (slotsT tg))).bd fun xs S1 => .ok (.tmp (.lst xs)) (restore S S1 (slotsT tg)) else .bad := by
  rw [evE]
  rfl
def lc2Body (cl : Calls) (gl : Str → Option D) (elt : E) (tg1 : Tg) (it1 : It) (acc : List D) (S : Fr) : Out (List D) :=
  (evI cl gl it1 S).bd fun ds1 S => if decide (acc.length + ds1.length ≤ sizeLine) then lcLoop tg1 (lcBody cl gl elt .none) ds1 acc (killS S (slotsT tg1)) else .bad
theorem lcBody_none : lcBody cl gl e .none = fun S => (evE cl gl e S).bind fun x S => (esc x S).bind fun d S => .ok (some d) S := by
  funext S
  unfold lcBody
  rw [evOt]
  rfl
@[simp] theorem evE_lc2 {tg tg1 : Tg} {it it1 : It} : evE cl gl (.lc2 e tg it tg1 it1) S = (evI cl gl it S).bd fun ds S => if noOwn S (slotsT tg ++ slotsT tg1) then
      (lc2Loop tg (slotsT tg ++ slotsT tg1) (lc2Body cl gl e tg1 it1) ds [] (killS S (slotsT tg ++ slotsT tg1))).bd fun xs S1 => .ok (.tmp (.lst xs)) (restore S S1 (slotsT tg ++ slotsT tg1)) else .bad := by
  rw [evE]
  unfold lc2Body
  rw [lcBody_none]
  rfl
@[simp] theorem evE_minN : evE cl gl (.minN es) S = (evRs cl gl es S).bd fun rs S => optR (rs.mapM (cont S)) S fun ds S => optR (minNR ds) S fun d S => .ok (.val d) S := by
  rw [evE]
  refine bd_ext fun rs S => ?_
  rcases rs.mapM (cont S) with _ | ds
  · rfl
  · simp only [optR_some]
    cases minNR ds <;> rfl
@[simp] theorem minNR_nil : minNR [.lst []] = some .non := rfl
@[simp] theorem minNR_cons {y : D} {ys : List D} : minNR [.lst (y :: ys)] = minLD (y :: ys) := rfl
@[simp] theorem evE_dic0 : evE cl gl .dic0 S = .ok (.tmp (.dic [])) S := by rw [evE]
@[simp] theorem evE_dic1 : evE cl gl (.dic1 a b) S = (evE cl gl a S).bd fun x S => (esc x S).bd fun k S => (evE cl gl b S).bd fun y S => (esc y S).bd fun d S => oneR k d S := by rw [evE] <;> rfl
@[simp] theorem oneR_tup {ks : List D} : oneR (.tup ks) d S = optR (kOf ks) S fun k S => .ok (.tmp (.dic [(.tup k, d)])) S := by
  unfold oneR
  dsimp only
  cases kOf ks <;> rfl
def dcBody (cl : Calls) (gl : Str → Option D) (a b : E) (S : Fr) : Out (NestedKey × D) := (evE cl gl a S).bd fun x S => (esc x S).bd fun k S => (evE cl gl b S).bd fun y S => (esc y S).bd fun d S => pairR k d S
@[simp] theorem pairR_tup {ks : List D} : pairR (.tup ks) d S = optR (kOf ks) S fun k S => .ok (.tup k, d) S := by
  unfold pairR
  dsimp only
  cases kOf ks <;> rfl
@[simp] theorem evE_dc {tg : Tg} {it : It} : evE cl gl (.dc a b tg it) S = (evI cl gl it S).bd fun ds S => if noOwn S (slotsT tg) && lineOk ds.length then
      (dcLoop tg (dcBody cl gl a b) ds [] (killS S (slotsT tg))).bd fun kvs S1 => .ok (.tmp (.dic kvs)) (restore S S1 (slotsT tg)) else .bad := by
  rw [evE]
  rfl
@[simp] theorem isDicO_dic {kvs : List (NestedKey × D)} : isDicO (some (.dic kvs)) = true := rfl
def pickR (cl : Calls) (fs : List Str) (d : D) (S : Fr) : Out R := match d with
  | .int j => (match pickF fs j with
    | some f => callR cl f [] S
    | none => .bad)
  | _ => .bad
def tupRR (d : D) (S : Fr) : Out R := match d with
  | .int j => if decide (0 ≤ j) && decide (j ≤ 1000) then .ok (.val (.tup (rngD 0 j))) S else .bad
  | _ => .bad
@[simp] theorem evE_itl {o : E} : evE cl gl (.itl o) S = (evE cl gl o S).bd fun z S => itlR (cont S z) S := by rw [evE] <;> rfl
@[simp] theorem evE_idx {o : E} : evE cl gl (.idx o a) S = (evE cl gl o S).bd fun z S => if isLstO (cont S z) then (evE cl gl a S).bd fun y S => idxR (cont S z) (cont S y) S else .bad := by rw [evE] <;> rfl
@[simp] theorem isLstO_lst {xs : List D} : isLstO (some (.lst xs)) = true := rfl
@[simp] theorem idxR_some {d e : D} : idxR (some d) (some e) S = optR (idxD d e) S fun j S => .ok (.val (.int (j : Int))) S := by
  unfold idxR
  dsimp only
  cases idxD d e <;> rfl
def holdR (cl : Calls) (gl : Str → Option D) (a : E) (i : Nat) (S : Fr) : Option Cell → Out R
  | some (.own (.dic kvs)) => thawR i (evE cl gl a (setC S i (some (.val (.dic kvs)))))
  | _ => .bad
@[simp] theorem evE_hold : evE cl gl (.hold i a) S = holdR cl gl a i S (getC S i) := by
  rw [evE]
  generalize getC S i = c
  unfold holdR
  cases c with
  | none => rfl
  | some c =>
    cases c with
    | own o => cases o <;> rfl
    | _ => rfl
@[simp] theorem holdR_dic {kvs : List (NestedKey × D)} : holdR cl gl a i S (some (.own (.dic kvs))) = thawR i (evE cl gl a (setC S i (some (.val (.dic kvs))))) := rfl
@[simp] theorem evE_dicL : evE cl gl (.dicL a) S = (evE cl gl a S).bd fun z S => dicLR (cont S z) S := by rw [evE] <;> rfl
@[simp] theorem dicLR_lst {ds : List D} : dicLR (some (.lst ds)) S = optR (foldP [] ds) S fun kvs S => if decide (ds.length ≤ sizeLine) then .ok (.tmp (.dic kvs)) S else .bad := by
  unfold dicLR
  dsimp only
  cases foldP [] ds <;> rfl
@[simp] theorem itlR_dic {kvs : List (NestedKey × D)} : itlR (some (.dic kvs)) S = .ok (.tmp (.lst (kvs.map itD))) S := rfl
@[simp] theorem evE_pick {fs : List Str} : evE cl gl (.pick fs a) S = (evE cl gl a S).bd fun z S => optR (cont S z) S fun d S => pickR cl fs d S := by
  rw [evE]
  refine bd_ext fun y S => ?_
  rcases cont S y with _ | d
  · rfl
  · cases d <;> rfl
@[simp] theorem evE_tupR : evE cl gl (.tupR a) S = (evE cl gl a S).bd fun z S => optR (cont S z) S fun d S => tupRR d S := by
  rw [evE]
  refine bd_ext fun y S => ?_
  rcases cont S y with _ | d
  · rfl
  · cases d <;> rfl
@[simp] theorem tupRR_int {j : Int} : tupRR (.int j) S = if decide (0 ≤ j) && decide (j ≤ 1000) then .ok (.val (.tup (rngD 0 j))) S else .bad := rfl
@[simp] theorem pickR_int {fs : List Str} {j : Int} : pickR cl fs (.int j) S = optR (pickF fs j) S fun f S => callR cl f [] S := by
  unfold pickR
  dsimp only
  cases pickF fs j <;> rfl
@[simp] theorem evE_get {o : E} : evE cl gl (.get o a b) S = (evE cl gl o S).bd fun z S => if isDicO (cont S z) then (evE cl gl a S).bd fun x S => (esc x S).bd fun k S => (evE cl gl b S).bd fun y S => (esc y S).bd fun d S => getR (cont S z) k d S else .bad := by rw [evE] <;> rfl
@[simp] theorem getR_dic {kvs : List (NestedKey × D)} {ks : List D} : getR (some (.dic kvs)) (.tup ks) d S = optR (kOf ks) S fun k S => .ok (.val ((valK kvs (.tup k)).getD d)) S := by
  unfold getR
  dsimp only
  cases kOf ks <;> rfl
@[simp] theorem evT_e : evT cl gl (.e a) S = (evE cl gl a S).bd fun x S => optR (cont S x) S fun d S => if truOk d then .ok (truD d) S else .bad := by
  rw [evT]
  refine bd_ext fun y S => ?_
  rcases cont S y with _ | d <;> rfl
@[simp] theorem evT_cmp : evT cl gl (.cmp op a b) S = (evE cl gl a S).bd fun x S => (evE cl gl b S).bd fun y S => cmpR cl op x y S := by rw [evT] <;> rfl
theorem bind_id {x : Out Bool} : (x.bd fun t S => .ok t S) = x := by cases x <;> rfl
@[simp] theorem evT_chain {p q : COp} : evT cl gl (.chain p q a b c) S = (evE cl gl a S).bd fun x S => (evE cl gl b S).bd fun y S => chainR p q x y S (evE cl gl c) := by
  rw [evT]
  refine bd_ext fun x S => ?_
  refine bd_ext fun y S => ?_
  exact (chain_aux (g := fun t => t)).trans bind_id
def intO (d : Option D) : Option Int := match d with
  | some (.int i) => some i
  | _ => none
@[simp] theorem intO_some {i : Int} : intO (some (.int i)) = some i := rfl
@[simp] theorem evT_inR {neg : Bool} : evT cl gl (.inR neg a b) S = (evE cl gl a S).bd fun x S => optR (intO (cont S x)) S fun i S => (evE cl gl b S).bd fun y S => optR (intO (cont S y)) S fun n S => .ok (inRg neg i n) S := by
  rw [evT]
  refine bd_ext fun x S => ?_
  rcases cont S x with _ | d
  · rfl
  · cases d
    case int i =>
      rw [intO_some, optR_some]
      refine bd_ext fun y S => ?_
      rcases cont S y with _ | e
      · rfl
      · cases e <;> rfl
    all_goals rfl
@[simp] theorem evT_not : evT cl gl (.not t) S = (evT cl gl t S).bd fun b S => .ok (!b) S := by rw [evT] <;> rfl
@[simp] theorem evT_and {ts : Ts} : evT cl gl (.and ts) S = evAndT cl gl ts S := by rw [evT] <;> rfl
@[simp] theorem evT_or {ts : Ts} : evT cl gl (.or ts) S = evOrT cl gl ts S := by rw [evT] <;> rfl
@[simp] theorem evAndT_nil : evAndT cl gl .nil S = .ok true S := by rw [evAndT] <;> rfl
@[simp] theorem evAndT_cons {ts : Ts} : evAndT cl gl (.cons t ts) S = (evT cl gl t S).bd fun b S => if b then evAndT cl gl ts S else .ok false S := by rw [evAndT] <;> rfl
@[simp] theorem evOrT_nil : evOrT cl gl .nil S = .ok false S := by rw [evOrT] <;> rfl
@[simp] theorem evOrT_cons {ts : Ts} : evOrT cl gl (.cons t ts) S = (evT cl gl t S).bd fun b S => if b then .ok true S else evOrT cl gl ts S := by rw [evOrT] <;> rfl
@[simp] theorem evAnd_one : evAnd cl gl (.cons e .nil) S = evE cl gl e S := by rw [evAnd] <;> rfl
@[simp] theorem evAnd_cons {e' : E} : evAnd cl gl (.cons e (.cons e' es)) S = (evE cl gl e S).bd fun x S => optR ((cont S x).bind boolOf) S fun b S => if b then evAnd cl gl (.cons e' es) S else .ok (.val (.bl false)) S := by
  rw [evAnd]
  · refine bd_ext fun x S => ?_
    rcases cont S x with _ | d
    · rfl
    · cases d with
      | bl b => cases b <;> rfl
      | _ => rfl
  · intro h; cases h
@[simp] theorem evOr_one : evOr cl gl (.cons e .nil) S = evE cl gl e S := by rw [evOr] <;> rfl
@[simp] theorem evOr_cons {e' : E} : evOr cl gl (.cons e (.cons e' es)) S = (evE cl gl e S).bd fun x S => optR ((cont S x).bind boolOf) S fun b S => if b then .ok (.val (.bl true)) S else evOr cl gl (.cons e' es) S := by
  rw [evOr]
  · refine bd_ext fun x S => ?_
    rcases cont S x with _ | d
    · rfl
    · cases d with
      | bl b => cases b <;> rfl
      | _ => rfl
  · intro h; cases h
@[simp] theorem evEs_nil : evEs cl gl .nil S = .ok [] S := by rw [evEs] <;> rfl
@[simp] theorem evEs_cons : evEs cl gl (.cons e es) S = (evE cl gl e S).bd fun x S => (esc x S).bd fun d S => (evEs cl gl es S).bd fun ds S => .ok (d :: ds) S := by rw [evEs] <;> rfl
@[simp] theorem evRs_nil : evRs cl gl .nil S = .ok [] S := by rw [evRs] <;> rfl
@[simp] theorem evRs_cons : evRs cl gl (.cons e es) S = (evE cl gl e S).bd fun x S => (evRs cl gl es S).bd fun rs S => .ok (x :: rs) S := by rw [evRs] <;> rfl
def argX : R → Fr → Out Arg
  | .bor i, S => .ok (.r i) S
  | .val d, S => .ok (.v d) S
  | .tmp o, S => (escO (obFz o) S).bd fun d S => .ok (.v d) S
@[simp] theorem argX_bor : argX (.bor i) S = .ok (.r i) S := rfl
@[simp] theorem argX_val : argX (.val d) S = .ok (.v d) S := rfl
@[simp] theorem argX_tmp {o : Ob} : argX (.tmp o) S = (escO (obFz o) S).bd fun d S => .ok (.v d) S := rfl
@[simp] theorem evAs_nil : evAs cl gl .nil S = .ok [] S := by rw [evAs] <;> rfl
@[simp] theorem evAs_cons : evAs cl gl (.cons e es) S = (evE cl gl e S).bd fun x S => (argX x S).bd fun a S => (evAs cl gl es S).bd fun as S => .ok (a :: as) S := by
  rw [evAs]
  refine bd_ext fun x S => ?_
  cases x with
  | tmp o =>
    simp only [argX_tmp, esc_tmp]
    cases obFz o <;> rfl
  | _ => rfl
@[simp] theorem evO_none : evO cl gl .none S = .ok none S := by rw [evO] <;> rfl
@[simp] theorem evO_some : evO cl gl (.some e) S = (evE cl gl e S).bd fun x S => optR ((cont S x).bind dInt) S fun i S => .ok (some i) S := by
  rw [evO]
  refine bd_ext fun x S => ?_
  rcases cont S x with _ | d
  · rfl
  · cases d <;> rfl
@[simp] theorem evOt_none : evOt cl gl .none S = .ok true S := by rw [evOt] <;> rfl
@[simp] theorem evOt_some : evOt cl gl (.some t) S = evT cl gl t S := by rw [evOt] <;> rfl
@[simp] theorem evI_seq : evI cl gl (.seq e) S = (evE cl gl e S).bd fun x S => (esc x S).bd fun d S => optR (itemsD d) S fun ds S => .ok ds S := by
  rw [evI]
  refine bd_ext fun x S => ?_
  refine bd_ext fun d S => ?_
  cases itemsD d <;> rfl
def rngX : List D → Option (List D)
  | [.int j] => if bigI j then some (rngD 0 j) else none
  | [.int i, .int j] => if bigI i && bigI j then some (rngD i j) else none
  | [.int i, .int j, .int c] => if decide (c = -1) && bigI i && bigI j then some (rngDn i j) else none
  | _ => none
@[simp] theorem rngX_one {j : Int} : rngX [.int j] = if bigI j then some (rngD 0 j) else none := rfl
@[simp] theorem rngX_dn {i j c : Int} : rngX [.int i, .int j, .int c] = if decide (c = -1) && bigI i && bigI j then some (rngDn i j) else none := rfl
@[simp] theorem rngX_two {i j : Int} : rngX [.int i, .int j] = if bigI i && bigI j then some (rngD i j) else none := rfl
@[simp] theorem evI_rng : evI cl gl (.rng es) S = (evEs cl gl es S).bd fun ds S => optR (rngX ds) S fun ds S => .ok ds S := by
  rw [evI]
  refine bd_ext fun ds S => ?_
  unfold rngX
  split <;> first | (split <;> simp_all; done) | (simp only [rngX]; split <;> simp_all; done) | (simp_all; done)
def enmX : List D → Option (List D)
  | [.lst xs] => some (enumFrom 0 xs)
  | [.tup xs] => some (enumFrom 0 xs)
  | _ => none
@[simp] theorem enmX_lst {xs : List D} : enmX [.lst xs] = some (enumFrom 0 xs) := rfl
@[simp] theorem enmX_tup {xs : List D} : enmX [.tup xs] = some (enumFrom 0 xs) := rfl
@[simp] theorem evI_enm : evI cl gl (.enm es) S = (evEs cl gl es S).bd fun ds S => optR (enmX ds) S fun ds S => .ok ds S := by
  rw [evI]
  refine bd_ext fun ds S => ?_
  unfold enmX
  split <;> first | rfl | (split <;> simp_all; done) | (simp_all; done)
def zipX : List D → Option (List D)
  | [.lst xs, .lst ys] => some (zipD xs ys)
  | [.tup xs, .tup ys] => some (zipD xs ys)
  | _ => none
@[simp] theorem zipX_lst {xs ys : List D} : zipX [.lst xs, .lst ys] = some (zipD xs ys) := rfl
@[simp] theorem zipX_tup {xs ys : List D} : zipX [.tup xs, .tup ys] = some (zipD xs ys) := rfl
@[simp] theorem evI_zip : evI cl gl (.zip es) S = (evEs cl gl es S).bd fun ds S => optR (zipX ds) S fun ds S => .ok ds S := by
  rw [evI]
  refine bd_ext fun ds S => ?_
  unfold zipX
  split <;> first | rfl | (split <;> simp_all; done) | (simp_all; done)
@[simp] theorem evI_rev : evI cl gl (.rev e) S = (evE cl gl e S).bd fun x S => optR (intOf x) S fun j S => if bigI j then .ok (rngD 0 j).reverse S else .bad := by
  rw [evI]
  refine bd_ext fun x S => ?_
  rcases x with (_ | _ | _ | _ | _ | _ | _ | _) | _ | _ <;> rfl
end

/-! ### comparisons, calls -/
def insEq (cl : Calls) (d e : D) (S : Fr) : Out Bool := match d with
    | .ins c fs => (noExc (callR cl (c ++ ".__eq__") [.v (.ins c fs), .v e] S)).bd fun r S => (match r with
      | .val (.bl b) => .ok b S
      | _ => .bad)
    | _ => .bad
def cmpX (cl : Calls) (op : COp) (cx : Option D) (x y : R) (S : Fr) : Out Bool := match op, cx with
  | .eq, some (.ins c fs) => (esc y S).bd fun e S => (esc x S).bd fun d S => if isDic e then .bad else insEq cl d e S
  | op, some d => optR (cont S y) S fun e S => optR (cmpD op d e) S fun b S => .ok b S
  | _, none => .bad
section
variable {cl : Calls} {gl : Str → Option D} {S : Fr} {i : Nat} {d : D} {x y : R} {op : COp} {c f : Str} {fs : List (Str × D)}
theorem cmp_aux {d0 : D} : ∀ (z : Option D), (match z with
      | some e => (match cmpD op d0 e with
        | some b => Out.ok b S
        | none => .bad)
      | none => .bad) = optR z S fun e S => optR (cmpD op d0 e) S fun b S => .ok b S := by
  intro z
  cases z with
  | none => rfl
  | some e => simp only [optR_some]; cases cmpD op d0 e <;> rfl
@[simp] theorem cmpR_eq : cmpR cl op x y S = cmpX cl op (cont S x) x y S := by
  unfold cmpR cmpX
  rcases cont S x with _ | d
  · cases op <;> rfl
  cases d with
  | ins c fs =>
    cases op with
    | eq =>
      refine bd_ext fun e S => bd_ext fun d S => ?_
      unfold insEq
      split
      · rfl
      · cases d <;> rfl
    | _ => (rcases cont S y with _ | e <;> first | rfl | (simp only [optR_some]; generalize cmpD _ _ e = q; cases q <;> rfl))
  | _ => cases op <;> (rcases cont S y with _ | e <;> first | rfl | (simp only [optR_some]; generalize cmpD _ _ e = q; cases q <;> rfl))
theorem cmpX_non {d : D} (h : ∀ c fs, d ≠ .ins c fs) : cmpX cl op (some d) x y S = optR (cont S y) S fun e S => optR (cmpD op d e) S fun b S => .ok b S := by
  unfold cmpX
  split
  · next q => cases q; exact absurd rfl (h _ _)
  · next q => cases q; rfl
  · next q => cases q
@[simp] theorem cmpX_int {j : Int} : cmpX cl op (some (.int j)) x y S = optR (cont S y) S fun e S => optR (cmpD op (.int j) e) S fun b S => .ok b S := cmpX_non (by intros; simp)
@[simp] theorem cmpX_tup {xs : List D} : cmpX cl op (some (.tup xs)) x y S = optR (cont S y) S fun e S => optR (cmpD op (.tup xs) e) S fun b S => .ok b S := cmpX_non (by intros; simp)
@[simp] theorem cmpX_lst {xs : List D} : cmpX cl op (some (.lst xs)) x y S = optR (cont S y) S fun e S => optR (cmpD op (.lst xs) e) S fun b S => .ok b S := cmpX_non (by intros; simp)
@[simp] theorem cmpX_str {z : Str} : cmpX cl op (some (.str z)) x y S = optR (cont S y) S fun e S => optR (cmpD op (.str z) e) S fun b S => .ok b S := cmpX_non (by intros; simp)
@[simp] theorem cmpX_bl {b : Bool} : cmpX cl op (some (.bl b)) x y S = optR (cont S y) S fun e S => optR (cmpD op (.bl b) e) S fun b S => .ok b S := cmpX_non (by intros; simp)
@[simp] theorem cmpX_none : cmpX cl op (some .non) x y S = optR (cont S y) S fun e S => optR (cmpD op .non e) S fun b S => .ok b S := cmpX_non (by intros; simp)
@[simp] theorem cmpX_dic {kvs : List (NestedKey × D)} : cmpX cl op (some (.dic kvs)) x y S = optR (cont S y) S fun e S => optR (cmpD op (.dic kvs) e) S fun b S => .ok b S := cmpX_non (by intros; simp)
@[simp] theorem cmpX_ins : cmpX cl .eq (some (.ins c fs)) x y S = (esc y S).bd fun e S => (esc x S).bd fun d S => if isDic e then .bad else insEq cl d e S := rfl
def blR : R → Option Bool
  | .val (.bl b) => some b
  | _ => none
@[simp] theorem blR_bl {b : Bool} : blR (.val (.bl b)) = some b := rfl
@[simp] theorem insEq_ins {e : D} : insEq cl (.ins c fs) e S = (noExc (callR cl (c ++ ".__eq__") [.v (.ins c fs), .v e] S)).bd fun r S => optR (blR r) S fun b S => .ok b S := by
  unfold insEq
  refine bd_ext (w := {}) fun r S => ?_
  rcases r with (_ | _ | _ | _ | _ | _ | _ | _) | _ | _ <;> rfl
@[simp] theorem noExc_ok {α : Type} {a : α} : noExc (.ok a S) = .ok a S := rfl
@[simp] theorem argC_v : argC S (.v d) = some (.val d) := rfl
@[simp] theorem argC_r : argC S (.r i) = (obX (getC S i)).map .par := rfl
@[simp] theorem argCs_nil : argCs S [] = some [] := rfl
@[simp] theorem argCs_cons {a : Arg} {as : List Arg} : argCs S (a :: as) = (argC S a).bind fun c => (argCs S as).bind fun cs => some (c :: cs) := by
  rw [argCs]
  rcases argC S a with _ | c
  · rfl
  · rcases argCs S as with _ | cs <;> rfl
@[simp] theorem refsOf_nil : refsOf [] = [] := rfl
@[simp] theorem refsOf_v {as : List Arg} : refsOf (.v d :: as) = refsOf as := rfl
@[simp] theorem refsOf_r {as : List Arg} : refsOf (.r i :: as) = i :: refsOf as := rfl
@[simp] theorem back_nil {os : List Ob} : back S [] os = S := by
  cases os <;> rfl
@[simp] theorem back_cons {is : List Nat} {o : Ob} {os : List Ob} : back S (i :: is) (o :: os) = back (putO S i o) is os := rfl
@[simp] theorem rcR_val : rcR (.val d) = .val d := rfl
@[simp] theorem rcR_own {o : Ob} : rcR (.own o) = .tmp o := rfl
def retR : FnRes → Fr → List Nat → Out R
  | .ok r outs, S, is => .ok (rcR r) (back S is outs)
  | .exc c fs outs, S, is => .exc c fs (back S is outs)
  | .bad, _, _ => .bad
@[simp] theorem retR_ok {r : RC} {os : List Ob} {is : List Nat} : retR (.ok r os) S is = .ok (rcR r) (back S is os) := rfl
@[simp] theorem retR_exc {os : List Ob} {is : List Nat} : retR (.exc c fs os) S is = .exc c fs (back S is os) := rfl
@[simp] theorem callR_eq {as : List Arg} : callR cl f as S = optR (argCs S as) S fun cs S => if (refsOf as).Nodup then retR (cl f cs) S (refsOf as) else .bad := by
  unfold callR
  rcases argCs S as with _ | cs
  · rfl
  · simp only [optR_some]
    split
    · unfold retR
      cases cl f cs <;> rfl
    · rfl
def newX : FnRes → Fr → Out R
  | .ok (.val .non) [o], S => .ok (.tmp o) S
  | .exc c fs _, S => .exc c fs S
  | _, _ => .bad
@[simp] theorem newX_ok {o : Ob} : newX (.ok (.val .non) [o]) S = .ok (.tmp o) S := rfl
@[simp] theorem newX_exc {os : List Ob} : newX (.exc c fs os) S = .exc c fs S := rfl
@[simp] theorem newR_eq {as : List D} : newR cl c as S = newX (cl (c ++ ".__init__") (.par (.ins c []) :: as.map .val)) S := by
  unfold newR
  generalize cl (c ++ ".__init__") (.par (.ins c []) :: as.map .val) = r
  rcases r with ⟨(_ | _ | _ | _ | _ | _ | _ | _) | _, _ | ⟨o, _ | _⟩⟩ | _ | _ <;> rfl
/-! ### targets, statements -/
@[simp] theorem bindT_one : bindT (.one i) d S = putC S i (.val d) := rfl
@[simp] theorem bindT_manyL {is : List Nat} {xs : List D} : bindT (.many is) (.lst xs) S = if xs.length = is.length then putVs S is xs else none := rfl
@[simp] theorem bindT_many {is : List Nat} {xs : List D} : bindT (.many is) (.tup xs) S = if xs.length = is.length then putVs S is xs else none := rfl
@[simp] theorem putVs_nil {xs : List D} : putVs S [] xs = some S := by
  cases xs <;> rfl
@[simp] theorem putVs_cons {is : List Nat} {xs : List D} : putVs S (i :: is) (d :: xs) = (putC S i (.val d)).bind fun S => putVs S is xs := rfl
@[simp] theorem slotsT_one : slotsT (.one i) = [i] := rfl
@[simp] theorem slotsT_many {is : List Nat} : slotsT (.many is) = is := rfl
@[simp] theorem restore_nil {S0 : Fr} : restore S0 S [] = S := rfl
@[simp] theorem restore_cons {S0 : Fr} {is : List Nat} : restore S0 S (i :: is) = restore S0 (setC S i (getC S0 i)) is := rfl
def freeC : Option Cell → Bool
  | none => true
  | some (.val _) => true
  | _ => false
@[simp] theorem freeC_none : freeC none = true := rfl
@[simp] theorem freeC_val : freeC (some (.val d)) = true := rfl
@[simp] theorem noOwn_eq {is : List Nat} : noOwn S is = is.all fun i => freeC (getC S i) := by
  unfold noOwn freeC
  congr
@[simp] theorem asgR_true {r : R} : asgR true r S = (esc r S).bd fun d S => .ok (.val d) S := by
  cases r <;> rfl
@[simp] theorem asgR_val : asgR false (.val d) S = .ok (.val d) S := rfl
@[simp] theorem asgR_tmp {o : Ob} : asgR false (.tmp o) S = .ok (.own o) S := rfl
@[simp] theorem parR_nil : parR cl gl [] .nil S = .ok [] S := rfl
@[simp] theorem parR_cons {z : Bool} {zs : List Bool} {e : E} {es : Es} : parR cl gl (z :: zs) (.cons e es) S = (evE cl gl e S).bd fun x S => (asgR z x S).bd fun c S => (parR cl gl zs es S).bd fun cs S => .ok (c :: cs) S := rfl
@[simp] theorem putCs_nil {cs : List Cell} : putCs S [] cs = some S := by
  cases cs <;> rfl
@[simp] theorem putCs_cons {is : List Nat} {c : Cell} {cs : List Cell} : putCs S (i :: is) (c :: cs) = (putC S i c).bind fun S => putCs S is cs := rfl
@[simp] theorem nxO_some : nxO (some S) = .nx S := rfl
@[simp] theorem exSs_nil : exSs cl gl .nil S = .nx S := by rw [exSs]
@[simp] theorem exSs_cons {s : St} {ss : Ss} : exSs cl gl (.cons s ss) S = seqF (exS cl gl s S) (exSs cl gl ss) {} := by
  rw [exSs]
  cases exS cl gl s S <;> rfl
variable {e k : E} {z : Bool}
theorem bdO_ext {α : Type} {x : Out α} {f g : α → Fr → Fl} {w : Wp g} (h : ∀ a S, f a S = g a S) : Fl.bindO x f = bdO x g w := by
  rw [show f = g from funext fun a => funext fun S => h a S]
  rfl
@[simp] theorem exS_asg : exS cl gl (.asg z i e) S = bdO (evE cl gl e S) fun x S => bdO (asgR z x S) fun c S => nxO (putC S i c) := by rw [exS] <;> rfl
@[simp] theorem exS_unp {is : List Nat} : exS cl gl (.unp is e) S = bdO (evE cl gl e S) fun x S => bdO (esc x S) fun d S => optF (bindT (.many is) d S) fun S => .nx S := by
  rw [exS]
  refine bdO_ext fun x S => bdO_ext fun d S => ?_
  cases bindT (.many is) d S <;> rfl
@[simp] theorem exS_par {zs : List Bool} {is : List Nat} {es : Es} : exS cl gl (.par zs is es) S = bdO (parR cl gl zs es S) fun cs S => if cs.length = is.length ∧ is.Nodup then nxO (putCs S is cs) else .bad := by rw [exS] <;> rfl
def lstOf : Option Ob → Option (List D)
  | some (.lst xs) => some xs
  | _ => none
@[simp] theorem lstOf_lst {xs : List D} : lstOf (some (.lst xs)) = some xs := rfl
@[simp] theorem exS_app : exS cl gl (.app i e) S = optF (lstOf (obX (getC S i))) fun _ => bdO (evE cl gl e S) fun x S => bdO (esc x S) fun d S => optF (lstOf (obX (getC S i))) fun xs => if decide (xs.length < sizeLine) then .nx (putO S i (.lst (xs ++ [d]))) else .bad := by
  rw [exS, getO_eq]
  rcases obX (getC S i) with _ | (_ | _ | _ | _ | _) <;> try rfl
  refine bdO_ext (w := {}) fun x S => bdO_ext (w := {}) fun d S => ?_
  rw [getO_eq]
  rcases obX (getC S i) with _ | (_ | _ | _ | _ | _) <;> rfl
@[simp] theorem exS_six : exS cl gl (.six i k e) S = optF (obX (getC S i)) fun _ => bdO (evE cl gl e S) fun x S => bdO (esc x S) fun d S => bdO (evE cl gl k S) fun y S => bdO (esc y S) fun k S => optF (obX (getC S i)) fun o => optF (setIx o k d) fun o => .nx (putO S i o) := by
  rw [exS, getO_eq]
  rcases obX (getC S i) with _ | o
  · rfl
  refine bdO_ext (w := {}) fun x S => bdO_ext (w := {}) fun d S => bdO_ext (w := {}) fun y S => bdO_ext (w := {}) fun k S => ?_
  rw [getO_eq]
  rcases obX (getC S i) with _ | o
  · rfl
  · simp only [optF_some]
    cases setIx o k d <;> rfl
@[simp] theorem exS_del : exS cl gl (.del i k) S = optF (obX (getC S i)) fun _ => bdO (evE cl gl k S) fun y S => bdO (esc y S) fun k S => optF (obX (getC S i)) fun o => optF (delIx o k) fun o => .nx (putO S i o) := by
  rw [exS, getO_eq]
  rcases obX (getC S i) with _ | o
  · rfl
  refine bdO_ext (w := {}) fun y S => bdO_ext (w := {}) fun k S => ?_
  rw [getO_eq]
  rcases obX (getC S i) with _ | o
  · rfl
  · simp only [optF_some]
    cases delIx o k <;> rfl
def insOb (c : Str) : Option Ob → Option (List (Str × FV))
  | some (.ins c' fs) => if c' = c ∧ fs.length < 900 then some fs else none
  | _ => none
@[simp] theorem insOb_ins {fs : List (Str × FV)} : insOb c (some (.ins c fs)) = if fs.length < 900 then some fs else none := by simp [insOb]
@[simp] theorem exS_atr : exS cl gl (.atr c i f e) S = bdO (evE cl gl e S) fun x S => bdO (esc x S) fun d S => optF (insOb c (obX (getC S i))) fun fs => .nx (putO S i (.ins c (setFld fs f d))) := by
  rw [exS]
  refine bdO_ext fun x S => bdO_ext fun d S => ?_
  rw [getO_eq]
  rcases obX (getC S i) with _ | (_ | _ | ⟨c', fs⟩ | _ | _) <;> try rfl
  simp only [insOb]
  split
  · next h => rw [h.1]; rfl
  · rfl
def intC : Option Cell → Option Int
  | some (.val (.int a)) => some a
  | _ => none
@[simp] theorem intC_int {a : Int} : intC (some (.val (.int a))) = some a := rfl
def augD : BOp → Int → Int → Option Int
  | .add, a, b => some (a + b)
  | .sub, a, b => some (a - b)
  | _, _, _ => none
@[simp] theorem augD_add {a b : Int} : augD .add a b = some (a + b) := rfl
@[simp] theorem augD_sub {a b : Int} : augD .sub a b = some (a - b) := rfl
@[simp] theorem exS_aug {op : BOp} : exS cl gl (.aug op i e) S = optF (intC (getC S i)) fun _ => bdO (evE cl gl e S) fun x S => optF (intC (getC S i)) fun a => optF ((cont S x).bind dInt) fun b => optF (augD op a b) fun j => nxO (putC S i (.val (.int j))) := by
  rw [exS]
  rcases getC S i with _ | ((_ | _ | _ | _ | _ | _ | _ | _) | _ | _ | _) <;> try rfl
  refine bdO_ext (w := {}) fun x S => ?_
  rcases h : getC S i with _ | ((_ | _ | _ | _ | _ | _ | _ | _) | _ | _ | _) <;> try rfl
  rcases cont S x with _ | (_ | _ | _ | _ | _ | _ | _ | _) <;> try rfl
  cases op <;> rfl
@[simp] theorem exS_ife {t : T} {a b : Ss} : exS cl gl (.ife t a b) S = bdO (evT cl gl t S) fun k S => if k then exSs cl gl a S else exSs cl gl b S := by rw [exS] <;> rfl
@[simp] theorem exS_whl {n : Nat} {t : T} {kl : List Nat} {b : Ss} : exS cl gl (.whl n t kl b) S = whlLoop kl (evT cl gl t) (exSs cl gl b) n S := by rw [exS] <;> rfl
@[simp] theorem exS_fr {tg : Tg} {it : It} {kl : List Nat} {b : Ss} : exS cl gl (.fr tg it kl b) S = bdO (evI cl gl it S) fun ds S => forLoop tg kl (exSs cl gl b) ds S := by rw [exS] <;> rfl
def retB : Option Cell → Fr → Nat → Fl
  | some (.own o), S, i => .ret (.own o) (setC S i none)
  | _, _, _ => .bad
def retX : Bool → R → Fr → Fl
  | true, x, S => bdO (esc x S) fun d S => .ret (.val d) S
  | false, .val d, S => .ret (.val d) S
  | false, .tmp o, S => .ret (.own o) S
  | false, .bor i, S => retB (getC S i) S i
@[simp] theorem retB_own {o : Ob} : retB (some (.own o)) S i = .ret (.own o) (setC S i none) := rfl
@[simp] theorem retX_true : retX true x S = bdO (esc x S) fun d S => .ret (.val d) S := by
  cases x <;> rfl
@[simp] theorem retX_val : retX false (.val d) S = .ret (.val d) S := rfl
@[simp] theorem retX_tmp {o : Ob} : retX false (.tmp o) S = .ret (.own o) S := rfl
@[simp] theorem retX_bor : retX false (.bor i) S = retB (getC S i) S i := rfl
@[simp] theorem exS_ret : exS cl gl (.ret z e) S = bdO (evE cl gl e S) fun x S => retX z x S := by
  rw [exS]
  refine bdO_ext fun x S => ?_
  cases z
  · cases x with
    | bor i =>
      simp only [retX_bor]
      unfold retB
      rcases getC S i with _ | (_ | _ | _ | _) <;> rfl
    | _ => rfl
  · cases x <;> rfl
@[simp] theorem exS_retN : exS cl gl .retN S = .ret (.val .non) S := by rw [exS]
@[simp] theorem exS_rse {fs : List Str} {es : Es} : exS cl gl (.rse c fs es) S = rseR cl gl c fs es S := by rw [exS]
@[simp] theorem rseR_nil : rseR cl gl c [] .nil S = .exc c [] S := by
  unfold rseR
  simp only [evEs, Fl.bindO, List.length_nil, if_true, List.zip_nil_left, List.reverse_nil]
def rseX (c : Str) (fs : List Str) (ds : List D) (S : Fr) : Fl := if ds.length = fs.length then .exc c (fs.zip ds).reverse S else .bad
@[simp] theorem rseR_cons {f : Str} {fs : List Str} {es : Es} : rseR cl gl c (f :: fs) es S = bdO (evEs cl gl es S) fun ds S => rseX c (f :: fs) ds S := by
  unfold rseR
  rfl
@[simp] theorem rseX_one {f : Str} {d : D} : rseX c [f] [d] S = .exc c [(f, d)] S := by simp [rseX]
@[simp] theorem rseX_two {f g : Str} {d e : D} : rseX c [f, g] [d, e] S = .exc c [(g, e), (f, d)] S := by simp [rseX]
@[simp] theorem exS_tr {ok : List Str} {b : Ss} {hs : List Hdl} : exS cl gl (.tr ok b hs) S = catchR ok hs (exSs cl gl b S) := by rw [exS]
@[simp] theorem catchR_nx {ok : List Str} {hs : List Hdl} : catchR ok hs (.nx S) = .nx S := rfl
@[simp] theorem catchR_ret {ok : List Str} {hs : List Hdl} {r : RC} : catchR ok hs (.ret r S) = .ret r S := rfl
def catchH (o : Option (Option Nat × HB)) (c : Str) (fs : List (Str × D)) (S : Fr) : Fl := match o with
  | some (i, b) => if nmFree S i then hbR c fs S b else .bad
  | none => .exc c fs S
@[simp] theorem catchH_some {i : Option Nat} {b : HB} : catchH (some (i, b)) c fs S = if nmFree S i then hbR c fs S b else .bad := rfl
@[simp] theorem catchH_none : catchH none c fs S = .exc c fs S := rfl
@[simp] theorem catchR_exc {ok : List Str} {hs : List Hdl} : catchR ok hs (.exc c fs S) = if ok.contains c then catchH (findH c hs) c fs S else .bad := by
  unfold catchR catchH
  first
    | (dsimp only; done)
    | (dsimp only
       split
       · rcases findH c hs with _ | ⟨i, b⟩ <;> rfl
       · rfl)
@[simp] theorem findH_same {a : Bool} {i : Option Nat} {b : HB} {hs : List Hdl} : findH c ((c, a, i, b) :: hs) = some (i, b) := by simp [findH]
@[simp] theorem findH_any {k : Str} {i : Option Nat} {b : HB} {hs : List Hdl} : findH c ((k, true, i, b) :: hs) = some (i, b) := by simp [findH]
theorem findH_cons {k : Str} {a : Bool} {i : Option Nat} {b : HB} {hs : List Hdl} : findH c ((k, a, i, b) :: hs) = if a = true ∨ c = k then some (i, b) else findH c hs := rfl
@[simp] theorem findH_skip {k : Str} {i : Option Nat} {b : HB} {hs : List Hdl} (h : (c = k) = False) : findH c ((k, false, i, b) :: hs) = findH c hs := by
  rw [findH_cons, if_neg]
  rintro (z | z)
  · cases z
  · rw [h] at z; exact z
@[simp] theorem findH_nil : findH c [] = none := rfl
@[simp] theorem nmFree_none : nmFree S none = true := rfl
@[simp] theorem nmFree_some {i : Nat} : nmFree S (some i) = isFree S i := rfl
@[simp] theorem isFree_0 : isFree (none :: S) 0 = true := by simp [isFree, getC]
@[simp] theorem isFree_succ {x : Option Cell} {i : Nat} : isFree (x :: S) (i + 1) = isFree S i := by simp [isFree, getC]
@[simp] theorem hbR_ret {d : D} : hbR c fs S (.ret d) = .ret (.val d) S := rfl
def retTX (o : Option (List D)) (S : Fr) : Fl := match o with
  | some ds => if ds.length ≤ 1000 then .ret (.val (.tup ds)) S else .bad
  | none => .bad
@[simp] theorem retTX_some {ds : List D} : retTX (some ds) S = if ds.length ≤ 1000 then .ret (.val (.tup ds)) S else .bad := rfl
def asgTX (j : Nat) (o : Option (List D)) (S : Fr) : Fl := match o with
  | some ds => if ds.length ≤ 1000 then nxO (putC S j (.val (.tup ds))) else .bad
  | none => .bad
@[simp] theorem asgTX_some {j : Nat} {ds : List D} : asgTX j (some ds) S = if ds.length ≤ 1000 then nxO (putC S j (.val (.tup ds))) else .bad := rfl
@[simp] theorem hbR_asgT {j : Nat} {xs : List HT} : hbR c fs S (.asgT j xs) = asgTX j (htDs fs xs) S := rfl
@[simp] theorem hbR_retT {xs : List HT} : hbR c fs S (.retT xs) = retTX (htDs fs xs) S := rfl
@[simp] theorem hbR_chn {j : Nat} {ws : List (Str × Str)} {w k : Str} : hbR c fs S (.chn j ws w k) = if isFree S j && ws.length ≤ 1000 then .ret (.own (.lst (((ws ++ [(w, k)]).filter fun p => decide (p.2 = c)).map fun p => .str p.1))) S else .bad := rfl
@[simp] theorem htDs_nil : htDs fs [] = some [] := rfl
@[simp] theorem htDs_con {d : D} {xs : List HT} : htDs fs (.con d :: xs) = (htDs fs xs).map (d :: ·) := by
  simp only [htDs, htD]
  cases htDs fs xs <;> rfl
@[simp] theorem htDs_fld {f : Str} {d : D} {xs : List HT} (h : fs.lookup f = some d) : htDs fs (.fld f :: xs) = (htDs fs xs).map (d :: ·) := by
  simp only [htDs, htD, h]
  cases htDs fs xs <;> rfl
@[simp] theorem exS_exp : exS cl gl (.exp e) S = bdO (evE cl gl e S) fun _ S => .nx S := by rw [exS] <;> rfl
@[simp] theorem exS_pas : exS cl gl .pas S = .nx S := by rw [exS]
@[simp] theorem exS_brk : exS cl gl .brk S = .brk S := by rw [exS]
@[simp] theorem exS_kill {is : List Nat} : exS cl gl (.kill is) S = .nx (killS S is) := by rw [exS]
/-! ### functions -/
@[simp] theorem outsOf_nil : outsOf [] S = some [] := rfl
@[simp] theorem outsOf_par {o o' : Ob} {as : List Cell} : outsOf (.par o :: as) (some (.par o') :: S) = (outsOf as S).map (o' :: ·) := rfl
@[simp] theorem outsOf_val {as : List Cell} {c : Option Cell} : outsOf (.val d :: as) (c :: S) = outsOf as S := rfl
def endO : Option (List Ob) → (List Ob → FnRes) → FnRes
  | some os, k => k os
  | none, _ => .bad
@[simp] theorem endO_some {os : List Ob} {k : List Ob → FnRes} : endO (some os) k = k os := rfl
@[simp] theorem endF_eq {as : List Cell} {k : List Ob → FnRes} : endF as S k = endO (outsOf as S) k := by
  unfold endF endO
  cases outsOf as S <;> rfl
def endR (as : List Cell) : Fl → FnRes
  | .nx S => endF as S (.ok (.val .non))
  | .ret r S => endF as S (.ok r)
  | .exc c fs S => endF as S (.exc c fs)
  | _ => .bad
@[simp] theorem endR_nx {as : List Cell} : endR as (.nx S) = endF as S (.ok (.val .non)) := rfl
@[simp] theorem endR_ret {as : List Cell} {r : RC} : endR as (.ret r S) = endF as S (.ok r) := rfl
@[simp] theorem endR_exc {as : List Cell} : endR as (.exc c fs S) = endF as S (.exc c fs) := rfl
@[simp] theorem runFn_eq {g : Fn} {as : List Cell} : runFn cl gl g as = if as.length = g.ps.length then endR as (exSs cl gl g.body (startF g as)) else .bad := by
  unfold runFn endR
  split
  · cases exSs cl gl g.body (startF g as) <;> rfl
  · rfl
end

/-! ### operators -/
section
variable {i j : Int} {d e : D} {xs ys : List D} {b : Bool}
@[simp] theorem line_ok {n : Nat} (h : n ≤ 16777216) : lineOk n = true := by
  unfold lineOk sizeLine
  simpa using h
@[simp] theorem sizeLine_eq : sizeLine = 16777216 := rfl
@[simp] theorem binD_add : binD .add (.int i) (.int j) = some (.val (.int (i + j))) := rfl
@[simp] theorem binD_addT : binD .add (.tup xs) (.tup ys) = if lineOk (xs.length + ys.length) then some (.val (.tup (xs ++ ys))) else none := rfl
@[simp] theorem binD_addL : binD .add (.lst xs) (.lst ys) = if lineOk (xs.length + ys.length) then some (.tmp (.lst (xs ++ ys))) else none := rfl
@[simp] theorem binD_sub : binD .sub (.int i) (.int j) = some (.val (.int (i - j))) := rfl
@[simp] theorem binD_mul : binD .mul (.int i) (.int j) = if smallI i || smallI j || (wideI i && wideI j) then some (.val (.int (i * j))) else none := rfl
@[simp] theorem binD_mulT : binD .mul (.tup xs) (.int j) = if decide (1 ≤ j) && decide (j ≤ 1000) && decide (xs.length ≤ 1000) && !xs.isEmpty then some (.val (.tup (List.replicate j.toNat xs).flatten)) else if decide (j = 0) && !xs.isEmpty then some (.val (.tup [])) else none := rfl
@[simp] theorem binD_mulL : binD .mul (.lst xs) (.int j) = if decide (0 ≤ j) && decide (j ≤ 1000) && lineOk (xs.length * j.toNat) then some (.tmp (.lst (List.replicate j.toNat xs).flatten)) else none := rfl
@[simp] theorem binD_fdiv (h1 : 0 < j) (h2 : j < 18446744073709551616) : binD .fdiv (.int i) (.int j) = some (.val (.int (i / j))) := by
  have h3 : j < 2 ^ 128 := by omega
  unfold binD
  simp only [h1, h3, decide_true, Bool.and_self, if_true]
theorem binD_fdivW (h1 : 0 < j) (h3 : j < 2 ^ 128) : binD .fdiv (.int i) (.int j) = some (.val (.int (i / j))) := by
  unfold binD
  simp only [h1, h3, decide_true, Bool.and_self, if_true]
@[simp] theorem binD_mod (h1 : 0 < j) : binD .mod (.int i) (.int j) = some (.val (.int (i % j))) := by
  unfold binD
  simp only [h1, decide_true, if_true]
@[simp] theorem binD_pow : binD .pow (.int i) (.int j) = if decide (0 ≤ j) && decide (j ≤ 1000) && smallI i then some (.val (.int (i ^ j.toNat))) else none := rfl
@[simp] theorem negD_int : negD (.int i) = some (.val (.int (-i))) := rfl
@[simp] theorem cmpD_eqI : cmpD .eq (.int i) e = pyEq (.int i) e := by cases e <;> rfl
@[simp] theorem cmpD_eqT : cmpD .eq (.tup xs) e = pyEq (.tup xs) e := by cases e <;> rfl
@[simp] theorem cmpD_eqL : cmpD .eq (.lst xs) e = pyEq (.lst xs) e := by cases e <;> rfl
@[simp] theorem cmpD_eqB : cmpD .eq (.bl b) e = pyEq (.bl b) e := by cases e <;> rfl
@[simp] theorem cmpD_eqN : cmpD .eq .non e = pyEq .non e := by cases e <;> rfl
@[simp] theorem cmpD_eqS {x : Str} : cmpD .eq (.str x) e = pyEq (.str x) e := by cases e <;> rfl
@[simp] theorem cmpD_eq0 {kvs : List (NestedKey × D)} : cmpD .eq (.dic kvs) (.dic []) = some kvs.isEmpty := rfl
@[simp] theorem cmpD_ne : cmpD .ne d e = (pyEq d e).map (!·) := by cases d <;> cases e <;> rfl
@[simp] theorem cmpD_lt : cmpD .lt (.int i) (.int j) = some (decide (i < j)) := rfl
@[simp] theorem cmpD_le : cmpD .le (.int i) (.int j) = some (decide (i ≤ j)) := rfl
@[simp] theorem cmpD_gt : cmpD .gt (.int i) (.int j) = some (decide (j < i)) := rfl
@[simp] theorem cmpD_ge : cmpD .ge (.int i) (.int j) = some (decide (j ≤ i)) := rfl
@[simp] theorem cmpD_ltT : cmpD .lt (.tup xs) (.tup ys) = pyLt (.tup xs) (.tup ys) := rfl
@[simp] theorem cmpD_geT : cmpD .ge (.tup xs) (.tup ys) = (pyLt (.tup xs) (.tup ys)).map (!·) := rfl
@[simp] theorem cmpD_inL : cmpD .isin d (.lst xs) = pyIn d xs := by cases d <;> rfl
@[simp] theorem cmpD_inT : cmpD .isin d (.tup xs) = pyIn d xs := by cases d <;> rfl
@[simp] theorem cmpD_niL : cmpD .notin d (.lst xs) = (pyIn d xs).map (!·) := by cases d <;> rfl
@[simp] theorem cmpD_niT : cmpD .notin d (.tup xs) = (pyIn d xs).map (!·) := by cases d <;> rfl
@[simp] theorem cmpD_is : cmpD .is d .non = some (isNon d) := by cases d <;> rfl
@[simp] theorem cmpD_isnot : cmpD .isnot d .non = some (!isNon d) := by cases d <;> rfl
@[simp] theorem isNon_non : isNon .non = true := rfl
@[simp] theorem isNon_int : isNon (.int i) = false := rfl
@[simp] theorem isNon_tup : isNon (.tup xs) = false := rfl
@[simp] theorem isNon_lst : isNon (.lst xs) = false := rfl
@[simp] theorem intCmp_lt : intCmp .lt i j = some (decide (i < j)) := rfl
@[simp] theorem intCmp_le : intCmp .le i j = some (decide (i ≤ j)) := rfl
@[simp] theorem intCmp_gt : intCmp .gt i j = some (decide (j < i)) := rfl
@[simp] theorem intCmp_ge : intCmp .ge i j = some (decide (j ≤ i)) := rfl
@[simp] theorem biD_abs : biD .abs [.int i] = some (.val (.int (if i < 0 then -i else i))) := rfl
@[simp] theorem biD_int : biD .int [.int i] = some (.val (.int i)) := rfl
@[simp] theorem biD_intB : biD .int [.bl b] = some (.val (.int (if b then 1 else 0))) := rfl
@[simp] theorem biD_lenL : biD .len [.lst xs] = some (.val (.int xs.length)) := rfl
@[simp] theorem biD_lenD {kvs : List (NestedKey × D)} : biD .len [.dic kvs] = some (.val (.int kvs.length)) := rfl
@[simp] theorem biD_lenT : biD .len [.tup xs] = some (.val (.int xs.length)) := rfl
@[simp] theorem biD_listL : biD .list [.lst xs] = some (.tmp (.lst xs)) := rfl
@[simp] theorem biD_listT : biD .list [.tup xs] = some (.tmp (.lst xs)) := rfl
@[simp] theorem biD_tupL : biD .tuple [.lst xs] = some (.val (.tup xs)) := rfl
@[simp] theorem biD_tupT : biD .tuple [.tup xs] = some (.val (.tup xs)) := rfl
@[simp] theorem biD_max2 : biD .max [.int i, .int j] = some (.val (.int (if i < j then j else i))) := rfl
@[simp] theorem biD_min2 : biD .min [.int i, .int j] = some (.val (.int (if j < i then j else i))) := rfl
def maxX : Option (List Int) → Option R
  | some (n :: ns) => some (.val (.int (maxL n ns)))
  | _ => none
def minX : Option (List Int) → Option R
  | some (n :: ns) => some (.val (.int (minL n ns)))
  | _ => none
@[simp] theorem maxX_cons {n : Int} {ns : List Int} : maxX (some (n :: ns)) = some (.val (.int (maxL n ns))) := rfl
@[simp] theorem minX_cons {n : Int} {ns : List Int} : minX (some (n :: ns)) = some (.val (.int (minL n ns))) := rfl
@[simp] theorem biD_max : biD .max [.lst xs] = maxX (asInts xs) := by
  simp only [biD]
  rcases asInts xs with _ | (_ | _) <;> rfl
@[simp] theorem biD_min : biD .min [.lst xs] = if (asInts xs).isSome = true then minX (asInts xs) else (minLD xs).map .val := by
  simp only [biD]
  cases h : asInts xs with
  | none => rfl
  | some l =>
    cases l with
    | nil =>
      cases xs with
      | nil => rfl
      | cons x r =>
        cases x <;> simp only [asInts] at h <;> try (cases h)
        simp only [Option.map_eq_some_iff] at h
        obtain ⟨_, _, h⟩ := h
        cases h
    | cons n ns => rfl
@[simp] theorem biD_minT : biD .min [.tup xs, .tup ys] = (minLD [.tup xs, .tup ys]).map .val := rfl
@[simp] theorem biD_sorted : biD .sorted [.lst xs] = (sortD xs).map fun ys => .tmp (.lst ys) := rfl
@[simp] theorem asInts_tup {zs : List D} {r : List D} : asInts (.tup zs :: r) = none := rfl
@[simp] theorem biD_sumT : biD .sum [.tup xs] = (asInts xs).map fun ns => .val (.int ns.sum) := rfl
@[simp] theorem biD_sum : biD .sum [.lst xs] = (asInts xs).map fun ns => .val (.int ns.sum) := rfl
@[simp] theorem asInts_nil : asInts [] = some [] := rfl
@[simp] theorem asInts_cons {r : List D} : asInts (.int i :: r) = (asInts r).map (i :: ·) := rfl
@[simp] theorem asInts_map {ns : List Int} : asInts (ns.map .int) = some ns := by
  induction ns with
  | nil => rfl
  | cons n ns ih => simp [ih]
@[simp] theorem isDic_int : isDic (.int i) = false := rfl
@[simp] theorem isDic_tup : isDic (.tup xs) = false := rfl
@[simp] theorem isDic_lst : isDic (.lst xs) = false := rfl
@[simp] theorem isDic_non : isDic .non = false := rfl
@[simp] theorem isDic_bl : isDic (.bl b) = false := rfl
@[simp] theorem isDic_str {x : Str} : isDic (.str x) = false := rfl
@[simp] theorem isDic_ins {c : Str} {fs : List (Str × D)} : isDic (.ins c fs) = false := rfl
@[simp] theorem truD_bl : truD (.bl b) = b := rfl
@[simp] theorem truD_int : truD (.int i) = (i != 0) := rfl
@[simp] theorem truD_tup : truD (.tup xs) = !xs.isEmpty := rfl
@[simp] theorem truD_lst : truD (.lst xs) = !xs.isEmpty := rfl
@[simp] theorem truD_non : truD .non = false := rfl
@[simp] theorem truOk_bl : truOk (.bl b) = true := rfl
@[simp] theorem truOk_int : truOk (.int i) = true := rfl
@[simp] theorem truOk_tup : truOk (.tup xs) = true := rfl
@[simp] theorem truOk_lst : truOk (.lst xs) = true := rfl
@[simp] theorem truOk_non : truOk .non = true := rfl
@[simp] theorem subD_lst : subD (.lst xs) (.int i) = atD xs i := rfl
@[simp] theorem subD_tup : subD (.tup xs) (.int i) = atD xs i := rfl
theorem atD_nat {n : Nat} : atD xs (n : Int) = xs[n]? := by
  unfold atD L2.atI L2.ixN
  by_cases h : n < xs.length
  · rw [if_pos (by omega), if_pos (by omega)]; rfl
  · rw [if_pos (by omega), if_neg (by omega), List.getElem?_eq_none (by omega)]; rfl
@[simp] theorem atD_0 {x : D} : atD (x :: xs) 0 = some x := (atD_nat (n := 0)).trans rfl
@[simp] theorem atD_1 {x y : D} : atD (x :: y :: xs) 1 = some y := (atD_nat (n := 1)).trans rfl
@[simp] theorem atD_2 {x y z : D} : atD (x :: y :: z :: xs) 2 = some z := (atD_nat (n := 2)).trans rfl
@[simp] theorem atD_cast {n : Nat} : atD xs (n : Int) = xs[n]? := atD_nat
@[simp] theorem itemsD_lst : itemsD (.lst xs) = some xs := rfl
@[simp] theorem itemsD_tup : itemsD (.tup xs) = some xs := rfl
@[simp] theorem sliD_lst {lo hi : Option Int} : sliD (.lst xs) lo hi = some (.tmp (.lst (cutD xs lo hi))) := rfl
@[simp] theorem sliD_tup {lo hi : Option Int} : sliD (.tup xs) lo hi = some (.val (.tup (cutD xs lo hi))) := rfl
@[simp] theorem setIx_lst : setIx (.lst xs) (.int i) d = (L2.ixN xs.length i).map fun j => .lst (xs.set j d) := rfl
@[simp] theorem setIx_dic {kvs : List (NestedKey × D)} : setIx (.dic kvs) (.tup xs) d = (kOf xs).bind fun k => if kvs.length < sizeLine then some (.dic (storeK kvs (.tup k) d)) else none := rfl
@[simp] theorem biD_listD {kvs : List (NestedKey × D)} : biD .list [.dic kvs] = some (.tmp (.lst (kvs.map fun p => ofKey p.1))) := rfl
@[simp] theorem cmpD_inD {kvs : List (NestedKey × D)} : cmpD .isin (.tup xs) (.dic kvs) = (kOf xs).map fun k => hasKey kvs (.tup k) := rfl
@[simp] theorem cmpD_niD {kvs : List (NestedKey × D)} : cmpD .notin (.tup xs) (.dic kvs) = (kOf xs).map fun k => !hasKey kvs (.tup k) := rfl
@[simp] theorem subD_dic {kvs : List (NestedKey × D)} : subD (.dic kvs) (.tup xs) = (kOf xs).bind fun k => valK kvs (.tup k) := rfl
@[simp] theorem itemsD_dic {kvs : List (NestedKey × D)} : itemsD (.dic kvs) = some (kvs.map fun p => ofKey p.1) := rfl
@[simp] theorem truD_dic {kvs : List (NestedKey × D)} : truD (.dic kvs) = !kvs.isEmpty := rfl
@[simp] theorem truOk_dic {kvs : List (NestedKey × D)} : truOk (.dic kvs) = true := rfl
theorem rng0 {n : Nat} : rngD 0 (n : Int) = (List.range n).map fun (k : Nat) => D.int (k : Int) := by
  unfold rngD
  simp
@[simp] theorem bigI_in (h1 : -4611686018427387904 ≤ i) (h2 : i < 4611686018427387904) : bigI i = true := by
  unfold bigI
  simp only [Bool.and_eq_true, decide_eq_true_eq]
  omega
@[simp] theorem smallI_in (h1 : -18446744073709551616 < i) (h2 : i < 18446744073709551616) : smallI i = true := by
  unfold smallI
  simp only [Bool.and_eq_true, decide_eq_true_eq]
  omega
end
@[simp] theorem isi_int_non : isiD "int" (.non) = false := rfl
@[simp] theorem isi_int_bl (b : Bool) : isiD "int" (.bl b) = true := rfl
@[simp] theorem isi_int_int (i : Int) : isiD "int" (.int i) = true := rfl
@[simp] theorem isi_int_str (x : Str) : isiD "int" (.str x) = false := rfl
@[simp] theorem isi_int_tup (xs : List D) : isiD "int" (.tup xs) = false := rfl
@[simp] theorem isi_int_lst (xs : List D) : isiD "int" (.lst xs) = false := rfl
@[simp] theorem isi_int_ins (fs : List (Str × D)) : isiD "int" (.ins "Month" fs) = false := (by decide +kernel : (("int" : Str) == "Month") = false)
@[simp] theorem isi_bool_non : isiD "bool" (.non) = false := rfl
@[simp] theorem isi_bool_bl (b : Bool) : isiD "bool" (.bl b) = true := rfl
@[simp] theorem isi_bool_int (i : Int) : isiD "bool" (.int i) = false := rfl
@[simp] theorem isi_bool_str (x : Str) : isiD "bool" (.str x) = false := rfl
@[simp] theorem isi_bool_tup (xs : List D) : isiD "bool" (.tup xs) = false := rfl
@[simp] theorem isi_bool_lst (xs : List D) : isiD "bool" (.lst xs) = false := rfl
@[simp] theorem isi_bool_ins (fs : List (Str × D)) : isiD "bool" (.ins "Month" fs) = false := (by decide +kernel : (("bool" : Str) == "Month") = false)
@[simp] theorem isi_str_non : isiD "str" (.non) = false := rfl
@[simp] theorem isi_str_bl (b : Bool) : isiD "str" (.bl b) = false := rfl
@[simp] theorem isi_str_int (i : Int) : isiD "str" (.int i) = false := rfl
@[simp] theorem isi_str_str (x : Str) : isiD "str" (.str x) = true := rfl
@[simp] theorem isi_str_tup (xs : List D) : isiD "str" (.tup xs) = false := rfl
@[simp] theorem isi_str_lst (xs : List D) : isiD "str" (.lst xs) = false := rfl
@[simp] theorem isi_str_ins (fs : List (Str × D)) : isiD "str" (.ins "Month" fs) = false := (by decide +kernel : (("str" : Str) == "Month") = false)
@[simp] theorem isi_tuple_non : isiD "tuple" (.non) = false := rfl
@[simp] theorem isi_tuple_bl (b : Bool) : isiD "tuple" (.bl b) = false := rfl
@[simp] theorem isi_tuple_int (i : Int) : isiD "tuple" (.int i) = false := rfl
@[simp] theorem isi_tuple_str (x : Str) : isiD "tuple" (.str x) = false := rfl
@[simp] theorem isi_tuple_tup (xs : List D) : isiD "tuple" (.tup xs) = true := rfl
@[simp] theorem isi_tuple_lst (xs : List D) : isiD "tuple" (.lst xs) = false := rfl
@[simp] theorem isi_tuple_ins (fs : List (Str × D)) : isiD "tuple" (.ins "Month" fs) = false := (by decide +kernel : (("tuple" : Str) == "Month") = false)
@[simp] theorem isi_list_non : isiD "list" (.non) = false := rfl
@[simp] theorem isi_list_bl (b : Bool) : isiD "list" (.bl b) = false := rfl
@[simp] theorem isi_list_int (i : Int) : isiD "list" (.int i) = false := rfl
@[simp] theorem isi_list_str (x : Str) : isiD "list" (.str x) = false := rfl
@[simp] theorem isi_list_tup (xs : List D) : isiD "list" (.tup xs) = false := rfl
@[simp] theorem isi_list_lst (xs : List D) : isiD "list" (.lst xs) = true := rfl
@[simp] theorem isi_list_ins (fs : List (Str × D)) : isiD "list" (.ins "Month" fs) = false := (by decide +kernel : (("list" : Str) == "Month") = false)
@[simp] theorem isi_Month_non : isiD "Month" (.non) = false := rfl
@[simp] theorem isi_Month_bl (b : Bool) : isiD "Month" (.bl b) = false := rfl
@[simp] theorem isi_Month_int (i : Int) : isiD "Month" (.int i) = false := rfl
@[simp] theorem isi_Month_str (x : Str) : isiD "Month" (.str x) = false := rfl
@[simp] theorem isi_Month_tup (xs : List D) : isiD "Month" (.tup xs) = false := rfl
@[simp] theorem isi_Month_lst (xs : List D) : isiD "Month" (.lst xs) = false := rfl
@[simp] theorem isi_Month_ins (fs : List (Str × D)) : isiD "Month" (.ins "Month" fs) = true := (by decide +kernel : (("Month" : Str) == "Month") = true)
end Ev

/-! EvS1: the equations of an instance that a slot holds. -/
namespace Ev
open PySem L2
section
variable {cl : Calls} {gl : Str → Option D} {S : Fr} {i : Nat} {c f m p : Str} {es : Es} {mk : MK} {e : E} {g : Str}
def insA (c : Str) : Option Ob → Option (List (Str × FV))
  | some (.ins c' fs) => if c' = c then some fs else none
  | _ => none
@[simp] theorem insA_ins {fs : List (Str × FV)} : insA c (some (.ins c fs)) = some fs := by simp [insA]
theorem insF_eq : insF S c i = insA c (obX (getC S i)) := by
  unfold insF
  rw [getO_eq]
  rcases obX (getC S i) with _ | (_ | _ | ⟨c', fs⟩ | _ | _) <;> rfl
def fvO : Option FV → Option D
  | some (.v d) => some d
  | _ => none
@[simp] theorem fvO_v {d : D} : fvO (some (.v d)) = some d := rfl
@[simp] theorem evE_ofl : evE cl gl (.ofl c i f) S = optR (insA c (obX (getC S i))) S fun fs S => optR (fvO (fs.lookup f)) S fun d S => .ok (.val d) S := by
  rw [evE, insF_eq]
  rcases insA c (obX (getC S i)) with _ | fs
  · rfl
  · simp only [optR_some]
    rcases fs.lookup f with _ | (_ | _) <;> rfl
@[simp] theorem evE_olc : evE cl gl (.olc c i f) S = optR (insA c (obX (getC S i))) S fun fs S => optR (lstF f fs) S fun xs S => .ok (.tmp (.lst xs)) S := by
  rw [evE, insF_eq]
  rcases insA c (obX (getC S i)) with _ | fs
  · rfl
  · simp only [optR_some]
    rcases lstF f fs with _ | xs <;> rfl
@[simp] theorem evE_oprop : evE cl gl (.oprop c p i) S = optR (insA c (obX (getC S i))) S fun _ S => noExc (callR cl (c ++ "." ++ p) [.r i] S) := by
  rw [evE, insF_eq]
  rcases insA c (obX (getC S i)) with _ | fs <;> rfl
@[simp] theorem evE_omet : evE cl gl (.omet c m i es mk) S = optR (insA c (obX (getC S i))) S fun fs S => if (fs.lookup m).isNone then (evEs cl gl es S).bd fun ds S => callR cl (c ++ "." ++ m) (.r i :: (ds.map .v ++ mk.ds)) S else .bad := by
  rw [evE, insF_eq]
  rcases insA c (obX (getC S i)) with _ | fs <;> rfl
@[simp] theorem evE_olen : evE cl gl (.olen c i) S = optR (insA c (obX (getC S i))) S fun _ S => lenR (callR cl (c ++ ".__len__") [.r i] S) := by
  rw [evE, insF_eq]
  rcases insA c (obX (getC S i)) with _ | fs <;> rfl
@[simp] theorem lenR_int {n : Int} : lenR (.ok (.val (.int n)) S) = if decide (0 ≤ n) && bigI n then .ok (.val (.int n)) S else .bad := rfl
@[simp] theorem evE_opop : evE cl gl (.opop c i f) S = optR (insA c (obX (getC S i))) S fun fs S => optR (lstF f fs) S fun xs S => optR (xs[xs.length - 1]?) S fun d S => .ok (.val d) (putO S i (.ins c (setL f xs.dropLast fs))) := by
  rw [evE, insF_eq]
  rcases insA c (obX (getC S i)) with _ | fs
  · rfl
  · simp only [optR_some]
    rcases lstF f fs with _ | xs
    · rfl
    · simp only [optR_some]
      rcases xs[xs.length - 1]? with _ | d <;> rfl
@[simp] theorem evE_lpop : evE cl gl (.lpop i) S = optR (lstOf (obX (getC S i))) S fun xs S => optR (xs[xs.length - 1]?) S fun d S => .ok (.val d) (putO S i (.lst xs.dropLast)) := by
  rw [evE, getO_eq]
  rcases obX (getC S i) with _ | (xs | _ | _ | _ | _) <;> try rfl
  simp only [lstOf, optR_some]
  rcases xs[xs.length - 1]? with _ | d <;> rfl
@[simp] theorem evT_otr : evT cl gl (.otr c i f) S = optR (insA c (obX (getC S i))) S fun fs S => optR (lstF f fs) S fun xs S => .ok (!xs.isEmpty) S := by
  rw [evT, insF_eq]
  rcases insA c (obX (getC S i)) with _ | fs
  · rfl
  · simp only [optR_some]
    rcases lstF f fs with _ | xs <;> rfl
@[simp] theorem exS_fap : exS cl gl (.fap c i f g) S = optF (insA c (obX (getC S i))) fun fs => optF (lstF f fs) fun xs => optF (fvO (fs.lookup g)) fun d => if decide (xs.length < sizeLine) then .nx (putO S i (.ins c (setL f (xs ++ [d]) fs))) else .bad := by
  rw [exS, insF_eq]
  rcases insA c (obX (getC S i)) with _ | fs
  · rfl
  · simp only [optF_some]
    rcases lstF f fs with _ | xs
    · rfl
    · simp only [optF_some]
      rcases fs.lookup g with _ | (_ | _) <;> rfl
def lstT : R → Option (List D)
  | .tmp (.lst xs) => some xs
  | _ => none
@[simp] theorem lstT_lst {xs : List D} : lstT (.tmp (.lst xs)) = some xs := rfl
@[simp] theorem exS_atl : exS cl gl (.atl c i f e) S = bdO (evE cl gl e S) fun x S => optF (lstT x) fun xs => optF (insA c (obX (getC S i))) fun fs => if fs.length < 900 then .nx (putO S i (.ins c (putL f xs fs))) else .bad := by
  rw [exS]
  refine bdO_ext fun x S => ?_
  rw [insF_eq]
  rcases x with _ | (_ | _ | _ | _ | _) | _ <;> try rfl
  simp only [lstT, optF_some]
  rcases insA c (obX (getC S i)) with _ | fs <;> rfl
variable {y : Str} {a b : E} {acc : Str}
@[simp] theorem evE_join : evE cl gl (.join y a) S = (evE cl gl a S).bd fun x S => optR ((cont S x).bind (joinD y)) S fun z S => .ok (.val (.str z)) S := by
  rw [evE]
  refine bd_ext (w := {}) fun x S => ?_
  rcases (cont S x).bind (joinD y) with _ | z <;> rfl
@[simp] theorem evE_split : evE cl gl (.split a y) S = (evE cl gl a S).bd fun x S => optR ((cont S x).bind (splitD y)) S fun ys S => .ok (.tmp (.lst (ys.map .str))) S := by
  rw [evE]
  refine bd_ext (w := {}) fun x S => ?_
  rcases (cont S x).bind (splitD y) with _ | z <;> rfl
@[simp] theorem evE_rstrip : evE cl gl (.rstrip a) S = (evE cl gl a S).bd fun x S => optR ((cont S x).bind rstripD) S fun z S => .ok (.val (.str z)) S := by
  rw [evE]
  refine bd_ext (w := {}) fun x S => ?_
  rcases (cont S x).bind rstripD with _ | z <;> rfl
@[simp] theorem evE_strI : evE cl gl (.strI a) S = (evE cl gl a S).bd fun x S => optR ((cont S x).bind strD) S fun z S => .ok (.val (.str z)) S := by
  rw [evE]
  refine bd_ext (w := {}) fun x S => ?_
  rcases (cont S x).bind strD with _ | z <;> rfl
@[simp] theorem evE_fstr : evE cl gl (.fstr es) S = (evFs cl gl es Str.empty S).bd fun z S => .ok (.val (.str z)) S := by
  rw [evE]
  exact bd_ext (w := {}) fun x S => rfl
@[simp] theorem evFs_nil : evFs cl gl .nil acc S = .ok acc S := by rw [evFs]
@[simp] theorem evFs_cons : evFs cl gl (.cons e es) acc S = (evE cl gl e S).bd fun x S => optR ((cont S x).bind fmtD) S fun y S => if lineOk (acc ++ y).length then evFs cl gl es (acc ++ y) S else .bad := by
  rw [evFs]
  refine bd_ext (w := {}) fun x S => ?_
  rcases (cont S x).bind fmtD with _ | z <;> rfl
def lrgR (i j : Int) (S : Fr) : Out R := if smallN i && smallN j then .ok (.tmp (.lst (rngD i j))) S else .bad
@[simp] theorem evE_lrg1 : evE cl gl (.lrg1 a) S = (evE cl gl a S).bd fun x S => optR (intO (cont S x)) S fun j S => if smallN j then .ok (.tmp (.lst (rngD 0 j))) S else .bad := by
  rw [evE]
  refine bd_ext (w := {}) fun x S => ?_
  rcases cont S x with _ | d
  · rfl
  · cases d <;> rfl
@[simp] theorem evE_lrg2 : evE cl gl (.lrg2 a b) S = (evE cl gl a S).bd fun x S => optR (intO (cont S x)) S fun i S => (evE cl gl b S).bd fun y S => optR (intO (cont S y)) S fun j S => if smallN i && smallN j then .ok (.tmp (.lst (rngD i j))) S else .bad := by
  rw [evE]
  refine bd_ext (w := {}) fun x S => ?_
  rcases cont S x with _ | d
  · rfl
  · cases d <;> try rfl
    refine bd_ext (w := {}) fun y S => ?_
    rcases cont S y with _ | d
    · rfl
    · cases d <;> rfl
@[simp] theorem MK_pos : MK.pos.ds = [] := rfl
@[simp] theorem MK_dfl : MK.dfl.ds = [.v .non] := rfl
@[simp] theorem MK_kw {y : Str} : (MK.kw y).ds = [] := rfl
end
/-! ### lists whose items may be lists of their own -/
section
variable {cl : Calls} {gl : Str → Option D} {S : Fr} {i j m : Nat} {c f : Str} {es : Es} {a e : E} {d : D} {xs : List FV}
def llX : Option Cell → Option (List FV)
  | some (.own (.ll xs)) => some xs
  | _ => none
@[simp] theorem llX_ll : llX (some (.own (.ll xs))) = some xs := rfl
theorem llC_eq : llC S i = llX (getC S i) := rfl
@[simp] theorem evE_fz : evE cl gl (.fz a) S = (evE cl gl a S).bd fun x S => (esc x S).bd fun d S => .ok (.val d) S := by rw [evE] <;> rfl
@[simp] theorem evE_lstL : evE cl gl (.lstL es) S = (evRs cl gl es S).bd fun rs S => optR (fvRs rs) S fun xs S => if lineOk rs.length then .ok (.tmp (.ll xs)) S else .bad := by
  rw [evE]
  refine bd_ext fun rs S => ?_
  rcases fvRs rs with _ | xs <;> rfl
@[simp] theorem fvRs_nil : fvRs [] = some [] := rfl
@[simp] theorem fvRs_val {rs : List R} : fvRs (.val d :: rs) = (fvRs rs).map (.v d :: ·) := by
  simp only [fvRs, fvR]
  rcases fvRs rs with _ | xs <;> rfl
@[simp] theorem fvRs_lst {ys : List D} {rs : List R} : fvRs (.tmp (.lst ys) :: rs) = (fvRs rs).map (.l ys :: ·) := by
  simp only [fvRs, fvR]
  rcases fvRs rs with _ | xs <;> rfl
@[simp] theorem fvD_v : fvD (.v d) = d := rfl
@[simp] theorem fvD_l {ys : List D} : fvD (.l ys) = .lst ys := rfl
@[simp] theorem evE_isiL : evE cl gl (.isiL i m c) S = optR (llX (getC S i)) S fun xs S => isiLR S c xs[m]? := by
  rw [evE, llC_eq]
  rcases llX (getC S i) with _ | xs <;> rfl
@[simp] theorem isiLR_some {x : FV} : isiLR S c (some x) = if isDic (fvD x) then .bad else .ok (.val (.bl (isiD c (fvD x)))) S := rfl
@[simp] theorem evT_neL : evT cl gl (.neL i j) S = optR (llX (getC S i)) S fun xs S => neLR xs S (getC S j) := by
  rw [evT, llC_eq]
  rcases llX (getC S i) with _ | xs <;> rfl
theorem neLR_val : neLR xs S (some (.val d)) = optR (cmpD .ne (.lst (xs.map fvD)) d) S fun b S => .ok b S := by
  unfold neLR
  dsimp only
  rcases cmpD .ne (.lst (xs.map fvD)) d with _ | b <;> rfl
@[simp] theorem evT_isnL : evT cl gl (.isnL i m) S = optR (llX (getC S i)) S fun xs S => isnLR S xs[m]? := by
  rw [evT, llC_eq]
  rcases llX (getC S i) with _ | xs <;> rfl
@[simp] theorem isnLR_some {x : FV} : isnLR S (some x) = .ok (!isNon (fvD x)) S := rfl
def pickAR (cl : Calls) (fs : List Str) (d : D) (S : Fr) (ev : Fr → Out (List Arg)) : Out R := match d with
  | .int j => (match pickF fs j with
    | some f => (ev S).bind fun as S => callR cl f as S
    | none => .bad)
  | _ => .bad
@[simp] theorem pickAR_int {fs : List Str} {n : Int} {ev : Fr → Out (List Arg)} : pickAR cl fs (.int n) S ev = optR (pickF fs n) S fun f S => (ev S).bd fun as S => callR cl f as S := by
  unfold pickAR
  dsimp only
  cases pickF fs n <;> rfl
@[simp] theorem evE_pickA {fs : List Str} : evE cl gl (.pickA fs a es) S = (evE cl gl a S).bd fun z S => optR (cont S z) S fun d S => pickAR cl fs d S (evAs cl gl es) := by
  rw [evE]
  refine bd_ext fun y S => ?_
  rcases cont S y with _ | d
  · rfl
  · cases d <;> rfl
@[simp] theorem exS_catL : exS cl gl (.catL i es) S = optF (llX (getC S i)) fun _ => bdO (evRs cl gl es S) fun rs S => optF (llX (getC S i)) fun xs => optF (fvRs rs) fun ys => if lineOk rs.length && lineOk (xs.length + ys.length) then .nx (setC S i (some (.own (.ll (xs ++ ys))))) else .bad := by
  rw [exS, llC_eq]
  rcases llX (getC S i) with _ | xs
  · rfl
  refine bdO_ext (w := {}) fun rs S => ?_
  rw [llC_eq]
  rcases llX (getC S i) with _ | xs
  · rfl
  · rcases fvRs rs with _ | ys <;> rfl
@[simp] theorem exS_retL : exS cl gl (.retL i es) S = optF (llX (getC S i)) fun _ => bdO (evRs cl gl es S) fun rs S => optF (llX (getC S i)) fun xs => optF (fvRs rs) fun ys => if lineOk rs.length && lineOk (xs.length + ys.length) then .ret (.own (.ll (xs ++ ys))) (setC S i none) else .bad := by
  rw [exS, llC_eq]
  rcases llX (getC S i) with _ | xs
  · rfl
  refine bdO_ext (w := {}) fun rs S => ?_
  rw [llC_eq]
  rcases llX (getC S i) with _ | xs
  · rfl
  · rcases fvRs rs with _ | ys <;> rfl
@[simp] theorem exS_appL : exS cl gl (.appL i e) S = optF (llX (getC S i)) fun _ => bdO (evE cl gl e S) fun x S => bdO (esc x S) fun d S => optF (llX (getC S i)) fun xs => if decide (xs.length < sizeLine) then .nx (setC S i (some (.own (.ll (xs ++ [.v d]))))) else .bad := by
  rw [exS, llC_eq]
  rcases llX (getC S i) with _ | xs
  · rfl
  refine bdO_ext (w := {}) fun rs S => bdO_ext (w := {}) fun d S => ?_
  rw [llC_eq]
  rcases llX (getC S i) with _ | xs <;> rfl
@[simp] theorem exS_rev : exS cl gl (.rev i) S = optF (lstOf (obX (getC S i))) fun xs => .nx (putO S i (.lst xs.reverse)) := by
  rw [exS, getO_eq]
  rcases obX (getC S i) with _ | (xs | _ | _ | _ | _ | _) <;> rfl
@[simp] theorem exS_chgL : exS cl gl (.chgL j i f) S = optF (llX (getC S i)) fun xs => chgR cl f j i S xs := by
  rw [exS, llC_eq]
  rcases llX (getC S i) with _ | xs <;> rfl
theorem chgR_ok (h1 : isFree S j = true) (h2 : ChgOk cl f xs) : chgR cl f j i S xs = .nx (setC S i none) := by
  unfold chgR
  rw [if_pos ⟨h1, h2⟩]
@[simp] theorem exSs_dsel {i1 i2 y : Nat} {k1 k2 : List Str} {e1 e2 : Es} : exSs cl gl (.dsel i1 k1 e1 i2 k2 e2 y) S = if isFree S i1 && decide (i1 ≠ y) && decide (i2 ≠ y) && decide (i1 ≠ i2) then bdO (evEs cl gl e1 S) fun d1 S => if isFree S i1 then bdO (evEs cl gl e2 S) fun d2 S => if isFree S i1 && isFree S i2 then dselR k1 k2 d1 d2 S (getC S y) else .bad else .bad else .bad := by
  rw [exSs]
  rfl
end
end Ev

/-! EvT: plain data compared; loops. -/
namespace Ev
open PySem L2

/-! ### plain data: no truth values, no dicts, no instances; at most n deep -/
def plN : Nat → D → Bool
  | _, .non => true
  | _, .int _ => true
  | _, .str x => PyData.canLay0 (.str x)
  | n + 1, .tup xs => xs.all (plN n)
  | n + 1, .lst xs => xs.all (plN n)
  | _, _ => false
@[simp] theorem plN_non {n : Nat} : plN n .non = true := by cases n <;> rfl
@[simp] theorem plN_int {n : Nat} {i : Int} : plN n (.int i) = true := by cases n <;> rfl
@[simp] theorem plN_str {n : Nat} {x : Str} : plN n (.str x) = PyData.canLay0 (.str x) := by cases n <;> rfl
@[simp] theorem plN_tup {n : Nat} {xs : List D} : plN (n + 1) (.tup xs) = xs.all (plN n) := by rw [plN]
@[simp] theorem plN_lst {n : Nat} {xs : List D} : plN (n + 1) (.lst xs) = xs.all (plN n) := by rw [plN]
noncomputable def eqD (a b : D) : Bool := @decide (a = b) (Classical.propDecidable _)
@[simp] theorem eqD_true {a b : D} : (eqD a b = true) = (a = b) := by
  unfold eqD
  simp
@[simp] theorem eqD_false {a b : D} : (eqD a b = false) = ¬ (a = b) := by
  unfold eqD
  simp
@[simp] theorem eqD_self {a : D} : eqD a a = true := by simp
theorem eqD_comm {a b : D} : eqD a b = eqD b a := by
  cases h : eqD b a
  · simp at h ⊢; exact fun z => h z.symm
  · simp at h ⊢; exact h.symm
theorem toPDs_len : ∀ {xs : List D} {ps : List PyData}, toPDs xs = some ps → ps.length = xs.length
  | [], ps, h => by simp only [toPDs, Option.some.injEq] at h; subst h; rfl
  | x :: xs, ps, h => by
    simp only [toPDs] at h
    split at h
    · next p qs h1 h2 => cases h; simp [toPDs_len h2]
    · cases h
/-- what plain data is told as -/
theorem pl_pd : ∀ (n : Nat) (d : D), plN n d = true → ∃ p, toPD d = some p ∧ p.canLay0 = true ∧ p.depth ≤ n + 1
  | n, .non, _ => ⟨.none, rfl, rfl, by simp [PyData.depth]⟩
  | n, .int i, _ => ⟨.int i, rfl, rfl, by simp [PyData.depth]⟩
  | n, .str x, h => ⟨.str x, rfl, by rw [plN_str] at h; exact h, by simp [PyData.depth]⟩
  | 0, .tup xs, h => by cases h
  | 0, .lst xs, h => by cases h
  | n + 1, .tup xs, h => by
    obtain ⟨ps, h1, h2, h3⟩ := go n xs h
    exact ⟨.tuple ps, by simp only [toPD, h1]; rfl, by simp only [PyData.canLay0]; exact h2, by simp only [PyData.depth]; omega⟩
  | n + 1, .lst xs, h => by
    obtain ⟨ps, h1, h2, h3⟩ := go n xs h
    exact ⟨.list ps, by simp only [toPD, h1]; rfl, by simp only [PyData.canLay0]; exact h2, by simp only [PyData.depth]; omega⟩
  | 0, .bl _, h => by cases h
  | _ + 1, .bl _, h => by cases h
  | 0, .dic _, h => by cases h
  | _ + 1, .dic _, h => by cases h
  | 0, .ins _ _, h => by cases h
  | _ + 1, .ins _ _, h => by cases h
where
  go (n : Nat) : ∀ (xs : List D), xs.all (plN n) = true → ∃ ps, toPDs xs = some ps ∧ PyData.canLayAll0 ps = true ∧ PyData.depthAll ps ≤ n + 1
  | [], _ => ⟨[], rfl, rfl, by simp [PyData.depthAll]⟩
  | x :: xs, h => by
    simp only [List.all_cons, Bool.and_eq_true] at h
    obtain ⟨p, h1, h2, h3⟩ := pl_pd n x h.1
    obtain ⟨ps, h4, h5, h6⟩ := go n xs h.2
    exact ⟨p :: ps, by simp only [toPDs, h1, h4], by simp only [PyData.canLayAll0, h2, h5, Bool.and_self], by simp only [PyData.depthAll]; omega⟩
theorem pl_eqv : ∀ (n : Nat) (m : Nat) (a b : D) (p q : PyData), plN n a = true → plN m b = true → toPD a = some p → toPD b = some q → PyData.eqv p q = eqD a b
  | n, m, a, b, p, q, ha, hb, hp, hq => by
    cases a with
    | non => cases hp; cases b <;> simp only [toPD, Option.some.injEq, Option.map_eq_some_iff, reduceCtorEq] at hq <;> first | (subst hq; simp [PyData.eqv, eqD]) | (obtain ⟨_, _, rfl⟩ := hq; simp [PyData.eqv, eqD])
    | bl _ => cases n <;> cases ha
    | dic _ => cases n <;> cases ha
    | ins _ _ => cases n <;> cases ha
    | int i =>
      cases hp
      cases b with
      | bl _ => cases m <;> cases hb
      | int j =>
        cases hq
        simp only [PyData.eqv]
        cases h : eqD (.int i) (.int j)
        · simp at h; simpa using h
        · simp at h; simpa using h
      | _ => simp only [toPD, Option.some.injEq, Option.map_eq_some_iff, reduceCtorEq] at hq <;> first | (subst hq; simp [PyData.eqv, eqD]) | (obtain ⟨_, _, rfl⟩ := hq; simp [PyData.eqv, eqD])
    | str i =>
      cases hp
      cases b with
      | str j =>
        cases hq
        simp only [PyData.eqv]
        cases h : eqD (.str i) (.str j)
        · simp at h; simpa using h
        · simp at h; simpa using h
      | _ => simp only [toPD, Option.some.injEq, Option.map_eq_some_iff, reduceCtorEq] at hq <;> first | (subst hq; simp [PyData.eqv, eqD]) | (obtain ⟨_, _, rfl⟩ := hq; simp [PyData.eqv, eqD])
    | tup xs =>
      cases n with
      | zero => cases ha
      | succ n =>
      simp only [toPD, Option.map_eq_some_iff] at hp
      obtain ⟨ps, hp, rfl⟩ := hp
      cases b with
      | tup ys =>
        cases m with
        | zero => cases hb
        | succ m =>
        simp only [toPD, Option.map_eq_some_iff] at hq
        obtain ⟨qs, hq, rfl⟩ := hq
        simp only [PyData.eqv]
        have := go n m xs ys ps qs ha hb hp hq
        rw [Bool.eq_iff_iff, this, eqD_true]
        simp
      | _ => simp only [toPD, Option.some.injEq, Option.map_eq_some_iff, reduceCtorEq] at hq <;> first | (subst hq; simp [PyData.eqv, eqD]) | (obtain ⟨_, _, rfl⟩ := hq; simp [PyData.eqv, eqD])
    | lst xs =>
      cases n with
      | zero => cases ha
      | succ n =>
      simp only [toPD, Option.map_eq_some_iff] at hp
      obtain ⟨ps, hp, rfl⟩ := hp
      cases b with
      | lst ys =>
        cases m with
        | zero => cases hb
        | succ m =>
        simp only [toPD, Option.map_eq_some_iff] at hq
        obtain ⟨qs, hq, rfl⟩ := hq
        simp only [PyData.eqv]
        have := go n m xs ys ps qs ha hb hp hq
        rw [Bool.eq_iff_iff, this, eqD_true]
        simp
      | _ => simp only [toPD, Option.some.injEq, Option.map_eq_some_iff, reduceCtorEq] at hq <;> first | (subst hq; simp [PyData.eqv, eqD]) | (obtain ⟨_, _, rfl⟩ := hq; simp [PyData.eqv, eqD])
where
  go (n m : Nat) : ∀ (xs ys : List D) (ps qs : List PyData), xs.all (plN n) = true → ys.all (plN m) = true → toPDs xs = some ps → toPDs ys = some qs → (PyData.eqvAll ps qs = true ↔ xs = ys)
  | [], [], ps, qs, _, _, hp, hq => by cases hp; cases hq; simp [PyData.eqvAll]
  | [], y :: ys, ps, qs, _, _, hp, hq => by
    cases hp
    have := toPDs_len hq
    cases qs with
    | nil => simp at this
    | cons => simp [PyData.eqvAll]
  | x :: xs, [], ps, qs, _, _, hp, hq => by
    cases hq
    have := toPDs_len hp
    cases ps with
    | nil => simp at this
    | cons => simp [PyData.eqvAll]
  | x :: xs, y :: ys, ps, qs, ha, hb, hp, hq => by
    simp only [List.all_cons, Bool.and_eq_true] at ha hb
    simp only [toPDs] at hp hq
    split at hp
    · next p ps' h1 h2 =>
      cases hp
      split at hq
      · next q qs' h3 h4 =>
        cases hq
        simp only [PyData.eqvAll, Bool.and_eq_true, pl_eqv n m x y p q ha.1 hb.1 h1 h3, go n m xs ys ps' qs' ha.2 hb.2 h2 h4, eqD_true, List.cons.injEq]
      · cases hq
    · cases hp
theorem pl_eq {n m : Nat} {a b : D} (ha : plN n a = true) (hb : plN m b = true) (hn : n ≤ 60) (hm : m ≤ 60) : pyEq a b = some (eqD a b) := by
  obtain ⟨p, h1, h2, h3⟩ := pl_pd n a ha
  obtain ⟨q, h4, h5, h6⟩ := pl_pd m b hb
  unfold pyEq
  simp only [h1, h4, SeqAt.shaped, h2, h5, Bool.true_and, Bool.and_eq_true, decide_eq_true_eq]
  rw [if_pos ⟨by omega, by omega⟩, pl_eqv n m a b p q ha hb h1 h4]
@[simp] theorem pyEq_pl {a b : D} (ha : plN 9 a = true) (hb : plN 9 b = true) : pyEq a b = some (eqD a b) := pl_eq ha hb (by decide) (by decide)
@[simp] theorem pyEq_bl {a b : Bool} : pyEq (.bl a) (.bl b) = some (a == b) := by
  cases a <;> cases b <;> decide
theorem pl_in {n m : Nat} {a : D} {xs : List D} (ha : plN n a = true) (hb : xs.all (plN m) = true) (hn : n ≤ 60) (hm : m ≤ 60) : pyIn a xs = some (xs.any fun z => eqD z a) := by
  obtain ⟨p, h1, h2, h3⟩ := pl_pd n a ha
  obtain ⟨qs, h4, h5, h6⟩ := pl_pd.go m xs hb
  unfold pyIn
  have hd : (PyData.list qs).depth ≤ 64 := by simp only [PyData.depth]; omega
  have hl : (PyData.list qs).canLay0 = true := by simp only [PyData.canLay0]; exact h5
  simp only [h1, h4, SeqAt.shaped, h2, hl, Bool.true_and, Bool.and_eq_true, decide_eq_true_eq]
  rw [if_pos ⟨by omega, hd⟩]
  congr 1
  clear h5 h6 hd hl
  induction xs generalizing qs with
  | nil => cases h4; rfl
  | cons x xs ih =>
    simp only [List.all_cons, Bool.and_eq_true] at hb
    simp only [toPDs] at h4
    split at h4
    · next q qs' e1 e2 =>
      cases h4
      simp only [List.any_cons, pl_eqv m n x a q p hb.1 ha e1 h1, ih hb.2 qs' e2]
    · cases h4
@[simp] theorem pyIn_pl {a : D} {xs : List D} (ha : plN 9 a = true) (hb : xs.all (plN 9) = true) : pyIn a xs = some (xs.any fun z => eqD z a) := pl_in ha hb (by decide) (by decide)

@[simp] theorem asInts_mapf {α : Type} {f : α → Int} {xs : List α} : asInts (xs.map fun x => .int (f x)) = some (xs.map f) := by
  induction xs with
  | nil => rfl
  | cons x xs ih => simp [ih]
/-! ### loops -/
section
variable {α β : Type}
section
variable {tg : Tg} {kl : List Nat} {f : Fr → Fl} {d : D} {r : List D} {S S1 S2 : Fr}
theorem for_nil : forLoop tg kl f [] S = .nx (killS S kl) := by rw [forLoop]
theorem for_nx (h1 : bindT tg d S = some S1) (h2 : f S1 = .nx S2) : forLoop tg kl f (d :: r) S = forLoop tg kl f r (killS S2 kl) := by
  simp only [forLoop, h1, h2]
theorem for_cnt (h1 : bindT tg d S = some S1) (h2 : f S1 = .cnt S2) : forLoop tg kl f (d :: r) S = forLoop tg kl f r (killS S2 kl) := by
  simp only [forLoop, h1, h2]
theorem for_brk (h1 : bindT tg d S = some S1) (h2 : f S1 = .brk S2) : forLoop tg kl f (d :: r) S = .nx (killS S2 kl) := by
  simp only [forLoop, h1, h2]
theorem for_ret {v : RC} (h1 : bindT tg d S = some S1) (h2 : f S1 = .ret v S2) : forLoop tg kl f (d :: r) S = .ret v S2 := by
  simp only [forLoop, h1, h2]
theorem for_exc {c : Str} {fs : List (Str × D)} (h1 : bindT tg d S = some S1) (h2 : f S1 = .exc c fs S2) : forLoop tg kl f (d :: r) S = .exc c fs S2 := by
  simp only [forLoop, h1, h2]
variable {g : Fr → Out (Option D)} {acc : List D} {x : D}
theorem lc_nil : lcLoop tg g [] acc S = .ok acc S := by rw [lcLoop]
theorem lc_some (h1 : bindT tg d S = some S1) (h2 : g S1 = .ok (some x) S2) : lcLoop tg g (d :: r) acc S = lcLoop tg g r (acc ++ [x]) (killS S2 (slotsT tg)) := by
  simp only [lcLoop, h1, h2]
theorem lc_none (h1 : bindT tg d S = some S1) (h2 : g S1 = .ok none S2) : lcLoop tg g (d :: r) acc S = lcLoop tg g r acc (killS S2 (slotsT tg)) := by
  simp only [lcLoop, h1, h2]
end
section
variable {kl : List Nat} {t : Fr → Out Bool} {f : Fr → Fl} {n : Nat} {S S1 S2 : Fr}
theorem whl_end (h : t S = .ok false S1) : whlLoop kl t f (n + 1) S = .nx (killS S1 kl) := by
  simp [whlLoop, h, Fl.bindO]
theorem whl_nx (h : t S = .ok true S1) (h2 : f S1 = .nx S2) : whlLoop kl t f (n + 1) S = whlLoop kl t f n (killS S2 kl) := by
  simp [whlLoop, h, h2, Fl.bindO]
theorem whl_ret {v : RC} (h : t S = .ok true S1) (h2 : f S1 = .ret v S2) : whlLoop kl t f (n + 1) S = .ret v S2 := by
  simp [whlLoop, h, h2, Fl.bindO]
theorem whl_brk (h : t S = .ok true S1) (h2 : f S1 = .brk S2) : whlLoop kl t f (n + 1) S = .nx (killS S2 kl) := by
  simp [whlLoop, h, h2, Fl.bindO]
end
/-- a loop by an invariant over what is left -/
theorem for_inv {tg : Tg} {kl : List Nat} {f : Fr → Fl} (I : List D → Fr → Prop) (Q : Fl → Prop)
    (hn : ∀ S, I [] S → Q (.nx (killS S kl)))
    (hs : ∀ d r S, I (d :: r) S → ∃ S1, bindT tg d S = some S1 ∧ ((∃ S2, (f S1 = .nx S2 ∨ f S1 = .cnt S2) ∧ I r (killS S2 kl)) ∨ (∃ S2, f S1 = .brk S2 ∧ Q (.nx (killS S2 kl))) ∨ (∃ v S2, f S1 = .ret v S2 ∧ Q (.ret v S2)) ∨ (∃ c fs S2, f S1 = .exc c fs S2 ∧ Q (.exc c fs S2)))) :
    ∀ (ds : List D) (S : Fr), I ds S → Q (forLoop tg kl f ds S)
  | [], S, h => hn S h
  | d :: r, S, h => by
    obtain ⟨S1, h1, h2⟩ := hs d r S h
    unfold forLoop
    rw [h1]
    dsimp only
    rcases h2 with ⟨S2, e | e, hI⟩ | ⟨S2, e, hQ⟩ | ⟨v, S2, e, hQ⟩ | ⟨c, fs, S2, e, hQ⟩
    · rw [e]; exact for_inv I Q hn hs r _ hI
    · rw [e]; exact for_inv I Q hn hs r _ hI
    · rw [e]; exact hQ
    · rw [e]; exact hQ
    · rw [e]; exact hQ
/-- a loop that goes through, as a fold -/
theorem for_fold {tg : Tg} {kl : List Nat} {f : Fr → Fl} (g : β → D) (st : α → Fr) (step : α → β → α) (I : α → List β → Prop) 
    (hk : ∀ a, killS (st a) kl = st a)
    (hs : ∀ a x r, I a (x :: r) → I (step a x) r ∧ ∃ S1, bindT tg (g x) (st a) = some S1 ∧ ∃ S2, (f S1 = .nx S2 ∨ f S1 = .cnt S2) ∧ killS S2 kl = st (step a x)) :
    ∀ (xs : List β) (a : α), I a xs → forLoop tg kl f (xs.map g) (st a) = .nx (st (xs.foldl step a))
  | [], a, _ => by simp only [List.map_nil, forLoop, hk, List.foldl_nil]
  | x :: xs, a, h => by
    obtain ⟨h1, S1, h2, S2, h3, h4⟩ := hs a x xs h
    have ih := for_fold g st step I hk hs xs (step a x) h1
    simp only [List.map_cons, forLoop, h2, List.foldl_cons]
    rcases h3 with e | e <;> rw [e] <;> dsimp only <;> rw [h4, ih]
/-- a comprehension by an invariant -/
theorem lc_inv {tg : Tg} {f : Fr → Out (Option D)} (I : List D → List D → Fr → Prop)
    (hs : ∀ d r acc S, I (d :: r) acc S → ∃ S1 o S2, bindT tg d S = some S1 ∧ f S1 = .ok o S2 ∧ I r (acc ++ o.toList) (killS S2 (slotsT tg))) :
    ∀ (ds : List D) (acc : List D) (S : Fr), I ds acc S → ∃ out S', lcLoop tg f ds acc S = .ok out S' ∧ I [] out S'
  | [], acc, S, h => ⟨acc, S, rfl, h⟩
  | d :: r, acc, S, h => by
    obtain ⟨S1, o, S2, h1, h2, h3⟩ := hs d r acc S h
    obtain ⟨out, S', h4, h5⟩ := lc_inv I hs r _ _ h3
    refine ⟨out, S', ?_, h5⟩
    unfold lcLoop
    rw [h1]
    dsimp only
    rw [h2]
    cases o with
    | none => simpa using h4
    | some x => simpa using h4
/-- a comprehension that leaves the slots as they are -/
theorem lc_map {tg : Tg} {f : Fr → Out (Option D)} (g : β → D) (o : β → Option D) (S : Fr) (hs : ∀ x, ∃ S1 S2, bindT tg (g x) S = some S1 ∧ f S1 = .ok (o x) S2 ∧ killS S2 (slotsT tg) = S) :
    ∀ (xs : List β) (acc : List D), lcLoop tg f (xs.map g) acc S = .ok (acc ++ xs.filterMap o) S
  | [], acc => by simp [lcLoop]
  | x :: xs, acc => by
    obtain ⟨S1, S2, h1, h2, h3⟩ := hs x
    simp only [List.map_cons, lcLoop, h1, h2]
    cases e : o x with
    | none =>
      dsimp only
      rw [h3, lc_map g o S hs xs]
      simp [e]
    | some z =>
      dsimp only
      rw [h3, lc_map g o S hs xs]
      simp [e]
theorem lc_mapM {tg : Tg} {f : Fr → Out (Option D)} (g : β → D) (o : β → Option D) (S : Fr) :
    ∀ (xs : List β) (acc : List D), (∀ x ∈ xs, ∃ S1 S2, bindT tg (g x) S = some S1 ∧ f S1 = .ok (o x) S2 ∧ killS S2 (slotsT tg) = S) → lcLoop tg f (xs.map g) acc S = .ok (acc ++ xs.filterMap o) S
  | [], acc, _ => by simp [lcLoop]
  | x :: xs, acc, hs => by
    obtain ⟨S1, S2, h1, h2, h3⟩ := hs x List.mem_cons_self
    have ih := fun acc => lc_mapM g o S xs acc fun y hy => hs y (List.mem_cons_of_mem _ hy)
    simp only [List.map_cons, lcLoop, h1, h2]
    cases e : o x with
    | none =>
      dsimp only
      rw [h3, ih]
      simp [e]
    | some z =>
      dsimp only
      rw [h3, ih]
      simp [e]
end
end Ev

/-! EvU: dicts whose keys are tuples of ints, as lists of pairs. -/
namespace Ev
open PySem L2
abbrev kI (k : List Int) : NestedKey := .tup (k.map .num)
section
variable {β : Type} {g : β → D}
def dcI (g : β → D) (m : List (List Int × β)) : List (NestedKey × D) := m.map fun p => (kI p.1, g p.2)
def aHas (m : List (List Int × β)) (k : List Int) : Bool := m.any fun p => decide (p.1 = k)
def aGet (m : List (List Int × β)) (k : List Int) : Option β := (m.find? fun p => decide (p.1 = k)).map (·.2)
def aPut (m : List (List Int × β)) (k : List Int) (v : β) : List (List Int × β) := if aHas m k then m.map fun p => if decide (p.1 = k) then (p.1, v) else p else m ++ [(k, v)]
theorem toKeys_int : ∀ (k : List Int), toKeys (k.map .int) = some (k.map .num)
  | [] => rfl
  | x :: k => by simp only [List.map_cons, toKeys, toKey, toKeys_int k]
theorem depth_num : ∀ (k : List Int), NestedKey.depthAll (k.map .num) ≤ 1
  | [] => by simp [NestedKey.depthAll]
  | x :: k => by
    have := depth_num k
    simp only [List.map_cons, NestedKey.depthAll, NestedKey.depth]
    omega
@[simp] theorem kOf_int {k : List Int} : kOf (k.map .int) = some (k.map .num) := by
  unfold kOf
  rw [toKeys_int]
  simp only [Option.bind_some]
  rw [if_pos]
  have := depth_num k
  simp only [NestedKey.depth]
  omega
theorem ofKeys_num : ∀ (k : List Int), ofKeys (k.map .num) = k.map .int
  | [] => rfl
  | x :: k => by simp only [List.map_cons, ofKeys, ofKey, ofKeys_num k]
@[simp] theorem ofKey_kI {k : List Int} : ofKey (kI k) = .tup (k.map .int) := by
  simp only [ofKey, ofKeys_num]
theorem num_inj {a b : List Int} (h : a.map NestedKey.num = b.map .num) : a = b := by
  have : ∀ x y : Int, NestedKey.num x = .num y → x = y := fun x y z => by cases z; rfl
  exact (List.map_inj_right this).mp h
theorem kI_eq {a b : List Int} : (kI a = kI b) = (a = b) := propext ⟨fun h => num_inj (by simpa using h), fun h => by rw [h]⟩
@[simp] theorem dcI_nil : dcI g [] = [] := rfl
@[simp] theorem dcI_one {k : List Int} {v : β} : dcI g [(k, v)] = [(kI k, g v)] := rfl
@[simp] theorem dcI_len {m : List (List Int × β)} : (dcI g m).length = m.length := by simp [dcI]
@[simp] theorem dcI_empty {m : List (List Int × β)} : (dcI g m).isEmpty = m.isEmpty := by cases m <;> rfl
@[simp] theorem dcI_keys {m : List (List Int × β)} : (dcI g m).map (fun p => ofKey p.1) = m.map fun p => D.tup (p.1.map .int) := by
  unfold dcI
  rw [List.map_map]
  exact List.map_congr_left fun p _ => ofKey_kI
@[simp] theorem has_dcI {m : List (List Int × β)} {k : List Int} : hasKey (dcI g m) (.tup (k.map .num)) = aHas m k := by
  unfold hasKey aHas dcI
  rw [List.any_map]
  congr 1
  funext p
  simp only [Function.comp]
  exact decide_eq_decide.mpr (by rw [show (NestedKey.tup (k.map .num)) = kI k from rfl, kI_eq])
@[simp] theorem val_dcI {m : List (List Int × β)} {k : List Int} : valK (dcI g m) (.tup (k.map .num)) = (aGet m k).map g := by
  unfold valK aGet dcI
  induction m with
  | nil => rfl
  | cons p m ih =>
    simp only [List.map_cons, List.find?_cons]
    by_cases h : p.1 = k
    · subst h; simp
    · have h' : ¬ (kI p.1 = NestedKey.tup (k.map .num)) := by
        rw [show (NestedKey.tup (k.map .num)) = kI k from rfl, kI_eq]; exact h
      simp only [h, h', decide_false]
      exact ih
@[simp] theorem put_dcI {m : List (List Int × β)} {k : List Int} {v : β} : storeK (dcI g m) (.tup (k.map .num)) (g v) = dcI g (aPut m k v) := by
  unfold storeK aPut
  rw [has_dcI]
  cases aHas m k with
  | false => simp [dcI]
  | true =>
    simp only [if_true, dcI, List.map_map]
    apply List.map_congr_left
    intro p _
    simp only [Function.comp]
    by_cases h : p.1 = k
    · subst h; simp
    · have h' : ¬ (kI p.1 = NestedKey.tup (k.map .num)) := by
        rw [show (NestedKey.tup (k.map .num)) = kI k from rfl, kI_eq]; exact h
      simp [h, h']
theorem has_get {m : List (List Int × β)} {k : List Int} : aHas m k = (aGet m k).isSome := by
  unfold aHas aGet
  induction m with
  | nil => rfl
  | cons p m ih =>
    simp only [List.any_cons, List.find?_cons]
    by_cases h : p.1 = k
    · simp [h]
    · simp [h, ih]
theorem get_put {m : List (List Int × β)} {k j : List Int} {v : β} : aGet (aPut m k v) j = if j = k then some v else aGet m j := by
  unfold aPut
  cases hh : aHas m k with
  | false =>
    simp only [Bool.false_eq_true, if_false]
    unfold aGet
    rw [List.find?_append]
    by_cases hj : j = k
    · subst hj
      have : (m.find? fun p => decide (p.1 = j)) = none := by
        rw [List.find?_eq_none]
        intro p hp
        unfold aHas at hh
        rw [List.any_eq_false] at hh
        exact hh p hp
      simp [this]
    · have : ¬ k = j := fun z => hj z.symm
      simp [hj, this]
  | true =>
    simp only [if_true]
    unfold aGet aHas at *
    induction m with
    | nil => simp at hh
    | cons p m ih =>
      simp only [List.map_cons, List.find?_cons]
      by_cases hp : p.1 = k
      · by_cases hj : j = k
        · subst hj; simp [hp]
        · have h1 : ¬ k = j := fun z => hj z.symm
          have h2 : ¬ p.1 = j := by rw [hp]; exact h1
          simp only [hp, decide_true, if_true, h1, decide_false, hj, if_false]
          clear ih hh
          induction m with
          | nil => rfl
          | cons q m ih =>
            simp only [List.map_cons, List.find?_cons]
            by_cases hq : q.1 = k
            · have h3 : ¬ q.1 = j := by rw [hq]; exact h1
              simp only [hq, decide_true, if_true, h1, decide_false]
              exact ih
            · simp only [hq, decide_false, Bool.false_eq_true, if_false]
              by_cases h4 : q.1 = j
              · simp [h4]
              · simp only [h4, decide_false]
                exact ih
      · have hh' : (m.any fun p => decide (p.1 = k)) = true := by simpa [hp] using hh
        simp only [hp, decide_false, Bool.false_eq_true, if_false]
        by_cases hj : p.1 = j
        · have : ¬ j = k := fun z => hp (hj.trans z)
          simp [hj, this]
        · simp only [hj, decide_false]
          exact ih hh'
theorem put_len {m : List (List Int × β)} {k : List Int} {v : β} : (aPut m k v).length ≤ m.length + 1 := by
  unfold aPut
  split <;> simp
/-- the keys stand once each -/
def aNd (m : List (List Int × β)) : Prop := (m.map (·.1)).Nodup
theorem put_keys {m : List (List Int × β)} {k : List Int} {v : β} : (aPut m k v).map (·.1) = if aHas m k then m.map (·.1) else m.map (·.1) ++ [k] := by
  unfold aPut
  cases aHas m k with
  | false => simp
  | true =>
    simp only [if_true, List.map_map]
    apply List.map_congr_left
    intro p _
    simp only [Function.comp]
    split <;> rfl
theorem has_mem {m : List (List Int × β)} {k : List Int} : aHas m k = true ↔ k ∈ m.map (·.1) := by
  unfold aHas
  simp only [List.any_eq_true, decide_eq_true_eq, List.mem_map]
theorem put_nd {m : List (List Int × β)} {k : List Int} {v : β} (h : aNd m) : aNd (aPut m k v) := by
  unfold aNd
  rw [put_keys]
  cases hh : aHas m k with
  | true => simp only [if_true]; exact h
  | false =>
    simp only [Bool.false_eq_true, if_false]
    rw [List.nodup_append]
    refine ⟨h, by simp, fun a ha b hb => ?_⟩
    simp only [List.mem_singleton] at hb
    subst hb
    intro z
    subst z
    have := has_mem.mpr ha
    rw [hh] at this
    cases this
theorem get_mem {m : List (List Int × β)} {k : List Int} {v : β} (h : aGet m k = some v) : (k, v) ∈ m := by
  unfold aGet at h
  simp only [Option.map_eq_some_iff] at h
  obtain ⟨p, h1, rfl⟩ := h
  have h2 := List.find?_some h1
  have h3 := List.mem_of_find?_eq_some h1
  simp only [decide_eq_true_eq] at h2
  subst h2
  exact h3
theorem mem_get {m : List (List Int × β)} {k : List Int} {v : β} (hn : aNd m) (h : (k, v) ∈ m) : aGet m k = some v := by
  unfold aGet
  unfold aNd at hn
  induction m with
  | nil => cases h
  | cons p m ih =>
    simp only [List.map_cons, List.nodup_cons] at hn
    rcases List.mem_cons.mp h with rfl | h
    · simp
    · have : ¬ p.1 = k := fun z => hn.1 (z ▸ List.mem_map.mpr ⟨_, h, rfl⟩)
      simp only [List.find?_cons, this, decide_false]
      exact ih hn.2 h
end
end Ev

/-! EvV: the run's equation out of several. -/
namespace Ev
open PySem PySem.W PySem.Calls PySem.Spec PyProof.Rows L2

abbrev KT (s : PySem.W.SharedT) : PySem.W.Frag := He.frG (HandSHeadRun.getT s) (He.asD (HandSHeadRun.getT s) 5)
theorem map_two {α β γ : Type} {o : Option α} {f : α → β} {g : α → γ} {b : β} {c : γ} (h1 : o.map f = some b) (h2 : o.map g = some c) : o.map (fun s => (f s, g s)) = some (b, c) := by
  cases o with
  | none => cases h1
  | some a =>
    simp only [Option.map_some, Option.some.injEq] at h1 h2 ⊢
    rw [h1, h2]
theorem ob_of {L : Lw} {o : Option PySem.W.SharedT} (h1 : o.map (fun s => L.chk (KT s)) = some true) (h2 : o.map (fun s => L.dl.all fun p => seenB (KT s) p.2 (p.1.ad (KT s))) = some true) (h3 : o.map (fun s => L.dl.map fun p => seenW (KT s) (p.1.ad (KT s))) = some (L.dl.map fun p => p.2.val)) : o.map (fun s => L.ob 5 s) = some L.vals := by
  cases o with
  | none => cases h1
  | some a =>
    simp only [Option.map_some, Option.some.injEq] at h1 h2 h3 ⊢
    show (L.chk (KT a) && L.dl.all fun p => seenB (KT a) p.2 (p.1.ad (KT a)), L.dl.map fun p => seenW (KT a) (p.1.ad (KT a))) = _
    rw [h1, h2, h3]
    rfl
theorem run_of {r : PySem.W.OpenRow} {q : Program} {L : Lw} {M : Nat} {loose : List PySem.Str} {w : World}
    (h1 : ∀ os : OsState, (HandSHeadRun.endF (HandSHeadRun.stepQ (HandSHeadRun.denQ HandSHeadRun.tabQ) r.prog w) M r.prog w os).map (fun s => (HandSHeadRun.looksF r.prog (boot_heap w.params) s.abs, HandSHeadRun.seenQ q loose (importedModules r.prog.main.body) (fun s => PySem.W.xlAt q [] s && PySem.W.recOk r.toRowW.records s) s.abs)) = some (true, PySem.W.openGood q loose))
    (h2 : ∀ os : OsState, (HandSHeadRun.endF (HandSHeadRun.stepQ (HandSHeadRun.denQ HandSHeadRun.tabQ) r.prog w) M r.prog w os).map (fun s => L.ob 5 s) = some L.vals) : HandSHeadRun.RunEq r q (L.hook 5) (L.ob 5) M loose w := by
  intro os
  have a := h1 os
  have b := h2 os
  generalize HandSHeadRun.endF (HandSHeadRun.stepQ (HandSHeadRun.denQ HandSHeadRun.tabQ) r.prog w) M r.prog w os = o at *
  cases o with
  | none => cases a
  | some s =>
    simp only [Option.map_some, Option.some.injEq, Prod.mk.injEq] at a b ⊢
    rw [a.1, a.2, b]
    exact ⟨rfl, rfl⟩
end Ev


namespace Law
open PySem PySem.Spec PyProof.Rows L2 Ev
def f_is_integer : Fn := ⟨"is_integer", ["value"], ["value"], (.cons (.ret false (.and (.cons (.isi (.ref 0) "int") (.cons (.not (.isi (.ref 0) "bool")) .nil)))) .nil)⟩
def f_is_from : Fn := ⟨"is_from", ["value", "low", "high"], ["value", "low", "high"], (.cons (.ret false (.and (.cons (.call "is_integer" (.cons (.var 0) .nil)) (.cons (.chain .le .le (.var 1) (.var 0) (.var 2)) .nil)))) .nil)⟩
def f_is_group_L1 : Ss := (.cons (.ife (.not (.e (.call "is_from" (.cons (.var 3) (.cons (.bin .add (.ref 2) (.con (.int 1))) (.cons (.bin .sub (.ref 1) (.con (.int 1))) .nil)))))) (.cons (.ret false (.con (.bl false))) .nil) .nil) (.cons (.asg true 2 (.var 3)) .nil))
def f_is_group : Fn := ⟨"is_group", ["value", "people"], ["value", "people", "before", "person"], (.cons (.ife (.or (.cons (.not (.e (.isi (.ref 0) "tuple"))) (.cons (.not (.e (.ref 0))) .nil))) (.cons (.ret false (.con (.bl false))) .nil) .nil) (.cons (.asg true 2 (.neg (.con (.int 1)))) (.cons (.fr (.one 3) (.seq (.var 0)) [3] f_is_group_L1) (.cons (.ret false (.con (.bl true))) .nil))))⟩
def f_is_day : Fn := ⟨"is_day", ["value", "people"], ["value", "people", "cars", "group"], (.cons (.ife (.or (.cons (.not (.e (.isi (.ref 0) "tuple"))) (.cons (.cmp .ne (.bi .len (.cons (.ref 0) .nil)) (.con (.int 2))) .nil))) (.cons (.ret false (.con (.bl false))) .nil) .nil) (.cons (.unp [2, 3] (.var 0)) (.cons (.ret false (.and (.cons (.call "is_from" (.cons (.var 2) (.cons (.con (.int 1)) (.cons (.con (.int 2)) .nil)))) (.cons (.call "is_group" (.cons (.var 3) (.cons (.var 1) .nil))) (.cons (.cmp .le (.ref 2) (.bi .len (.cons (.ref 3) .nil))) .nil))))) .nil)))⟩
def f_is_barred : Fn := ⟨"is_barred", ["value", "days"], ["value", "days", "day", "person"], (.cons (.ife (.or (.cons (.not (.e (.isi (.ref 0) "tuple"))) (.cons (.cmp .ne (.bi .len (.cons (.ref 0) .nil)) (.con (.int 2))) .nil))) (.cons (.ret false (.con (.bl false))) .nil) .nil) (.cons (.unp [2, 3] (.var 0)) (.cons (.ret false (.and (.cons (.call "is_from" (.cons (.var 2) (.cons (.con (.int 0)) (.cons (.bin .sub (.bi .len (.cons (.ref 1) .nil)) (.con (.int 1))) .nil)))) (.cons (.call "is_integer" (.cons (.var 3) .nil)) (.cons (.cmp .isin (.ref 3) (.sub (.sub (.ref 1) (.ref 2)) (.con (.int 1)))) .nil))))) .nil)))⟩
def f_check_month : Fn := ⟨"check_month", ["value"], ["value"], (.cons (.ife (.not (.e (.isi (.ref 0) "Month"))) (.cons (.rse "BadMonth" [] .nil) .nil) .nil) .nil)⟩
def f_able_D1 : Ot := (.some (.cmp .notin (.tup (.cons (.var 1) (.cons (.var 2) .nil))) (.prop "Month" "cannot" (.var 0))))
def f_able_C1 : E := (.var 2)
def f_able : Fn := ⟨"able", ["month", "index"], ["month", "index", "person"], (.cons (.ret false (.lc f_able_C1 (.one 2) (.seq (.sub (.sub (.prop "Month" "days" (.var 0)) (.ref 1)) (.con (.int 1)))) f_able_D1)) .nil)⟩
def f_choices_of_L2 : Ss := (.cons (.ife (.cmp .lt (.ref 4) (.ref 5)) (.cons (.app 3 (.tup (.cons (.var 4) (.cons (.var 5) .nil)))) .nil) .nil) .nil)
def f_choices_of_L1 : Ss := (.cons (.fr (.one 5) (.seq (.var 2)) [5] f_choices_of_L2) .nil)
def f_choices_of_C1 : E := (.tup (.cons (.var 6) .nil))
def f_choices_of : Fn := ⟨"choices_of", ["month", "index"], ["month", "index", "people", "found", "one", "other", "person"], (.cons (.asg true 2 (.call "able" (.cons (.var 0) (.cons (.var 1) .nil)))) (.cons (.ife (.cmp .eq (.sub (.sub (.prop "Month" "days" (.var 0)) (.ref 1)) (.con (.int 0))) (.con (.int 1))) (.cons (.ret false (.lc f_choices_of_C1 (.one 6) (.seq (.var 2)) .none)) .nil) .nil) (.cons (.asg false 3 (.lst .nil)) (.cons (.fr (.one 4) (.seq (.var 2)) [4, 5] f_choices_of_L1) (.cons (.ret false (.ref 3)) .nil)))))⟩
def f_is_choice_L1 : Ss := (.cons (.ife (.or (.cons (.not (.e (.call "is_group" (.cons (.var 3) (.cons (.prop "Month" "people" (.var 0)) .nil))))) (.cons (.cmp .notin (.ref 3) (.call "choices_of" (.cons (.var 0) (.cons (.var 2) .nil)))) .nil))) (.cons (.ret false (.con (.bl false))) .nil) .nil) .nil)
def f_is_choice : Fn := ⟨"is_choice", ["month", "value"], ["month", "value", "index", "group"], (.cons (.ife (.or (.cons (.not (.e (.isi (.ref 1) "tuple"))) (.cons (.cmp .ne (.bi .len (.cons (.ref 1) .nil)) (.bi .len (.cons (.prop "Month" "days" (.var 0)) .nil))) .nil))) (.cons (.ret false (.con (.bl false))) .nil) .nil) (.cons (.fr (.many [2, 3]) (.enm (.cons (.var 1) .nil)) [2, 3] f_is_choice_L1) (.cons (.ret false (.con (.bl true))) .nil)))⟩
def f_check_choice : Fn := ⟨"check_choice", ["month", "value"], ["month", "value"], (.cons (.ife (.not (.e (.call "is_choice" (.cons (.var 0) (.cons (.var 1) .nil))))) (.cons (.rse "BadChoice" [] .nil) .nil) .nil) .nil)⟩
def f_behind_L1 : Ss := (.cons (.asg true 9 (.bin .mul (.ref 3) (.bi .int (.cons (.cmp .isin (.ref 7) (.ref 6)) .nil)))) (.cons (.app 4 (.bin .sub (.bin .add (.ref 8) (.ref 9)) (.bin .mul (.glo "TRIP") (.bi .int (.cons (.cmp .isin (.ref 7) (.ref 2)) .nil))))) .nil))
def f_behind : Fn := ⟨"behind", ["old", "day", "group"], ["old", "day", "group", "share", "found", "cars", "aboard", "person", "debt", "own"], (.cons (.unp [5, 6] (.var 1)) (.cons (.asg true 3 (.bin .fdiv (.bin .mul (.glo "TRIP") (.ref 5)) (.bi .len (.cons (.ref 6) .nil)))) (.cons (.asg false 4 (.lst .nil)) (.cons (.fr (.many [7, 8]) (.enm (.cons (.var 0) .nil)) [7, 8, 9] f_behind_L1) (.cons (.ret false (.bi .tuple (.cons (.ref 4) .nil))) .nil)))))⟩
def f_common_L1 : Ss := (.cons (.par [true, true] [0, 1] (.cons (.var 1) (.cons (.bin .mod (.ref 0) (.ref 1)) .nil))) .nil)
def f_common_T1 : T := (.e (.ref 1))
def f_common : Fn := ⟨"common", ["one", "other"], ["one", "other"], (.cons (.par [true, true] [0, 1] (.cons (.bi .abs (.cons (.ref 0) .nil)) (.cons (.bi .abs (.cons (.ref 1) .nil)) .nil))) (.cons (.whl 4096 f_common_T1 [] f_common_L1) (.cons (.ret false (.var 0)) .nil)))⟩
def f_fraction : Fn := ⟨"fraction", ["number", "parts"], ["number", "parts", "part"], (.cons (.asg true 2 (.call "common" (.cons (.var 0) (.cons (.var 1) .nil)))) (.cons (.ret false (.tup (.cons (.bin .fdiv (.ref 0) (.ref 2)) (.cons (.bin .fdiv (.ref 1) (.ref 2)) .nil)))) .nil))⟩
def f_distance_C1 : E := (.bi .abs (.cons (.ref 1) .nil))
def f_distance : Fn := ⟨"distance", ["row"], ["row", "debt"], (.cons (.ret false (.bi .max (.cons (.lc f_distance_C1 (.one 1) (.seq (.var 0)) .none) .nil))) .nil)⟩
def f_steps_L1 : Ss := (.cons (.asg true 5 (.call "behind" (.cons (.var 2) (.cons (.sub (.prop "Month" "days" (.var 0)) (.ref 1)) (.cons (.var 4) .nil))))) (.cons (.ife (.cmp .lt (.call "distance" (.cons (.var 5) .nil)) (.glo "TRIP")) (.cons (.app 3 (.tup (.cons (.var 4) (.cons (.var 5) .nil)))) .nil) .nil) .nil))
def f_steps : Fn := ⟨"steps", ["month", "index", "old"], ["month", "index", "old", "found", "group", "new"], (.cons (.asg false 3 (.lst .nil)) (.cons (.fr (.one 4) (.seq (.call "choices_of" (.cons (.var 0) (.cons (.var 1) .nil)))) [4, 5] f_steps_L1) (.cons (.ret false (.ref 3)) .nil)))⟩
def f_layers_L3 : Ss := (.cons (.six 3 (.var 6) (.con (.bl true))) .nil)
def f_layers_L2 : Ss := (.cons (.fr (.many [5, 6]) (.seq (.call "steps" (.cons (.var 0) (.cons (.var 2) (.cons (.var 4) .nil))))) [5, 6] f_layers_L3) .nil)
def f_layers_L1 : Ss := (.cons (.asg false 3 .dic0) (.cons (.fr (.one 4) (.seq (.sub (.ref 1) (.neg (.con (.int 1))))) [4, 5, 6] f_layers_L2) (.cons (.app 1 (.bi .list (.cons (.ref 3) .nil))) .nil)))
def f_layers : Fn := ⟨"layers", ["month"], ["month", "found", "index", "later", "old", "group", "new"], (.cons (.asg false 1 (.lst (.cons (.lst (.cons (.bin .mul (.tup (.cons (.con (.int 0)) .nil)) (.prop "Month" "people" (.var 0))) .nil)) .nil))) (.cons (.fr (.one 2) (.rng (.cons (.bi .len (.cons (.prop "Month" "days" (.var 0)) .nil)) .nil)) [2, 3, 4, 5, 6] f_layers_L1) (.cons (.ret false (.ref 1)) .nil)))⟩
def f_endings_C1 : E := (.sub (.sub (.ref 2) (.con (.int 0))) (.ref 7))
def f_endings_L2 : Ss := (.cons (.six 4 (.var 5) (.bi .sum (.cons (.lc f_endings_C1 (.many [6, 7]) (.seq (.call "steps" (.cons (.var 0) (.cons (.var 3) (.cons (.var 5) .nil))))) .none) .nil))) .nil)
def f_endings_L1 : Ss := (.cons (.asg false 4 .dic0) (.cons (.fr (.one 5) (.seq (.sub (.ref 1) (.ref 3))) [5] f_endings_L2) (.cons (.asg true 2 (.bin .add (.lst (.cons (.var 4) .nil)) (.ref 2))) .nil)))
def f_endings_K2 : E := (.var 5)
def f_endings_V2 : E := (.con (.int 1))
def f_endings : Fn := ⟨"endings", ["month"], ["month", "rows", "found", "index", "ways", "old", "group", "new"], (.cons (.asg true 1 (.call "layers" (.cons (.var 0) .nil))) (.cons (.asg true 2 (.lst (.cons (.dc f_endings_K2 f_endings_V2 (.one 5) (.seq (.sub (.ref 1) (.neg (.con (.int 1)))))) .nil))) (.cons (.fr (.one 3) (.rev (.bi .len (.cons (.prop "Month" "days" (.var 0)) .nil))) [3, 4, 5] f_endings_L1) (.cons (.ret false (.var 2)) .nil))))⟩
def f_many_fair : Fn := ⟨"many_fair", ["ways", "month"], ["ways", "month"], (.cons (.ret false (.sub (.sub (.ref 0) (.con (.int 0))) (.bin .mul (.tup (.cons (.con (.int 0)) .nil)) (.prop "Month" "people" (.var 1))))) .nil)⟩
def f_all_steps_C1 : E := (.tup (.cons (.var 3) (.cons (.call "behind" (.cons (.var 2) (.cons (.sub (.prop "Month" "days" (.var 0)) (.ref 1)) (.cons (.var 3) .nil)))) .nil)))
def f_all_steps : Fn := ⟨"all_steps", ["month", "index", "old"], ["month", "index", "old", "group"], (.cons (.ret false (.lc f_all_steps_C1 (.one 3) (.seq (.call "choices_of" (.cons (.var 0) (.cons (.var 1) .nil)))) .none)) .nil)⟩
def f_with_drives_C1 : E := (.bin .add (.ref 3) (.bi .int (.cons (.cmp .isin (.ref 2) (.ref 1)) .nil)))
def f_with_drives : Fn := ⟨"with_drives", ["drives", "group"], ["drives", "group", "person", "many"], (.cons (.ret false (.bi .tuple (.cons (.lc f_with_drives_C1 (.many [2, 3]) (.enm (.cons (.var 0) .nil)) .none) .nil))) .nil)⟩
def f_counts_of_L1 : Ss := (.cons (.six 3 (.var 6) (.bin .add (.get (.ref 3) (.var 6) (.con (.int 0))) (.sub (.ref 1) (.tup (.cons (.var 5) (.cons (.var 6) .nil)))))) .nil)
def f_counts_of_L4 : Ss := (.cons (.asg true 9 (.tup (.cons (.var 8) (.cons (.call "with_drives" (.cons (.var 6) (.cons (.var 7) .nil))) .nil)))) (.cons (.six 4 (.var 9) (.bin .add (.get (.ref 4) (.var 9) (.con (.int 0))) (.sub (.ref 1) (.tup (.cons (.var 5) (.cons (.var 6) .nil)))))) .nil))
def f_counts_of_L3 : Ss := (.cons (.fr (.many [7, 8]) (.seq (.call "steps" (.cons (.var 0) (.cons (.var 2) (.cons (.var 5) .nil))))) [7, 8, 9] f_counts_of_L4) .nil)
def f_counts_of_L2 : Ss := (.cons (.asg false 4 .dic0) (.cons (.fr (.many [5, 6]) (.seq (.var 1)) [5, 6, 7, 8, 9] f_counts_of_L3) (.cons (.asg true 1 (.var 4)) .nil)))
def f_counts_of : Fn := ⟨"counts_of", ["month"], ["month", "found", "index", "counts", "later", "old", "drives", "group", "new", "key"], (.cons (.asg true 1 (.dic1 (.tup (.cons (.bin .mul (.tup (.cons (.con (.int 0)) .nil)) (.prop "Month" "people" (.var 0))) (.cons (.bin .mul (.tup (.cons (.con (.int 0)) .nil)) (.prop "Month" "people" (.var 0))) .nil))) (.con (.int 1)))) (.cons (.fr (.one 2) (.rng (.cons (.bi .len (.cons (.prop "Month" "days" (.var 0)) .nil)) .nil)) [2, 4, 5, 6, 7, 8, 9] f_counts_of_L2) (.cons (.asg false 3 .dic0) (.cons (.fr (.many [5, 6]) (.seq (.var 1)) [5, 6] f_counts_of_L1) (.cons (.ret false (.ref 3)) .nil)))))⟩
def f_ends : Fn := ⟨"ends", ["month"], ["month"], (.cons (.exp (.call "check_month" (.cons (.var 0) .nil))) (.cons (.ret false (.bi .sorted (.cons (.itl (.call "counts_of" (.cons (.var 0) .nil))) .nil))) .nil))⟩
def f_check_drives_L1 : Ss := (.cons (.ife (.not (.e (.call "is_from" (.cons (.var 2) (.cons (.con (.int 0)) (.cons (.glo "MOST_DAYS") .nil)))))) (.cons (.rse "BadDrives" [] .nil) .nil) .nil) .nil)
def f_check_drives : Fn := ⟨"check_drives", ["month", "value"], ["month", "value", "many"], (.cons (.ife (.or (.cons (.not (.e (.isi (.ref 1) "tuple"))) (.cons (.cmp .ne (.bi .len (.cons (.ref 1) .nil)) (.prop "Month" "people" (.var 0))) .nil))) (.cons (.rse "BadDrives" [] .nil) .nil) .nil) (.cons (.fr (.one 2) (.seq (.var 1)) [2] f_check_drives_L1) .nil))⟩
def f_count_by : Fn := ⟨"count_by", ["month", "drives"], ["month", "drives"], (.cons (.exp (.call "check_month" (.cons (.var 0) .nil))) (.cons (.exp (.call "check_drives" (.cons (.var 0) (.cons (.var 1) .nil)))) (.cons (.ret false (.get (.call "counts_of" (.cons (.var 0) .nil)) (.var 1) (.con (.int 0)))) .nil)))⟩
def f_least_end_C1 : E := (.tup (.cons (.call "distance" (.cons (.var 4) .nil)) (.cons (.sub (.ref 1) (.ref 4)) .nil)))
def f_least_end_L3 : Ss := (.cons (.asg true 9 (.bin .add (.sub (.ref 1) (.ref 4)) (.tup (.cons (.var 7) .nil)))) (.cons (.six 3 (.var 8) (.bi .min (.cons (.ref 9) (.cons (.get (.ref 3) (.var 8) (.var 9)) .nil)))) .nil))
def f_least_end_L2 : Ss := (.cons (.fr (.many [7, 8]) (.seq (.call "all_steps" (.cons (.var 0) (.cons (.var 2) (.cons (.var 4) .nil))))) [7, 8, 9] f_least_end_L3) .nil)
def f_least_end_L1 : Ss := (.cons (.asg false 3 .dic0) (.cons (.fr (.one 4) (.seq (.var 1)) [7, 8, 9] f_least_end_L2) (.cons (.asg true 1 (.var 3)) .nil)))
def f_least_end : Fn := ⟨"least_end", ["month"], ["month", "found", "index", "later", "old", "far", "choice", "group", "new", "way"], (.cons (.exp (.call "check_month" (.cons (.var 0) .nil))) (.cons (.asg true 1 (.dic1 (.bin .mul (.tup (.cons (.con (.int 0)) .nil)) (.prop "Month" "people" (.var 0))) (.tup .nil))) (.cons (.fr (.one 2) (.rng (.cons (.bi .len (.cons (.prop "Month" "days" (.var 0)) .nil)) .nil)) [2, 3, 7, 8, 9] f_least_end_L1) (.cons (.ife (.not (.e (.ref 1))) (.cons (.rse "NoChoice" [] .nil) .nil) .nil) (.cons (.unp [5, 6] (.bi .min (.cons (.lc f_least_end_C1 (.one 4) (.seq (.var 1)) .none) .nil))) (.cons (.ret false (.tup (.cons (.call "fraction" (.cons (.var 5) (.cons (.glo "TRIP") .nil))) (.cons (.var 6) .nil)))) .nil))))))⟩
def f_check_costs_L2 : Ss := (.cons (.ife (.not (.e (.call "is_from" (.cons (.var 3) (.cons (.con (.int 0)) (.cons (.glo "MOST_COST") .nil)))))) (.cons (.rse "BadCosts" [] .nil) .nil) .nil) .nil)
def f_check_costs_L1 : Ss := (.cons (.ife (.or (.cons (.not (.e (.isi (.ref 2) "tuple"))) (.cons (.cmp .ne (.bi .len (.cons (.ref 2) .nil)) (.prop "Month" "people" (.var 0))) .nil))) (.cons (.rse "BadCosts" [] .nil) .nil) .nil) (.cons (.fr (.one 3) (.seq (.var 2)) [3] f_check_costs_L2) .nil))
def f_check_costs : Fn := ⟨"check_costs", ["month", "value"], ["month", "value", "row", "cost"], (.cons (.ife (.or (.cons (.not (.e (.isi (.ref 1) "tuple"))) (.cons (.cmp .ne (.bi .len (.cons (.ref 1) .nil)) (.bi .len (.cons (.prop "Month" "days" (.var 0)) .nil))) .nil))) (.cons (.rse "BadCosts" [] .nil) .nil) .nil) (.cons (.fr (.one 2) (.seq (.var 1)) [2, 3] f_check_costs_L1) .nil))⟩
def f_cheapest_C1 : E := (.sub (.ref 2) (.ref 6))
def f_cheapest_C2 : E := (.sub (.ref 4) (.ref 12))
def f_cheapest_L3 : Ss := (.cons (.asg true 11 (.tup (.cons (.bin .add (.ref 7) (.bi .sum (.cons (.lc f_cheapest_C2 (.one 12) (.seq (.var 9)) .none) .nil))) (.cons (.bin .add (.ref 8) (.tup (.cons (.var 9) .nil))) .nil)))) (.cons (.six 5 (.var 10) (.bi .min (.cons (.ref 11) (.cons (.get (.ref 5) (.var 10) (.var 11)) .nil)))) .nil))
def f_cheapest_L2 : Ss := (.cons (.unp [7, 8] (.sub (.ref 2) (.ref 6))) (.cons (.fr (.many [9, 10]) (.seq (.call "steps" (.cons (.var 0) (.cons (.var 3) (.cons (.var 6) .nil))))) [9, 10, 11] f_cheapest_L3) .nil))
def f_cheapest_L1 : Ss := (.cons (.asg false 5 .dic0) (.cons (.fr (.one 6) (.seq (.var 2)) [7, 8, 9, 10, 11] f_cheapest_L2) (.cons (.asg true 2 (.var 5)) .nil)))
def f_cheapest : Fn := ⟨"cheapest", ["month", "costs"], ["month", "costs", "found", "index", "row", "later", "old", "cost", "choice", "group", "new", "way", "person"], (.cons (.exp (.call "check_month" (.cons (.var 0) .nil))) (.cons (.exp (.call "check_costs" (.cons (.var 0) (.cons (.var 1) .nil)))) (.cons (.asg true 2 (.dic1 (.bin .mul (.tup (.cons (.con (.int 0)) .nil)) (.prop "Month" "people" (.var 0))) (.tup (.cons (.con (.int 0)) (.cons (.tup .nil) .nil))))) (.cons (.fr (.many [3, 4]) (.enm (.cons (.var 1) .nil)) [3, 4, 5, 7, 8, 9, 10, 11] f_cheapest_L1) (.cons (.ret false (.minN (.cons (.lc f_cheapest_C1 (.one 6) (.seq (.var 2)) .none) .nil))) .nil)))))⟩
def f_debts_behind_L1 : Ss := (.cons (.asg true 6 (.call "behind" (.cons (.sub (.ref 3) (.neg (.con (.int 1)))) (.cons (.sub (.prop "Month" "days" (.var 0)) (.ref 4)) (.cons (.var 5) .nil))))) (.cons (.ife (.or (.cons (.cmp .ge (.call "distance" (.cons (.var 6) .nil)) (.glo "TRIP")) (.cons (.cmp .eq (.sub (.sub (.ref 2) (.bin .add (.ref 4) (.con (.int 1)))) (.ref 6)) (.con (.int 0))) .nil))) (.cons (.ret false (.ref 3)) .nil) .nil) (.cons (.app 3 (.var 6)) .nil)))
def f_debts_behind : Fn := ⟨"debts_behind", ["month", "choice", "ways"], ["month", "choice", "ways", "found", "index", "group", "new"], (.cons (.asg false 3 (.lst (.cons (.bin .mul (.tup (.cons (.con (.int 0)) .nil)) (.prop "Month" "people" (.var 0))) .nil))) (.cons (.fr (.many [4, 5]) (.enm (.cons (.var 1) .nil)) [4, 5, 6] f_debts_behind_L1) (.cons (.ret false (.ref 3)) .nil)))⟩
def f_kept_days : Fn := ⟨"kept_days", ["month", "choice"], ["month", "choice", "ways"], (.cons (.exp (.call "check_month" (.cons (.var 0) .nil))) (.cons (.exp (.call "check_choice" (.cons (.var 0) (.cons (.var 1) .nil)))) (.cons (.asg true 2 (.call "endings" (.cons (.var 0) .nil))) (.cons (.ife (.cmp .eq (.call "many_fair" (.cons (.var 2) (.cons (.var 0) .nil))) (.con (.int 0))) (.cons (.ret false (.con .non)) .nil) .nil) (.cons (.ret false (.bin .sub (.bi .len (.cons (.call "debts_behind" (.cons (.var 0) (.cons (.var 1) (.cons (.var 2) .nil)))) .nil)) (.con (.int 1)))) .nil)))))⟩
def f_continued_D1 : Ot := (.some (.cmp .gt (.sub (.sub (.ref 3) (.bin .add (.ref 7) (.con (.int 1)))) (.ref 10)) (.con (.int 0))))
def f_continued_C1 : E := (.tup (.cons (.var 9) (.cons (.var 10) .nil)))
def f_continued_L1 : Ss := (.cons (.asg true 8 (.lc f_continued_C1 (.many [9, 10]) (.seq (.call "steps" (.cons (.var 0) (.cons (.var 7) (.cons (.var 5) .nil))))) f_continued_D1)) (.cons (.app 6 (.sub (.sub (.ref 8) (.con (.int 0))) (.con (.int 0)))) (.cons (.asg true 5 (.sub (.sub (.ref 8) (.con (.int 0))) (.con (.int 1)))) .nil)))
def f_continued : Fn := ⟨"continued", ["month", "choice", "many"], ["month", "choice", "many", "ways", "known", "old", "found", "index", "fine", "group", "new"], (.cons (.exp (.call "check_month" (.cons (.var 0) .nil))) (.cons (.exp (.call "check_choice" (.cons (.var 0) (.cons (.var 1) .nil)))) (.cons (.ife (.not (.e (.call "is_from" (.cons (.var 2) (.cons (.con (.int 0)) (.cons (.bi .len (.cons (.prop "Month" "days" (.var 0)) .nil)) .nil)))))) (.cons (.rse "BadNumber" [] .nil) .nil) .nil) (.cons (.asg true 3 (.call "endings" (.cons (.var 0) .nil))) (.cons (.asg true 4 (.call "debts_behind" (.cons (.var 0) (.cons (.var 1) (.cons (.var 3) .nil))))) (.cons (.ife (.or (.cons (.cmp .eq (.call "many_fair" (.cons (.var 3) (.cons (.var 0) .nil))) (.con (.int 0))) (.cons (.cmp .le (.bi .len (.cons (.ref 4) .nil)) (.ref 2)) .nil))) (.cons (.ret false (.con .non)) .nil) .nil) (.cons (.asg true 5 (.sub (.ref 4) (.ref 2))) (.cons (.asg false 6 (.bi .list (.cons (.sli (.ref 1) .none (.some (.ref 2))) .nil))) (.cons (.fr (.one 7) (.rng (.cons (.var 2) (.cons (.bi .len (.cons (.prop "Month" "days" (.var 0)) .nil)) .nil))) [7, 8] f_continued_L1) (.cons (.ret false (.bi .tuple (.cons (.ref 6) .nil))) .nil))))))))))⟩
def f__law_ask : Fn := ⟨"_law_ask", ["_law_kind", "_law_t", "_law_turn"], ["_law_kind", "_law_t", "_law_turn"], (.cons (.ife (.cmp .eq (.ref 0) (.con (.int 0))) (.cons (.ret false (.call "cheapest" (.cons (.sub (.ref 1) (.con (.int 0))) (.cons (.sub (.ref 1) (.con (.int 1))) .nil)))) .nil) .nil) (.cons (.ife (.cmp .eq (.ref 0) (.con (.int 1))) (.cons (.ret false (.call "kept_days" (.cons (.sub (.ref 1) (.con (.int 0))) (.cons (.sub (.ref 1) (.con (.int 1))) .nil)))) .nil) .nil) (.cons (.ife (.cmp .eq (.ref 0) (.con (.int 2))) (.cons (.ret false (.call "continued" (.cons (.sub (.ref 1) (.con (.int 0))) (.cons (.sub (.ref 1) (.con (.int 1))) (.cons (.sub (.ref 1) (.con (.int 2))) .nil))))) .nil) .nil) (.cons (.ife (.cmp .eq (.ref 0) (.con (.int 3))) (.cons (.ret false (.call "count_by" (.cons (.sub (.ref 1) (.con (.int 0))) (.cons (.sub (.ref 1) (.con (.int 1))) .nil)))) .nil) .nil) (.cons (.ret false (.pickA ["ends", "least_end"] (.bin .mod (.ref 2) (.con (.int 2))) (.cons (.sub (.ref 1) (.con (.int 0))) .nil))) .nil)))))⟩
def f__law_told : Fn := ⟨"_law_told", ["_law_kind", "_law_t", "_law_turn"], ["_law_kind", "_law_t", "_law_turn", "e", "_law_found"], (.cons (.tr ["BadPeople", "BadMonth", "BadChoice", "BadNumber", "NoChoice", "BadCosts", "BadDrives", "BadDays", "BadCannot"] (.cons (.exp (.call "_law_ask" (.cons (.var 0) (.cons (.var 1) (.cons (.var 2) .nil))))) .nil) [("DebtError", true, (some 3), .chn 4 [("month", "BadMonth"), ("costs", "BadCosts"), ("choice", "BadChoice"), ("number", "BadNumber"), ("drives", "BadDrives")] "none" "NoChoice")]) (.cons (.ret false (.lst (.cons (.con (.str "good")) .nil))) .nil))⟩
def f__law_good_one : Fn := ⟨"_law_good_one", ["_law_name"], ["_law_name", "_law_good", "_law_more"], (.dsel 1 ["month", "number"] (.cons (.new "Month" (.cons (.con (.int 2)) (.cons (.tup (.cons (.tup (.cons (.con (.int 1)) (.cons (.tup (.cons (.con (.int 0)) (.cons (.con (.int 1)) .nil))) .nil))) (.cons (.tup (.cons (.con (.int 1)) (.cons (.tup (.cons (.con (.int 0)) (.cons (.con (.int 1)) .nil))) .nil))) .nil))) (.cons (.tup (.cons (.tup (.cons (.con (.int 1)) (.cons (.con (.int 0)) .nil))) .nil)) .nil)))) (.cons (.con (.int 2)) .nil)) 2 ["choice", "drives", "costs"] (.cons (.tup (.cons (.tup (.cons (.con (.int 0)) .nil)) (.cons (.tup (.cons (.con (.int 1)) .nil)) .nil))) (.cons (.tup (.cons (.con (.int 0)) (.cons (.con (.int 10)) .nil))) (.cons (.tup (.cons (.tup (.cons (.bin .pow (.con (.int 10)) (.con (.int 6))) (.cons (.con (.int 0)) .nil))) (.cons (.tup (.cons (.con (.int 0)) (.cons (.con (.int 5)) .nil))) .nil))) .nil))) 0)⟩
def f__law_bad_one : Fn := ⟨"_law_bad_one", ["_law_h", "_law_name"], ["_law_h", "_law_name", "_law_bad", "_law_one"], (.cons (.asg false 2 (.lst (.cons (.con .non) (.cons (.con (.bl true)) (.cons (.con (.str "1")) (.cons (.neg (.con (.int 1))) (.cons (.tup (.cons (.con (.int 1)) .nil)) (.cons (.lst (.cons (.con (.int 1)) .nil)) .nil)))))))) (.cons (.asg true 3 (.tup (.cons (.con (.int 0)) (.cons (.con (.int 1)) .nil)))) (.cons (.ife (.cmp .eq (.ref 1) (.con (.str "number"))) (.cons (.app 2 (.con (.int 3))) .nil) .nil) (.cons (.ife (.cmp .eq (.ref 1) (.con (.str "month"))) (.cons (.asg false 2 (.lst (.cons (.con .non) (.cons (.tup (.cons (.con (.int 2)) (.cons (.tup .nil) (.cons (.tup .nil) .nil)))) (.cons (.con (.int 3)) (.cons (.con (.str "a")) (.cons (.lst (.cons (.new "Month" (.cons (.con (.int 1)) (.cons (.tup .nil) (.cons (.tup .nil) .nil)))) .nil)) .nil))))))) .nil) .nil) (.cons (.ife (.cmp .eq (.ref 1) (.con (.str "costs"))) (.cons (.asg false 2 (.lst (.cons (.con .non) (.cons (.tup .nil) (.cons (.tup (.cons (.var 3) .nil)) (.cons (.bin .mul (.tup (.cons (.var 3) .nil)) (.con (.int 3))) (.cons (.lst (.cons (.var 3) (.cons (.var 3) .nil))) (.cons (.tup (.cons (.var 3) (.cons (.lst (.cons (.con (.int 0)) (.cons (.con (.int 1)) .nil))) .nil))) (.cons (.tup (.cons (.var 3) (.cons (.tup (.cons (.con (.int 0)) .nil)) .nil))) (.cons (.tup (.cons (.var 3) (.cons (.tup (.cons (.con (.int 0)) (.cons (.neg (.con (.int 1))) .nil))) .nil))) (.cons (.tup (.cons (.var 3) (.cons (.con (.int 3)) .nil))) (.cons (.con (.int 3)) .nil)))))))))))) (.cons (.asg false 2 (.bin .add (.ref 2) (.lst (.cons (.tup (.cons (.var 3) (.cons (.tup (.cons (.con (.int 0)) (.cons (.con (.bl true)) .nil))) .nil))) (.cons (.tup (.cons (.var 3) (.cons (.tup (.cons (.con (.int 0)) (.cons (.con (.str "1")) .nil))) .nil))) (.cons (.tup (.cons (.var 3) (.cons (.tup (.cons (.con (.int 0)) (.cons (.bin .add (.bin .pow (.con (.int 10)) (.con (.int 6))) (.con (.int 1))) .nil))) .nil))) (.cons (.tup (.cons (.var 3) (.cons (.tup (.cons (.con (.int 0)) (.cons (.con (.int 1)) (.cons (.con (.int 2)) .nil)))) .nil))) (.cons (.tup (.cons (.var 3) (.cons (.con .non) .nil))) .nil)))))))) .nil)) .nil) (.cons (.ife (.cmp .eq (.ref 1) (.con (.str "choice"))) (.cons (.asg false 2 (.lst (.cons (.con .non) (.cons (.tup .nil) (.cons (.tup (.cons (.tup (.cons (.con (.int 0)) .nil)) .nil)) (.cons (.tup (.cons (.tup (.cons (.con (.int 0)) .nil)) (.cons (.tup (.cons (.con (.int 0)) .nil)) .nil))) (.cons (.lst (.cons (.tup (.cons (.con (.int 0)) .nil)) (.cons (.tup (.cons (.con (.int 1)) .nil)) .nil))) (.cons (.tup (.cons (.tup (.cons (.con (.int 0)) .nil)) (.cons (.tup (.cons (.con (.int 1)) .nil)) (.cons (.tup (.cons (.con (.int 1)) .nil)) .nil)))) (.cons (.tup (.cons (.tup (.cons (.con (.int 0)) .nil)) (.cons (.con (.int 1)) .nil))) (.cons (.tup (.cons (.tup (.cons (.con (.int 0)) .nil)) (.cons (.tup (.cons (.con (.int 0)) (.cons (.con (.int 1)) .nil))) .nil))) (.cons (.con (.int 3)) .nil))))))))))) (.cons (.asg false 2 (.bin .add (.ref 2) (.lst (.cons (.tup (.cons (.tup (.cons (.con (.int 0)) .nil)) (.cons (.tup (.cons (.con (.int 2)) .nil)) .nil))) (.cons (.tup (.cons (.tup (.cons (.con (.int 0)) .nil)) (.cons (.tup .nil) .nil))) (.cons (.tup (.cons (.tup (.cons (.con (.int 0)) .nil)) (.cons (.tup (.cons (.con (.bl true)) .nil)) .nil))) (.cons (.tup (.cons (.tup (.cons (.con (.int 0)) .nil)) (.cons (.con .non) .nil))) .nil))))))) .nil)) .nil) (.cons (.ife (.cmp .eq (.ref 1) (.con (.str "drives"))) (.cons (.asg false 2 (.lst (.cons (.con .non) (.cons (.tup .nil) (.cons (.tup (.cons (.con (.int 1)) .nil)) (.cons (.tup (.cons (.con (.int 0)) (.cons (.con (.int 1)) (.cons (.con (.int 1)) .nil)))) (.cons (.lst (.cons (.con (.int 0)) (.cons (.con (.int 1)) .nil))) (.cons (.tup (.cons (.con (.int 0)) (.cons (.neg (.con (.int 1))) .nil))) (.cons (.tup (.cons (.con (.int 0)) (.cons (.con (.int 11)) .nil))) (.cons (.tup (.cons (.con (.int 0)) (.cons (.con (.bl true)) .nil))) (.cons (.tup (.cons (.con (.int 0)) (.cons (.con (.str "1")) .nil))) (.cons (.con (.int 3)) .nil)))))))))))) .nil) .nil) (.cons (.ret false (.sub (.ref 2) (.call "_law_next" (.cons (.ref 0) (.cons (.bi .len (.cons (.ref 2) .nil)) .nil))))) .nil))))))))⟩
def f_law_S9 : Ss := (.cons (.ret false (.cmp .eq (.call "_law_told" (.cons (.var 7) (.cons (.var 4) (.cons (.var 8) .nil)))) (.sli (.bin .add (.ref 6) (.lst (.cons (.con (.str "good")) .nil))) .none (.some (.con (.int 1)))))) .nil)
def f_law_S8 : Ss := (.cons (.ife (.and (.cons (.cmp .eq (.ref 7) (.con (.int 4))) (.cons (.cmp .eq (.bin .mod (.ref 8) (.con (.int 2))) (.con (.int 1))) (.cons (.cmp .eq (.ref 6) (.lst .nil)) (.cons (.cmp .eq (.call "_law_next" (.cons (.ref 1) (.cons (.con (.int 2)) .nil))) (.con (.int 0))) .nil))))) (.cons (.par [false, true] [4, 6] (.cons (.lst (.cons (.new "Month" (.cons (.con (.int 1)) (.cons (.tup (.cons (.tup (.cons (.con (.int 1)) (.cons (.tup (.cons (.con (.int 0)) .nil)) .nil))) .nil)) (.cons (.tup (.cons (.tup (.cons (.con (.int 0)) (.cons (.con (.int 0)) .nil))) .nil)) .nil)))) .nil)) (.cons (.lst (.cons (.con (.str "none")) .nil)) .nil))) .nil) .nil) f_law_S9)
def f_law_D1 : Ot := (.some (.e (.sub (.ref 3) (.ref 5))))
def f_law_C1 : E := (.sub (.ref 2) (.ref 5))
def f_law_S7 : Ss := (.cons (.asg true 6 (.lc f_law_C1 (.one 5) (.rng (.cons (.bi .len (.cons (.ref 2) .nil)) .nil)) f_law_D1)) f_law_S8)
def f_law_L1 : Ss := (.cons (.app 4 (.ite (.e (.sub (.ref 3) (.ref 5))) (.call "_law_bad_one" (.cons (.ref 1) (.cons (.sub (.ref 2) (.ref 5)) .nil))) (.call "_law_good_one" (.cons (.sub (.ref 2) (.ref 5)) .nil)))) .nil)
def f_law_S6 : Ss := (.cons (.fr (.one 5) (.rng (.cons (.bi .len (.cons (.ref 2) .nil)) .nil)) [] f_law_L1) f_law_S7)
def f_law_S5 : Ss := (.cons (.asg false 4 (.lst .nil)) f_law_S6)
def f_law_C2 : E := (.cmp .eq (.call "_law_next" (.cons (.ref 1) (.cons (.con (.int 3)) .nil))) (.con (.int 0)))
def f_law_S4 : Ss := (.cons (.asg true 3 (.lc f_law_C2 (.one 9) (.seq (.var 2)) .none)) f_law_S5)
def f_law_S3 : Ss := (.cons (.asg true 2 (.sub (.ref 2) (.ref 7))) f_law_S4)
def f_law_S2 : Ss := (.cons (.par [true, true] [7, 8] (.cons (.call "_law_next" (.cons (.ref 1) (.cons (.con (.int 5)) .nil))) (.cons (.call "_law_next" (.cons (.ref 1) (.cons (.con (.int 4)) .nil))) .nil))) f_law_S3)
def f_law_S1 : Ss := (.cons (.asg true 2 (.lst (.cons (.lst (.cons (.con (.str "month")) (.cons (.con (.str "costs")) .nil))) (.cons (.lst (.cons (.con (.str "month")) (.cons (.con (.str "choice")) .nil))) (.cons (.lst (.cons (.con (.str "month")) (.cons (.con (.str "choice")) (.cons (.con (.str "number")) .nil)))) (.cons (.lst (.cons (.con (.str "month")) (.cons (.con (.str "drives")) .nil))) (.cons (.lst (.cons (.con (.str "month")) .nil)) .nil))))))) f_law_S2)
def f_law_S0 : Ss := (.cons (.asg false 1 (.call "_law_mix" (.cons (.ref 0) (.cons (.con (.int 24)) .nil)))) f_law_S1)
def f_law : Fn := ⟨"law", ["_law_script"], ["_law_script", "_law_h", "_law_words", "_law_wrong", "_law_t", "_law_k", "_law_due", "_law_kind", "_law_turn", "_law_word"], f_law_S0⟩
def f_Month___init___L1 : Ss := (.cons (.ife (.not (.e (.call "is_barred" (.cons (.var 6) (.cons (.var 2) .nil))))) (.cons (.rse "BadCannot" ["index"] (.cons (.var 4) .nil)) .nil) .nil) .nil)
def f_Month___init___L2 : Ss := (.cons (.ife (.not (.e (.call "is_day" (.cons (.var 5) (.cons (.var 1) .nil))))) (.cons (.rse "BadDays" ["index"] (.cons (.var 4) .nil)) .nil) .nil) .nil)
def f_Month___init__ : Fn := ⟨"Month.__init__", ["self", "people", "days", "cannot"], ["self", "people", "days", "cannot", "index", "day", "one"], (.cons (.ife (.not (.e (.call "is_from" (.cons (.var 1) (.cons (.con (.int 1)) (.cons (.glo "MOST_PEOPLE") .nil)))))) (.cons (.rse "BadPeople" [] .nil) .nil) .nil) (.cons (.ife (.or (.cons (.not (.e (.isi (.ref 2) "tuple"))) (.cons (.cmp .gt (.bi .len (.cons (.ref 2) .nil)) (.glo "MOST_DAYS")) .nil))) (.cons (.rse "BadDays" ["index"] (.cons (.con .non) .nil)) .nil) .nil) (.cons (.fr (.many [4, 5]) (.enm (.cons (.var 2) .nil)) [4, 5] f_Month___init___L2) (.cons (.ife (.or (.cons (.not (.e (.isi (.ref 3) "tuple"))) (.cons (.cmp .gt (.bi .len (.cons (.ref 3) .nil)) (.glo "MOST_CANNOT")) .nil))) (.cons (.rse "BadCannot" ["index"] (.cons (.con .non) .nil)) .nil) .nil) (.cons (.fr (.many [4, 6]) (.enm (.cons (.var 3) .nil)) [4, 6] f_Month___init___L1) (.cons (.atr "Month" 0 "held" (.tup (.cons (.var 1) (.cons (.var 2) (.cons (.var 3) .nil))))) .nil))))))⟩
def f_Month___eq__ : Fn := ⟨"Month.__eq__", ["self", "other"], ["self", "other"], (.cons (.ret false (.and (.cons (.isi (.ref 1) "Month") (.cons (.cmp .eq (.fld "Month" (.ref 0) "held") (.fld "Month" (.ref 1) "held")) .nil)))) .nil)⟩
def f_Month_people : Fn := ⟨"Month.people", ["self"], ["self"], (.cons (.ret false (.sub (.fld "Month" (.ref 0) "held") (.con (.int 0)))) .nil)⟩
def f_Month_days : Fn := ⟨"Month.days", ["self"], ["self"], (.cons (.ret false (.sub (.fld "Month" (.ref 0) "held") (.con (.int 1)))) .nil)⟩
def f_Month_cannot : Fn := ⟨"Month.cannot", ["self"], ["self"], (.cons (.ret false (.sub (.fld "Month" (.ref 0) "held") (.con (.int 2)))) .nil)⟩
def gl0 : List (Str × CV) := [("MOST_PEOPLE", .int 5), ("MOST_DAYS", .int 10), ("MOST_CANNOT", .int 20), ("TRIP", .int 60), ("MOST_COST", .int 1000000)]
def Γ : List Fn := [f_is_integer, f_is_from, f_is_group, f_is_day, f_is_barred, f_check_month, f_able, f_choices_of, f_is_choice, f_check_choice, f_behind, f_common, f_fraction, f_distance, f_steps, f_layers, f_endings, f_many_fair, f_all_steps, f_with_drives, f_counts_of, f_ends, f_check_drives, f_count_by, f_least_end, f_check_costs, f_cheapest, f_debts_behind, f_kept_days, f_continued, f__law_ask, f__law_told, f__law_good_one, f__law_bad_one, f_law, f_Month___init__, f_Month___eq__, f_Month_people, f_Month_days, f_Month_cannot]
def top (i : Nat) : Stmt := PySem.Challenge.pw_carpooldebts_k24_further_questions_refus.main.body.getD i (.Pass ⟨0, 0, 0, 0⟩)
def clsBody (s : Stmt) : List Stmt := match s with
  | .ClassDef _ _ _ b _ _ _ _ _ _ _ => b
  | _ => []
def met (i j : Nat) : Stmt := (clsBody (top i)).getD j (.Pass ⟨0, 0, 0, 0⟩)
def own : List Str := ["Month"]
def M0 : MC := ⟨[], ((["is_integer", "is_from", "is_group", "is_day", "is_barred", "check_month", "able", "choices_of", "is_choice", "check_choice", "behind", "common", "fraction", "distance", "steps", "layers", "endings", "many_fair", "all_steps", "with_drives"] : List Str) ++ (["counts_of", "ends", "check_drives", "count_by", "least_end", "check_costs", "cheapest", "debts_behind", "kept_days", "continued", "_law_mix", "_law_next", "_law_ask", "_law_told", "_law_good_one", "_law_bad_one", "law"] : List Str)), ["MOST_PEOPLE", "MOST_DAYS", "MOST_CANNOT", "TRIP", "MOST_COST"], [("Month", "held")], [("Month", "people"), ("Month", "days"), ("Month", "cannot")], ["Month"], ["BadPeople", "BadMonth", "BadChoice", "BadNumber", "NoChoice", "BadCosts", "BadDrives"], [("BadDays", ["index"]), ("BadCannot", ["index"])], some "DebtError", [], [], []⟩
def inis : List (Str × List Str × He.DefD) := [("BadDays", ["index"], ⟨("BadDays.__init__", none), "__init__", "BadDays.__init__", defArgs (met 3 0), defBody (met 3 0), defScope (met 3 0), [], []⟩), ("BadCannot", ["index"], ⟨("BadCannot.__init__", none), "__init__", "BadCannot.__init__", defArgs (met 4 0), defBody (met 4 0), defScope (met 4 0), [], []⟩)]
def dMix : He.DefD := ⟨("_law_mix", none), "_law_mix", "_law_mix", defArgs (top 53), defBody (top 53), defScope (top 53), [], []⟩
def dNxt : He.DefD := ⟨("_law_next", none), "_law_next", "_law_next", defArgs (top 54), defBody (top 54), defScope (top 54), [], []⟩
def ds : List Dfn := [⟨.fn "is_integer", f_is_integer, ⟨("is_integer", none), "is_integer", "is_integer", defArgs (top 16), defBody (top 16), defScope (top 16), [], []⟩⟩,
  ⟨.fn "is_from", f_is_from, ⟨("is_from", none), "is_from", "is_from", defArgs (top 17), defBody (top 17), defScope (top 17), [], []⟩⟩,
  ⟨.fn "is_group", f_is_group, ⟨("is_group", none), "is_group", "is_group", defArgs (top 18), defBody (top 18), defScope (top 18), [], []⟩⟩,
  ⟨.fn "is_day", f_is_day, ⟨("is_day", none), "is_day", "is_day", defArgs (top 19), defBody (top 19), defScope (top 19), [], []⟩⟩,
  ⟨.fn "is_barred", f_is_barred, ⟨("is_barred", none), "is_barred", "is_barred", defArgs (top 20), defBody (top 20), defScope (top 20), [], []⟩⟩,
  ⟨.fn "check_month", f_check_month, ⟨("check_month", none), "check_month", "check_month", defArgs (top 22), defBody (top 22), defScope (top 22), [], []⟩⟩,
  ⟨.fn "able", f_able, ⟨("able", none), "able", "able", defArgs (top 23), defBody (top 23), defScope (top 23), [], []⟩⟩,
  ⟨.fn "choices_of", f_choices_of, ⟨("choices_of", none), "choices_of", "choices_of", defArgs (top 24), defBody (top 24), defScope (top 24), [], []⟩⟩,
  ⟨.fn "is_choice", f_is_choice, ⟨("is_choice", none), "is_choice", "is_choice", defArgs (top 25), defBody (top 25), defScope (top 25), [], []⟩⟩,
  ⟨.fn "check_choice", f_check_choice, ⟨("check_choice", none), "check_choice", "check_choice", defArgs (top 26), defBody (top 26), defScope (top 26), [], []⟩⟩,
  ⟨.fn "behind", f_behind, ⟨("behind", none), "behind", "behind", defArgs (top 27), defBody (top 27), defScope (top 27), [], []⟩⟩,
  ⟨.fn "common", f_common, ⟨("common", none), "common", "common", defArgs (top 28), defBody (top 28), defScope (top 28), [], []⟩⟩,
  ⟨.fn "fraction", f_fraction, ⟨("fraction", none), "fraction", "fraction", defArgs (top 29), defBody (top 29), defScope (top 29), [], []⟩⟩,
  ⟨.fn "distance", f_distance, ⟨("distance", none), "distance", "distance", defArgs (top 30), defBody (top 30), defScope (top 30), [], []⟩⟩,
  ⟨.fn "steps", f_steps, ⟨("steps", none), "steps", "steps", defArgs (top 32), defBody (top 32), defScope (top 32), [], []⟩⟩,
  ⟨.fn "layers", f_layers, ⟨("layers", none), "layers", "layers", defArgs (top 33), defBody (top 33), defScope (top 33), [], []⟩⟩,
  ⟨.fn "endings", f_endings, ⟨("endings", none), "endings", "endings", defArgs (top 34), defBody (top 34), defScope (top 34), [], []⟩⟩,
  ⟨.fn "many_fair", f_many_fair, ⟨("many_fair", none), "many_fair", "many_fair", defArgs (top 35), defBody (top 35), defScope (top 35), [], []⟩⟩,
  ⟨.fn "all_steps", f_all_steps, ⟨("all_steps", none), "all_steps", "all_steps", defArgs (top 36), defBody (top 36), defScope (top 36), [], []⟩⟩,
  ⟨.fn "with_drives", f_with_drives, ⟨("with_drives", none), "with_drives", "with_drives", defArgs (top 38), defBody (top 38), defScope (top 38), [], []⟩⟩,
  ⟨.fn "counts_of", f_counts_of, ⟨("counts_of", none), "counts_of", "counts_of", defArgs (top 39), defBody (top 39), defScope (top 39), [], []⟩⟩,
  ⟨.fn "ends", f_ends, ⟨("ends", none), "ends", "ends", defArgs (top 40), defBody (top 40), defScope (top 40), [], []⟩⟩,
  ⟨.fn "check_drives", f_check_drives, ⟨("check_drives", none), "check_drives", "check_drives", defArgs (top 41), defBody (top 41), defScope (top 41), [], []⟩⟩,
  ⟨.fn "count_by", f_count_by, ⟨("count_by", none), "count_by", "count_by", defArgs (top 42), defBody (top 42), defScope (top 42), [], []⟩⟩,
  ⟨.fn "least_end", f_least_end, ⟨("least_end", none), "least_end", "least_end", defArgs (top 43), defBody (top 43), defScope (top 43), [], []⟩⟩,
  ⟨.fn "check_costs", f_check_costs, ⟨("check_costs", none), "check_costs", "check_costs", defArgs (top 46), defBody (top 46), defScope (top 46), [], []⟩⟩,
  ⟨.fn "cheapest", f_cheapest, ⟨("cheapest", none), "cheapest", "cheapest", defArgs (top 47), defBody (top 47), defScope (top 47), [], []⟩⟩,
  ⟨.fn "debts_behind", f_debts_behind, ⟨("debts_behind", none), "debts_behind", "debts_behind", defArgs (top 49), defBody (top 49), defScope (top 49), [], []⟩⟩,
  ⟨.fn "kept_days", f_kept_days, ⟨("kept_days", none), "kept_days", "kept_days", defArgs (top 50), defBody (top 50), defScope (top 50), [], []⟩⟩,
  ⟨.fn "continued", f_continued, ⟨("continued", none), "continued", "continued", defArgs (top 51), defBody (top 51), defScope (top 51), [], []⟩⟩,
  ⟨.fn "_law_ask", f__law_ask, ⟨("_law_ask", none), "_law_ask", "_law_ask", defArgs (top 55), defBody (top 55), defScope (top 55), [], []⟩⟩,
  ⟨.fn "_law_told", f__law_told, ⟨("_law_told", none), "_law_told", "_law_told", defArgs (top 56), defBody (top 56), defScope (top 56), [], []⟩⟩,
  ⟨.fn "_law_good_one", f__law_good_one, ⟨("_law_good_one", none), "_law_good_one", "_law_good_one", defArgs (top 57), defBody (top 57), defScope (top 57), [], []⟩⟩,
  ⟨.fn "_law_bad_one", f__law_bad_one, ⟨("_law_bad_one", none), "_law_bad_one", "_law_bad_one", defArgs (top 58), defBody (top 58), defScope (top 58), [], []⟩⟩,
  ⟨.fn "law", f_law, ⟨("law", none), "law", "law", defArgs (top 59), defBody (top 59), defScope (top 59), [], []⟩⟩,
  ⟨.me "Month" "__init__", f_Month___init__, ⟨("Month.__init__", none), "__init__", "Month.__init__", defArgs (met 21 0), defBody (met 21 0), defScope (met 21 0), [], []⟩⟩,
  ⟨.me "Month" "__eq__", f_Month___eq__, ⟨("Month.__eq__", none), "__eq__", "Month.__eq__", defArgs (met 21 4), defBody (met 21 4), defScope (met 21 4), [], []⟩⟩,
  ⟨.gt "Month" "people", f_Month_people, ⟨("Month.people", none), "people", "Month.people", defArgs (met 21 1), defBody (met 21 1), defScope (met 21 1), [], []⟩⟩,
  ⟨.gt "Month" "days", f_Month_days, ⟨("Month.days", none), "days", "Month.days", defArgs (met 21 2), defBody (met 21 2), defScope (met 21 2), [], []⟩⟩,
  ⟨.gt "Month" "cannot", f_Month_cannot, ⟨("Month.cannot", none), "cannot", "Month.cannot", defArgs (met 21 3), defBody (met 21 3), defScope (met 21 3), [], []⟩⟩]
def L : Lw := ⟨ds, dMix, dNxt, own, M0, gl0, inis⟩
theorem stat : L.stat = true := by decide +kernel

namespace Hd
def nm0 : List PySem.Str := ["DebtError", "BadPeople", "BadDays", "BadCannot", "BadMonth", "BadChoice", "BadNumber", "NoChoice", "BadCosts", "BadDrives", "MOST_PEOPLE", "MOST_DAYS", "MOST_CANNOT", "TRIP", "is_integer", "is_from", "is_group", "is_day", "is_barred", "Month", "check_month", "able", "choices_of", "is_choice", "check_choice", "behind", "common", "fraction", "distance", "steps"]
def nm1 : List PySem.Str := ["layers", "endings", "many_fair", "all_steps", "with_drives", "counts_of", "ends", "check_drives", "count_by", "least_end", "MOST_COST", "check_costs", "cheapest", "debts_behind", "kept_days", "continued", "_law_mix", "_law_next", "_law_ask", "_law_told", "_law_good_one", "_law_bad_one"]
def nms : List PySem.Str := nm0 ++ nm1
abbrev R : PySem.W.OpenRow := PySem.W.OpenLaw.row PySem.Challenge.rw_carpooldebts_k24_further_questions_refus
section
open PySem.W PySem.Calls
theorem runA (w : World) : ∀ os : OsState, (HandSHeadRun.endF (HandSHeadRun.stepQ (HandSHeadRun.denQ HandSHeadRun.tabQ) R.prog w) 6000 R.prog w os).map (fun s => (HandSHeadRun.looksF R.prog (boot_heap w.params) s.abs, HandSHeadRun.seenQ (PySem.W.view R.prog [59]) nms (importedModules R.prog.main.body) (fun s => xlAt (PySem.W.view R.prog [59]) [] s && recOk R.toRowW.records s) s.abs)) = some (true, openGood (PySem.W.view R.prog [59]) nms) := by
  intro os
  kernel_rfl
end
theorem runB (w : World) : ∀ os : OsState, (HandSHeadRun.endF (HandSHeadRun.stepQ (HandSHeadRun.denQ HandSHeadRun.tabQ) R.prog w) 6000 R.prog w os).map (fun s => L.chk (KT s)) = some true := by
  intro os
  kernel_rfl
theorem runC (w : World) : ∀ os : OsState, (HandSHeadRun.endF (HandSHeadRun.stepQ (HandSHeadRun.denQ HandSHeadRun.tabQ) R.prog w) 6000 R.prog w os).map (fun s => L.dl.all fun p => seenB (KT s) p.2 (p.1.ad (KT s))) = some true := by
  intro os
  kernel_rfl
theorem runD (w : World) : ∀ os : OsState, (HandSHeadRun.endF (HandSHeadRun.stepQ (HandSHeadRun.denQ HandSHeadRun.tabQ) R.prog w) 6000 R.prog w os).map (fun s => L.dl.map fun p => seenW (KT s) (p.1.ad (KT s))) = some (L.dl.map fun p => p.2.val) := by
  intro os
  kernel_rfl
theorem run (w : World) : HandSHeadRun.RunEq R (PySem.W.view R.prog [59]) (L.hook 5) (L.ob 5) 6000 nms w := run_of (runA w) fun os => ob_of (runB w os) (runC w os) (runD w os)
end Hd

noncomputable abbrev CL (n : Nat) : Calls := callN L.Γ prL L.gl n
theorem call_is_integer (n : Nat) (as : List Cell) : CL (n + 1) "is_integer" as = runFn (CL n) L.gl f_is_integer as := by rfl
theorem call_is_from (n : Nat) (as : List Cell) : CL (n + 1) "is_from" as = runFn (CL n) L.gl f_is_from as := by rfl
theorem call_is_group (n : Nat) (as : List Cell) : CL (n + 1) "is_group" as = runFn (CL n) L.gl f_is_group as := by rfl
theorem call_is_day (n : Nat) (as : List Cell) : CL (n + 1) "is_day" as = runFn (CL n) L.gl f_is_day as := by rfl
theorem call_is_barred (n : Nat) (as : List Cell) : CL (n + 1) "is_barred" as = runFn (CL n) L.gl f_is_barred as := by rfl
theorem call_check_month (n : Nat) (as : List Cell) : CL (n + 1) "check_month" as = runFn (CL n) L.gl f_check_month as := by rfl
theorem call_able (n : Nat) (as : List Cell) : CL (n + 1) "able" as = runFn (CL n) L.gl f_able as := by rfl
theorem call_choices_of (n : Nat) (as : List Cell) : CL (n + 1) "choices_of" as = runFn (CL n) L.gl f_choices_of as := by rfl
theorem call_is_choice (n : Nat) (as : List Cell) : CL (n + 1) "is_choice" as = runFn (CL n) L.gl f_is_choice as := by rfl
theorem call_check_choice (n : Nat) (as : List Cell) : CL (n + 1) "check_choice" as = runFn (CL n) L.gl f_check_choice as := by rfl
theorem call_behind (n : Nat) (as : List Cell) : CL (n + 1) "behind" as = runFn (CL n) L.gl f_behind as := by rfl
theorem call_common (n : Nat) (as : List Cell) : CL (n + 1) "common" as = runFn (CL n) L.gl f_common as := by rfl
theorem call_fraction (n : Nat) (as : List Cell) : CL (n + 1) "fraction" as = runFn (CL n) L.gl f_fraction as := by rfl
theorem call_distance (n : Nat) (as : List Cell) : CL (n + 1) "distance" as = runFn (CL n) L.gl f_distance as := by rfl
theorem call_steps (n : Nat) (as : List Cell) : CL (n + 1) "steps" as = runFn (CL n) L.gl f_steps as := by rfl
theorem call_layers (n : Nat) (as : List Cell) : CL (n + 1) "layers" as = runFn (CL n) L.gl f_layers as := by rfl
theorem call_endings (n : Nat) (as : List Cell) : CL (n + 1) "endings" as = runFn (CL n) L.gl f_endings as := by rfl
theorem call_many_fair (n : Nat) (as : List Cell) : CL (n + 1) "many_fair" as = runFn (CL n) L.gl f_many_fair as := by rfl
theorem call_all_steps (n : Nat) (as : List Cell) : CL (n + 1) "all_steps" as = runFn (CL n) L.gl f_all_steps as := by rfl
theorem call_with_drives (n : Nat) (as : List Cell) : CL (n + 1) "with_drives" as = runFn (CL n) L.gl f_with_drives as := by rfl
theorem call_counts_of (n : Nat) (as : List Cell) : CL (n + 1) "counts_of" as = runFn (CL n) L.gl f_counts_of as := by rfl
theorem call_ends (n : Nat) (as : List Cell) : CL (n + 1) "ends" as = runFn (CL n) L.gl f_ends as := by rfl
theorem call_check_drives (n : Nat) (as : List Cell) : CL (n + 1) "check_drives" as = runFn (CL n) L.gl f_check_drives as := by rfl
theorem call_count_by (n : Nat) (as : List Cell) : CL (n + 1) "count_by" as = runFn (CL n) L.gl f_count_by as := by rfl
theorem call_least_end (n : Nat) (as : List Cell) : CL (n + 1) "least_end" as = runFn (CL n) L.gl f_least_end as := by rfl
theorem call_check_costs (n : Nat) (as : List Cell) : CL (n + 1) "check_costs" as = runFn (CL n) L.gl f_check_costs as := by rfl
theorem call_cheapest (n : Nat) (as : List Cell) : CL (n + 1) "cheapest" as = runFn (CL n) L.gl f_cheapest as := by rfl
theorem call_debts_behind (n : Nat) (as : List Cell) : CL (n + 1) "debts_behind" as = runFn (CL n) L.gl f_debts_behind as := by rfl
theorem call_kept_days (n : Nat) (as : List Cell) : CL (n + 1) "kept_days" as = runFn (CL n) L.gl f_kept_days as := by rfl
theorem call_continued (n : Nat) (as : List Cell) : CL (n + 1) "continued" as = runFn (CL n) L.gl f_continued as := by rfl
theorem call__law_ask (n : Nat) (as : List Cell) : CL (n + 1) "_law_ask" as = runFn (CL n) L.gl f__law_ask as := by rfl
theorem call__law_told (n : Nat) (as : List Cell) : CL (n + 1) "_law_told" as = runFn (CL n) L.gl f__law_told as := by rfl
theorem call__law_good_one (n : Nat) (as : List Cell) : CL (n + 1) "_law_good_one" as = runFn (CL n) L.gl f__law_good_one as := by rfl
theorem call__law_bad_one (n : Nat) (as : List Cell) : CL (n + 1) "_law_bad_one" as = runFn (CL n) L.gl f__law_bad_one as := by rfl
theorem call_law (n : Nat) (as : List Cell) : CL (n + 1) "law" as = runFn (CL n) L.gl f_law as := by rfl
theorem call_Month___init__ (n : Nat) (as : List Cell) : CL (n + 1) "Month.__init__" as = runFn (CL n) L.gl f_Month___init__ as := by rfl
theorem call_Month___eq__ (n : Nat) (as : List Cell) : CL (n + 1) "Month.__eq__" as = runFn (CL n) L.gl f_Month___eq__ as := by rfl
theorem call_Month_people (n : Nat) (as : List Cell) : CL (n + 1) "Month.people" as = runFn (CL n) L.gl f_Month_people as := by rfl
theorem call_Month_days (n : Nat) (as : List Cell) : CL (n + 1) "Month.days" as = runFn (CL n) L.gl f_Month_days as := by rfl
theorem call_Month_cannot (n : Nat) (as : List Cell) : CL (n + 1) "Month.cannot" as = runFn (CL n) L.gl f_Month_cannot as := by rfl
theorem call_mix (n : Nat) (as : List Cell) : CL (n + 1) "_law_mix" as = pMix as := by rfl
theorem call_next (n : Nat) (as : List Cell) : CL (n + 1) "_law_next" as = pNext as := by rfl
@[simp] theorem gl_MOST_PEOPLE : L.gl "MOST_PEOPLE" = some (.int 5) := by rfl
@[simp] theorem gl_MOST_DAYS : L.gl "MOST_DAYS" = some (.int 10) := by rfl
@[simp] theorem gl_MOST_CANNOT : L.gl "MOST_CANNOT" = some (.int 20) := by rfl
@[simp] theorem gl_TRIP : L.gl "TRIP" = some (.int 60) := by rfl
@[simp] theorem gl_MOST_COST : L.gl "MOST_COST" = some (.int 1000000) := by rfl
@[simp] theorem nm_Month_people : (("Month" : Str) ++ "." ++ "people") = "Month.people" := by decide +kernel
@[simp] theorem nm_Month_days : (("Month" : Str) ++ "." ++ "days") = "Month.days" := by decide +kernel
@[simp] theorem nm_Month_cannot : (("Month" : Str) ++ "." ++ "cannot") = "Month.cannot" := by decide +kernel
@[simp] theorem xne_BadPeople_DebtError : (("BadPeople" : Str) = "DebtError") = False := by decide +kernel
@[simp] theorem xne_BadMonth_DebtError : (("BadMonth" : Str) = "DebtError") = False := by decide +kernel
@[simp] theorem xne_BadChoice_DebtError : (("BadChoice" : Str) = "DebtError") = False := by decide +kernel
@[simp] theorem xne_BadNumber_DebtError : (("BadNumber" : Str) = "DebtError") = False := by decide +kernel
@[simp] theorem xne_NoChoice_DebtError : (("NoChoice" : Str) = "DebtError") = False := by decide +kernel
@[simp] theorem xne_BadCosts_DebtError : (("BadCosts" : Str) = "DebtError") = False := by decide +kernel
@[simp] theorem xne_BadDrives_DebtError : (("BadDrives" : Str) = "DebtError") = False := by decide +kernel
@[simp] theorem xne_BadDays_DebtError : (("BadDays" : Str) = "DebtError") = False := by decide +kernel
@[simp] theorem xne_BadCannot_DebtError : (("BadCannot" : Str) = "DebtError") = False := by decide +kernel
@[simp] theorem nmi_Month : (("Month" : Str) ++ ".__init__") = "Month.__init__" := by decide +kernel
@[simp] theorem nme_Month : (("Month" : Str) ++ ".__eq__") = "Month.__eq__" := by decide +kernel

@[simp] theorem startF_eq {g : Fn} {as : List Cell} : startF g as = as.map some ++ List.replicate (g.N.length - as.length) none := rfl
def isI : D → Bool
  | .int _ => true
  | _ => false
@[simp] theorem isI_int {i : Int} : isI (.int i) = true := rfl
@[simp] theorem isI_tup {xs : List D} : isI (.tup xs) = false := rfl
theorem sp_is_integer {n : Nat} {d : D} (h : isDic d = false) (hi : ∀ c fs, d = .ins c fs → c = "Month") : CL (n + 1) "is_integer" [.val d] = .ok (.val (.bl (isI d))) [] := by
  rw [call_is_integer]
  cases d with
  | ins c fs => obtain rfl := hi c fs rfl; simp [f_is_integer, isI]
  | dic => cases h
  | _ => simp [f_is_integer, isI]
@[simp] theorem sp_int_int {n : Nat} {i : Int} : CL (n + 1) "is_integer" [.val (.int i)] = .ok (.val (.bl true)) [] := sp_is_integer rfl (by intros; contradiction)
@[simp] theorem sp_is_from {n : Nat} {i lo hi : Int} : CL (n + 2) "is_from" [.val (.int i), .val (.int lo), .val (.int hi)] = .ok (.val (.bl (decide (lo ≤ i ∧ i ≤ hi)))) [] := by
  rw [call_is_from]
  simp [f_is_from]
  by_cases h : lo ≤ i
  · simp [h, chainR]
  · simp [h, chainR]

@[simp] theorem chainR_ints {p q : COp} {i j : Int} {S : Fr} {k : Fr → Out R} : chainR p q (.val (.int i)) (.val (.int j)) S k = optR (intCmp p i j) S fun t S => if t then (k S).bd fun z S => optR (intOf z) S fun l S => optR (intCmp q j l) S fun t S => .ok t S else .ok false S := rfl
/-! ### what months are made of -/
abbrev gD (g : List Int) : D := .tup (g.map .int)
abbrev dayD (d : Int × List Int) : D := .tup [.int d.1, gD d.2]
abbrev barD (b : Int × Int) : D := .tup [.int b.1, .int b.2]
abbrev daysD (ds : List (Int × List Int)) : D := .tup (ds.map dayD)
abbrev barsD (bs : List (Int × Int)) : D := .tup (bs.map barD)
abbrev heldD (p : Int) (ds : List (Int × List Int)) (bs : List (Int × Int)) : D := .tup [.int p, daysD ds, barsD bs]
abbrev monD (p : Int) (ds : List (Int × List Int)) (bs : List (Int × Int)) : D := .ins "Month" [("held", heldD p ds bs)]
def grpFrom : Int → List Int → Int → Bool
  | _, [], _ => true
  | b, x :: r, p => decide (b + 1 ≤ x ∧ x ≤ p - 1) && grpFrom x r p
def grp (g : List Int) (p : Int) : Bool := !g.isEmpty && grpFrom (-1) g p
theorem grp_loop {n : Nat} {d0 : D} {p : Int} : ∀ (g : List Int) (b : Int),
    (grpFrom b g p = true ∧ ∃ x, forLoop (.one 3) [3] (exSs (CL (n + 2)) L.gl f_is_group_L1) (g.map .int) [some (.val d0), some (.val (.int p)), some (.val (.int b)), none] = .nx [some (.val d0), some (.val (.int p)), some x, none]) ∨
    (grpFrom b g p = false ∧ ∃ x y, forLoop (.one 3) [3] (exSs (CL (n + 2)) L.gl f_is_group_L1) (g.map .int) [some (.val d0), some (.val (.int p)), some (.val (.int b)), none] = .ret (.val (.bl false)) [some (.val d0), some (.val (.int p)), x, y])
  | [], b => .inl ⟨rfl, _, by simp [forLoop]; rfl⟩
  | x :: r, b => by
    simp only [grpFrom, List.map_cons, forLoop]
    by_cases h : b + 1 ≤ x ∧ x ≤ p - 1
    · have := grp_loop (n := n) (d0 := d0) (p := p) r x
      simpa [f_is_group_L1, h] using this
    · right
      simp [f_is_group_L1, h]
@[simp] theorem sp_is_group {n : Nat} {g : List Int} {p : Int} : CL (n + 3) "is_group" [.val (gD g), .val (.int p)] = .ok (.val (.bl (grp g p))) [] := by
  rw [call_is_group]
  cases g with
  | nil => simp [f_is_group, grp]
  | cons a g =>
    have := grp_loop (n := n) (d0 := gD (a :: g)) (p := p) (a :: g) (-1)
    simp only [List.map_cons] at this
    rcases this with ⟨h, x, e⟩ | ⟨h, x, y, e⟩
    · simp [f_is_group, e, h, grp]
    · simp [f_is_group, e, h, grp]
def dayB (d : Int × List Int) (p : Int) : Bool := decide (1 ≤ d.1 ∧ d.1 ≤ 2) && grp d.2 p && decide (d.1 ≤ d.2.length)
@[simp] theorem sp_is_day {n : Nat} {c : Int} {g : List Int} {p : Int} : CL (n + 4) "is_day" [.val (.tup [.int c, gD g]), .val (.int p)] = .ok (.val (.bl (dayB (c, g) p))) [] := by
  rw [call_is_day]
  unfold dayB
  by_cases h : 1 ≤ c ∧ c ≤ 2
  · cases h2 : grp g p
    · simp [f_is_day, h, h2]
    · simp [f_is_day, h, h2]
  · simp [f_is_day, h]

@[simp] theorem sp_people {n : Nat} {p : Int} {ds : List (Int × List Int)} {bs : List (Int × Int)} : CL (n + 1) "Month.people" [.val (monD p ds bs)] = .ok (.val (.int p)) [] := by
  rw [call_Month_people]
  simp [f_Month_people]
@[simp] theorem sp_days {n : Nat} {p : Int} {ds : List (Int × List Int)} {bs : List (Int × Int)} : CL (n + 1) "Month.days" [.val (monD p ds bs)] = .ok (.val (daysD ds)) [] := by
  rw [call_Month_days]
  simp [f_Month_days]
@[simp] theorem sp_cannot {n : Nat} {p : Int} {ds : List (Int × List Int)} {bs : List (Int × Int)} : CL (n + 1) "Month.cannot" [.val (monD p ds bs)] = .ok (.val (barsD bs)) [] := by
  rw [call_Month_cannot]
  simp [f_Month_cannot]
theorem any_eqD {β : Type} (g : β → D) (hg : ∀ a b, g a = g b → a = b) (a : β) (xs : List β) {inst : Decidable (a ∈ xs)} : ((xs.map g).any fun z => eqD z (g a)) = decide (a ∈ xs) := by
  rw [Bool.eq_iff_iff]
  simp only [List.any_eq_true, List.mem_map, eqD_true, decide_eq_true_eq]
  constructor
  · rintro ⟨z, ⟨x, hx, rfl⟩, e⟩
    exact hg _ _ e ▸ hx
  · exact fun h => ⟨_, ⟨a, h, rfl⟩, rfl⟩
theorem gD_inj : ∀ a b : List Int, gD a = gD b → a = b := fun a b h => by
  simp only [D.tup.injEq] at h
  exact List.map_inj_right (fun x y z => by simpa using z) |>.mp h
@[simp] theorem gD_eq {a b : List Int} : (D.tup (a.map .int) = D.tup (b.map .int)) = (a = b) := propext ⟨gD_inj a b, fun h => by rw [h]⟩
@[simp] theorem mapI_eq {a b : List Int} : (a.map D.int = b.map .int) = (a = b) := propext ⟨fun h => gD_inj a b (by rw [gD, gD, h]), fun h => by rw [h]⟩
theorem barD_inj : ∀ a b : Int × Int, barD a = barD b → a = b := fun a b h => by
  simp only [D.tup.injEq, List.cons.injEq, D.int.injEq, and_true] at h
  exact Prod.ext h.1 h.2
theorem dayD_inj : ∀ a b : Int × List Int, dayD a = dayD b → a = b := fun a b h => by
  simp only [D.tup.injEq, List.cons.injEq, D.int.injEq, and_true, mapI_eq] at h
  exact Prod.ext h.1 h.2
@[simp] theorem all_int {n : Nat} {xs : List Int} : (xs.map D.int).all (plN n) = true := by simp
@[simp] theorem all_grp {n : Nat} {xs : List (List Int)} : (xs.map gD).all (plN (n + 1)) = true := by simp
@[simp] theorem all_bar {n : Nat} {xs : List (Int × Int)} : (xs.map barD).all (plN (n + 1)) = true := by simp
@[simp] theorem all_day {n : Nat} {xs : List (Int × List Int)} : (xs.map dayD).all (plN (n + 2)) = true := by simp
@[simp high] theorem pyIn_int {a : Int} {xs : List Int} : pyIn (.int a) (xs.map .int) = some (decide (a ∈ xs)) := by
  rw [pyIn_pl (by simp) (by simp), any_eqD D.int (fun a b h => by simpa using h)]
@[simp high] theorem pyIn_bar {a b : Int} {xs : List (Int × Int)} : pyIn (.tup [.int a, .int b]) (xs.map barD) = some (decide ((a, b) ∈ xs)) := by
  rw [pyIn_pl (by simp) all_bar]
  exact congrArg some (any_eqD barD barD_inj (a, b) xs)
@[simp high] theorem pyIn_grp {a : List Int} {xs : List (List Int)} : pyIn (.tup (a.map .int)) (xs.map gD) = some (decide (a ∈ xs)) := by
  rw [pyIn_pl (by simp) all_grp]
  exact congrArg some (any_eqD gD gD_inj a xs)
theorem plH {p : Int} {ds : List (Int × List Int)} {bs : List (Int × Int)} : plN 9 (heldD p ds bs) = true := by simp
def barB (b : Int × Int) (ds : List (Int × List Int)) : Bool := decide (0 ≤ b.1) && (match ds[b.1.toNat]? with
  | some d => decide (b.2 ∈ d.2)
  | none => false)
@[simp] theorem sp_is_barred {n : Nat} {a b : Int} {ds : List (Int × List Int)} : CL (n + 3) "is_barred" [.val (.tup [.int a, .int b]), .val (daysD ds)] = .ok (.val (.bl (barB (a, b) ds))) [] := by
  rw [call_is_barred]
  by_cases h : 0 ≤ a
  · obtain ⟨k, rfl⟩ := Int.eq_ofNat_of_zero_le h
    cases e : ds[k]? with
    | none =>
      have : ¬ ((k : Int) ≤ (ds.length : Int) - 1) := by
        have := List.getElem?_eq_none_iff.mp e
        omega
      simp [f_is_barred, barB, this, e]
    | some d =>
      have : ((k : Int) ≤ (ds.length : Int) - 1) := by
        have := (List.getElem?_eq_some_iff.mp e).1
        omega
      simp [f_is_barred, barB, this, e]
  · simp [f_is_barred, barB, h]
structure MonOk (p : Int) (ds : List (Int × List Int)) (bs : List (Int × Int)) : Prop where
  p1 : 1 ≤ p
  p5 : p ≤ 5
  d10 : ds.length ≤ 10
  day : ∀ d ∈ ds, dayB d p = true
  b20 : bs.length ≤ 20
  bar : ∀ b ∈ bs, barB b ds = true
theorem init_L2 {n : Nat} {o : Ob} {p : Int} {d1 d2 : D} : ∀ (ds : List (Int × List Int)) (k : Nat), (∀ d ∈ ds, dayB d p = true) →
    forLoop (.many [4, 5]) [4, 5] (exSs (CL (n + 4)) L.gl f_Month___init___L2) (enumFrom k (ds.map dayD)) [some (.par o), some (.val (.int p)), some (.val d1), some (.val d2), none, none, none] = .nx [some (.par o), some (.val (.int p)), some (.val d1), some (.val d2), none, none, none]
  | [], k, _ => by simp [enumFrom, forLoop]
  | d :: ds, k, h => by
    have h1 := h d List.mem_cons_self
    have b : exSs (CL (n + 4)) L.gl f_Month___init___L2 [some (.par o), some (.val (.int p)), some (.val d1), some (.val d2), some (.val (.int k)), some (.val (dayD d)), none] = .nx [some (.par o), some (.val (.int p)), some (.val d1), some (.val d2), some (.val (.int k)), some (.val (dayD d)), none] := by
      simp [f_Month___init___L2, h1]
    have ih := init_L2 (n := n) (o := o) (p := p) (d1 := d1) (d2 := d2) ds (k + 1) fun x hx => h x (List.mem_cons_of_mem _ hx)
    simp [enumFrom, forLoop, b, ih]
theorem init_L1 {n : Nat} {o : Ob} {p : Int} {d2 : D} {ds : List (Int × List Int)} : ∀ (bs : List (Int × Int)) (k : Nat), (∀ b ∈ bs, barB b ds = true) →
    forLoop (.many [4, 6]) [4, 6] (exSs (CL (n + 4)) L.gl f_Month___init___L1) (enumFrom k (bs.map barD)) [some (.par o), some (.val (.int p)), some (.val (daysD ds)), some (.val d2), none, none, none] = .nx [some (.par o), some (.val (.int p)), some (.val (daysD ds)), some (.val d2), none, none, none]
  | [], k, _ => by simp [enumFrom, forLoop]
  | d :: bs, k, h => by
    have h1 := h d List.mem_cons_self
    have b : exSs (CL (n + 4)) L.gl f_Month___init___L1 [some (.par o), some (.val (.int p)), some (.val (daysD ds)), some (.val d2), some (.val (.int k)), none, some (.val (barD d))] = .nx [some (.par o), some (.val (.int p)), some (.val (daysD ds)), some (.val d2), some (.val (.int k)), none, some (.val (barD d))] := by
      simp [f_Month___init___L1, h1]
    have ih := init_L1 (n := n) (o := o) (p := p) (d2 := d2) (ds := ds) bs (k + 1) fun x hx => h x (List.mem_cons_of_mem _ hx)
    simp [enumFrom, forLoop, b, ih]
@[simp] theorem sp_init {n : Nat} {p : Int} {ds : List (Int × List Int)} {bs : List (Int × Int)} (h : MonOk p ds bs) : CL (n + 5) "Month.__init__" [.par (.ins "Month" []), .val (.int p), .val (daysD ds), .val (barsD bs)] = .ok (.val .non) [.ins "Month" [("held", .v (heldD p ds bs))]] := by
  rw [call_Month___init__]
  have h1 : ¬ (10 < (ds.length : Int)) := by have := h.d10; omega
  have h2 : ¬ (20 < (bs.length : Int)) := by have := h.b20; omega
  simp [f_Month___init__, h.p1, h.p5, h1, h2, init_L2 ds 0 h.day, init_L1 bs 0 h.bar, setFld]
@[simp] theorem sp_eq {n : Nat} {p q : Int} {ds es : List (Int × List Int)} {bs cs : List (Int × Int)} : CL (n + 1) "Month.__eq__" [.val (monD p ds bs), .val (monD q es cs)] = .ok (.val (.bl (eqD (heldD p ds bs) (heldD q es cs)))) [] := by
  rw [call_Month___eq__]
  simp [f_Month___eq__]
@[simp] theorem sp_eqT {n : Nat} {p : Int} {ds : List (Int × List Int)} {bs : List (Int × Int)} {xs : List D} : CL (n + 1) "Month.__eq__" [.val (monD p ds bs), .val (.tup xs)] = .ok (.val (.bl false)) [] := by
  rw [call_Month___eq__]
  simp [f_Month___eq__]
@[simp] theorem sp_check_month {n : Nat} {p : Int} {ds : List (Int × List Int)} {bs : List (Int × Int)} : CL (n + 1) "check_month" [.val (monD p ds bs)] = .ok (.val .non) [] := by
  rw [call_check_month]
  simp [f_check_month]

/-! ### who can drive; choices -/
def ableL (g : List Int) (k : Int) (bs : List (Int × Int)) : List Int := g.filter fun x => !decide ((k, x) ∈ bs)
theorem fm_ite {α β : Type} (p : α → Bool) (f : α → β) (xs : List α) : (xs.filterMap fun x => if p x then some (f x) else none) = (xs.filter p).map f := by
  induction xs with
  | nil => rfl
  | cons x xs ih => cases h : p x <;> simp [h, ih]
theorem fm_some {α β : Type} (f : α → β) (xs : List α) : (xs.filterMap fun x => some (f x)) = xs.map f := by simp
@[simp] theorem sp_able {n k : Nat} {p : Int} {ds : List (Int × List Int)} {bs : List (Int × Int)} {d : Int × List Int} (h : ds[k]? = some d) (hl : d.2.length ≤ 1000) : CL (n + 2) "able" [.val (monD p ds bs), .val (.int k)] = .ok (.own (.lst ((ableL d.2 k bs).map .int))) [] := by
  rw [call_able]
  have e : ∀ acc, lcLoop (.one 2) (lcBody (CL (n + 1)) L.gl f_able_C1 f_able_D1) (d.2.map .int) acc [some (.val (monD p ds bs)), some (.val (.int k)), none] = .ok (acc ++ d.2.filterMap fun x => if (!decide (((k : Int), x) ∈ bs)) then some (.int x) else none) [some (.val (monD p ds bs)), some (.val (.int k)), none] :=
    fun acc => lc_map D.int (fun x => if (!decide (((k : Int), x) ∈ bs)) then some (.int x) else none) _ (fun x => ⟨[some (.val (monD p ds bs)), some (.val (.int k)), some (.val (.int x))], _, by simp, by
      by_cases hb : ((k : Int), x) ∈ bs
      · simp [lcBody, f_able_C1, f_able_D1, hb] <;> rfl
      · simp [lcBody, f_able_C1, f_able_D1, hb] <;> rfl, by simp⟩) d.2 acc
  rw [fm_ite] at e
  have hl' : d.2.length ≤ 16777216 := by omega
  simp [f_able, h, e, hl', ableL]
def pairsL (l : List Int) : List (List Int) := l.flatMap fun a => (l.filter fun b => decide (a < b)).map fun b => [a, b]
def chs (c : Int) (l : List Int) : List (List Int) := if c = 1 then l.map (fun a => [a]) else pairsL l
theorem choices_L2 {n : Nat} {d0 d1 : D} {l : List Int} {a : Int} : ∀ (r : List Int) (acc : List (List Int)), acc.length + r.length ≤ 10000000 →
    forLoop (.one 5) [5] (exSs (CL n) L.gl f_choices_of_L2) (r.map .int) [some (.val d0), some (.val d1), some (.val (.lst (l.map .int))), some (.own (.lst (acc.map gD))), some (.val (.int a)), none, none] =
      .nx [some (.val d0), some (.val d1), some (.val (.lst (l.map .int))), some (.own (.lst ((acc ++ (r.filter fun b => decide (a < b)).map fun b => [a, b]).map gD))), some (.val (.int a)), none, none]
  | [], acc, _ => by simp [forLoop]
  | x :: r, acc, h => by
    simp only [List.length_cons] at h
    by_cases hx : a < x
    · have b : exSs (CL n) L.gl f_choices_of_L2 [some (.val d0), some (.val d1), some (.val (.lst (l.map .int))), some (.own (.lst (acc.map gD))), some (.val (.int a)), some (.val (.int x)), none] = .nx [some (.val d0), some (.val d1), some (.val (.lst (l.map .int))), some (.own (.lst ((acc ++ [[a, x]]).map gD))), some (.val (.int a)), some (.val (.int x)), none] := by
        have : acc.length < 16777216 := by omega
        simp [f_choices_of_L2, hx, this]
      have ih := choices_L2 (n := n) (d0 := d0) (d1 := d1) (l := l) (a := a) r (acc ++ [[a, x]]) (by simp; omega)
      simp only [List.map_cons, forLoop, bindT_one]
      simp [b, hx]
      simpa using ih
    · have b : exSs (CL n) L.gl f_choices_of_L2 [some (.val d0), some (.val d1), some (.val (.lst (l.map .int))), some (.own (.lst (acc.map gD))), some (.val (.int a)), some (.val (.int x)), none] = .nx [some (.val d0), some (.val d1), some (.val (.lst (l.map .int))), some (.own (.lst (acc.map gD))), some (.val (.int a)), some (.val (.int x)), none] := by
        simp [f_choices_of_L2, hx]
      have ih := choices_L2 (n := n) (d0 := d0) (d1 := d1) (l := l) (a := a) r acc (by omega)
      simp only [List.map_cons, forLoop, bindT_one]
      simp [b, hx]
      simpa using ih
theorem choices_L1 {n : Nat} {d0 d1 : D} {l : List Int} (hl : l.length ≤ 1000) : ∀ (r : List Int) (acc : List (List Int)), acc.length + r.length * 1000 ≤ 9000000 →
    forLoop (.one 4) [4, 5] (exSs (CL n) L.gl f_choices_of_L1) (r.map .int) [some (.val d0), some (.val d1), some (.val (.lst (l.map .int))), some (.own (.lst (acc.map gD))), none, none, none] =
      .nx [some (.val d0), some (.val d1), some (.val (.lst (l.map .int))), some (.own (.lst ((acc ++ r.flatMap fun a => (l.filter fun b => decide (a < b)).map fun b => [a, b]).map gD))), none, none, none]
  | [], acc, _ => by simp [forLoop]
  | x :: r, acc, h => by
    simp only [List.length_cons] at h
    have hf : ((l.filter fun b => decide (x < b)).map fun b => [x, b]).length ≤ 1000 := by
      simp only [List.length_map]
      exact Nat.le_trans (List.length_filter_le _ _) hl
    have b : exSs (CL n) L.gl f_choices_of_L1 [some (.val d0), some (.val d1), some (.val (.lst (l.map .int))), some (.own (.lst (acc.map gD))), some (.val (.int x)), none, none] = .nx [some (.val d0), some (.val d1), some (.val (.lst (l.map .int))), some (.own (.lst ((acc ++ (l.filter fun b => decide (x < b)).map fun b => [x, b]).map gD))), some (.val (.int x)), none, none] := by
      have := choices_L2 (n := n) (d0 := d0) (d1 := d1) (l := l) (a := x) l acc (by omega)
      simp [f_choices_of_L1, this]
    have ih := choices_L1 (n := n) (d0 := d0) (d1 := d1) hl r (acc ++ (l.filter fun b => decide (x < b)).map fun b => [x, b]) (by simp only [List.length_append]; omega)
    simp only [List.map_cons, forLoop, bindT_one, List.flatMap_cons]
    simp [b]
    simpa using ih
theorem ableL_len {g : List Int} {k : Int} {bs : List (Int × Int)} : (ableL g k bs).length ≤ g.length := List.length_filter_le _ _
@[simp] theorem sp_choices_of {n k : Nat} {p : Int} {ds : List (Int × List Int)} {bs : List (Int × Int)} {d : Int × List Int} (h : ds[k]? = some d) (hl : d.2.length ≤ 1000) : CL (n + 3) "choices_of" [.val (monD p ds bs), .val (.int k)] = .ok (.own (.lst ((chs d.1 (ableL d.2 k bs)).map gD))) [] := by
  rw [call_choices_of]
  have ha : (ableL d.2 k bs).length ≤ 1000 := Nat.le_trans ableL_len hl
  have ha' : (ableL d.2 k bs).length ≤ 16777216 := by omega
  by_cases hc : d.1 = 1
  · have e : ∀ acc, lcLoop (.one 6) (lcBody (CL (n + 2)) L.gl f_choices_of_C1 .none) ((ableL d.2 k bs).map .int) acc [some (.val (monD p ds bs)), some (.val (.int k)), some (.val (.lst ((ableL d.2 k bs).map .int))), none, none, none, none] = .ok (acc ++ (ableL d.2 k bs).filterMap fun x => some (gD [x])) [some (.val (monD p ds bs)), some (.val (.int k)), some (.val (.lst ((ableL d.2 k bs).map .int))), none, none, none, none] :=
      fun acc => lc_map D.int (fun x => some (gD [x])) _ (fun x => ⟨[some (.val (monD p ds bs)), some (.val (.int k)), some (.val (.lst ((ableL d.2 k bs).map .int))), none, none, none, some (.val (.int x))], _, by simp, by simp [lcBody, f_choices_of_C1]; rfl, by simp⟩) _ acc
    rw [fm_some] at e
    simp [f_choices_of, h, hl, hc, e, ha', chs]
  · have e := choices_L1 (n := n + 2) (d0 := monD p ds bs) (d1 := .int k) ha (ableL d.2 k bs) [] (by simp only [List.length_nil]; omega)
    simp only [List.map_nil, List.nil_append] at e
    simp [f_choices_of, h, hl, hc, e, chs, pairsL]
def chsOk (p : Int) (bs : List (Int × Int)) : Nat → List (Int × List Int) → List (List Int) → Bool
  | _, [], [] => true
  | k, d :: ds, g :: gs => grp g p && decide (g ∈ chs d.1 (ableL d.2 k bs)) && chsOk p bs (k + 1) ds gs
  | _, _, _ => false
theorem chsOk_len {p : Int} {bs : List (Int × Int)} : ∀ {k : Nat} {ds : List (Int × List Int)} {gs : List (List Int)}, chsOk p bs k ds gs = true → gs.length = ds.length
  | _, [], [], _ => rfl
  | _, [], _ :: _, h => by cases h
  | _, _ :: _, [], h => by cases h
  | k, d :: ds, g :: gs, h => by
    simp only [chsOk, Bool.and_eq_true] at h
    simp [chsOk_len h.2]
theorem is_choice_L {n : Nat} {p : Int} {ds : List (Int × List Int)} {bs : List (Int × Int)} {d1 : D} (hl : ∀ d ∈ ds, d.2.length ≤ 1000) : ∀ (es : List (Int × List Int)) (gs : List (List Int)) (k : Nat), (∀ j d, es[j]? = some d → ds[k + j]? = some d) → gs.length = es.length →
    (chsOk p bs k es gs = true ∧ forLoop (.many [2, 3]) [2, 3] (exSs (CL (n + 3)) L.gl f_is_choice_L1) (enumFrom k (gs.map gD)) [some (.val (monD p ds bs)), some (.val d1), none, none] = .nx [some (.val (monD p ds bs)), some (.val d1), none, none]) ∨
    (chsOk p bs k es gs = false ∧ ∃ x y, forLoop (.many [2, 3]) [2, 3] (exSs (CL (n + 3)) L.gl f_is_choice_L1) (enumFrom k (gs.map gD)) [some (.val (monD p ds bs)), some (.val d1), none, none] = .ret (.val (.bl false)) [some (.val (monD p ds bs)), some (.val d1), x, y])
  | [], [], k, _, _ => .inl ⟨rfl, by simp [enumFrom, forLoop]⟩
  | [], _ :: _, k, _, h => by simp at h
  | _ :: _, [], k, _, h => by simp at h
  | d :: es, g :: gs, k, he, h => by
    have hd : ds[k]? = some d := by simpa using he 0 d rfl
    have hl' := hl d (List.mem_of_getElem? hd)
    have ih := is_choice_L (n := n) (p := p) (bs := bs) (d1 := d1) hl es gs (k + 1) (fun j d' hj => by rw [show k + 1 + j = k + (j + 1) by omega]; exact he (j + 1) d' (by simpa using hj)) (by simpa using h)
    simp only [List.map_cons, enumFrom, forLoop, chsOk]
    cases h1 : grp g p
    · right
      have b : exSs (CL (n + 3)) L.gl f_is_choice_L1 [some (.val (monD p ds bs)), some (.val d1), some (.val (.int k)), some (.val (gD g))] = .ret (.val (.bl false)) [some (.val (monD p ds bs)), some (.val d1), some (.val (.int k)), some (.val (gD g))] := by
        simp [f_is_choice_L1, h1]
      simp [b]
    · by_cases h2 : g ∈ chs d.1 (ableL d.2 k bs)
      · have b : exSs (CL (n + 3)) L.gl f_is_choice_L1 [some (.val (monD p ds bs)), some (.val d1), some (.val (.int k)), some (.val (gD g))] = .nx [some (.val (monD p ds bs)), some (.val d1), some (.val (.int k)), some (.val (gD g))] := by
          simp [f_is_choice_L1, h1, h2, hd, hl']
        simp [b, h2]
        simpa using ih
      · right
        have b : exSs (CL (n + 3)) L.gl f_is_choice_L1 [some (.val (monD p ds bs)), some (.val d1), some (.val (.int k)), some (.val (gD g))] = .ret (.val (.bl false)) [some (.val (monD p ds bs)), some (.val d1), some (.val (.int k)), some (.val (gD g))] := by
          simp [f_is_choice_L1, h1, h2, hd, hl']
        simp [b, h2]
theorem sp_is_choice {n : Nat} {p : Int} {ds : List (Int × List Int)} {bs : List (Int × Int)} {gs : List (List Int)} (hl : ∀ d ∈ ds, d.2.length ≤ 1000) : CL (n + 4) "is_choice" [.val (monD p ds bs), .val (.tup (gs.map gD))] = .ok (.val (.bl (chsOk p bs 0 ds gs))) [] := by
  rw [call_is_choice]
  by_cases h : gs.length = ds.length
  · rcases is_choice_L (n := n) (p := p) (bs := bs) (d1 := .tup (gs.map gD)) hl ds gs 0 (fun j d hj => by simpa using hj) h with ⟨h1, e⟩ | ⟨h1, x, y, e⟩
    · simp [f_is_choice, h, h1, e]
    · simp [f_is_choice, h, h1, e]
  · have h1 : chsOk p bs 0 ds gs = false := by
      cases e : chsOk p bs 0 ds gs
      · rfl
      · exact absurd (chsOk_len e) h
    have h2 : ¬ ((gs.length : Int) = ds.length) := by omega
    simp [f_is_choice, h2, h1]
theorem sp_check_choice {n : Nat} {p : Int} {ds : List (Int × List Int)} {bs : List (Int × Int)} {gs : List (List Int)} (hl : ∀ d ∈ ds, d.2.length ≤ 1000) (h : chsOk p bs 0 ds gs = true) : CL (n + 5) "check_choice" [.val (monD p ds bs), .val (.tup (gs.map gD))] = .ok (.val .non) [] := by
  rw [call_check_choice]
  simp [f_check_choice, sp_is_choice hl, h]

/-! ### debts -/
def bhd (sh : Int) (ab g : List Int) : Nat → List Int → List Int
  | _, [] => []
  | k, x :: r => (x + sh * (if (k : Int) ∈ ab then 1 else 0) - 60 * (if (k : Int) ∈ g then 1 else 0)) :: bhd sh ab g (k + 1) r
def bhdL (old : List Int) (d : Int × List Int) (g : List Int) : List Int := bhd (60 * d.1 / d.2.length) d.2 g 0 old
@[simp] theorem bhd_len {sh : Int} {ab g : List Int} : ∀ {k : Nat} {old : List Int}, (bhd sh ab g k old).length = old.length
  | _, [] => rfl
  | k, x :: r => by simp [bhd, bhd_len (k := k + 1) (old := r)]
@[simp] theorem bhdL_len {old : List Int} {d : Int × List Int} {g : List Int} : (bhdL old d g).length = old.length := bhd_len
theorem behind_L {n : Nat} {d0 d1 c : D} {g ab : List Int} {sh : Int} : ∀ (old : List Int) (k : Nat) (acc : List Int), acc.length + old.length ≤ 1000 →
    forLoop (.many [7, 8]) [7, 8, 9] (exSs (CL n) L.gl f_behind_L1) (enumFrom k (old.map .int)) [some (.val d0), some (.val d1), some (.val (gD g)), some (.val (.int sh)), some (.own (.lst (acc.map .int))), some (.val c), some (.val (gD ab)), none, none, none] =
      .nx [some (.val d0), some (.val d1), some (.val (gD g)), some (.val (.int sh)), some (.own (.lst ((acc ++ bhd sh ab g k old).map .int))), some (.val c), some (.val (gD ab)), none, none, none]
  | [], k, acc, _ => by simp [enumFrom, forLoop, bhd]
  | x :: r, k, acc, h => by
    simp only [List.length_cons] at h
    have hl : acc.length < 16777216 := by omega
    have b : ∃ z, exSs (CL n) L.gl f_behind_L1 [some (.val d0), some (.val d1), some (.val (gD g)), some (.val (.int sh)), some (.own (.lst (acc.map .int))), some (.val c), some (.val (gD ab)), some (.val (.int k)), some (.val (.int x)), none] =
        .nx [some (.val d0), some (.val d1), some (.val (gD g)), some (.val (.int sh)), some (.own (.lst ((acc ++ [x + sh * (if (k : Int) ∈ ab then 1 else 0) - 60 * (if (k : Int) ∈ g then 1 else 0)]).map .int))), some (.val c), some (.val (gD ab)), some (.val (.int k)), some (.val (.int x)), some (.val z)] := by
      by_cases h1 : (k : Int) ∈ ab <;> by_cases h2 : (k : Int) ∈ g <;> simp [f_behind_L1, h1, h2, hl]
    obtain ⟨z, b⟩ := b
    have ih := behind_L (n := n) (d0 := d0) (d1 := d1) (c := c) (g := g) (ab := ab) (sh := sh) r (k + 1) (acc ++ [x + sh * (if (k : Int) ∈ ab then 1 else 0) - 60 * (if (k : Int) ∈ g then 1 else 0)]) (by simp; omega)
    simp only [List.map_cons, enumFrom, forLoop, bindT_many, bhd]
    simp only [List.length_cons, List.length_nil, if_true, putVs_cons, putC_eq, getC_succ, getC_zero, putX_none, setC_succ, setC_zero, Option.bind_some, putVs_nil]
    rw [b]
    simpa using ih
@[simp] theorem sp_behind {n : Nat} {old g ab : List Int} {c : Int} (hl : old.length ≤ 1000) (h1 : 0 < ab.length) (h2 : ab.length ≤ 1000) : CL (n + 1) "behind" [.val (gD old), .val (.tup [.int c, gD ab]), .val (gD g)] = .ok (.val (gD (bhdL old (c, ab) g))) [] := by
  rw [call_behind]
  have e := behind_L (n := n) (d0 := gD old) (d1 := .tup [.int c, gD ab]) (c := .int c) (g := g) (ab := ab) (sh := 60 * c / ab.length) old 0 [] (by simpa using hl)
  simp only [List.map_nil, List.nil_append] at e
  have h3 : (0 : Int) < ab.length := by omega
  have h4 : (ab.length : Int) < 18446744073709551616 := by omega
  simp [f_behind, h1, h3, h4, e, bhdL]
def zeros (p : Int) : List Int := List.replicate p.toNat 0
theorem zerosM {p : Int} : (zeros p).map D.int = List.replicate p.toNat (D.int 0) := by simp [zeros]
@[simp] theorem zeros_len {p : Int} : (zeros p).length = p.toNat := by simp [zeros]
theorem bhd_at {sh : Int} {ab g : List Int} : ∀ (old : List Int) (k : Nat), bhd sh ab g k old = (List.range old.length).map fun i => old.getD i 0 + (if ((k + i : Nat) : Int) ∈ ab then sh else 0) - (if ((k + i : Nat) : Int) ∈ g then 60 else 0)
  | [], k => rfl
  | x :: r, k => by
    rw [bhd, bhd_at r (k + 1), List.length_cons, List.range_succ_eq_map, List.map_cons, List.map_map]
    congr 1
    · simp only [List.getD_cons_zero, Nat.add_zero]
      split <;> split <;> omega
    · apply List.map_congr_left
      intro i _
      simp only [Function.comp, List.getD_cons_succ, Nat.succ_eq_add_one]
      rw [show k + 1 + i = k + (i + 1) by omega]

theorem common_L {n : Nat} : ∀ (fuel a b : Nat), b < fuel → whlLoop [] (evT (CL n) L.gl f_common_T1) (exSs (CL n) L.gl f_common_L1) fuel [some (.val (.int a)), some (.val (.int b))] = .nx [some (.val (.int (Nat.gcd a b : Nat))), some (.val (.int 0))]
  | 0, a, b, h => absurd h (Nat.not_lt_zero _)
  | f + 1, a, b, h => by
    by_cases hb : b = 0
    · subst hb
      simp [whlLoop, f_common_T1, Fl.bindO]
    · have h0 : (0 : Int) < b := by omega
      have t : evT (CL n) L.gl f_common_T1 [some (.val (.int a)), some (.val (.int b))] = .ok true [some (.val (.int a)), some (.val (.int b))] := by
        have : (b : Int) ≠ 0 := by omega
        simp [f_common_T1, hb]
      have s : exSs (CL n) L.gl f_common_L1 [some (.val (.int a)), some (.val (.int b))] = .nx [some (.val (.int b)), some (.val (.int (a % b : Nat)))] := by
        have h0' : 0 < b := by omega
        simp [f_common_L1, h0, h0']
      have ih := common_L (n := n) f b (a % b) (by have := Nat.mod_lt a (Nat.pos_of_ne_zero hb); omega)
      simp only [whlLoop, t, Fl.bindO, if_true, s, killS_nil]
      rw [ih, Nat.gcd_comm b, ← Nat.gcd_rec, Nat.gcd_comm]
theorem abs_eq (i : Int) : (if i < 0 then -i else i) = (i.natAbs : Int) := by
  split <;> omega
@[simp] theorem sp_common {n : Nat} {a b : Int} (h : b.natAbs < 4000) : CL (n + 1) "common" [.val (.int a), .val (.int b)] = .ok (.val (.int (Int.gcd a b))) [] := by
  rw [call_common]
  have e := common_L (n := n) 4096 a.natAbs b.natAbs (by omega)
  simp [f_common, abs_eq, e, Int.gcd]
def frc (a b : Int) : Int × Int := (a / Int.gcd a b, b / Int.gcd a b)
abbrev frD (q : Int × Int) : D := .tup [.int q.1, .int q.2]
theorem gcd_pos60 (a : Int) : (0 : Int) < Int.gcd a 60 := by
  have : 0 < Int.gcd a 60 := Int.gcd_pos_of_ne_zero_right _ (by decide)
  omega
theorem gcd_le60 (a : Int) : (Int.gcd a 60 : Int) ≤ 60 := by
  have : Int.gcd a 60 ∣ 60 := by
    have := Int.gcd_dvd_right a 60
    exact Int.natCast_dvd_natCast.mp this
  have := Nat.le_of_dvd (by decide) this
  omega
@[simp] theorem sp_fraction {n : Nat} {a : Int} : CL (n + 2) "fraction" [.val (.int a), .val (.int 60)] = .ok (.val (frD (frc a 60))) [] := by
  rw [call_fraction]
  have h1 := gcd_pos60 a
  have h2 := gcd_le60 a
  have h3 : (Int.gcd a 60 : Int) < 18446744073709551616 := by omega
  simp [f_fraction, h1, h3, frc]
abbrev rowD (r : List Int) : D := .tup (r.map fun x => frD (frc x 60))
def rowsL : List Int → List (Int × List Int) → List (List Int) → List (List Int)
  | old, d :: ds, g :: gs => bhdL old d g :: rowsL (bhdL old d g) ds gs
  | _, _, _ => []
theorem rowsL_len : ∀ {old : List Int} {ds : List (Int × List Int)} {gs : List (List Int)}, ∀ r ∈ rowsL old ds gs, r.length = old.length
  | old, [], _, r, h => by simp [rowsL] at h
  | old, _ :: _, [], r, h => by simp [rowsL] at h
  | old, d :: ds, g :: gs, r, h => by
    simp only [rowsL, List.mem_cons] at h
    rcases h with rfl | h
    · simp
    · have := rowsL_len r h
      simpa using this
theorem rowsL_many : ∀ {old : List Int} {ds : List (Int × List Int)} {gs : List (List Int)}, (rowsL old ds gs).length ≤ ds.length
  | old, [], _ => by simp [rowsL]
  | old, _ :: _, [] => by simp [rowsL]
  | old, d :: ds, g :: gs => by
    have := rowsL_many (old := bhdL old d g) (ds := ds) (gs := gs)
    simp [rowsL]; omega
def mx (ns : List Int) : Int := maxL (ns.headD 0) ns.tail
theorem maxX_ne {ns : List Int} (h : ns ≠ []) : maxX (some ns) = some (.val (.int (mx ns))) := by
  cases ns with
  | nil => exact absurd rfl h
  | cons n ns => rfl
def distL (r : List Int) : Int := mx (r.map fun x => (x.natAbs : Int))
theorem sp_distance {n : Nat} {r : List Int} (h0 : r ≠ []) (hl : r.length ≤ 1000) : CL (n + 1) "distance" [.val (gD r)] = .ok (.val (.int (distL r))) [] := by
  rw [call_distance]
  have e : ∀ acc, lcLoop (.one 1) (lcBody (CL n) L.gl f_distance_C1 .none) (r.map .int) acc [some (.val (gD r)), none] = .ok (acc ++ r.filterMap fun x => some (.int (x.natAbs : Int))) [some (.val (gD r)), none] :=
    fun acc => lc_map D.int (fun x => some (.int (x.natAbs : Int))) _ (fun x => ⟨[some (.val (gD r)), some (.val (.int x))], _, by simp, by simp [lcBody, f_distance_C1, abs_eq] <;> rfl, by simp⟩) _ acc
  rw [fm_some] at e
  have hl' : r.length ≤ 16777216 := by omega
  have h1 : r.map (fun x => (x.natAbs : Int)) ≠ [] := by simpa using h0
  simp [f_distance, e, hl', maxX_ne h1, distL]
def farL (rs : List (List Int)) : Int := mx (0 :: rs.map distL)
/-! ### the law's own drawings -/
def RngOk (o : Ob) : Prop := ∃ s cs k, o = .rng s cs k ∧ cs.length ≤ 1000
theorem sp_next {n : Nat} {b : Int} {o : Ob} (h : RngOk o) (hb : 0 < b) (hb2 : b < 4611686018427387904) : ∃ (v : Nat) (o' : Ob), CL (n + 1) "_law_next" [.par o, .val (.int b)] = .ok (.val (.int v)) [o'] ∧ (v : Int) < b ∧ RngOk o' := by
  obtain ⟨s, cs, k, rfl, hc⟩ := h
  have hbo : bndOk b = true := by simp [bndOk, hb, hb2]
  have hv : 0 ≤ (nextV s cs k b).1 ∧ (nextV s cs k b).1 < b := by
    unfold nextV
    split
    · exact ⟨Int.emod_nonneg _ (by omega), Int.emod_lt_of_pos _ hb⟩
    · exact ⟨Int.emod_nonneg _ (by omega), Int.emod_lt_of_pos _ hb⟩
  obtain ⟨v, hv'⟩ := Int.eq_ofNat_of_zero_le hv.1
  refine ⟨v, .rng (nextV s cs k b).2.1 (nextV s cs k b).2.2.1 (nextV s cs k b).2.2.2, ?_, by omega, ⟨_, _, _, rfl, ?_⟩⟩
  · rw [call_next, pNext_eq hbo hc, hv']
  · unfold nextV
    split
    · simpa using hc
    · exact hc
theorem grpFrom_iff {p : Int} : ∀ {g : List Int} {b : Int}, grpFrom b g p = true ↔ g.Pairwise (· < ·) ∧ ∀ x ∈ g, b < x ∧ x < p
  | [], b => by simp [grpFrom]
  | x :: r, b => by
    simp only [grpFrom, Bool.and_eq_true, decide_eq_true_eq, grpFrom_iff (g := r), List.pairwise_cons, List.mem_cons, forall_eq_or_imp]
    constructor
    · rintro ⟨h1, h2, h3⟩
      exact ⟨⟨fun a ha => (h3 a ha).1, h2⟩, by omega, fun a ha => ⟨by have := (h3 a ha).1; omega, (h3 a ha).2⟩⟩
    · rintro ⟨⟨h1, h2⟩, h3, h4⟩
      exact ⟨by omega, h2, fun a ha => ⟨h1 a ha, (h4 a ha).2⟩⟩
theorem grp_iff {p : Int} {g : List Int} : grp g p = true ↔ g ≠ [] ∧ g.Pairwise (· < ·) ∧ ∀ x ∈ g, 0 ≤ x ∧ x < p := by
  unfold grp
  rw [Bool.and_eq_true, grpFrom_iff]
  constructor
  · rintro ⟨h1, h2, h3⟩
    exact ⟨by simpa using h1, h2, fun x hx => ⟨by have := (h3 x hx).1; omega, (h3 x hx).2⟩⟩
  · rintro ⟨h1, h2, h3⟩
    exact ⟨by simpa using h1, h2, fun x hx => ⟨by have := (h3 x hx).1; omega, (h3 x hx).2⟩⟩
theorem asc_len : ∀ {g : List Int} {b p : Int}, g.Pairwise (· < ·) → (∀ x ∈ g, b ≤ x ∧ x < p) → b ≤ p → (g.length : Int) ≤ p - b
  | [], b, p, _, _, h => by simp; omega
  | x :: r, b, p, h1, h2, h => by
    have hx := h2 x List.mem_cons_self
    have := asc_len (b := x + 1) (p := p) (List.pairwise_cons.mp h1).2 (fun y hy => ⟨by have := (List.pairwise_cons.mp h1).1 y hy; omega, (h2 y (List.mem_cons_of_mem _ hy)).2⟩) (by omega)
    simp only [List.length_cons]
    omega
theorem grp_len {p : Int} {g : List Int} (h : grp g p = true) (hp : 0 ≤ p) : (g.length : Int) ≤ p := by
  have h' := grp_iff.mp h
  have := asc_len h'.2.1 h'.2.2 hp
  omega
theorem dayB_len {d : Int × List Int} {p : Int} (h : dayB d p = true) (hp : 0 ≤ p) : 0 < d.2.length ∧ (d.2.length : Int) ≤ p := by
  simp only [dayB, Bool.and_eq_true, decide_eq_true_eq] at h
  refine ⟨List.length_pos_iff.mpr (grp_iff.mp h.1.2).1, grp_len h.1.2 hp⟩
abbrev mD (p : Int) (ds : List (Int × List Int)) (bs : List (Int × Int)) : D := .lst [.int p, daysD ds, barsD bs]
theorem chs_grp {p c : Int} {l g : List Int} (hl : ∀ x ∈ l, 0 ≤ x ∧ x < p) (h : g ∈ chs c l) : grp g p = true := by
  rw [grp_iff]
  unfold chs at h
  split at h
  · simp only [List.mem_map] at h
    obtain ⟨a, ha, rfl⟩ := h
    exact ⟨by simp, by simp, by simpa using hl a ha⟩
  · simp only [pairsL, List.mem_flatMap, List.mem_map, List.mem_filter, decide_eq_true_eq] at h
    obtain ⟨a, ha, b, ⟨hb, hab⟩, rfl⟩ := h
    refine ⟨by simp, by simpa using hab, ?_⟩
    intro x hx
    simp only [List.mem_cons, List.not_mem_nil, or_false] at hx
    rcases hx with rfl | rfl
    · exact hl _ ha
    · exact hl _ hb
theorem chsOk_snoc {p : Int} {bs : List (Int × Int)} : ∀ {ds : List (Int × List Int)} {gs : List (List Int)} {k : Nat} {d : Int × List Int} {g : List Int}, chsOk p bs k ds gs = true → grp g p = true → g ∈ chs d.1 (ableL d.2 ((k + ds.length : Nat) : Int) bs) → chsOk p bs k (ds ++ [d]) (gs ++ [g]) = true
  | [], [], k, d, g, _, h1, h2 => by simpa [chsOk, h1] using h2
  | [], _ :: _, _, _, _, h, _, _ => by cases h
  | _ :: _, [], _, _, _, h, _, _ => by cases h
  | e :: ds, f :: gs, k, d, g, h, h1, h2 => by
    simp only [chsOk, Bool.and_eq_true, List.cons_append] at h ⊢
    refine ⟨h.1, chsOk_snoc h.2 h1 ?_⟩
    rw [show k + 1 + ds.length = k + (e :: ds).length by simp; omega]
    exact h2
abbrev cV (c : Option D) : Option Cell := c.map .val
@[simp] theorem cV_none : cV none = none := rfl
@[simp] theorem cV_some {d : D} : cV (some d) = some (.val d) := rfl

def Ret (x : Fl) : Prop := ∃ o T, x = .ret (.val (.bl true)) (some (.par o) :: T)
@[simp] theorem Ret_ret {o : Ob} {T : Fr} : Ret (.ret (.val (.bl true)) (some (.par o) :: T)) := ⟨o, T, rfl⟩
theorem mon_cut {p : Int} {ds : List (Int × List Int)} {bs : List (Int × Int)} (hm : MonOk p ds bs) (m : Nat) : MonOk p (ds.take m) (bs.filter fun b => decide (b.1 < m)) := by
  refine ⟨hm.p1, hm.p5, ?_, fun d hd => hm.day d (List.mem_of_mem_take hd), ?_, ?_⟩
  · have := hm.d10
    rw [List.length_take]
    omega
  · exact Nat.le_trans (List.length_filter_le _ _) hm.b20
  · intro b hb
    obtain ⟨h1, h2⟩ := List.mem_filter.mp hb
    have h3 := hm.bar b h1
    simp only [decide_eq_true_eq] at h2
    simp only [barB, Bool.and_eq_true, decide_eq_true_eq] at h3 ⊢
    refine ⟨h3.1, ?_⟩
    have h4 : b.1.toNat < m := by omega
    rw [List.getElem?_take, if_pos h4]
    exact h3.2
theorem cut_take {β : Type} {g : β → D} {xs : List β} (m : Nat) : Ev.cutD (xs.map g) none (some (m : Int)) = (xs.take m).map g := by
  unfold Ev.cutD
  rw [HT.sIx_none, HT.sIx_nat, List.drop_zero, Nat.sub_zero, List.map_take]
  rw [List.take_eq_take_iff]
  simp
def N0 : Nat := 20

def oneD : D := .tup [.int 0, .int 1]
def goodW : Fin 5 → D
  | 0 => monD 2 [(1, [0, 1]), (1, [0, 1])] [(1, 0)]
  | 1 => .tup [.tup [.int 1000000, .int 0], .tup [.int 0, .int 5]]
  | 2 => .tup [.tup [.int 0], .tup [.int 1]]
  | 3 => .int 2
  | 4 => .tup [.int 0, .int 10]
def badsW : Fin 5 → List D
  | 0 => [.non, .tup [.int 2, .tup [], .tup []], .int 3, .str "a", .lst [monD 1 [] []]]
  | 1 => [.non, .tup [], .tup [oneD], .tup [oneD, oneD, oneD], .lst [oneD, oneD], .tup [oneD, .lst [.int 0, .int 1]], .tup [oneD, .tup [.int 0]], .tup [oneD, .tup [.int 0, .int (-1)]], .tup [oneD, .int 3], .int 3, .tup [oneD, .tup [.int 0, .bl true]], .tup [oneD, .tup [.int 0, .str "1"]], .tup [oneD, .tup [.int 0, .int 1000001]], .tup [oneD, .tup [.int 0, .int 1, .int 2]], .tup [oneD, .non]]
  | 2 => [.non, .tup [], .tup [.tup [.int 0]], .tup [.tup [.int 0], .tup [.int 0]], .lst [.tup [.int 0], .tup [.int 1]], .tup [.tup [.int 0], .tup [.int 1], .tup [.int 1]], .tup [.tup [.int 0], .int 1], .tup [.tup [.int 0], .tup [.int 0, .int 1]], .int 3, .tup [.tup [.int 0], .tup [.int 2]], .tup [.tup [.int 0], .tup []], .tup [.tup [.int 0], .tup [.bl true]], .tup [.tup [.int 0], .non]]
  | 3 => [.non, .bl true, .str "1", .int (-1), .tup [.int 1], .lst [.int 1], .int 3]
  | 4 => [.non, .tup [], .tup [.int 1], .tup [.int 0, .int 1, .int 1], .lst [.int 0, .int 1], .tup [.int 0, .int (-1)], .tup [.int 0, .int 11], .tup [.int 0, .bl true], .tup [.int 0, .str "1"], .int 3]
def nmW : Fin 5 → Str
  | 0 => "month"
  | 1 => "costs"
  | 2 => "choice"
  | 3 => "number"
  | 4 => "drives"
def picksL (w : Fin 5) : List (Bool × D) := (false, goodW w) :: (badsW w).map fun d => (true, d)
def chkT (r : FnRes) (s : Str) : Bool := match r with
  | .ok (.own (.lst [.str x])) [] => decide (x = s)
  | _ => false
theorem chkT_ok {r : FnRes} {s : Str} (h : chkT r s = true) : r = .ok (.own (.lst [.str s])) [] := by
  unfold chkT at h
  split at h
  · rw [of_decide_eq_true h]
  · cases h
theorem tab0 (turn : Int) : ((picksL 0).all fun a => (picksL 1).all fun b => chkT (CL 20 "_law_told" [.val (.int 0), .val (.lst [a.2, b.2]), .val (.int turn)]) (if a.1 then "month" else if b.1 then "costs" else "good")) = true := by kernel_rfl
theorem tab1 (turn : Int) : ((picksL 0).all fun a => (picksL 2).all fun b => chkT (CL 20 "_law_told" [.val (.int 1), .val (.lst [a.2, b.2]), .val (.int turn)]) (if a.1 then "month" else if b.1 then "choice" else "good")) = true := by kernel_rfl
theorem tab3 (turn : Int) : ((picksL 0).all fun a => (picksL 4).all fun b => chkT (CL 20 "_law_told" [.val (.int 3), .val (.lst [a.2, b.2]), .val (.int turn)]) (if a.1 then "month" else if b.1 then "drives" else "good")) = true := by kernel_rfl

theorem tab2 (turn : Int) : ((picksL 0).all fun a => (picksL 2).all fun b => (picksL 3).all fun c => chkT (CL 20 "_law_told" [.val (.int 2), .val (.lst [a.2, b.2, c.2]), .val (.int turn)]) (if a.1 then "month" else if b.1 then "choice" else if c.1 then "number" else "good")) = true := by kernel_rfl
theorem tab4 : ((picksL 0).all fun a => [0, 1, 2, 3].all fun turn => chkT (CL 20 "_law_told" [.val (.int 4), .val (.lst [a.2]), .val (.int turn)]) (if a.1 then "month" else "good")) = true := by kernel_rfl
theorem tab5 : ([1, 3].all fun turn => chkT (CL 20 "_law_told" [.val (.int 4), .val (.lst [monD 1 [(1, [0])] [(0, 0)]]), .val (.int turn)]) "none") = true := by kernel_rfl
theorem good_ok (w : Fin 5) : CL 20 "_law_good_one" [.val (.str (nmW w))] = .ok (.val (goodW w)) [] := by
  match w with
  | 0 => kernel_rfl
  | 1 => kernel_rfl
  | 2 => kernel_rfl
  | 3 => kernel_rfl
  | 4 => kernel_rfl
theorem eq_nmW : ∀ a b : Fin 5, pyEq (.str (nmW a)) (.str (nmW b)) = some (decide (a = b)) := by decide +kernel
theorem atD_natW {xs : List D} {k : Nat} (h : k < xs.length) : ∃ d, d ∈ xs ∧ atD xs (k : Int) = some d := by
  refine ⟨xs[k], List.getElem_mem h, ?_⟩
  unfold atD L2.atI
  simp [L2.ixN, h]
theorem sp_bad {o : Ob} (ho : RngOk o) (w : Fin 5) : ∃ o' d, RngOk o' ∧ d ∈ badsW w ∧ CL 20 "_law_bad_one" [.par o, .val (.str (nmW w))] = .ok (.val d) [o'] := by
  rw [call__law_bad_one]
  have m1 : CL 19 "Month.__init__" [.par (.ins "Month" []), .val (.int 1), .val (.tup []), .val (.tup [])] = .ok (.val .non) [.ins "Month" [("held", .v (heldD 1 [] []))]] := by kernel_rfl
  match w with
  | 0 =>
    obtain ⟨v, o1, e1, hv, ho1⟩ := sp_next (n := 18) (b := 5) ho (by decide) (by decide)
    obtain ⟨d, hd, hat⟩ := atD_natW (xs := badsW 0) (k := v) (by simp [badsW]; omega)
    refine ⟨o1, d, ho1, hd, ?_⟩
    have q1 : pyEq (.str "month") (.str "number") = some false := eq_nmW 0 3
    have q2 : pyEq (.str "month") (.str "month") = some true := eq_nmW 0 0
    have q3 : pyEq (.str "month") (.str "costs") = some false := eq_nmW 0 1
    have q4 : pyEq (.str "month") (.str "choice") = some false := eq_nmW 0 2
    have q5 : pyEq (.str "month") (.str "drives") = some false := eq_nmW 0 4
    simp only [badsW] at hat
    simp [f__law_bad_one, nmW, q1, q2, q3, q4, q5, m1, e1, hat]
  | 1 =>
    obtain ⟨v, o1, e1, hv, ho1⟩ := sp_next (n := 18) (b := 15) ho (by decide) (by decide)
    obtain ⟨d, hd, hat⟩ := atD_natW (xs := badsW 1) (k := v) (by simp [badsW]; omega)
    refine ⟨o1, d, ho1, hd, ?_⟩
    have q1 : pyEq (.str "costs") (.str "number") = some false := eq_nmW 1 3
    have q2 : pyEq (.str "costs") (.str "month") = some false := eq_nmW 1 0
    have q3 : pyEq (.str "costs") (.str "costs") = some true := eq_nmW 1 1
    have q4 : pyEq (.str "costs") (.str "choice") = some false := eq_nmW 1 2
    have q5 : pyEq (.str "costs") (.str "drives") = some false := eq_nmW 1 4
    have b1 : binD .mul (.tup [oneD]) (.int 3) = some (.val (.tup [oneD, oneD, oneD])) := by kernel_rfl
    have b2 : binD .pow (.int 10) (.int 6) = some (.val (.int 1000000)) := by kernel_rfl
    simp only [badsW, oneD] at hat b1
    simp [f__law_bad_one, nmW, q1, q2, q3, q4, q5, b1, b2, e1, hat]
  | 2 =>
    obtain ⟨v, o1, e1, hv, ho1⟩ := sp_next (n := 18) (b := 13) ho (by decide) (by decide)
    obtain ⟨d, hd, hat⟩ := atD_natW (xs := badsW 2) (k := v) (by simp [badsW]; omega)
    refine ⟨o1, d, ho1, hd, ?_⟩
    have q1 : pyEq (.str "choice") (.str "number") = some false := eq_nmW 2 3
    have q2 : pyEq (.str "choice") (.str "month") = some false := eq_nmW 2 0
    have q3 : pyEq (.str "choice") (.str "costs") = some false := eq_nmW 2 1
    have q4 : pyEq (.str "choice") (.str "choice") = some true := eq_nmW 2 2
    have q5 : pyEq (.str "choice") (.str "drives") = some false := eq_nmW 2 4
    simp only [badsW] at hat
    simp [f__law_bad_one, nmW, q1, q2, q3, q4, q5, e1, hat]
  | 3 =>
    obtain ⟨v, o1, e1, hv, ho1⟩ := sp_next (n := 18) (b := 7) ho (by decide) (by decide)
    obtain ⟨d, hd, hat⟩ := atD_natW (xs := badsW 3) (k := v) (by simp [badsW]; omega)
    refine ⟨o1, d, ho1, hd, ?_⟩
    have q1 : pyEq (.str "number") (.str "number") = some true := eq_nmW 3 3
    have q2 : pyEq (.str "number") (.str "month") = some false := eq_nmW 3 0
    have q3 : pyEq (.str "number") (.str "costs") = some false := eq_nmW 3 1
    have q4 : pyEq (.str "number") (.str "choice") = some false := eq_nmW 3 2
    have q5 : pyEq (.str "number") (.str "drives") = some false := eq_nmW 3 4
    simp only [badsW] at hat
    simp [f__law_bad_one, nmW, q1, q2, q3, q4, q5, e1, hat]
  | 4 =>
    obtain ⟨v, o1, e1, hv, ho1⟩ := sp_next (n := 18) (b := 10) ho (by decide) (by decide)
    obtain ⟨d, hd, hat⟩ := atD_natW (xs := badsW 4) (k := v) (by simp [badsW]; omega)
    refine ⟨o1, d, ho1, hd, ?_⟩
    have q1 : pyEq (.str "drives") (.str "number") = some false := eq_nmW 4 3
    have q2 : pyEq (.str "drives") (.str "month") = some false := eq_nmW 4 0
    have q3 : pyEq (.str "drives") (.str "costs") = some false := eq_nmW 4 1
    have q4 : pyEq (.str "drives") (.str "choice") = some false := eq_nmW 4 2
    have q5 : pyEq (.str "drives") (.str "drives") = some true := eq_nmW 4 4
    simp only [badsW] at hat
    simp [f__law_bad_one, nmW, q1, q2, q3, q4, q5, e1, hat]

theorem bad_in {w : Fin 5} {d : D} (h : d ∈ badsW w) : ((true, d) : Bool × D) ∈ picksL w := List.mem_cons_of_mem _ (List.mem_map.mpr ⟨d, h, rfl⟩)
theorem good_in {w : Fin 5} : ((false, goodW w) : Bool × D) ∈ picksL w := List.mem_cons_self
theorem draw3 {o : Ob} (ho : RngOk o) : ∃ v : Nat, ∃ o', CL 20 "_law_next" [.par o, .val (.int 3)] = .ok (.val (.int v)) [o'] ∧ RngOk o' := by
  obtain ⟨v, o', e, _, ho'⟩ := sp_next (n := 19) (b := 3) ho (by decide) (by decide)
  exact ⟨v, o', e, ho'⟩
def Got (w : Fin 5) (b : Bool) (o : Ob) (q : D) (o' : Ob) : Prop := (b, q) ∈ picksL w ∧ RngOk o' ∧ (b = true → CL 20 "_law_bad_one" [.par o, .val (.str (nmW w))] = .ok (.val q) [o']) ∧ (b = false → q = goodW w ∧ o' = o)
theorem got {o : Ob} (ho : RngOk o) (w : Fin 5) (b : Bool) : ∃ q o', Got w b o q o' := by
  cases b with
  | false => exact ⟨goodW w, o, good_in, ho, (by intro z; cases z), fun _ => ⟨rfl, rfl⟩⟩
  | true =>
    obtain ⟨o', d, ho', hd, e⟩ := sp_bad ho w
    exact ⟨d, o', bad_in hd, ho', fun _ => e, (by intro z; cases z)⟩
def duL (l : List (Fin 5 × Bool)) : List Str := (l.filter (·.2)).map fun q => nmW q.1
section
variable {o o2 : Ob} {kd tn : Int}
def lF (o o2 : Ob) (W : List (Fin 5)) (c3 c5 : Option Cell) (t : Option Cell) (du : Option Cell) (kd tn : Int) : Fr := [some (.par (o)), some (.own (o2)), some (.val (.lst (W.map fun w => .str (nmW w)))), c3, t, c5, du, some (.val (.int kd)), some (.val (.int tn)), none]
theorem rg1 : rngD 0 1 = [.int 0] := rfl
theorem rg2 : rngD 0 2 = [.int 0, .int 1] := rfl
theorem rg3 : rngD 0 3 = [.int 0, .int 1, .int 2] := rfl
theorem at0 {a : D} {l : List D} : atD (a :: l) 0 = some a := by
  unfold atD L2.atI
  simp [L2.ixN]
theorem at1 {a b : D} {l : List D} : atD (a :: b :: l) 1 = some b := by
  unfold atD L2.atI
  simp [L2.ixN]
  rw [if_pos (by omega)]
  rfl
theorem at2 {a b c : D} {l : List D} : atD (a :: b :: c :: l) 2 = some c := by
  unfold atD L2.atI
  simp [L2.ixN]
  rw [if_pos (by omega)]
  rfl
theorem pq0 {v : Nat} : eqD (.int (v : Int)) (.int 0) = decide (v = 0) := by
  by_cases h : v = 0
  · subst h; simp
  · have : (D.int (v : Int)) ≠ .int 0 := fun e => h (by injection e with e; omega)
    simp [h]
theorem law_W1 {w1 : Fin 5} (ho : RngOk o2) : ∃ (b1 : Bool) (q1 : D) (o' : Ob) (c3 c5 : Option Cell), RngOk o' ∧ (b1, q1) ∈ picksL w1 ∧
    exSs (CL 20) L.gl f_law_S4 (lF o o2 [w1] none none none none kd tn) = exSs (CL 20) L.gl f_law_S8 (lF o o' [w1] c3 c5 (some (.own (.lst [q1]))) (some (.val (.lst ((duL [(w1, b1)]).map .str)))) kd tn) := by
  obtain ⟨v1, oa1, e1, hoa1⟩ := draw3 ho
  obtain ⟨q1, ob1, g1, hob1, h1, h1'⟩ := got hoa1 w1 (decide (v1 = 0))
  refine ⟨_, q1, ob1, some (.val (.lst [.bl (decide (v1 = 0))])), some (.val (.int 0)), hob1, g1, ?_⟩
  have gd1 := good_ok w1
  generalize hF8 : f_law_S8 = F8
  by_cases z1 : v1 = 0
  · simp only [z1, decide_true] at h1 h1'
    have k1 := h1 trivial
    simp [lF, f_law_S4, f_law_S5, f_law_S6, f_law_S7, f_law_C2, f_law_L1, f_law_C1, f_law_D1, lcBody, lcLoop, forLoop, pq0, rg1, at0, at1, at2, duL, hF8, e1, z1, k1]
  · simp only [z1, decide_false] at h1 h1'
    obtain ⟨rfl, rfl⟩ := h1' trivial
    simp [lF, f_law_S4, f_law_S5, f_law_S6, f_law_S7, f_law_C2, f_law_L1, f_law_C1, f_law_D1, lcBody, lcLoop, forLoop, pq0, rg1, at0, at1, at2, duL, hF8, e1, z1, gd1]
theorem law_W2 {w1 w2 : Fin 5} (ho : RngOk o2) : ∃ (b1 : Bool) (q1 : D) (b2 : Bool) (q2 : D) (o' : Ob) (c3 c5 : Option Cell), RngOk o' ∧ (b1, q1) ∈ picksL w1 ∧ (b2, q2) ∈ picksL w2 ∧
    exSs (CL 20) L.gl f_law_S4 (lF o o2 [w1, w2] none none none none kd tn) = exSs (CL 20) L.gl f_law_S8 (lF o o' [w1, w2] c3 c5 (some (.own (.lst [q1, q2]))) (some (.val (.lst ((duL [(w1, b1), (w2, b2)]).map .str)))) kd tn) := by
  obtain ⟨v1, oa1, e1, hoa1⟩ := draw3 ho
  obtain ⟨v2, oa2, e2, hoa2⟩ := draw3 hoa1
  obtain ⟨q1, ob1, g1, hob1, h1, h1'⟩ := got hoa2 w1 (decide (v1 = 0))
  obtain ⟨q2, ob2, g2, hob2, h2, h2'⟩ := got hob1 w2 (decide (v2 = 0))
  refine ⟨_, q1, _, q2, ob2, some (.val (.lst [.bl (decide (v1 = 0)), .bl (decide (v2 = 0))])), some (.val (.int 1)), hob2, g1, g2, ?_⟩
  have gd1 := good_ok w1
  have gd2 := good_ok w2
  generalize hF8 : f_law_S8 = F8
  by_cases z1 : v1 = 0
  · simp only [z1, decide_true] at h1 h1'
    have k1 := h1 trivial
    by_cases z2 : v2 = 0
    · simp only [z2, decide_true] at h2 h2'
      have k2 := h2 trivial
      simp [lF, f_law_S4, f_law_S5, f_law_S6, f_law_S7, f_law_C2, f_law_L1, f_law_C1, f_law_D1, lcBody, lcLoop, forLoop, pq0, rg2, at0, at1, at2, duL, hF8, e1, z1, e2, z2, k1, k2]
    · simp only [z2, decide_false] at h2 h2'
      obtain ⟨rfl, rfl⟩ := h2' trivial
      simp [lF, f_law_S4, f_law_S5, f_law_S6, f_law_S7, f_law_C2, f_law_L1, f_law_C1, f_law_D1, lcBody, lcLoop, forLoop, pq0, rg2, at0, at1, at2, duL, hF8, e1, z1, e2, z2, k1, gd2]
  · simp only [z1, decide_false] at h1 h1'
    obtain ⟨rfl, rfl⟩ := h1' trivial
    by_cases z2 : v2 = 0
    · simp only [z2, decide_true] at h2 h2'
      have k2 := h2 trivial
      simp [lF, f_law_S4, f_law_S5, f_law_S6, f_law_S7, f_law_C2, f_law_L1, f_law_C1, f_law_D1, lcBody, lcLoop, forLoop, pq0, rg2, at0, at1, at2, duL, hF8, e1, z1, e2, z2, gd1, k2]
    · simp only [z2, decide_false] at h2 h2'
      obtain ⟨rfl, rfl⟩ := h2' trivial
      simp [lF, f_law_S4, f_law_S5, f_law_S6, f_law_S7, f_law_C2, f_law_L1, f_law_C1, f_law_D1, lcBody, lcLoop, forLoop, pq0, rg2, at0, at1, at2, duL, hF8, e1, z1, e2, z2, gd1, gd2]
theorem law_W3 {w1 w2 w3 : Fin 5} (ho : RngOk o2) : ∃ (b1 : Bool) (q1 : D) (b2 : Bool) (q2 : D) (b3 : Bool) (q3 : D) (o' : Ob) (c3 c5 : Option Cell), RngOk o' ∧ (b1, q1) ∈ picksL w1 ∧ (b2, q2) ∈ picksL w2 ∧ (b3, q3) ∈ picksL w3 ∧
    exSs (CL 20) L.gl f_law_S4 (lF o o2 [w1, w2, w3] none none none none kd tn) = exSs (CL 20) L.gl f_law_S8 (lF o o' [w1, w2, w3] c3 c5 (some (.own (.lst [q1, q2, q3]))) (some (.val (.lst ((duL [(w1, b1), (w2, b2), (w3, b3)]).map .str)))) kd tn) := by
  obtain ⟨v1, oa1, e1, hoa1⟩ := draw3 ho
  obtain ⟨v2, oa2, e2, hoa2⟩ := draw3 hoa1
  obtain ⟨v3, oa3, e3, hoa3⟩ := draw3 hoa2
  obtain ⟨q1, ob1, g1, hob1, h1, h1'⟩ := got hoa3 w1 (decide (v1 = 0))
  obtain ⟨q2, ob2, g2, hob2, h2, h2'⟩ := got hob1 w2 (decide (v2 = 0))
  obtain ⟨q3, ob3, g3, hob3, h3, h3'⟩ := got hob2 w3 (decide (v3 = 0))
  refine ⟨_, q1, _, q2, _, q3, ob3, some (.val (.lst [.bl (decide (v1 = 0)), .bl (decide (v2 = 0)), .bl (decide (v3 = 0))])), some (.val (.int 2)), hob3, g1, g2, g3, ?_⟩
  have gd1 := good_ok w1
  have gd2 := good_ok w2
  have gd3 := good_ok w3
  generalize hF8 : f_law_S8 = F8
  by_cases z1 : v1 = 0
  · simp only [z1, decide_true] at h1 h1'
    have k1 := h1 trivial
    by_cases z2 : v2 = 0
    · simp only [z2, decide_true] at h2 h2'
      have k2 := h2 trivial
      by_cases z3 : v3 = 0
      · simp only [z3, decide_true] at h3 h3'
        have k3 := h3 trivial
        simp [lF, f_law_S4, f_law_S5, f_law_S6, f_law_S7, f_law_C2, f_law_L1, f_law_C1, f_law_D1, lcBody, lcLoop, forLoop, pq0, rg3, at0, at1, at2, duL, hF8, e1, z1, e2, z2, e3, z3, k1, k2, k3]
      · simp only [z3, decide_false] at h3 h3'
        obtain ⟨rfl, rfl⟩ := h3' trivial
        simp [lF, f_law_S4, f_law_S5, f_law_S6, f_law_S7, f_law_C2, f_law_L1, f_law_C1, f_law_D1, lcBody, lcLoop, forLoop, pq0, rg3, at0, at1, at2, duL, hF8, e1, z1, e2, z2, e3, z3, k1, k2, gd3]
    · simp only [z2, decide_false] at h2 h2'
      obtain ⟨rfl, rfl⟩ := h2' trivial
      by_cases z3 : v3 = 0
      · simp only [z3, decide_true] at h3 h3'
        have k3 := h3 trivial
        simp [lF, f_law_S4, f_law_S5, f_law_S6, f_law_S7, f_law_C2, f_law_L1, f_law_C1, f_law_D1, lcBody, lcLoop, forLoop, pq0, rg3, at0, at1, at2, duL, hF8, e1, z1, e2, z2, e3, z3, k1, gd2, k3]
      · simp only [z3, decide_false] at h3 h3'
        obtain ⟨rfl, rfl⟩ := h3' trivial
        simp [lF, f_law_S4, f_law_S5, f_law_S6, f_law_S7, f_law_C2, f_law_L1, f_law_C1, f_law_D1, lcBody, lcLoop, forLoop, pq0, rg3, at0, at1, at2, duL, hF8, e1, z1, e2, z2, e3, z3, k1, gd2, gd3]
  · simp only [z1, decide_false] at h1 h1'
    obtain ⟨rfl, rfl⟩ := h1' trivial
    by_cases z2 : v2 = 0
    · simp only [z2, decide_true] at h2 h2'
      have k2 := h2 trivial
      by_cases z3 : v3 = 0
      · simp only [z3, decide_true] at h3 h3'
        have k3 := h3 trivial
        simp [lF, f_law_S4, f_law_S5, f_law_S6, f_law_S7, f_law_C2, f_law_L1, f_law_C1, f_law_D1, lcBody, lcLoop, forLoop, pq0, rg3, at0, at1, at2, duL, hF8, e1, z1, e2, z2, e3, z3, gd1, k2, k3]
      · simp only [z3, decide_false] at h3 h3'
        obtain ⟨rfl, rfl⟩ := h3' trivial
        simp [lF, f_law_S4, f_law_S5, f_law_S6, f_law_S7, f_law_C2, f_law_L1, f_law_C1, f_law_D1, lcBody, lcLoop, forLoop, pq0, rg3, at0, at1, at2, duL, hF8, e1, z1, e2, z2, e3, z3, gd1, k2, gd3]
    · simp only [z2, decide_false] at h2 h2'
      obtain ⟨rfl, rfl⟩ := h2' trivial
      by_cases z3 : v3 = 0
      · simp only [z3, decide_true] at h3 h3'
        have k3 := h3 trivial
        simp [lF, f_law_S4, f_law_S5, f_law_S6, f_law_S7, f_law_C2, f_law_L1, f_law_C1, f_law_D1, lcBody, lcLoop, forLoop, pq0, rg3, at0, at1, at2, duL, hF8, e1, z1, e2, z2, e3, z3, gd1, gd2, k3]
      · simp only [z3, decide_false] at h3 h3'
        obtain ⟨rfl, rfl⟩ := h3' trivial
        simp [lF, f_law_S4, f_law_S5, f_law_S6, f_law_S7, f_law_C2, f_law_L1, f_law_C1, f_law_D1, lcBody, lcLoop, forLoop, pq0, rg3, at0, at1, at2, duL, hF8, e1, z1, e2, z2, e3, z3, gd1, gd2, gd3]
end

def sOf : List (Fin 5 × Bool) → Str
  | [] => "good"
  | (w, b) :: r => if b then nmW w else sOf r
theorem cutW : ∀ l : List (Fin 5 × Bool), Ev.cutD ((duL l).map D.str ++ [.str "good"]) none (some 1) = [.str (sOf l)]
  | [] => by
    rw [show ((duL []).map D.str ++ [D.str "good"]) = [D.str "good"] from rfl]
    unfold Ev.cutD HT.sIx
    simp [sOf]
  | (w, b) :: r => by
    cases b
    · have := cutW r
      simpa [duL, sOf] using this
    · have e : (duL ((w, true) :: r)).map D.str ++ [D.str "good"] = .str (nmW w) :: ((duL r).map D.str ++ [.str "good"]) := by simp [duL]
      rw [e]
      unfold Ev.cutD HT.sIx
      simp [sOf]
theorem s_eq : ∀ l : List (Fin 5 × Bool), pyEq (.lst [.str (sOf l)]) (.lst [.str (sOf l)]) = some true
  | [] => by decide +kernel
  | (w, b) :: r => by
    cases b
    · exact s_eq r
    · show pyEq (.lst [.str (nmW w)]) (.lst [.str (nmW w)]) = some true
      have : ∀ w : Fin 5, pyEq (.lst [.str (nmW w)]) (.lst [.str (nmW w)]) = some true := by decide +kernel
      exact this w
section
variable {o o2 : Ob} {kd tn : Int} {W : List (Fin 5)} {c3 c5 : Option Cell} {t : List D} {l : List (Fin 5 × Bool)}
theorem law_S9 (hl : l.length ≤ 10) (ht : CL 20 "_law_told" [.val (.int kd), .val (.lst t), .val (.int tn)] = .ok (.own (.lst [.str (sOf l)])) []) : Ret (exSs (CL 20) L.gl f_law_S9 (lF o o2 W c3 c5 (some (.own (.lst t))) (some (.val (.lst ((duL l).map .str)))) kd tn)) := by
  have c := cutW l
  have q := s_eq l
  have hd : ((duL l).map D.str).length ≤ 10 := by
    rw [List.length_map]
    unfold duL
    rw [List.length_map]
    exact Nat.le_trans (List.length_filter_le _ _) hl
  generalize (duL l).map D.str = DL at *
  generalize sOf l = s at *
  have hz : DL.length + 1 ≤ 16777216 := by omega
  simp [f_law_S9, lF, ht, c, q, hz]
theorem eq_int4 {k : Int} (h : k ≠ 4) : eqD (.int k) (.int 4) = false := by simp [h]
theorem law_S8 (hk : kd ≠ 4) (hl : l.length ≤ 10) (ht : CL 20 "_law_told" [.val (.int kd), .val (.lst t), .val (.int tn)] = .ok (.own (.lst [.str (sOf l)])) []) : Ret (exSs (CL 20) L.gl f_law_S8 (lF o o2 W c3 c5 (some (.own (.lst t))) (some (.val (.lst ((duL l).map .str)))) kd tn)) := by
  have k := law_S9 (o := o) (o2 := o2) (W := W) (c3 := c3) (c5 := c5) hl ht
  have h4 := eq_int4 hk
  unfold lF at k ⊢
  generalize hf : f_law_S9 = F at *
  simp [f_law_S8, hk, hf]
  exact k
theorem law_S84 {b : Bool} {q1 : D} {v : Nat} (ho : RngOk o2) (hv : v < 4) (hp : (b, q1) ∈ picksL 0) : Ret (exSs (CL 20) L.gl f_law_S8 (lF o o2 W c3 c5 (some (.own (.lst [q1]))) (some (.val (.lst ((duL [(0, b)]).map .str)))) 4 v)) := by
  have t4 := tab4
  rw [List.all_eq_true] at t4
  have t4 := t4 _ hp
  rw [List.all_eq_true] at t4
  have hv4 : (v : Int) ∈ ([0, 1, 2, 3] : List Int) := by
    have : v = 0 ∨ v = 1 ∨ v = 2 ∨ v = 3 := by omega
    rcases this with rfl | rfl | rfl | rfl <;> simp
  have ht := chkT_ok (t4 _ hv4)
  have es : (if b = true then ("month" : Str) else "good") = sOf [((0 : Fin 5), b)] := by cases b <;> rfl
  simp only at ht
  rw [es] at ht
  have k := fun o2 => law_S9 (o := o) (o2 := o2) (W := W) (c3 := c3) (c5 := c5) (l := [(0, b)]) (by simp) ht
  have hm2 : ((v : Int) % 2 = 0 ∧ (v = 0 ∨ v = 2)) ∨ ((v : Int) % 2 = 1 ∧ (v = 1 ∨ v = 3)) := by omega
  cases b with
  | true =>
    have k := k o2
    unfold lF at k ⊢
    generalize hf : f_law_S9 = F at *
    have qn : pyEq (.lst [.str (nmW 0)]) (.lst []) = some false := by decide +kernel
    rcases hm2 with ⟨e, _⟩ | ⟨e, _⟩ <;> (simp [f_law_S8, e, duL, hf, qn]; simpa [duL] using k)
  | false =>
    rcases hm2 with ⟨e, _⟩ | ⟨e, hv1⟩
    · have k := k o2
      unfold lF at k ⊢
      generalize hf : f_law_S9 = F at *
      simp [f_law_S8, e, duL, hf]
      simpa [duL] using k
    · obtain ⟨u, o3, e2, hu, ho3⟩ := sp_next (n := 19) (b := 2) ho (by decide) (by decide)
      have k := k o3
      by_cases hu0 : u = 0
      · subst hu0
        have m2 : CL 20 "Month.__init__" [.par (.ins "Month" []), .val (.int 1), .val (.tup [.tup [.int 1, .tup [.int 0]]]), .val (.tup [.tup [.int 0, .int 0]])] = .ok (.val .non) [.ins "Month" [("held", .v (heldD 1 [(1, [0])] [(0, 0)]))]] := by kernel_rfl
        have t5 := tab5
        rw [List.all_eq_true] at t5
        have hv5 : (v : Int) ∈ ([1, 3] : List Int) := by rcases hv1 with rfl | rfl <;> simp
        have ht5 := chkT_ok (t5 _ hv5)
        have q5 : pyEq (.lst [.str "none"]) (.lst [.str "none"]) = some true := by decide +kernel
        have c5' : Ev.cutD [D.str "none", .str "good"] none (some 1) = [.str "none"] := by
          unfold Ev.cutD HT.sIx
          simp
        simp only [monD] at ht5
        unfold lF
        simp [f_law_S8, f_law_S9, e, duL, e2, m2, ht5, q5, c5']
      · unfold lF at k ⊢
        have hu1 : eqD (.int (u : Int)) (.int 0) = false := by rw [pq0, decide_eq_false hu0]
        generalize hf : f_law_S9 = F at *
        simp [f_law_S8, e, duL, e2, hu0, hf]
        simpa [duL] using k
end
theorem law_true (ns : List Int) (h : ns.length ≤ 63) : ∃ os, callN L.Γ prL L.gl (N0 + 1) "law" [.par (.scr ns)] = .ok (.val (.bl true)) os := by
  have e0 : CL (0 + 20) "_law_mix" [.par (.scr ns), .val (.int 24)] = .ok (.own (.rng (mixV 24 ns) ns 0)) [.scr ns] := by
    rw [show 0 + 20 = 19 + 1 from rfl, call_mix, pMix_eq]
  have hs : Ret (exSs (CL (0 + 20)) L.gl f_law_S0 [some (.par (.scr ns)), none, none, none, none, none, none, none, none, none]) := by
    obtain ⟨k, o1, e1, hk, ho1⟩ := sp_next (n := 19) (b := 5) (o := .rng (mixV 24 ns) ns 0) ⟨_, _, _, rfl, by omega⟩ (by decide) (by decide)
    obtain ⟨v, o2, e2, hv, ho2⟩ := sp_next (n := 19) (b := 4) ho1 (by decide) (by decide)
    change CL 20 "_law_mix" _ = _ at e0
    show Ret (exSs (CL 20) L.gl f_law_S0 _)
    have hk5 : k = 0 ∨ k = 1 ∨ k = 2 ∨ k = 3 ∨ k = 4 := by omega
    rcases hk5 with rfl | rfl | rfl | rfl | rfl
    · obtain ⟨b1, q1, b2, q2, o3, c3, c5, ho3, g1, g2, st⟩ := law_W2 (o := .scr ns) (kd := 0) (tn := v) (w1 := 0) (w2 := 1) ho2
      have tt := tab0 (v : Int)
      rw [List.all_eq_true] at tt
      have tt := tt _ g1
      rw [List.all_eq_true] at tt
      have ht := chkT_ok (tt _ g2)
      have es : (if b1 = true then ("month" : Str) else if b2 = true then "costs" else "good") = sOf [((0 : Fin 5), b1), (1, b2)] := by cases b1 <;> cases b2 <;> rfl
      simp only at ht
      rw [es] at ht
      have k := law_S8 (o := .scr ns) (o2 := o3) (W := [0, 1]) (c3 := c3) (c5 := c5) (by decide) (by simp) ht
      rw [← st] at k
      unfold lF at k
      have a : atD [.lst [.str "month", .str "costs"], .lst [.str "month", .str "choice"], .lst [.str "month", .str "choice", .str "number"], .lst [.str "month", .str "drives"], .lst [.str "month"]] 0 = some (.lst [.str "month", .str "costs"]) := rfl
      generalize hf : f_law_S4 = F at *
      simp [f_law_S0, f_law_S1, f_law_S2, f_law_S3, e0, e1, e2, a, hf]
      simpa [nmW] using k
    · obtain ⟨b1, q1, b2, q2, o3, c3, c5, ho3, g1, g2, st⟩ := law_W2 (o := .scr ns) (kd := 1) (tn := v) (w1 := 0) (w2 := 2) ho2
      have tt := tab1 (v : Int)
      rw [List.all_eq_true] at tt
      have tt := tt _ g1
      rw [List.all_eq_true] at tt
      have ht := chkT_ok (tt _ g2)
      have es : (if b1 = true then ("month" : Str) else if b2 = true then "choice" else "good") = sOf [((0 : Fin 5), b1), (2, b2)] := by cases b1 <;> cases b2 <;> rfl
      simp only at ht
      rw [es] at ht
      have k := law_S8 (o := .scr ns) (o2 := o3) (W := [0, 2]) (c3 := c3) (c5 := c5) (by decide) (by simp) ht
      rw [← st] at k
      unfold lF at k
      have a : atD [.lst [.str "month", .str "costs"], .lst [.str "month", .str "choice"], .lst [.str "month", .str "choice", .str "number"], .lst [.str "month", .str "drives"], .lst [.str "month"]] 1 = some (.lst [.str "month", .str "choice"]) := rfl
      generalize hf : f_law_S4 = F at *
      simp [f_law_S0, f_law_S1, f_law_S2, f_law_S3, e0, e1, e2, a, hf]
      simpa [nmW] using k
    · obtain ⟨b1, q1, b2, q2, b3, q3, o3, c3, c5, ho3, g1, g2, g3, st⟩ := law_W3 (o := .scr ns) (kd := 2) (tn := v) (w1 := 0) (w2 := 2) (w3 := 3) ho2
      have tt := tab2 (v : Int)
      rw [List.all_eq_true] at tt
      have tt := tt _ g1
      rw [List.all_eq_true] at tt
      have tt := tt _ g2
      rw [List.all_eq_true] at tt
      have ht := chkT_ok (tt _ g3)
      have es : (if b1 = true then ("month" : Str) else if b2 = true then "choice" else if b3 = true then "number" else "good") = sOf [((0 : Fin 5), b1), (2, b2), (3, b3)] := by cases b1 <;> cases b2 <;> cases b3 <;> rfl
      simp only at ht
      rw [es] at ht
      have k := law_S8 (o := .scr ns) (o2 := o3) (W := [0, 2, 3]) (c3 := c3) (c5 := c5) (by decide) (by simp) ht
      rw [← st] at k
      unfold lF at k
      have a : atD [.lst [.str "month", .str "costs"], .lst [.str "month", .str "choice"], .lst [.str "month", .str "choice", .str "number"], .lst [.str "month", .str "drives"], .lst [.str "month"]] 2 = some (.lst [.str "month", .str "choice", .str "number"]) := rfl
      generalize hf : f_law_S4 = F at *
      simp [f_law_S0, f_law_S1, f_law_S2, f_law_S3, e0, e1, e2, a, hf]
      simpa [nmW] using k
    · obtain ⟨b1, q1, b2, q2, o3, c3, c5, ho3, g1, g2, st⟩ := law_W2 (o := .scr ns) (kd := 3) (tn := v) (w1 := 0) (w2 := 4) ho2
      have tt := tab3 (v : Int)
      rw [List.all_eq_true] at tt
      have tt := tt _ g1
      rw [List.all_eq_true] at tt
      have ht := chkT_ok (tt _ g2)
      have es : (if b1 = true then ("month" : Str) else if b2 = true then "drives" else "good") = sOf [((0 : Fin 5), b1), (4, b2)] := by cases b1 <;> cases b2 <;> rfl
      simp only at ht
      rw [es] at ht
      have k := law_S8 (o := .scr ns) (o2 := o3) (W := [0, 4]) (c3 := c3) (c5 := c5) (by decide) (by simp) ht
      rw [← st] at k
      unfold lF at k
      have a : atD [.lst [.str "month", .str "costs"], .lst [.str "month", .str "choice"], .lst [.str "month", .str "choice", .str "number"], .lst [.str "month", .str "drives"], .lst [.str "month"]] 3 = some (.lst [.str "month", .str "drives"]) := rfl
      generalize hf : f_law_S4 = F at *
      simp [f_law_S0, f_law_S1, f_law_S2, f_law_S3, e0, e1, e2, a, hf]
      simpa [nmW] using k
    · obtain ⟨b1, q1, o3, c3, c5, ho3, g1, st⟩ := law_W1 (o := .scr ns) (kd := 4) (tn := v) (w1 := 0) ho2
      have k := law_S84 (o := .scr ns) (o2 := o3) (W := [0]) (c3 := c3) (c5 := c5) (v := v) ho3 (by omega) g1
      rw [← st] at k
      unfold lF at k
      have a : atD [.lst [.str "month", .str "costs"], .lst [.str "month", .str "choice"], .lst [.str "month", .str "choice", .str "number"], .lst [.str "month", .str "drives"], .lst [.str "month"]] 4 = some (.lst [.str "month"]) := rfl
      generalize hf : f_law_S4 = F at *
      simp [f_law_S0, f_law_S1, f_law_S2, f_law_S3, e0, e1, e2, a, hf]
      simpa [nmW] using k
  obtain ⟨o, T, hs⟩ := hs
  refine ⟨[o], ?_⟩
  show CL ((0 + 20) + 1) "law" [.par (.scr ns)] = _
  rw [call_law]
  simp only [f_law, runFn_eq, List.length_cons, List.length_nil, if_true, startF_eq, List.map_cons, List.map_nil]
  change endR [.par (.scr ns)] (exSs (CL (0 + 20)) L.gl f_law_S0 [some (.par (.scr ns)), none, none, none, none, none, none, none, none, none]) = _
  rw [hs]
  simp


theorem okMix (W : Wd) (mg : Str → Option Value) (base : Heap) (n : Nat) (f : Addr) (fd : FuncData) (F : FunD W.K L.mix.name L.mix.qual L.mix.params L.mix.body L.mix.scope [] [] f fd) (hm : ∀ y ∈ freeNames, mg y = none) (hb : Binds W.K fd ["_law_script", "_law_seed"] []) : FnAtG W mg base (fun _ => pMix) (3 * (n + 1)) f "_law_mix" :=
  mix_ok F ⟨rfl, rfl, rfl, by decide +kernel, rfl, by decide +kernel, by decide +kernel⟩ (by decide +kernel) hm hb n
theorem okNxt (W : Wd) (mg : Str → Option Value) (base : Heap) (n : Nat) (f : Addr) (fd : FuncData) (F : FunD W.K L.nxt.name L.nxt.qual L.nxt.params L.nxt.body L.nxt.scope [] [] f fd) (hm : ∀ y ∈ freeNames, mg y = none) (hb : Binds W.K fd ["_law_h", "_law_bound"] []) : FnAtG W mg base (fun _ => pNext) (3 * (n + 1)) f "_law_next" :=
  next_ok F ⟨rfl, rfl, rfl, by decide +kernel, rfl, by decide +kernel, by decide +kernel⟩ (by decide +kernel) hm hb n
end Law
open PySem PySem.W PySem.Calls PyProof.Rows
theorem PySem.Challenge.cw_carpooldebts_k24_further_questions_refus_holds : PySem.Challenge.rw_carpooldebts_k24_further_questions_refus.Holds := by
  w_on; o_law
  refine HandSHeadRun.head_any (r := Law.Hd.R) (q := view Law.Hd.R.prog [59]) (H := Law.L.hook 5) (ob := Law.L.ob 5) (M := 6000) (loose := Law.Hd.nms) (d := HandSHeadRun.topDef Law.Hd.R.prog 59) (kwd := []) (Law.L.ob_eq 5)
    (by kernel_rfl) (fun s => by kernel_rfl) Law.Hd.run (by kernel_rfl) (by kernel_rfl) (by kernel_rfl) (by rfl) (by first | assumption | decide +kernel) (by decide +kernel) ⟨rfl, rfl, rfl, rfl, rfl, by decide +kernel⟩ ?hw ?hc
  case hw => w_witness2
  case hc =>
    refine L2.walk_ofE (l := PySem.Challenge.rw_carpooldebts_k24_further_questions_refus) (n := 63) (k := 3 * (Law.N0 + 1)) (x := "_law_script") (CX := Ev.CXw (PySem.Challenge.rw_carpooldebts_k24_further_questions_refus).prog) rfl (by decide) (by kernel_rfl) ⟨rfl, by decide, by decide⟩ ?F Ev.cxw_no
    intro w mg fa h Y G hmg0
    have hmg : mg ("law" : PySem.Str) = some (.ref fa) := by
      have e : (HandSHeadRun.topDef Law.Hd.R.prog 59).name = ("law" : PySem.Str) := by kernel_rfl
      rw [← e]
      exact hmg0
    exact Ev.law_facts (l := PySem.Challenge.rw_carpooldebts_k24_further_questions_refus) (N0 := Law.N0) Law.stat Law.okMix Law.okNxt Law.law_true w mg fa h Y G hmg

