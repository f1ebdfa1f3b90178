import PyProof.Rows.All
import Wide.All
import OpenK.AllK
import Wide.FinOn
import KE.KStateDown
import Lean
import HandS.Base
import HandS.Call
import HandS.Ends
import HandS.More
import HandS.Words
import HandS.WordsExc
import HandS.Defaults
import HandS.Head0
import HandS.Head1
import HandS.Head2
import HandS.HeadEnd
import HandS.HeadHook1
import HandS.HeadHook2
import HandS.HeadHook4
import PySem.Syntax
import PySem.PyData
import PySem.Spec
import PyProof.EqLayable
import HandS.Dict
import HandS.List
import HandS.Comp
import HandS.Iter
import HandS.Walk
import HandS.Wide
import HandS.Deep
import HandS.TupAny
import HandS.Style
import HandS.Text
import HandS.Strs
import HandS.IsInst
import HandS.Conv
import PyProof.P3In
import HandS.SetFor
import HandS.Zip
import KE.GoesNew
import KE.GoesEnum
import KE.GoesMore
import HandS.DictComp
import HandS.NoneIn
import HandS.Property
import HandS.WordsDict
import HandS.RaiseMore
import PySem.Challenge.RW_pairkinds_k73_whole_withouts_shown_by_ow
set_option Elab.async false
section
set_option linter.all false
/-! QL: a small language of data, its programs, and what they are worth. -/
namespace QL
open PySem (Str PyData)

/-- data: what a value is worth, the heap left out; `ref n` is the n-th cell of the memory (a thing that may change) -/
inductive D where
  | non | bl (b : Bool) | int (i : Int) | str (x : Str)
  | tup (l : List D) | lst (l : List D)
  | dct (ks : List Int) (vs : List D)
  | ins (c : Nat) (ks : List Nat) (vs : List D)
  | ref (n : Nat)
  /-- the script itself: it is read alone -/
  | scr (ns : List Int)
  deriving Inhabited

/-- a cell -/
inductive Cell where
  | lst (l : List D)
  | ins (c : Nat) (ks : List Nat) (vs : List D)
  | dct (ks : List D) (vs : List D)
  | dead
abbrev Mem := List Cell
abbrev Env := List (Option D)

inductive Res (α : Type) where
  | ok (a : α) (m : Mem)
  | ex (c : Nat) (arg : List D) (m : Mem)
  | bad
abbrev M (α : Type) := Mem → Res α
def Res.bind {α β : Type} (r : Res α) (f : α → M β) : Res β :=
  match r with
  | .ok a m => f a m
  | .ex c x m => .ex c x m
  | .bad => .bad
def M.pure {α : Type} (a : α) : M α := fun m => .ok a m
def M.bind {α β : Type} (x : M α) (f : α → M β) : M β := fun m => (x m).bind f
def M.bad {α : Type} : M α := fun _ => .bad
instance : Monad M where
  pure := M.pure
  bind := M.bind
def ofO {α : Type} (o : Option α) : M α := fun m => match o with
  | some a => .ok a m
  | none => .bad

/-- lists and texts are no longer than this -/
def LIM : Nat := 16777216
/-- factors and divisors are below this -/
def BIG : Nat := 10 ^ 60

/-! ### equality, as Python has it -/
mutual
def toP : D → Option PyData
  | .non => some .none
  | .bl b => some (.bool b)
  | .int i => some (.int i)
  | .str x => some (.str x)
  | .tup l => (toPs l).map .tuple
  | .lst l => (toPs l).map .list
  | .dct _ _ => none
  | .ins _ _ _ => none
  | .ref _ => none
  | .scr _ => none
def toPs : List D → Option (List PyData)
  | [] => some []
  | d :: r => match toP d, toPs r with
    | some p, some q => some (p :: q)
    | _, _ => none
end
def shp (d : D) : Option PyData := match toP d with
  | some p => if PySem.SeqAt.shaped p = true then some p else none
  | none => none
def eqD (a b : D) : Option Bool := match shp a, shp b with
  | some p, some q => some (PyData.eqv p q)
  | _, _ => none
/-- is a among the items -/
def inD (a : D) (l : List D) : Option Bool := match shp a, shp (.lst l) with
  | some p, some (.list qs) => some (qs.any fun z => PyData.eqv z p)
  | _, _ => none
def indexP (p : PyData) : List PyData → Option Nat
  | [] => none
  | z :: r => if PyData.eqv z p = true then some 0 else (indexP p r).map (· + 1)
def indexD (a : D) (l : List D) : Option Nat := match shp a, shp (.lst l) with
  | some p, some (.list qs) => indexP p qs
  | _, _ => none

/-! ### the language -/
/-- operations on one value: `o(a)`, `-a`, `a is None` .. -/
inductive O1 where
  | neg | isN | notN | lrange | lenD | keys | len | sum | max | min | all | any | tuple | list | int | abs | sorted | sset | str | repr | freeze | upper | pop | range | enum | chars
  | sl1 | slRev
  deriving DecidableEq
/-- operations on two values -/
inductive O2 where
  | add | sub | mul | fdiv | mod | pow | divmod
  | eq | ne | lt | le | gt | ge | isIn | notIn | isB | notB
  | max2 | min2 | ix | ixD | slF | slT | join | split | index | count | append | range2 | zip
  deriving DecidableEq
inductive Ty where
  | int | bool | str | tuple | cls (k : Nat)
  deriving DecidableEq

mutual
inductive E where
  | var (i : Nat) | glo (x : Str) (d : D)
  | non | bl (b : Bool) | int (i : Int) | str (x : Str)
  | o1 (o : O1) (a : E)
  | o2 (o : O2) (a b : E)
  | sl (a i j : E)
  | isi (t : Ty) (a : E)
  | chain (o p : O2) (a b c : E)
  | and (es : Es) | or (es : Es) | not (a : E)
  | ite (c a b : E)
  | tup (es : Es) | lst (es : Es)
  | call (f : Nat) (es : Es)
  | make (c f : Nat) (es : Es)
  | makeR (c f : Nat) (es : Es)
  | meth (f : Nat) (o : E) (es : Es)
  | prop (f : Nat) (o : E)
  | attr (c k : Nat) (o : E)
  | comp (vs : List Nat) (tg : List Nat) (it : E) (c : E) (elt : E)
  | comp2 (vs : List Nat) (tg : List Nat) (it : E) (vs2 : List Nat) (tg2 : List Nat) (it2 : E) (c : E) (elt : E)
  | dcomp (vs : List Nat) (tg : List Nat) (it : E) (c : E) (k v : E)
  | fresh (e : E)
  | never
inductive Es where
  | nil | cons (e : E) (r : Es)
end
mutual
inductive S where
  | set (i : Nat) (e : E)
  | unp (is : List Nat) (e : E)
  | par (is : List Nat) (es : Es)
  | sti (o i v : E)
  | sta (c k : Nat) (o v : E)
  | expr (e : E)
  | dm (o ix : E) (i : Nat) (a b : E)
  | ite (c : E) (a b : Ss)
  | for_ (tg : List Nat) (it : E) (b : Ss)
  | forK (tg : List Nat) (i : Nat) (b : Ss)
  | ret (e : E) | retN | pass
  | raise (c : Nat) (es : Es)
  | never
inductive Ss where
  | nil | cons (s : S) (r : Ss)
end
instance : Inhabited E := ⟨.never⟩
instance : Inhabited Es := ⟨.nil⟩
instance : Inhabited S := ⟨.never⟩
instance : Inhabited Ss := ⟨.nil⟩

/-! ### what the operations are worth -/
def intsO : List D → Option (List Int)
  | [] => some []
  | .int i :: r => (intsO r).map (i :: ·)
  | _ :: _ => none
def boolsO : List D → Option (List Bool)
  | [] => some []
  | .bl b :: r => (boolsO r).map (b :: ·)
  | _ :: _ => none
def strsO : List D → Option (List Str)
  | [] => some []
  | .str x :: r => (strsO r).map (x :: ·)
  | _ :: _ => none
/-- the items of a list or a tuple -/
def seqOf (m : Mem) : D → Option (List D)
  | .tup l => some l
  | .lst l => some l
  | .ref n => match m[n]? with
    | some (.lst l) => some l
    | _ => none
  | _ => none
def lstO (l : List D) : Option D := if l.length ≤ LIM then some (.lst l) else none
def tupO (l : List D) : Option D := if l.length ≤ LIM then some (.tup l) else none
def maxL : List Int → Int
  | [] => 0
  | a :: r => r.foldl (fun x y => if x < y then y else x) a
def minL : List Int → Int
  | [] => 0
  | a :: r => r.foldl (fun x y => if y < x then y else x) a
def rangeL (a b : Int) : List D := (List.range (b - a).toNat).map fun k => D.int (a + (k : Nat))
def rangeM (a b : Int) : M (List D) := if -1000000000 ≤ a ∧ a ≤ 1000000000 ∧ -1000000000 ≤ b ∧ b ≤ 1000000000 then M.pure (rangeL a b) else M.bad
def enumL : Nat → List D → List D
  | _, [] => []
  | n, d :: r => .tup [.int (n : Nat), d] :: enumL (n + 1) r
def zipL : List D → List D → List D
  | a :: r, b :: s => .tup [a, b] :: zipL r s
  | _, _ => []
def insertI (i : Int) : List Int → List Int
  | [] => [i]
  | a :: r => if i ≤ a then i :: a :: r else a :: insertI i r
def sortI : List Int → List Int
  | [] => []
  | a :: r => insertI a (sortI r)
def dedup : List Int → List Int
  | [] => []
  | a :: r => if a ∈ r then dedup r else a :: dedup r
def lookD (k : Int) : List Int → List D → Option D
  | i :: ks, v :: vs => if i = k then some v else lookD k ks vs
  | _, _ => none
def ixN (n : Nat) (i : Int) : Option Nat := if 0 ≤ i then (if i < n then some i.toNat else none) else if -(n : Int) ≤ i then some (i + n).toNat else none
def atI (l : List D) (i : Int) : Option D := (ixN l.length i).bind fun j => l[j]?
/-- the place of an end of a slice -/
def sIx (n : Nat) (i : Int) : Nat := if i < 0 then (i + (n : Int)).toNat else min i.toNat n
def codes (x : Str) : List Nat := x.cps.toList
def mkS (l : List Nat) : Str := ⟨l.toArray⟩

def isNon : D → Bool
  | .non => true
  | _ => false
def do1 (o : O1) (a : D) (m : Mem) : Option D :=
  match o, a with
  | .neg, .int i => some (.int (-i))
  | .isN, d => some (.bl (isNon d))
  | .notN, d => some (.bl (!isNon d))
  | .len, .str x => if x.length ≤ LIM then some (.int x.length) else none
  | .lenD, .dct ks _ => some (.int ks.length)
  | .len, .scr ns => some (.int ns.length)
  | .len, d => (seqOf m d).map fun l => .int l.length
  | .sum, .lst l => (intsO l).map fun ns => .int ns.sum
  | .max, .lst (d :: l) => (intsO (d :: l)).map fun ns => .int (maxL ns)
  | .min, .lst (d :: l) => (intsO (d :: l)).map fun ns => .int (minL ns)
  | .min, .tup (d :: l) => (intsO (d :: l)).map fun ns => .int (minL ns)
  | .all, .lst l => (boolsO l).map fun bs => .bl (bs.all id)
  | .any, .lst l => (boolsO l).map fun bs => .bl (bs.any id)
  | .tuple, .tup l => some (.tup l)
  | .tuple, d => (seqOf m d).map .tup
  | .list, d => (seqOf m d).map .lst
  | .lrange, .int j => if -1000000 ≤ j ∧ j ≤ 1000000 then some (.lst (rangeL 0 j)) else none
  | .int, .int i => some (.int i)
  | .int, .bl b => some (.int (if b then 1 else 0))
  | .str, .int i => if i.natAbs.log2 < 1920 then some (.str (toString i)) else none
  | .repr, .bl b => some (.str (if b then "True" else "False"))
  | .abs, .int i => some (.int (if i < 0 then -i else i))
  | .sorted, .lst l => match intsO l with
    | some ns => if ns.length < 64 then some (.lst ((sortI ns).map .int)) else none
    | none => none
  | .sset, .lst l => match intsO l with
    | some ns => if ns.length < 64 then some (.lst ((sortI (dedup ns)).map .int)) else none
    | none => none
  | _, _ => none

def isNum : D → Bool
  | .int _ => true
  | _ => false
def do2 (o : O2) (a b : D) (m : Mem) : Option D :=
  match o, a, b with
  | .add, .int i, .int j => some (.int (i + j))
  | .add, .str x, .str y => if x.length + y.length ≤ LIM then some (.str (x ++ y)) else none
  | .add, .tup l, .tup k => tupO (l ++ k)
  | .add, .lst l, .lst k => lstO (l ++ k)
  | .sub, .int i, .int j => some (.int (i - j))
  | .mul, .int i, .int j => if i.natAbs < BIG ∧ j.natAbs < BIG then some (.int (i * j)) else none
  | .fdiv, .int i, .int j => if 0 < j ∧ j.natAbs < BIG then some (.int (i / j)) else none
  | .mod, .int i, .int j => if 0 < j then some (.int (i % j)) else none
  | .pow, .int i, .int j => if 0 ≤ j ∧ j ≤ 1000000 ∧ i.natAbs < 2 ^ 64 then some (.int (i ^ j.toNat)) else none
  | .divmod, .int i, .int j => if 0 < j ∧ j < 1073741824 then some (.tup [.int (i / j), .int (i % j)]) else none
  | .eq, a, b => (eqD a b).map .bl
  | .ne, a, b => (eqD a b).map fun c => .bl (!c)
  | .lt, .int i, .int j => some (.bl (decide (i < j)))
  | .le, .int i, .int j => some (.bl (decide (i ≤ j)))
  | .gt, .int i, .int j => some (.bl (decide (j < i)))
  | .ge, .int i, .int j => some (.bl (decide (j ≤ i)))
  | .isIn, .str x, .str y => match x.cps.toList with
    | [c] => some (.bl (decide (c ∈ y.cps.toList)))
    | _ => none
  | .isIn, a, b => match seqOf m b with
    | some l => (inD a l).map .bl
    | none => none
  | .notIn, a, b => match seqOf m b with
    | some l => (inD a l).map fun c => .bl (!c)
    | none => none
  | .isB, .bl x, .bl y => some (.bl (decide (x = y)))
  | .notB, .bl x, .bl y => some (.bl (!decide (x = y)))
  | .max2, .int i, .int j => some (.int (if j > i then j else i))
  | .min2, .int i, .int j => some (.int (if j < i then j else i))
  | .ix, .str x, .int i => if x.length ≤ LIM then (match ixN x.cps.toList.length i with
    | some j => (x.cps.toList[j]?).map fun c => .str ⟨#[c]⟩
    | none => none) else none
  | .ixD, .dct ks vs, .int i => lookD i ks vs
  | .ix, .scr ns, .int i => (ixN ns.length i).bind fun j => (ns[j]?).map .int
  | .ix, d, .int i => match seqOf m d with
    | some l => atI l i
    | none => none
  | .slF, .tup l, .int i => some (.tup (l.drop (sIx l.length i)))
  | .slF, .lst l, .int i => some (.lst (l.drop (sIx l.length i)))
  | .slT, .scr ns, .int i => some (.lst ((ns.take (sIx ns.length i)).map .int))
  | .slT, .tup l, .int i => some (.tup (l.take (sIx l.length i)))
  | .slT, .lst l, .int i => some (.lst (l.take (sIx l.length i)))
  | .index, .tup l, d => (indexD d l).map fun n => .int (n : Nat)
  | .index, .lst l, d => (indexD d l).map fun n => .int (n : Nat)
  | .join, .str a, d => match seqOf m d with
    | some l => match strsO l with
      | some ys => if (ys.map (·.length)).sum + ys.length * a.length ≤ LIM then some (.str (PySem.Txt.join a ys)) else none
      | none => none
    | none => none
  | .split, .str a, .str b => if (b.length == 0) = false ∧ a.length + 2 ≤ LIM then some (.lst ((PySem.Txt.split a b).map .str)) else none
  | .count, .tup l, .int i => (intsO l).map fun ns => .int (ns.count i : Nat)
  | _, _, _ => none

/-! ### the evaluator -/
/-- the targets tg take d -/
def setAll : List Nat → List D → Env → Option Env
  | [], [], ρ => some ρ
  | i :: is, d :: ds, ρ => setAll is ds (ρ.set i (some d))
  | _, _, _ => none
def setU (is : List Nat) (d : D) (ρ : Env) : Option Env := match d with
  | .tup ds => setAll is ds ρ
  | .lst ds => setAll is ds ρ
  | _ => none
def setT (tg : List Nat) (d : D) (ρ : Env) : Option Env :=
  match tg with
  | [i] => some (ρ.set i (some d))
  | tg => setU tg d ρ
def wipeE : Env → List Nat → Env
  | ρ, [] => ρ
  | ρ, v :: vs => (wipeE ρ vs).set v none
def compL (f : D → M (Option D)) : List D → M (List D)
  | [] => M.pure []
  | d :: r => M.bind (f d) fun o => M.bind (compL f r) fun l => M.pure (match o with
    | some y => y :: l
    | none => l)
def compA (f : D → M (Option D)) : List D → List D → M (List D)
  | [], acc => M.pure acc
  | d :: r, acc => M.bind (f d) fun o => match o with
    | some y => if acc.length < LIM then compA f r (acc ++ [y]) else M.bad
    | none => compA f r acc
def compLL (f : D → List D → M (List D)) : List D → List D → M (List D)
  | [], acc => M.pure acc
  | d :: r, acc => M.bind (f d acc) fun acc' => compLL f r acc'
def compD (f : D → M (Option (D × D))) : List D → List Int → List D → M (List Int × List D)
  | [], ks, vs => M.pure (ks, vs)
  | d :: r, ks, vs => M.bind (f d) fun o => match o with
    | some (.int k, v) => if k ∈ ks then M.bad else compD f r (ks ++ [k]) (vs ++ [v])
    | some _ => M.bad
    | none => compD f r ks vs
def lim (l : List D) : M PUnit := if l.length ≤ LIM then M.pure ⟨⟩ else M.bad
/-- the items that are walked -/
def itemsOf (d : D) : M (List D) := match d with
  | .tup l => M.pure l
  | .lst l => M.pure l
  | _ => M.bad
def keysM (d : D) : M (List D) := match d with
  | .dct ks _ => M.pure (ks.map .int)
  | _ => M.bad
def charsM (d : D) : M (List D) := match d with
  | .str x => if x.length ≤ LIM then M.pure (x.cps.toList.map fun c => .str ⟨#[c]⟩) else M.bad
  | _ => M.bad
def getM (ρ : Env) (i : Nat) : M D := match ρ[i]? with
  | some (some d) => M.pure d
  | _ => M.bad
def lookN (k : Nat) : List Nat → List D → Option D
  | i :: ks, v :: vs => if i = k then some v else lookN k ks vs
  | _, _ => none
def putN (k : Nat) (d : D) : List Nat → List D → List Nat × List D
  | i :: ks, v :: vs => if i = k then (i :: ks, d :: vs) else
    let r := putN k d ks vs
    (i :: r.1, v :: r.2)
  | _, _ => ([k], [d])
def attrM (c k : Nat) (d : D) : M D := fun m => match d with
  | .ins c' ks vs => if c' = c then ofO (lookN k ks vs) m else .bad
  | .ref n => match m[n]? with
    | some (.ins c' ks vs) => if c' = c then ofO (lookN k ks vs) m else .bad
    | _ => .bad
  | _ => .bad
def newM (c : Cell) : M D := fun m => .ok (.ref m.length) (m ++ [c])
/-- a cell that nobody changes any more: what it holds -/
def freezeM (d : D) : M D := fun m => match d with
  | .ref n => match m[n]? with
    | some (.lst l) => .ok (.lst l) (m.set n .dead)
    | some (.ins c ks vs) => .ok (.ins c ks vs) (m.set n .dead)
    | _ => .bad
  | _ => .bad
def appendM (d x : D) : M D := fun m => match d with
  | .ref n => match m[n]? with
    | some (.lst l) => if l.length < LIM then .ok .non (m.set n (.lst (l ++ [x]))) else .bad
    | _ => .bad
  | _ => .bad
def stiM (o i v : D) : M PUnit := fun m => match o, i with
  | .ref n, .int j => match m[n]? with
    | some (.lst l) => if 0 ≤ j ∧ j.toNat < l.length then .ok ⟨⟩ (m.set n (.lst (l.set j.toNat v))) else .bad
    | _ => .bad
  | _, _ => .bad
def staM (c0 k : Nat) (o v : D) : M PUnit := fun m => match o with
  | .ref n => match m[n]? with
    | some (.ins c ks vs) => if c = c0 ∧ vs.length < 900 then .ok ⟨⟩ (m.set n (.ins c (putN k v ks vs).1 (putN k v ks vs).2)) else .bad
    | _ => .bad
  | _ => .bad
def slM (d i j : D) : M D := match d, i, j with
  | .tup l, .int i, .int j => M.pure (.tup ((l.drop (sIx l.length i)).take (sIx l.length j - sIx l.length i)))
  | .lst l, .int i, .int j => M.pure (.lst ((l.drop (sIx l.length i)).take (sIx l.length j - sIx l.length i)))
  | _, _, _ => M.bad
def isiO (t : Ty) (d : D) : Option Bool := match t, d with
  | _, .ref _ => none
  | _, .scr _ => none
  | .int, .int _ => some true
  | .int, .bl _ => some true
  | .bool, .bl _ => some true
  | .str, .str _ => some true
  | .tuple, .tup _ => some true
  | _, .ins _ _ _ => none
  | _, .dct _ _ => none
  | .cls _, _ => none
  | _, _ => some false
def doM1 (o : O1) (d : D) : M D := fun m => match o with
  | .freeze => freezeM d m
  | o => ofO (do1 o d m) m
def doM2 (o : O2) (a b : D) : M D := fun m => match o with
  | .append => appendM a b m
  | o => ofO (do2 o a b m) m
def truth (d : D) : M Bool := match d with
  | .bl b => M.pure b
  | _ => M.bad
/-- what a def hands back -/
abbrev Gs := Nat → List D → M D
/-- a method's receiver is looked at before its argument -/
def recv (o : O2) (a : D) (m : Mem) : Bool := match o, a with
  | .index, .lst _ => true
  | .index, .tup _ => true
  | .index, _ => false
  | .count, .tup _ => true
  | .count, .lst _ => true
  | .count, _ => false
  | .join, .str _ => true
  | .join, _ => false
  | .split, .str _ => true
  | .split, _ => false
  | .append, .ref n => match m[n]? with
    | some (.lst _) => true
    | _ => false
  | .append, _ => false
  | _, _ => true
def recvM (o : O2) (a : D) : M PUnit := fun m => if recv o a m = true then .ok ⟨⟩ m else .bad
/-- what an expression is worth: as a value, as a test, as what is walked -/
structure Tr where
  d : M D
  b : M Bool
  i : M (List D)
structure Ts where
  l : M (List D)
  an : M D
  or : M D
  anT : M Bool
  orT : M Bool
def tr (x : M D) : Tr := ⟨x, M.bind x truth, M.bind x itemsOf⟩
def compF (tg vs : List Nat) (c : Env → M Bool) (elt : Env → M D) (ρ : Env) (d : D) : M (Option D) :=
  M.bind (ofO (setT tg d (wipeE ρ vs))) fun ρ1 => M.bind (c ρ1) fun t => if t = true then M.bind (elt ρ1) fun y => M.pure (some y) else M.pure none
def compF2 (tg vs : List Nat) (c : Env → M Bool) (k v : Env → M D) (ρ : Env) (d : D) : M (Option (D × D)) :=
  M.bind (ofO (setT tg d (wipeE ρ vs))) fun ρ1 => M.bind (c ρ1) fun t => if t = true then M.bind (k ρ1) fun x => M.bind (v ρ1) fun y => M.pure (some (x, y)) else M.pure none
/-- within a comprehension nothing is raised -/
def nox {α : Type} (x : M α) : M α := fun m => match x m with
  | .ex _ _ _ => .bad
  | r => r
mutual
def t3 (G : Gs) : E → Env → Tr
  | .var i, ρ => tr (getM ρ i)
  | .glo _ d, _ => tr (M.pure d)
  | .non, _ => tr (M.pure .non)
  | .bl b, _ => tr (M.pure (.bl b))
  | .int i, _ => tr (M.pure (.int i))
  | .str x, _ => tr (M.pure (.str x))
  | .o1 o a, ρ => { tr (M.bind (t3 G a ρ).d (doM1 o)) with
    i := match o with
      | .range => M.bind (t3 G a ρ).d fun x => match x with
        | .int j => rangeM 0 j
        | _ => M.bad
      | .keys => M.bind (t3 G a ρ).d keysM
      | .chars => M.bind (t3 G a ρ).d charsM
      | .enum => M.bind (t3 G a ρ).d fun x => M.bind (itemsOf x) fun l => M.pure (enumL 0 l)
      | o => M.bind (M.bind (t3 G a ρ).d (doM1 o)) itemsOf }
  | .o2 o a b, ρ => { tr (M.bind (t3 G a ρ).d fun x => M.bind (recvM o x) fun _ => M.bind (t3 G b ρ).d fun y => doM2 o x y) with
    i := match o with
      | .range2 => M.bind (t3 G a ρ).d fun x => M.bind (t3 G b ρ).d fun y => match x, y with
        | .int i, .int j => rangeM i j
        | _, _ => M.bad
      | .zip => M.bind (t3 G a ρ).d fun x => M.bind (t3 G b ρ).d fun y => M.bind (itemsOf x) fun l => M.bind (itemsOf y) fun k => M.pure (zipL l k)
      | o => M.bind (M.bind (t3 G a ρ).d fun x => M.bind (recvM o x) fun _ => M.bind (t3 G b ρ).d fun y => doM2 o x y) itemsOf }
  | .sl a i j, ρ => tr (M.bind (t3 G a ρ).d fun x => M.bind (t3 G i ρ).d fun y => M.bind (t3 G j ρ).d fun z => slM x y z)
  | .isi t a, ρ => tr (M.bind (t3 G a ρ).d fun x => M.bind (ofO (isiO t x)) fun b => M.pure (.bl b))
  | .chain o p a b c, ρ => tr (M.bind (t3 G a ρ).d fun x => M.bind (t3 G b ρ).d fun y => M.bind (doM2 o x y) fun r => match r with
    | .bl true => M.bind (t3 G c ρ).d fun z => doM2 p y z
    | .bl false => M.pure (.bl false)
    | _ => M.bad)
  | .and es, ρ => { tr (s3 G es ρ).an with b := (s3 G es ρ).anT }
  | .or es, ρ => { tr (s3 G es ρ).or with b := (s3 G es ρ).orT }
  | .not a, ρ => { tr (M.bind (t3 G a ρ).d fun x => M.bind (truth x) fun b => M.pure (.bl (!b))) with b := M.bind (t3 G a ρ).b fun b => M.pure (!b) }
  | .ite c a b, ρ => tr (M.bind (t3 G c ρ).b fun t => if t = true then (t3 G a ρ).d else (t3 G b ρ).d)
  | .tup es, ρ => tr (M.bind (s3 G es ρ).l fun l => ofO (tupO l))
  | .lst es, ρ => tr (M.bind (s3 G es ρ).l fun l => ofO (lstO l))
  | .call f es, ρ => tr (M.bind (s3 G es ρ).l fun l => G f l)
  | .make c f es, ρ => tr (M.bind (s3 G es ρ).l fun l => M.bind (newM (.ins c [] [])) fun x => M.bind (G f (x :: l)) fun r => match r with
    | .non => freezeM x
    | _ => M.bad)
  | .makeR c f es, ρ => tr (M.bind (s3 G es ρ).l fun l => M.bind (newM (.ins c [] [])) fun x => M.bind (G f (x :: l)) fun r => match r with
    | .non => M.pure x
    | _ => M.bad)
  | .meth f o es, ρ => tr (M.bind (t3 G o ρ).d fun x => M.bind (s3 G es ρ).l fun l => G f (x :: l))
  | .prop f o, ρ => tr (M.bind (t3 G o ρ).d fun x => G f [x])
  | .attr c k o, ρ => tr (M.bind (t3 G o ρ).d (attrM c k))
  | .comp vs tg it c elt, ρ => tr (M.bind (t3 G it ρ).i fun l => M.bind (lim l) fun _ => M.bind (nox (compL (compF tg vs (fun ρ => (t3 G c ρ).b) (fun ρ => (t3 G elt ρ).d) ρ) l)) fun r => M.pure (.lst r))
  | .comp2 vs tg it vs2 tg2 it2 c elt, ρ => tr (M.bind (t3 G it ρ).i fun l => M.bind (nox (compLL (fun d acc => M.bind (ofO (setT tg d (wipeE ρ vs))) fun ρ1 => M.bind (t3 G it2 ρ1).i fun l2 =>
      compA (compF tg2 vs2 (fun ρ => (t3 G c ρ).b) (fun ρ => (t3 G elt ρ).d) ρ1) l2 acc) l [])) fun r => M.pure (.lst r))
  | .dcomp vs tg it c k v, ρ => tr (M.bind (t3 G it ρ).i fun l => M.bind (lim l) fun _ => M.bind (nox (compD (compF2 tg vs (fun ρ => (t3 G c ρ).b) (fun ρ => (t3 G k ρ).d) (fun ρ => (t3 G v ρ).d) ρ) l [] [])) fun r => M.pure (.dct r.1 r.2))
  | .fresh e, ρ => tr (M.bind (t3 G e ρ).d fun d => match d with
    | .lst l => newM (.lst l)
    | _ => M.bad)
  | .never, _ => tr M.bad
def s3 (G : Gs) : Es → Env → Ts
  | .nil, _ => ⟨M.pure [], M.bad, M.bad, M.bad, M.bad⟩
  | .cons e r, ρ => { l := M.bind (t3 G e ρ).d fun d => M.bind (s3 G r ρ).l fun l => M.pure (d :: l)
                      an := match r with
                        | .nil => (t3 G e ρ).d
                        | _ => M.bind (t3 G e ρ).d fun d => M.bind (truth d) fun b => if b = true then (s3 G r ρ).an else M.pure (.bl false)
                      or := match r with
                        | .nil => (t3 G e ρ).d
                        | _ => M.bind (t3 G e ρ).d fun d => M.bind (truth d) fun b => if b = true then M.pure (.bl true) else (s3 G r ρ).or
                      anT := match r with
                        | .nil => (t3 G e ρ).b
                        | _ => M.bind (t3 G e ρ).b fun b => if b = true then (s3 G r ρ).anT else M.pure false
                      orT := match r with
                        | .nil => (t3 G e ρ).b
                        | _ => M.bind (t3 G e ρ).b fun b => if b = true then M.pure true else (s3 G r ρ).orT }
end
def ev (G : Gs) (e : E) (ρ : Env) : M D := (t3 G e ρ).d
def evT (G : Gs) (e : E) (ρ : Env) : M Bool := (t3 G e ρ).b
def evI (G : Gs) (e : E) (ρ : Env) : M (List D) := (t3 G e ρ).i
def evs (G : Gs) (e : Es) (ρ : Env) : M (List D) := (s3 G e ρ).l
def evAnd (G : Gs) (e : Es) (ρ : Env) : M D := (s3 G e ρ).an
def evOr (G : Gs) (e : Es) (ρ : Env) : M D := (s3 G e ρ).or
def evAndT (G : Gs) (e : Es) (ρ : Env) : M Bool := (s3 G e ρ).anT
def evOrT (G : Gs) (e : Es) (ρ : Env) : M Bool := (s3 G e ρ).orT
inductive Flw where
  | nx (ρ : Env)
  | rt (d : D)
def forL (f : D → Env → M Flw) : List D → Env → M Flw
  | [], ρ => M.pure (.nx ρ)
  | d :: r, ρ => M.bind (f d ρ) fun fl => match fl with
    | .nx ρ' => forL f r ρ'
    | .rt d => M.pure (.rt d)
mutual
def ex (G : Gs) : S → Env → M Flw
  | .set i e, ρ => M.bind (ev G e ρ) fun d => M.pure (.nx (ρ.set i (some d)))
  | .unp is e, ρ => M.bind (ev G e ρ) fun d => M.bind (ofO (setU is d ρ)) fun ρ' => M.pure (.nx ρ')
  | .par is es, ρ => M.bind (evs G es ρ) fun ds => M.bind (ofO (setAll is ds ρ)) fun ρ' => M.pure (.nx ρ')
  | .sti o i v, ρ => M.bind (ev G v ρ) fun z => M.bind (ev G o ρ) fun x => M.bind (ev G i ρ) fun y => M.bind (stiM x y z) fun _ => M.pure (.nx ρ)
  | .sta c k o v, ρ => M.bind (ev G v ρ) fun z => M.bind (ev G o ρ) fun x => M.bind (staM c k x z) fun _ => M.pure (.nx ρ)
  | .dm o ix i a b, ρ => M.bind (ev G a ρ) fun x => M.bind (ev G b ρ) fun y => M.bind (ofO (do2 .divmod x y [])) fun z => match z with
    | .tup [q, r] => M.bind (ev G o ρ) fun u => M.bind (ev G ix ρ) fun w => M.bind (stiM u w q) fun _ => M.pure (.nx (ρ.set i (some r)))
    | _ => M.bad
  | .expr e, ρ => M.bind (ev G e ρ) fun _ => M.pure (.nx ρ)
  | .ite c a b, ρ => M.bind (evT G c ρ) fun t => if t = true then exs G a ρ else exs G b ρ
  | .for_ tg it b, ρ => M.bind (evI G it ρ) fun l => forL (fun d ρ => M.bind (ofO (setT tg d ρ)) fun ρ1 => exs G b ρ1) l ρ
  | .forK tg i b, ρ => nox (M.bind (M.bind (getM ρ i) keysM) fun l => forL (fun d ρ => M.bind (ofO (setT tg d ρ)) fun ρ1 => exs G b ρ1) l ρ)
  | .ret e, ρ => M.bind (ev G e ρ) fun d => M.pure (.rt d)
  | .retN, ρ => M.pure (.rt .non)
  | .pass, ρ => M.pure (.nx ρ)
  | .never, _ => M.bad
  | .raise c es, ρ => M.bind (evs G es ρ) fun l => fun m => .ex c l m
def exs (G : Gs) : Ss → Env → M Flw
  | .nil, ρ => M.pure (.nx ρ)
  | .cons s r, ρ => M.bind (ex G s ρ) fun fl => match fl with
    | .nx ρ' => exs G r ρ'
    | .rt d => M.pure (.rt d)
end
/-- a def: how many parameters, how many names in all, its body -/
structure Fn where
  ps : Nat
  ns : Nat
  body : Ss
  deriving Inhabited
def runF (G : Gs) (f : Fn) (ds : List D) : M D :=
  if ds.length = f.ps then M.bind (exs G f.body (ds.map some ++ List.replicate (f.ns - ds.length) none)) fun fl => match fl with
    | .nx _ => M.pure .non
    | .rt d => M.pure d
  else M.bad
/-- all defs, so many calls deep -/
def run (P : Nat → Option Fn) : Nat → Gs
  | 0, _, _ => M.bad
  | n + 1, f, ds => match P f with
    | some fn => runF (run P n) fn ds
    | none => M.bad
end QL
end
section
set_option linter.all false
set_option maxRecDepth 100000
set_option autoImplicit false
/-! QC: a text of the small language stands for a text of the program. -/
namespace QC
open PySem QL
structure Tab where
  fn : Str → Option (Nat × Nat)
  free : Str → Bool
  glo : Str → Option D
  cls : Str → Option (Nat × Nat × Nat)
  att : Nat → Str → Option Nat
  sta : Nat → Str → Option Nat
def glb (sc : Scope) (x : Str) : Bool := match sc.names.lookup x with
  | some .globalImplicit => true
  | _ => false
def vis (sc : Scope) (x : Str) : Bool := match sc.names.lookup x with
  | some .local => true
  | some .cell => true
  | some .free => true
  | _ => false
def lcl (sc : Scope) (x : Str) : Bool := match sc.names.lookup x with
  | some .local => true
  | _ => false
def cel (sc : Scope) (x : Str) : Bool := match sc.names.lookup x with
  | some .cell => true
  | _ => false
def okN (x : Str) : Bool := !(x == ("__debug__" : Str)) && !(x == ("__classdict__" : Str)) && !(x == ("__name__" : Str))
def nm (N : List Str) (i : Nat) (x : Str) : Bool := decide (N[i]? = some x)
def notSt : Expr → Bool
  | .Starred _ _ => false
  | _ => true
def notSet : Expr → Bool
  | .Set _ _ _ => false
  | _ => true
def isIte : Expr → Bool
  | .IfExp _ _ _ _ => true
  | _ => false
def isCp : Expr → Bool
  | .ListComp _ _ _ _ => true
  | .SetComp _ _ _ _ => true
  | .DictComp _ _ _ _ _ => true
  | _ => false
def isTup : Expr → Bool
  | .Tuple _ _ _ => true
  | _ => false
def isNm : Expr → Bool
  | .Name _ _ => true
  | _ => false
def notBase : Expr → Bool
  | .Call (.Name _ _) [] [] _ => false
  | _ => true
def notSl : Expr → Bool
  | .Slice _ _ _ _ => false
  | _ => true
def opB : Operator → Option O2
  | .Add => some .add | .Sub => some .sub | .Mult => some .mul | .FloorDiv => some .fdiv | .Mod => some .mod | .Pow => some .pow
  | _ => none
def opC : CmpOp → Option O2
  | .Eq => some .eq | .NotEq => some .ne | .Lt => some .lt | .LtE => some .le | .Gt => some .gt | .GtE => some .ge
  | .In => some .isIn | .NotIn => some .notIn | .Is => some .isB | .IsNot => some .notB
def b1N : O1 → Option Str
  | .len => some "len" | .lenD => some "len" | .sum => some "sum" | .max => some "max" | .min => some "min" | .all => some "all" | .any => some "any"
  | .tuple => some "tuple" | .list => some "list" | .int => some "int" | .abs => some "abs" | .sorted => some "sorted" | .str => some "str" | .repr => some "repr"
  | _ => none
def b2N : O2 → Option Str
  | .max2 => some "max" | .min2 => some "min"
  | _ => none
def opM : O2 → Option Str
  | .index => some "index" | .count => some "count" | .join => some "join" | .split => some "split" | .append => some "append"
  | _ => none
def tyS : Ty → Option Str
  | .int => some "int" | .bool => some "bool" | .str => some "str" | .tuple => some "tuple"
  | .cls _ => none
def v1 (T : Tab) (sc : Scope) (o : O1) (a : Expr) : Option Expr := match a with
  | .UnaryOp .USub e _ => if o = .neg then some e else none
  | .Compare e [.Is] [.Constant .none _ _] _ => if o = .isN then some e else none
  | .Compare e [.IsNot] [.Constant .none _ _] _ => if o = .notN then some e else none
  | .Call (.Name x _) [e] [] _ => if (decide (o ≠ .sset) && decide (b1N o = some x) && glb sc x && T.free x && okN x && notSt e) = true then some e else
    match o, e with
    | .sset, .Call (.Name y _) [f] [] _ => if (decide (x = "sorted") && decide (y = "set") && glb sc x && T.free x && glb sc y && T.free y && notSt f) = true then some f else none
    | .lrange, .Call (.Name y _) [f] [] _ => if (decide (x = "list") && decide (y = "range") && glb sc x && T.free x && glb sc y && T.free y && notSt f) = true then some f else none
    | _, _ => none
  | _ => none
def v2 (T : Tab) (sc : Scope) (o : O2) (a : Expr) : Option (Expr × Expr) := match a with
  | .BinOp x op y _ => if opB op = some o then some (x, y) else none
  | .Compare x [op] [y] _ => if (decide (opC op = some o) && !behindInMarks op y) = true then some (x, y) else none
  | .Subscript x (.Slice (some y) none none _) _ => if o = .slF then some (x, y) else none
  | .Subscript x (.Slice none (some y) none _) _ => if o = .slT then some (x, y) else none
  | .Subscript x i _ => if (notSl i && (decide (o = .ix) || decide (o = .ixD))) = true then some (x, i) else none
  | .Call (.Name x _) [e, f] [] _ => if (decide (b2N o = some x) && glb sc x && T.free x && okN x && notSt e && notSt f) = true then some (e, f) else none
  | .Call (.Attribute b n ap) [e] [] cp => if (decide (opM o = some n) && notBase b && (ap.endLine == cp.line) && notSt e) = true then some (b, e) else none
  | _ => none
def eqC : D → D → Bool
  | .int i, .int j => decide (i = j)
  | .str x, .str y => decide (x = y)
  | _, _ => false
def gloC (T : Tab) (x : Str) (d : D) : Bool := match T.glo x with
  | some d' => eqC d d'
  | none => false
def relS (scope sc : Scope) : Scope :=
  { scope with names := scope.names.map fun (n, k) => if (k == .free && sc.kind == .function && sc.names.lookup n == some .cell) then (n, .cell) else (n, k) }
def blkC (N : List Str) (sc scope : Scope) (own : List (Str × Nat)) : Bool :=
  (match scope.kind with | .function => true | _ => false) && (scope.names.all fun y => decide (scope.names.lookup y.1 = some y.2)) && (own.all fun p => decide (N[p.2]? = some p.1)) &&
    (scope.names.all fun y => match y.2 with
      | .free => (match sc.names.lookup y.1 with | some .cell => true | some .free => true | _ => false)
      | .local => decide (y.1 ∈ own.map (·.1)) || decide (y.1 ∉ N)
      | .cell => decide (y.1 ∈ own.map (·.1)) || decide (y.1 ∉ N)
      | _ => true)
def ownOf (N : List Str) (vs : List Nat) : List (Str × Nat) := vs.map fun v => (N.getD v "", v)
/-- targets -/
def nmsC (N : List Str) (ok : Str → Bool) : List Nat → List Expr → Bool
  | [], [] => true
  | i :: is, .Name x _ :: ts => nm N i x && ok x && nmsC N ok is ts
  | _, _ => false
def tgC (N : List Str) (ok : Str → Bool) (tg : List Nat) (t : Expr) : Bool := match tg, t with
  | [i], .Name x _ => nm N i x && ok x
  | i :: j :: is, .Tuple ts _ _ => nmsC N ok (i :: j :: is) ts
  | _, _ => false
def okB (scope sc' : Scope) (x : Str) : Bool := lcl sc' x || (cel scope x && cel sc' x)
def okS (sc : Scope) (x : Str) : Bool := lcl sc x || cel sc x
structure Ck where
  e : Scope → Expr → Bool
  i : Scope → Expr → Expr → Bool
/-- as a test: no conditional expression -/
def Ck.t (c : Ck) (sc : Scope) (a : Expr) : Bool := c.e sc a && !isIte a
def ck (e : Scope → Expr → Bool) : Ck := ⟨e, fun sc _ a => e sc a && notSet a⟩
def ifC (c : E) (k : Ck) (sc : Scope) (l : List Expr) : Bool := match l with
  | [] => (match c with | .bl true => true | _ => false)
  | [a] => k.t sc a
  | _ => false
def subN (l k : List Nat) : Bool := l.all fun i => decide (i ∈ k)
def keyC (N : List Str) (sc : Scope) (i : Nat) (a : Expr) : Bool := match a with
  | .Name x _ => nm N i x && vis sc x && okN x
  | _ => false
def isKeys : E → Option Nat
  | .o1 .keys (.var i) => some i
  | _ => none
/-- one that gives pairs out -/
def prI : E → Bool
  | .o1 .enum _ => true
  | .o2 .zip _ _ => true
  | _ => false
def noIte (l : List Expr) : Bool := l.all fun a => !isIte a
def allNS (l : List Expr) : Bool := l.all notSt
def itC (N : List Str) (it : E) (k : Ck) (sc : Scope) (tg a : Expr) : Bool := match isKeys it with
  | some i => keyC N sc i a
  | none => k.i sc tg a
mutual
def c3 (T : Tab) (N : List Str) : E → Ck
  | .var i => ck fun sc a => match a with
    | .Name x _ => nm N i x && vis sc x && okN x
    | _ => false
  | .glo y d => ck fun sc a => match a with
    | .Name x _ => decide (x = y) && glb sc x && gloC T x d && okN x
    | _ => false
  | .non => ck fun _ a => match a with
    | .Constant .none _ _ => true
    | _ => false
  | .bl b => ck fun _ a => match a with
    | .Constant (.bool c) _ _ => b == c
    | _ => false
  | .int i => ck fun _ a => match a with
    | .Constant (.int j) _ _ => decide (i = j)
    | _ => false
  | .str x => ck fun _ a => match a with
    | .Constant (.str y) _ _ => decide (x = y)
    | _ => false
  | .o1 o b => { e := fun sc a => if o = .freeze then (isNm a && (c3 T N b).e sc a) else match v1 T sc o a with
                   | some e => (c3 T N b).e sc e
                   | none => false
                 i := fun sc tg a => notSet a && match o with
                   | .range => (match a with
                     | .Call (.Name x _) [e] [] _ => decide (x = "range") && glb sc x && T.free x && notSt e && (c3 T N b).e sc e
                     | _ => false)
                   | .enum => (match tg, a with
                     | .Tuple _ _ _, .Call (.Name x _) [e] [] _ => decide (x = "enumerate") && glb sc x && T.free x && notSt e && (c3 T N b).e sc e
                     | _, _ => false)
                   | .chars => (c3 T N b).e sc a
                   | .keys => false
                   | o => if o = .freeze then (isNm a && (c3 T N b).e sc a) else match v1 T sc o a with
                     | some e => (c3 T N b).e sc e
                     | none => false }
  | .o2 o b c => { e := fun sc a => match v2 T sc o a with
                     | some (e, f) => (c3 T N b).e sc e && (c3 T N c).e sc f
                     | none => false
                   i := fun sc tg a => notSet a && match o with
                     | .range2 => (match a with
                       | .Call (.Name x _) [e, f] [] _ => decide (x = "range") && glb sc x && T.free x && notSt e && notSt f && (c3 T N b).e sc e && (c3 T N c).e sc f
                       | _ => false)
                     | .zip => (match tg, a with
                       | .Tuple _ _ _, .Call (.Name x _) [e, f] [] _ => decide (x = "zip") && glb sc x && T.free x && notSt e && notSt f && (c3 T N b).e sc e && (c3 T N c).e sc f
                       | _, _ => false)
                     | o => match v2 T sc o a with
                       | some (e, f) => (c3 T N b).e sc e && (c3 T N c).e sc f
                       | none => false }
  | .sl _ _ _ => ck fun _ _ => false
  | .isi t b => ck fun sc a => match a with
    | .Call (.Name x _) [e, .Name y _] [] _ => decide (x = "isinstance") && glb sc x && T.free x && decide (tyS t = some y) && glb sc y && T.free y && notSt e && (c3 T N b).e sc e
    | _ => false
  | .chain o p b c d => ck fun sc a => match a with
    | .Compare x [op, op'] [y, z] _ => decide (opC op = some o) && decide (opC op' = some p) && !lastMarks [op, op'] [y, z] && (c3 T N b).e sc x && (c3 T N c).e sc y && (c3 T N d).e sc z
    | _ => false
  | .and es => ck fun sc a => match a with
    | .BoolOp .And vs _ => noIte vs && d3 T N es sc vs
    | _ => false
  | .or es => ck fun sc a => match a with
    | .BoolOp .Or vs _ => noIte vs && d3 T N es sc vs
    | _ => false
  | .not b => ck fun sc a => match a with
    | .UnaryOp .Not x _ => (c3 T N b).t sc x
    | _ => false
  | .ite c b d => ck fun sc a => match a with
    | .IfExp x y z _ => (c3 T N c).t sc x && (c3 T N b).e sc y && (c3 T N d).e sc z
    | _ => false
  | .tup es => ck fun sc a => match a with
    | .Tuple xs _ _ => allNS xs && d3 T N es sc xs
    | _ => false
  | .lst es => ck fun sc a => match a with
    | .List xs _ => allNS xs && d3 T N es sc xs
    | _ => false
  | .call f es => ck fun sc a => match a with
    | .Call (.Name x _) xs [] _ => (match T.fn x with
      | some p => decide (p.1 = f)
      | none => false) && glb sc x && okN x && allNS xs && d3 T N es sc xs
    | _ => false
  | .make c f es => ck fun sc a => match a with
    | .Call (.Name x _) (e :: xs) [] _ => (match T.cls x with
      | some p => decide (p.1 = c) && decide (p.2.1 = f)
      | none => false) && glb sc x && okN x && allNS (e :: xs) && d3 T N es sc (e :: xs)
    | _ => false
  | .makeR _ _ _ => ck fun _ _ => false
  | .meth _ _ _ => ck fun _ _ => false
  | .prop _ _ => ck fun _ _ => false
  | .attr c k b => ck fun sc a => match a with
    | .Attribute x f _ => decide (T.att c f = some k) && notBase x && (c3 T N b).e sc x
    | _ => false
  | .comp vs tg it c elt => ck fun sc a => match a with
    | .ListComp x [⟨t, iter, ifs, 0⟩] scope _ => blkC N sc scope (ownOf N vs) && subN tg vs && tgC N (okB scope (relS scope sc)) tg t && itC N it (c3 T N it) sc t iter && notSet iter &&
      ifC c (c3 T N c) (relS scope sc) ifs && (c3 T N elt).e (relS scope sc) x
    | _ => false
  | .comp2 vs tg it vs2 tg2 it2 c elt => ck fun sc a => match a with
    | .ListComp x [⟨t, iter, ifs, 0⟩, ⟨t2, iter2, ifs2, 0⟩] scope _ => blkC N sc scope (ownOf N vs) && subN tg vs && subN vs2 vs && subN tg2 vs2 && tgC N (okB scope (relS scope sc)) tg t && tgC N (okB scope (relS scope sc)) tg2 t2 && ifs.isEmpty &&
      (isKeys it).isNone && (isKeys it2).isNone && (c3 T N it).i sc t iter && notSet iter && (c3 T N it2).i (relS scope sc) t2 iter2 && notSet iter2 && ifC c (c3 T N c) (relS scope sc) ifs2 && (c3 T N elt).e (relS scope sc) x
    | _ => false
  | .dcomp vs tg it c k v => ck fun sc a => match a with
    | .DictComp x y [⟨t, iter, ifs, 0⟩] scope _ => blkC N sc scope (ownOf N vs) && subN tg vs && tgC N (okB scope (relS scope sc)) tg t && (isKeys it).isNone && (c3 T N it).i sc t iter && notSet iter &&
      ifC c (c3 T N c) (relS scope sc) ifs && (c3 T N k).e (relS scope sc) x && (c3 T N v).e (relS scope sc) y
    | _ => false
  | .fresh b => ck fun sc a => match b, a with
    | .lst _, .List _ _ => (c3 T N b).e sc a
    | .o1 .list _, .Call _ _ _ _ => (c3 T N b).e sc a
    | .comp _ _ it _ _, .ListComp _ _ _ _ => (isKeys it).isNone && (c3 T N b).e sc a
    | _, _ => false
  | .never => ck fun _ _ => true
def d3 (T : Tab) (N : List Str) : Es → Scope → List Expr → Bool
  | .nil, _, [] => true
  | .cons e r, sc, a :: l => (c3 T N e).e sc a && d3 T N r sc l
  | _, _, _ => false
end
/-! ### statements -/
def swB (sc : Scope) (v : Expr) (y : Str) (py : Pos) : Bool := match v with
  | .ListComp _ _ s p => lcl sc y && (py.line == p.line) && !(s.names.any fun (n, k) => n == y && (k == .local || k == .cell))
  | .SetComp _ _ _ _ => true
  | .DictComp _ _ _ _ _ => true
  | _ => false
def swNames (sc : Scope) (ts : List Expr) : List Str := ts.filterMap fun
    | .Name id pos => if lcl sc id && pos.line == ((ts.head?.map (·.pos.line)).getD 0) then some id else none
    | _ => none
def noSt (vs : List Expr) : Bool := !(vs.any fun | .Starred .. => true | _ => false)
def swN (sc : Scope) (ts vs : List Expr) : Bool :=
  (ts.length == 2 || ts.length == 3) && (vs.length == ts.length) && noSt vs && ((swNames sc ts).length == ts.length) && ((swNames sc ts).eraseDups.length == (swNames sc ts).length) && !(vs.all (foldedForSure 8)) && !(vs.all (constantsAlone 8))
/-- stored one after another, from the left -/
def swZ (sc : Scope) (ts : List Expr) : Expr → Bool
  | .Tuple vs _ _ => !(ts.length == 2 || ts.length == 3) || vs.length != ts.length || (noSt vs && ((swNames sc ts).length != ts.length))
  | _ => true
/-- a list comprehension put to a name at once -/
def lcE : E → Bool
  | .comp _ _ it _ _ => (isKeys it).isNone
  | .fresh (.comp _ _ it _ _) => (isKeys it).isNone
  | _ => false
mutual
def cS (T : Tab) (N : List Str) : S → Scope → Stmt → Bool
  | .set i e, sc, s => match s with
    | .Assign [.Name x p] v _ => nm N i x && okS sc x && (c3 T N e).e sc v && (!swB sc v x p || lcE e)
    | _ => false
  | .unp is e, sc, s => match s with
    | .Assign [.Tuple ts _ _] v _ => decide (2 ≤ is.length) && nmsC N (okS sc) is ts && swZ sc ts v && (c3 T N e).e sc v
    | _ => false
  | .par is es, sc, s => match s with
    | .Assign [.Tuple ts _ _] (.Tuple vs _ _) _ => (match is with
      | [i, j] => decide (i ≠ j)
      | [i, j, l] => decide (i ≠ j) && decide (i ≠ l) && decide (j ≠ l)
      | _ => false) && nmsC N (lcl sc) is ts && allNS vs && d3 T N es sc vs && swN sc ts vs
    | _ => false
  | .sti o i v, sc, s => match s with
    | .Assign [.Subscript x y _] z _ => notSl y && (c3 T N o).e sc x && (c3 T N i).e sc y && (c3 T N v).e sc z
    | _ => false
  | .sta c k o v, sc, s => match s with
    | .Assign [.Attribute x f _] z _ => decide (T.sta c f = some k) && (c3 T N o).e sc x && (c3 T N v).e sc z
    | _ => false
  | .dm o ix i a b, sc, s => match s with
    | .Assign [.Tuple [.Subscript x y _, .Name w _] _ _] (.Call (.Name g _) [u, v] [] _) _ => decide (g = "divmod") && glb sc g && T.free g && notSl y && nm N i w && okS sc w && notSt u && notSt v &&
      (c3 T N o).e sc x && (c3 T N ix).e sc y && (c3 T N a).e sc u && (c3 T N b).e sc v
    | _ => false
  | .expr e, sc, s => match s with
    | .Expr v _ => !isCp v && (c3 T N e).e sc v
    | _ => false
  | .ite c a b, sc, s => match s with
    | .If x y z _ => (c3 T N c).t sc x && cSs T N a sc y && cSs T N b sc z
    | _ => false
  | .for_ tg it b, sc, s => match s with
    | .For t x y [] _ => tgC N (okS sc) tg t && (isKeys it).isNone && (c3 T N it).i sc t x && notSet x && cSs T N b sc y
    | _ => false
  | .forK tg i b, sc, s => match s with
    | .For t x y [] _ => (match tg with
      | [_] => true
      | _ => false) && tgC N (okS sc) tg t && keyC N sc i x && cSs T N b sc y
    | _ => false
  | .ret e, sc, s => match s with
    | .Return (some v) _ => (c3 T N e).e sc v
    | _ => false
  | .retN, _, s => match s with
    | .Return none _ => true
    | _ => false
  | .pass, _, s => match s with
    | .Pass _ => true
    | _ => false
  | .raise _ _, _, _ => false
  | .never, _, _ => true
def cSs (T : Tab) (N : List Str) : Ss → Scope → List Stmt → Bool
  | .nil, _, [] => true
  | .cons s r, sc, a :: l => cS T N s sc a && cSs T N r sc l
  | _, _, _ => false
end
end QC
end
section
set_option linter.all false
set_option maxRecDepth 100000
set_option autoImplicit false
/-! QS1: how data lie in the heap. -/
namespace QS
open PySem PySem.Spec PyProof.Rows L2 QL

structure Stt where
  μ : Mem
  α : Nat → Addr
  H : Hp
  hid : Addr → Prop
def live : Cell → Bool
  | .dead => false
  | _ => true
/-- addresses that data do not lie at: cells, and what is being made -/
def own (s : Stt) (a : Addr) : Prop := s.hid a ∨ ∃ n c, s.μ[n]? = some c ∧ live c = true ∧ s.α n = a
/-- what is known of the program's classes and attributes -/
structure Inf where
  K : PySem.W.Frag
  clA : Nat → Addr
  atN : Nat → Str
/-- in the written part -/
def KL (K : PySem.W.Frag) (a : Addr) (xs : List V) : Prop :=
  ∃ (o : Obj) (its : Array Value) (n : Nat), K.lookup a = some o ∧ o.cls = .type "list" ∧ o.dict = none ∧ o.data = .seq its n ∧ its.size ≤ sizeLine ∧ Vals xs its.toList
def KT (K : PySem.W.Frag) (a : Addr) (xs : List V) : Prop :=
  ∃ (o : Obj) (its : Array Value) (n : Nat), K.lookup a = some o ∧ o.cls = .type "tuple" ∧ o.dict = none ∧ o.data = .seq its n ∧ its.size ≤ sizeLine ∧ Vals xs its.toList
def LA (s : Stt) (a : Addr) (xs : List V) : Prop := ¬ own s a ∧ Rd s.H a (.lst xs)
def LS (K : PySem.W.Frag) (s : Stt) (a : Addr) (xs : List V) : Prop := LA s a xs ∨ KL K a xs
def TA' (K : PySem.W.Frag) (s : Stt) (a : Addr) (xs : List V) : Prop := (¬ own s a ∧ ∃ o : Obj, s.H a = some (.frz o (.tup xs)) ∧ o.dict = none) ∨ KT K a xs
mutual
inductive RV (Γ : Inf) (s : Stt) : V → D → Prop
  | non : RV Γ s .non .non
  | bl (b : Bool) : RV Γ s (.bl b) (.bl b)
  | int (i : Int) : RV Γ s (.int i) (.int i)
  | str (x : Str) : RV Γ s (.str x) (.str x)
  | lst {a : Addr} {vs : List V} {ds : List D} : LA s a vs → RVs Γ s vs ds → RV Γ s (.ref a) (.lst ds)
  | tup {a : Addr} {vs : List V} {ds : List D} : TA' Γ.K s a vs → RVs Γ s vs ds → RV Γ s (.ref a) (.tup ds)
  | ins {a dx : Addr} {c : Nat} {ks : List Nat} {vs : List V} {ds : List D} : ¬ own s a → s.H a = some (.ins (Γ.clA c) dx ((ks.map Γ.atN).zip vs)) → RVs Γ s vs ds → RV Γ s (.ref a) (.ins c ks ds)
  | ref {n : Nat} : n < s.μ.length → RV Γ s (.ref (s.α n)) (.ref n)
  | dct {a : Addr} {kvs : List (Key × V)} {ks : List Int} {vs : List D} : ¬ own s a → Rd s.H a (.dK kvs) → kvs.map Prod.fst = ks.map Sum.inl → RVs Γ s (kvs.map Prod.snd) vs → RV Γ s (.ref a) (.dct ks vs)
  | scr {a : Addr} {ns : List Int} : LS Γ.K s a (ns.map V.int) → RV Γ s (.ref a) (.scr ns)
inductive RVs (Γ : Inf) (s : Stt) : List V → List D → Prop
  | nil : RVs Γ s [] []
  | cons {v : V} {vs : List V} {d : D} {ds : List D} : RV Γ s v d → RVs Γ s vs ds → RVs Γ s (v :: vs) (d :: ds)
end
def notD : HO → Bool
  | .dK _ => false
  | .frz _ u => notD u
  | _ => true
/-- the data that stand in s stand in s', a dict locked or not -/
structure LeW (s s' : Stt) : Prop where
  len : s.μ.length ≤ s'.μ.length
  α : ∀ n, n < s.μ.length → s'.α n = s.α n
  dat : ∀ b u, ¬ own s b → s.H b = some u → notD u = true → ¬ own s' b ∧ s'.H b = some u
  dct : ∀ b kvs, ¬ own s b → Rd s.H b (.dK kvs) → ¬ own s' b ∧ Rd s'.H b (.dK kvs)
/-- the data that stand in s stand in s' -/
structure LeD (s s' : Stt) : Prop where
  len : s.μ.length ≤ s'.μ.length
  α : ∀ n, n < s.μ.length → s'.α n = s.α n
  dat : ∀ b u, ¬ own s b → s.H b = some u → ¬ own s' b ∧ s'.H b = some u
/-- .. and what is being made, too -/
structure Le (s s' : Stt) : Prop extends LeD s s' where
  hid : ∀ b, s.hid b → s'.hid b ∧ s'.H b = s.H b
theorem LeD.refl (s : Stt) : LeD s s := ⟨Nat.le_refl _, fun _ _ => rfl, fun _ _ h e => ⟨h, e⟩⟩
theorem Le.refl (s : Stt) : Le s s := ⟨LeD.refl s, fun _ h => ⟨h, rfl⟩⟩
theorem LeD.trans {a b c : Stt} (x : LeD a b) (y : LeD b c) : LeD a c :=
  ⟨Nat.le_trans x.len y.len, fun n h => (y.α n (Nat.lt_of_lt_of_le h x.len)).trans (x.α n h), fun b u h e => let ⟨h1, e1⟩ := x.dat b u h e; y.dat b u h1 e1⟩
theorem Le.trans {a b c : Stt} (x : Le a b) (y : Le b c) : Le a c :=
  ⟨x.toLeD.trans y.toLeD, fun b h => let ⟨h1, e1⟩ := x.hid b h; let ⟨h2, e2⟩ := y.hid b h1; ⟨h2, e2.trans e1⟩⟩
/-- where nothing but own cells is changed -/
theorem LeD.of {s s' : Stt} (len : s.μ.length ≤ s'.μ.length) (α : ∀ n, n < s.μ.length → s'.α n = s.α n) (h : ∀ b u, ¬ own s b → s.H b = some u → ¬ own s' b ∧ s'.H b = some u) : LeD s s' := ⟨len, α, h⟩
theorem LeD.toLeW {s s' : Stt} (l : LeD s s') : LeW s s' :=
  ⟨l.len, l.α, fun b u n e _ => l.dat b u n e, fun b kvs n e => by
    rcases e with e | ⟨o, e⟩
    · exact ⟨(l.dat b _ n e).1, .inl (l.dat b _ n e).2⟩
    · exact ⟨(l.dat b _ n e).1, .inr ⟨o, (l.dat b _ n e).2⟩⟩⟩
theorem LeW.la {s s' : Stt} {a : Addr} {xs : List V} (l : LeW s s') : LA s a xs → LA s' a xs
  | ⟨h, .inl e⟩ => let ⟨h', e'⟩ := l.dat a _ h e rfl; ⟨h', .inl e'⟩
  | ⟨h, .inr ⟨o, e⟩⟩ => let ⟨h', e'⟩ := l.dat a _ h e rfl; ⟨h', .inr ⟨o, e'⟩⟩
theorem LeW.ls {K : PySem.W.Frag} {s s' : Stt} {a : Addr} {xs : List V} (l : LeW s s') : LS K s a xs → LS K s' a xs
  | .inl h => .inl (l.la h)
  | .inr k => .inr k
theorem LeW.ta {K : PySem.W.Frag} {s s' : Stt} {a : Addr} {xs : List V} (l : LeW s s') : TA' K s a xs → TA' K s' a xs
  | .inl ⟨h, o, e, d⟩ => let ⟨h', e'⟩ := l.dat a _ h e rfl; .inl ⟨h', o, e', d⟩
  | .inr k => .inr k
mutual
theorem RV.mono {Γ : Inf} {s s' : Stt} (l : LeW s s') : ∀ (d : D) (v : V), RV Γ s v d → RV Γ s' v d
  | .non, _, h => by cases h; exact .non
  | .bl _, _, h => by cases h; exact .bl _
  | .int _, _, h => by cases h; exact .int _
  | .str _, _, h => by cases h; exact .str _
  | .lst ds, _, h => by cases h with | lst h1 h2 => exact .lst (l.la h1) (RVs.mono l ds _ h2)
  | .tup ds, _, h => by cases h with | tup h1 h2 => exact .tup (l.ta h1) (RVs.mono l ds _ h2)
  | .ins c ks ds, _, h => by cases h with | ins h1 h2 h3 => exact .ins (l.dat _ _ h1 h2 rfl).1 (l.dat _ _ h1 h2 rfl).2 (RVs.mono l ds _ h3)
  | .ref n, _, h => by cases h with | ref h1 => rw [← l.α n h1]; exact .ref (Nat.lt_of_lt_of_le h1 l.len)
  | .dct ks vs, _, h => by cases h with | dct h1 h2 h3 h4 => exact .dct (l.dct _ _ h1 h2).1 (l.dct _ _ h1 h2).2 h3 (RVs.mono l vs _ h4)
  | .scr _, _, h => by cases h with | scr h1 => exact .scr (l.ls h1)
theorem RVs.mono {Γ : Inf} {s s' : Stt} (l : LeW s s') : ∀ (ds : List D) (vs : List V), RVs Γ s vs ds → RVs Γ s' vs ds
  | [], _, h => by cases h; exact .nil
  | d :: ds, _, h => by cases h with | cons h1 h2 => exact .cons (RV.mono l d _ h1) (RVs.mono l ds _ h2)
end
theorem LeW.rv {Γ : Inf} {s s' : Stt} {v : V} {d : D} (l : LeW s s') (h : RV Γ s v d) : RV Γ s' v d := RV.mono l d v h
theorem LeW.rvs {Γ : Inf} {s s' : Stt} {v : List V} {d : List D} (l : LeW s s') (h : RVs Γ s v d) : RVs Γ s' v d := RVs.mono l d v h
theorem LeD.la {s s' : Stt} {a : Addr} {xs : List V} (l : LeD s s') : LA s a xs → LA s' a xs := l.toLeW.la
theorem LeD.ls {K : PySem.W.Frag} {s s' : Stt} {a : Addr} {xs : List V} (l : LeD s s') : LS K s a xs → LS K s' a xs := l.toLeW.ls
theorem LeD.ta {K : PySem.W.Frag} {s s' : Stt} {a : Addr} {xs : List V} (l : LeD s s') : TA' K s a xs → TA' K s' a xs := l.toLeW.ta
theorem LeD.rv {Γ : Inf} {s s' : Stt} {v : V} {d : D} (l : LeD s s') (h : RV Γ s v d) : RV Γ s' v d := l.toLeW.rv h
theorem LeD.rvs {Γ : Inf} {s s' : Stt} {v : List V} {d : List D} (l : LeD s s') (h : RVs Γ s v d) : RVs Γ s' v d := l.toLeW.rvs h
theorem Le.rv {Γ : Inf} {s s' : Stt} {v : V} {d : D} (l : Le s s') (h : RV Γ s v d) : RV Γ s' v d := l.toLeD.rv h
theorem Le.rvs {Γ : Inf} {s s' : Stt} {v : List V} {d : List D} (l : Le s s') (h : RVs Γ s v d) : RVs Γ s' v d := l.toLeD.rvs h
theorem LA.sq {K : PySem.W.Frag} {s : Stt} {a : Addr} {xs : List V} (h : LA s a xs) : SqL K s.H a xs := .inl h.2
theorem LS.sq {K : PySem.W.Frag} {s : Stt} {a : Addr} {xs : List V} : LS K s a xs → SqL K s.H a xs
  | .inl h => h.sq
  | .inr h => .inr h
theorem TA'.sq {K : PySem.W.Frag} {s : Stt} {a : Addr} {xs : List V} : TA' K s a xs → SqT K s.H a xs
  | .inl ⟨_, o, h, _⟩ => .inl (.inr ⟨o, h⟩)
  | .inr ⟨o, its, n, h1, h2, _, h3⟩ => .inr ⟨o, its, n, h1, h2, h3⟩
/-- a cell lies in the heap -/
def CellOk (Γ : Inf) (s : Stt) (n : Nat) : Cell → Prop
  | .lst ds => ∃ vs, s.H (s.α n) = some (.lst vs) ∧ RVs Γ s vs ds
  | .ins c ks ds => ∃ dx vs, s.H (s.α n) = some (.ins (Γ.clA c) dx ((ks.map Γ.atN).zip vs)) ∧ RVs Γ s vs ds ∧ ks.length = ds.length
  | .dct _ _ => False
  | .dead => True
structure StOk (Γ : Inf) (s : Stt) : Prop where
  cell : ∀ n c, s.μ[n]? = some c → CellOk Γ s n c
  inj : ∀ n m c d, s.μ[n]? = some c → s.μ[m]? = some d → live c = true → live d = true → s.α n = s.α m → n = m
  hid : ∀ n c, s.μ[n]? = some c → live c = true → ¬ s.hid (s.α n)
  trk : ∀ b, s.hid b → s.H b ≠ none
theorem RVs.length {Γ : Inf} {s : Stt} : ∀ {vs : List V} {ds : List D}, RVs Γ s vs ds → vs.length = ds.length
  | _, _, .nil => rfl
  | _, _, .cons _ t => by rw [List.length_cons, List.length_cons, RVs.length t]
theorem RVs.get {Γ : Inf} {s : Stt} : ∀ {vs : List V} {ds : List D} {i : Nat} {d : D}, RVs Γ s vs ds → ds[i]? = some d → ∃ v, vs[i]? = some v ∧ RV Γ s v d
  | _, _, _, _, .nil, e => by simp at e
  | _, _, 0, _, .cons r _, e => by simp at e; subst e; exact ⟨_, rfl, r⟩
  | _, _, i + 1, d, .cons _ t, e => by
    obtain ⟨v, h1, h2⟩ := RVs.get (i := i) (d := d) t (by simpa using e)
    exact ⟨v, by simpa using h1, h2⟩
theorem RVs.getV {Γ : Inf} {s : Stt} : ∀ {vs : List V} {ds : List D} {i : Nat} {v : V}, RVs Γ s vs ds → vs[i]? = some v → ∃ d, ds[i]? = some d ∧ RV Γ s v d
  | _, _, _, _, .nil, e => by simp at e
  | _, _, 0, _, .cons r _, e => by simp at e; subst e; exact ⟨_, rfl, r⟩
  | _, _, i + 1, d, .cons _ t, e => by
    obtain ⟨v, h1, h2⟩ := RVs.getV (i := i) (v := d) t (by simpa using e)
    exact ⟨v, by simpa using h1, h2⟩
theorem RVs.append {Γ : Inf} {s : Stt} : ∀ {vs ws : List V} {ds es : List D}, RVs Γ s vs ds → RVs Γ s ws es → RVs Γ s (vs ++ ws) (ds ++ es)
  | _, _, _, _, .nil, h => h
  | _, _, _, _, .cons r t, h => .cons r (RVs.append t h)
theorem RVs.take {Γ : Inf} {s : Stt} : ∀ {vs : List V} {ds : List D} (n : Nat), RVs Γ s vs ds → RVs Γ s (vs.take n) (ds.take n)
  | _, _, 0, _ => by simp only [List.take_zero]; exact .nil
  | _, _, _ + 1, .nil => .nil
  | _, _, n + 1, .cons r t => .cons r (RVs.take n t)
theorem RVs.drop {Γ : Inf} {s : Stt} : ∀ {vs : List V} {ds : List D} (n : Nat), RVs Γ s vs ds → RVs Γ s (vs.drop n) (ds.drop n)
  | _, _, 0, r => r
  | _, _, _ + 1, .nil => .nil
  | _, _, n + 1, .cons _ t => RVs.drop n t
theorem RVs.set {Γ : Inf} {s : Stt} {v : V} {d : D} (h : RV Γ s v d) : ∀ {vs : List V} {ds : List D} (i : Nat), RVs Γ s vs ds → RVs Γ s (vs.set i v) (ds.set i d)
  | _, _, _, .nil => .nil
  | _, _, 0, .cons _ t => .cons h t
  | _, _, i + 1, .cons q t => .cons q (RVs.set h i t)
theorem RVs.intsO {Γ : Inf} {s : Stt} : ∀ {vs : List V} {ds : List D} {ns : List Int}, RVs Γ s vs ds → intsO ds = some ns → vs = ns.map V.int
  | _, _, ns, .nil, e => by cases e; rfl
  | _, _, ns, .cons (v := v) (d := d) (ds := ds) r t, e => by
    cases r <;> simp only [QL.intsO, Option.map_eq_some_iff, reduceCtorEq] at e
    obtain ⟨ms, h1, h2⟩ := e
    subst h2
    rw [RVs.intsO t h1]
    rfl
theorem RVs.boolsO {Γ : Inf} {s : Stt} : ∀ {vs : List V} {ds : List D} {ns : List Bool}, RVs Γ s vs ds → boolsO ds = some ns → vs = ns.map V.bl
  | _, _, ns, .nil, e => by cases e; rfl
  | _, _, ns, .cons (v := v) (d := d) (ds := ds) r t, e => by
    cases r <;> simp only [QL.boolsO, Option.map_eq_some_iff, reduceCtorEq] at e
    obtain ⟨ms, h1, h2⟩ := e
    subst h2
    rw [RVs.boolsO t h1]
    rfl
theorem RVs.strsO {Γ : Inf} {s : Stt} : ∀ {vs : List V} {ds : List D} {ns : List Str}, RVs Γ s vs ds → strsO ds = some ns → vs = ns.map V.str
  | _, _, ns, .nil, e => by cases e; rfl
  | _, _, ns, .cons (v := v) (d := d) (ds := ds) r t, e => by
    cases r <;> simp only [QL.strsO, Option.map_eq_some_iff, reduceCtorEq] at e
    obtain ⟨ms, h1, h2⟩ := e
    subst h2
    rw [RVs.strsO t h1]
    rfl
theorem RVs.of_ints {Γ : Inf} {s : Stt} : ∀ ns : List Int, RVs Γ s (ns.map V.int) (ns.map D.int)
  | [] => .nil
  | n :: ns => .cons (.int n) (RVs.of_ints ns)
/-! ### the data of the library -/
mutual
theorem RV.dp {Γ : Inf} {s : Stt} : ∀ (d : D) (v : V) (p : PyData), RV Γ s v d → toP d = some p → Dp Γ.K s.H v p
  | .non, _, p, h, e => by cases h; cases e; exact .non
  | .bl b, _, p, h, e => by cases h; cases e; exact .bl b
  | .int b, _, p, h, e => by cases h; cases e; exact .int b
  | .str b, _, p, h, e => by cases h; cases e; exact .str b
  | .lst ds, _, p, h, e => by
    cases h with
    | lst h1 h2 =>
      simp only [toP, Option.map_eq_some_iff] at e
      obtain ⟨ps, e1, rfl⟩ := e
      exact .lst h1.sq (RVs.dp ds _ ps h2 e1)
  | .tup ds, _, p, h, e => by
    cases h with
    | tup h1 h2 =>
      simp only [toP, Option.map_eq_some_iff] at e
      obtain ⟨ps, e1, rfl⟩ := e
      exact .tup h1.sq (RVs.dp ds _ ps h2 e1)
  | .ins _ _ _, _, p, h, e => by simp [toP] at e
  | .ref _, _, p, h, e => by simp [toP] at e
  | .dct _ _, _, p, h, e => by simp [toP] at e
  | .scr _, _, p, h, e => by simp [toP] at e
theorem RVs.dp {Γ : Inf} {s : Stt} : ∀ (ds : List D) (vs : List V) (ps : List PyData), RVs Γ s vs ds → toPs ds = some ps → DpAll Γ.K s.H vs ps
  | [], _, ps, h, e => by cases h; cases e; exact .nil
  | d :: ds, _, ps, h, e => by
    cases h with
    | cons h1 h2 =>
      simp only [toPs] at e
      split at e
      · rename_i p q e1 e2
        cases e
        exact .cons (RV.dp d _ p h1 e1) (RVs.dp ds _ q h2 e2)
      · cases e
end
theorem shp_toP {d : D} {p : PyData} (h : shp d = some p) : toP d = some p ∧ SeqAt.shaped p = true := by
  unfold shp at h
  split at h
  · rename_i q e
    split at h
    · cases h; exact ⟨e, by assumption⟩
    · cases h
  · cases h
theorem RV.dps {Γ : Inf} {s : Stt} {d : D} {v : V} {p : PyData} (h : RV Γ s v d) (e : shp d = some p) : Dp Γ.K s.H v p ∧ SeqAt.shaped p = true :=
  ⟨RV.dp d v p h (shp_toP e).1, (shp_toP e).2⟩
end QS
end
section
set_option linter.all false
set_option maxRecDepth 100000
set_option autoImplicit false
/-! QS2: the judgements by data. -/
namespace QS
open PySem PySem.Spec PyProof.Rows L2 QL

/-- an exception of a class of the program's own lies so -/
def XV (Γ : Inf) (s : Stt) (c : Nat) (arg : List D) (cls : Value) (dd : Option Addr) : Prop := cls = .ref (Γ.clA c) ∧ match arg with
  | [] => True
  | [d] => ∃ a x v, dd = some a ∧ s.H a = some (.xd [(x, v)]) ∧ ¬ own s a ∧ RV Γ s v d
  | _ => False
section
variable (Γ : Inf) (W : XK)
def Rs {α : Type} (s : Stt) (r : Res α) (k : α → Stt → Prop) : Prop := match r with
  | .ok a m => ∀ s', Le s s' → StOk Γ s' → s'.μ = m → k a s'
  | .ex c arg m => ∀ s' cls dd, Le s s' → StOk Γ s' → s'.μ = m → XV Γ s' c arg cls dd → W cls dd s'.H
  | .bad => False
structure EnvOk (s : Stt) (σ : L2.St) (ρ : QL.Env) : Prop where
  len : σ.length = ρ.length
  at_ : ∀ (i : Nat) (d : D), ρ[i]? = some (some d) → ∃ v, σ[i]? = some (some v) ∧ RV Γ s v d
def tD (g : QL.Env → M D) : TE := fun σ H Q => ∃ ρ s, s.H = H ∧ EnvOk Γ s σ ρ ∧ StOk Γ s ∧ Rs Γ W s (g ρ s.μ) fun d s' => ∀ v, RV Γ s' v d → Q v s'.H
def tDT (g : QL.Env → M Bool) : TT := fun σ H Q => ∃ ρ s, s.H = H ∧ EnvOk Γ s σ ρ ∧ StOk Γ s ∧ Rs Γ W s (g ρ s.μ) fun b s' => Q b s'.H
def tDA (g : QL.Env → M (List D)) : L2.TA := fun σ H Q => ∃ ρ s, s.H = H ∧ EnvOk Γ s σ ρ ∧ StOk Γ s ∧ Rs Γ W s (g ρ s.μ) fun ds s' => ∀ vs, RVs Γ s' vs ds → Q vs s'.H
def tDS (g : QL.Env → M Flw) : TS := fun E σ H => ∃ ρ s, s.H = H ∧ EnvOk Γ s σ ρ ∧ StOk Γ s ∧ Rs Γ W s (g ρ s.μ) fun fl s' => match fl with
  | .nx ρ' => ∀ σ', EnvOk Γ s' σ' ρ' → E.nx σ' s'.H
  | .rt d => ∀ v, RV Γ s' v d → E.rt v s'.H
/-- a pair that is given out to be taken apart, or any other thing -/
def IRV (s : Stt) (x : V) (d : D) : Prop := RV Γ s x d ∨ ∃ T vs ds, x = .ref T ∧ s.H T = some (.tup vs) ∧ d = .tup ds ∧ RVs Γ s vs ds
structure ItD (J : It) (s : Stt) (pr : Bool) (items : List D) : Prop where
  goes : ∀ i s1, LeD s s1 → i < items.length → J.go i s1.H
  stops : ∀ s1, LeD s s1 → J.stop items.length s1.H
  yields : ∀ i s1 x H', LeD s s1 → StOk Γ s1 → i < items.length → J.yld i s1.H x H' →
    ∃ s2 d, s2.H = H' ∧ Le s1 s2 ∧ StOk Γ s2 ∧ s2.μ = s1.μ ∧ items[i]? = some d ∧ (if pr = true then IRV Γ s2 x d else RV Γ s2 x d)
def tDI (pr : Bool) (g : QL.Env → M (List D)) : TI := fun σ H R => ∃ ρ s, s.H = H ∧ EnvOk Γ s σ ρ ∧ StOk Γ s ∧ Rs Γ W s (g ρ s.μ) fun ds s' => ∀ J, ItD Γ J s' pr ds → R J s'.H
end
section
variable {Γ : Inf} {W : XK} {α β : Type} {s : Stt}
theorem Rs.bind {r : Res α} {f : α → M β} {k : β → Stt → Prop} (h : Rs Γ W s (r.bind f) k) : Rs Γ W s r fun a s1 => Rs Γ W s1 (f a s1.μ) k := by
  cases r with
  | ok a m =>
    intro s1 l1 o1 e1
    subst e1
    have h' : Rs Γ W s (f a s1.μ) k := h
    revert h'
    cases f a s1.μ with
    | ok b m2 => exact fun h' s2 l2 o2 e2 => h' s2 (l1.trans l2) o2 e2
    | ex c x m2 => exact fun h' s2 cls dd l2 o2 e2 => h' s2 cls dd (l1.trans l2) o2 e2
    | bad => exact fun h' => h'
  | ex c x m => exact h
  | bad => exact h
theorem Rs.bindM {x : M α} {f : α → M β} {m : Mem} {k : β → Stt → Prop} (h : Rs Γ W s (M.bind x f m) k) : Rs Γ W s (x m) fun a s1 => Rs Γ W s1 (f a s1.μ) k := Rs.bind h
theorem Rs.imp {r : Res α} {k k' : α → Stt → Prop} (h : Rs Γ W s r k) (i : ∀ a s', Le s s' → StOk Γ s' → k a s' → k' a s') : Rs Γ W s r k' := by
  cases r with
  | ok a m => exact fun s' l o e => i a s' l o (h s' l o e)
  | ex c x m => exact h
  | bad => exact h
theorem Rs.pure {a : α} {k : α → Stt → Prop} (h : Rs Γ W s (M.pure a s.μ) k) (o : StOk Γ s) : k a s := h s (Le.refl s) o rfl
theorem Rs.ofO {o : Option α} {k : α → Stt → Prop} (h : Rs Γ W s (QL.ofO o s.μ) k) (ok : StOk Γ s) : ∃ a, o = some a ∧ k a s := by
  cases o with
  | none => exact h.elim
  | some a => exact ⟨a, rfl, h s (Le.refl s) ok rfl⟩
theorem Rs.ofO' {o : Option α} {k : α → Stt → Prop} (h : Rs Γ W s (QL.ofO o s.μ) k) : ∃ a, o = some a ∧ Rs Γ W s (.ok a s.μ) k := by
  cases o with
  | none => exact h.elim
  | some a => exact ⟨a, rfl, h⟩
theorem EnvOk.monoD {s' : Stt} {σ : L2.St} {ρ : QL.Env} (h : EnvOk Γ s σ ρ) (l : LeD s s') : EnvOk Γ s' σ ρ :=
  ⟨h.len, fun i d e => let ⟨v, h1, h2⟩ := h.at_ i d e; ⟨v, h1, l.rv h2⟩⟩
theorem EnvOk.mono {s' : Stt} {σ : L2.St} {ρ : QL.Env} (h : EnvOk Γ s σ ρ) (l : Le s s') : EnvOk Γ s' σ ρ :=
  ⟨h.len, fun i d e => let ⟨v, h1, h2⟩ := h.at_ i d e; ⟨v, h1, l.rv h2⟩⟩
theorem EnvOk.set {σ : L2.St} {ρ : QL.Env} {i : Nat} {v : V} {d : D} (h : EnvOk Γ s σ ρ) (r : RV Γ s v d) : EnvOk Γ s (σ.set i (some v)) (ρ.set i (some d)) := by
  refine ⟨by rw [List.length_set, List.length_set, h.len], fun j e hj => ?_⟩
  by_cases hij : i = j
  · subst hij
    by_cases hl : i < ρ.length
    · rw [List.getElem?_set_self hl] at hj
      cases hj
      exact ⟨v, List.getElem?_set_self (by rw [h.len]; exact hl), r⟩
    · rw [List.getElem?_eq_none (by rw [List.length_set]; omega)] at hj
      cases hj
  · rw [List.getElem?_set_ne hij] at hj ⊢
    exact h.at_ j e hj
theorem EnvOk.wipe1 {σ : L2.St} {ρ : QL.Env} {i : Nat} (h : EnvOk Γ s σ ρ) : EnvOk Γ s (σ.set i none) (ρ.set i none) := by
  refine ⟨by rw [List.length_set, List.length_set, h.len], fun j e hj => ?_⟩
  by_cases hij : i = j
  · subst hij
    by_cases hl : i < ρ.length
    · rw [List.getElem?_set_self hl] at hj
      cases hj
    · rw [List.getElem?_eq_none (by rw [List.length_set]; omega)] at hj
      cases hj
  · rw [List.getElem?_set_ne hij] at hj ⊢
    exact h.at_ j e hj
theorem EnvOk.wipe {σ : L2.St} {ρ : QL.Env} : ∀ (vs : List Nat), EnvOk Γ s σ ρ → EnvOk Γ s (wipe σ vs) (wipeE ρ vs)
  | [], h => h
  | v :: vs, h => (EnvOk.wipe vs h).wipe1
end

/-- where one stands -/
structure CtxOk (Γ : Inf) (P : Program) (w : World) (mg : Str → Option Value) (base : Heap) (CX : CXT) (k : Nat) (N : List Str) (sc : Scope) (fnb : Str → Bool) (W : XK) (X : Cx) : Prop where
  hP : X.prog = P
  hw : X.w = w
  hK : X.K = Γ.K
  hmg : X.mg = mg
  hbase : X.base = base
  hN : X.N = N
  nd : N.Nodup
  hsc : X.env.scope = sc
  calm : X.calm = true
  fn : ∀ x, fnb x = true → X.fn x = true
  room : Room k X.A
  pass : Passes CX X W
theorem _root_.L2.PE.imp {X : Cx} {e : Expr} {t t' : TE} (h : PE X e t) (i : ∀ σ H Q, t' σ H Q → t σ H Q) : PE X e t' := ⟨fun pins s σ H Q I q => h.run pins s σ H Q I (i σ H Q q)⟩
theorem _root_.L2.PT.imp {X : Cx} {e : Expr} {t t' : TT} (h : PT X e t) (i : ∀ σ H Q, t' σ H Q → t σ H Q) : PT X e t' := ⟨fun pins s σ H Q I q => h.run pins s σ H Q I (i σ H Q q)⟩
theorem _root_.L2.PW.imp {X : Cx} {e : Expr} {t t' : TT} (h : PW X e t) (i : ∀ σ H Q, t' σ H Q → t σ H Q) : PW X e t' := ⟨fun wh pins s σ H Q I q => h.run wh pins s σ H Q I (i σ H Q q)⟩
theorem _root_.L2.PA.imp {X : Cx} {e : List Expr} {t t' : L2.TA} (h : PA X e t) (i : ∀ σ H Q, t' σ H Q → t σ H Q) : PA X e t' := ⟨fun pos pins s σ H Q I q => h.run pos pins s σ H Q I (i σ H Q q)⟩
theorem _root_.L2.PS.imp {X : Cx} {e : Stmt} {t t' : TS} (h : PS X e t) (i : ∀ E σ H, t' E σ H → t E σ H) : PS X e t' := ⟨fun pins s σ H E I q => h.run pins s σ H E I (i E σ H q)⟩
theorem _root_.L2.PSs.imp {X : Cx} {e : List Stmt} {t t' : TS} (h : PSs X e t) (i : ∀ E σ H, t' E σ H → t E σ H) : PSs X e t' := ⟨fun pins s σ H E I q => h.run pins s σ H E I (i E σ H q)⟩
theorem _root_.L2.PI.imp {X : Cx} {tg e : Expr} {t t' : TI} (h : PI X tg e t) (i : ∀ σ H R, t' σ H R → t σ H R) : PI X tg e t' := ⟨fun pins s σ H R I q => h.run pins s σ H R I (i σ H R q)⟩

section
variable {Γ : Inf} {X : Cx} {W : XK} {G : Gs} {pos : Pos}
theorem d_var {i : Nat} {x : Str} (hN : X.N[i]? = some x) (hv : Vis X.env.scope x) (hd : (x == ("__debug__" : Str)) = false) (hcd : (x == ("__classdict__" : Str)) = false) : PE X (.Name x pos) (tD Γ W (ev G (.var i))) := by
  refine (pe_var hN hv hd hcd).imp fun σ H Q h => ?_
  obtain ⟨ρ, s, rfl, ho, so, h⟩ := h
  have h : Rs Γ W s (getM ρ i s.μ) _ := h
  cases e : ρ[i]? with
  | none =>
    simp only [getM, e] at h
    exact h.elim
  | some o =>
    cases o with
    | none =>
      simp only [getM, e] at h
      exact h.elim
    | some d =>
      simp only [getM, e] at h
      obtain ⟨v, h1, h2⟩ := ho.at_ i d e
      exact ⟨v, h1, (h.pure so) v h2⟩
theorem d_const {e : Expr} {v : V} {d : D} (h : PE X e (tC v)) (r : ∀ s, RV Γ s v d) : PE X e (tD Γ W fun _ => M.pure d) := by
  refine h.imp fun σ H Q h => ?_
  obtain ⟨ρ, s, rfl, ho, so, h⟩ := h
  exact (h.pure so) v (r s)
/-- two in a row -/
theorem d_bin {e : Expr} {ga gb : QL.Env → M D} {f : D → D → M D} {r : R2} (h : PE X e (tOp r (tD Γ W ga) (tD Γ W gb)))
    (hr : ∀ s x y a b Q, StOk Γ s → RV Γ s x a → RV Γ s y b → Rs Γ W s (f a b s.μ) (fun d s' => ∀ v, RV Γ s' v d → Q v s'.H) → r x y s.H Q) :
    PE X e (tD Γ W fun ρ => M.bind (ga ρ) fun x => M.bind (gb ρ) fun y => f x y) := by
  refine h.imp fun σ H Q h => ?_
  obtain ⟨ρ, s, rfl, ho, so, h⟩ := h
  refine ⟨ρ, s, rfl, ho, so, h.bindM.imp fun a s1 l1 o1 h1 v rv => ?_⟩
  refine ⟨ρ, s1, rfl, ho.mono l1, o1, h1.bindM.imp fun b s2 l2 o2 h2 u ru => ?_⟩
  exact hr s2 v u a b Q o2 (l2.rv rv) ru h2
theorem d_un {e : Expr} {ga : QL.Env → M D} {f : D → M D} {r : V → Hp → VK → Prop} (h : PE X e (tUn r (tD Γ W ga)))
    (hr : ∀ s x a Q, StOk Γ s → RV Γ s x a → Rs Γ W s (f a s.μ) (fun d s' => ∀ v, RV Γ s' v d → Q v s'.H) → r x s.H Q) :
    PE X e (tD Γ W fun ρ => M.bind (ga ρ) f) := by
  refine h.imp fun σ H Q h => ?_
  obtain ⟨ρ, s, rfl, ho, so, h⟩ := h
  exact ⟨ρ, s, rfl, ho, so, h.bindM.imp fun a s1 l1 o1 h1 v rv => hr s1 v a Q o1 rv h1⟩
/-- a call of a built-in with one argument -/
theorem d_cb {e a : Expr} {ga : QL.Env → M D} {f : D → M D} {r : List V → Hp → VK → Prop} (h : ∀ {t : L2.TA}, PA X [a] t → PE X e (tCB r t)) (ha : PE X a (tD Γ W ga)) (hs : starEach [a] X.env = (false, eval a X.env) :: starEach [] X.env)
    (hr : ∀ s x a Q, StOk Γ s → RV Γ s x a → Rs Γ W s (f a s.μ) (fun d s' => ∀ v, RV Γ s' v d → Q v s'.H) → r [x] s.H Q) :
    PE X e (tD Γ W fun ρ => M.bind (ga ρ) f) := by
  refine (h (pa_cons ha pa_nil hs)).imp fun σ H Q h => ?_
  obtain ⟨ρ, s, rfl, ho, so, h⟩ := h
  exact ⟨ρ, s, rfl, ho, so, h.bindM.imp fun a s1 l1 o1 h1 v rv => hr s1 v a Q o1 rv h1⟩
theorem d_cb2 {e a b : Expr} {ga gb : QL.Env → M D} {f : D → D → M D} {r : List V → Hp → VK → Prop} (h : ∀ {t : L2.TA}, PA X [a, b] t → PE X e (tCB r t)) (ha : PE X a (tD Γ W ga)) (hb : PE X b (tD Γ W gb)) (hs : starEach [a, b] X.env = (false, eval a X.env) :: starEach [b] X.env) (hs2 : starEach [b] X.env = (false, eval b X.env) :: starEach [] X.env)
    (hr : ∀ s x y a b Q, StOk Γ s → RV Γ s x a → RV Γ s y b → Rs Γ W s (f a b s.μ) (fun d s' => ∀ v, RV Γ s' v d → Q v s'.H) → r [x, y] s.H Q) :
    PE X e (tD Γ W fun ρ => M.bind (ga ρ) fun x => M.bind (gb ρ) fun y => f x y) := by
  refine (h (pa_cons ha (pa_cons hb pa_nil hs2) hs)).imp fun σ H Q h => ?_
  obtain ⟨ρ, s, rfl, ho, so, h⟩ := h
  refine ⟨ρ, s, rfl, ho, so, h.bindM.imp fun a s1 l1 o1 h1 v rv => ?_⟩
  refine ⟨ρ, s1, rfl, ho.mono l1, o1, h1.bindM.imp fun b s2 l2 o2 h2 u ru => ?_⟩
  exact hr s2 v u a b Q o2 (l2.rv rv) ru h2
/-! ### argument lists -/
theorem d_anil : PA X [] (tDA Γ W (evs G .nil)) := by
  refine pa_nil.imp fun σ H Q h => ?_
  obtain ⟨ρ, s, rfl, ho, so, h⟩ := h
  exact (show Rs Γ W s (M.pure [] s.μ) _ from h).pure so [] .nil
theorem d_acons {e : Expr} {es : List Expr} {a : E} {as : Es} (ha : PE X e (tD Γ W (ev G a))) (hr : PA X es (tDA Γ W (evs G as))) (hs : starEach (e :: es) X.env = (false, eval e X.env) :: starEach es X.env) :
    PA X (e :: es) (tDA Γ W (evs G (.cons a as))) := by
  refine (pa_cons ha hr hs).imp fun σ H Q h => ?_
  obtain ⟨ρ, s, rfl, ho, so, h⟩ := h
  have h : Rs Γ W s (M.bind (ev G a ρ) (fun d => M.bind (evs G as ρ) fun l => M.pure (d :: l)) s.μ) _ := h
  refine ⟨ρ, s, rfl, ho, so, h.bindM.imp fun a s1 l1 o1 h1 v rv => ?_⟩
  refine ⟨ρ, s1, rfl, ho.mono l1, o1, h1.bindM.imp fun b s2 l2 o2 h2 u ru => ?_⟩
  exact (h2.pure o2) (v :: u) (.cons (l2.rv rv) ru)
theorem notStar {e : Expr} {es : List Expr} {env : PySem.Env} (h : ∀ a p, e ≠ .Starred a p) : starEach (e :: es) env = (false, eval e env) :: starEach es env := by
  cases e <;> first | rfl | exact absurd rfl (h _ _)
/-! ### tests -/
theorem d_tval {e : Expr} {g : QL.Env → M D} (h : PE X e (tD Γ W g)) (he : ∀ whole, isTrue e X.env whole = (do let v ← whole; standAt e.pos; holding [v] (truthy v))) : PT X e (tDT Γ W fun ρ => M.bind (g ρ) truth) := by
  refine (pt_val h he).imp fun σ H Q h => ?_
  obtain ⟨ρ, s, rfl, ho, so, h⟩ := h
  refine ⟨ρ, s, rfl, ho, so, h.bindM.imp fun a s1 l1 o1 h1 v rv => ?_⟩
  unfold truth at h1
  split at h1
  · cases rv
    exact ⟨_, rfl, h1.pure o1⟩
  · exact h1.elim
theorem d_ite {c a b : Expr} {gc : QL.Env → M Bool} {ga gb : QL.Env → M D} (hc : PT X c (tDT Γ W gc)) (ha : PE X a (tD Γ W ga)) (hb : PE X b (tD Γ W gb)) :
    PE X (.IfExp c a b pos) (tD Γ W fun ρ => M.bind (gc ρ) fun t => if t = true then ga ρ else gb ρ) := by
  refine (pe_ifExp hc ha hb).imp fun σ H Q h => ?_
  obtain ⟨ρ, s, rfl, ho, so, h⟩ := h
  refine ⟨ρ, s, rfl, ho, so, h.bindM.imp fun t s1 l1 o1 h1 => ?_⟩
  cases t with
  | true => exact ⟨ρ, s1, rfl, ho.mono l1, o1, h1⟩
  | false => exact ⟨ρ, s1, rfl, ho.mono l1, o1, h1⟩
theorem d_tnot {a : Expr} {ga : QL.Env → M Bool} (ha : PT X a (tDT Γ W ga)) : PT X (.UnaryOp .Not a pos) (tDT Γ W fun ρ => M.bind (ga ρ) fun b => M.pure (!b)) := by
  refine (pt_not ha).imp fun σ H Q h => ?_
  obtain ⟨ρ, s, rfl, ho, so, h⟩ := h
  exact ⟨ρ, s, rfl, ho, so, h.bindM.imp fun t s1 l1 o1 h1 => h1.pure o1⟩
theorem d_not {a : Expr} {ga : QL.Env → M D} (ha : PE X a (tD Γ W ga)) : PE X (.UnaryOp .Not a pos) (tD Γ W fun ρ => M.bind (ga ρ) fun x => M.bind (truth x) fun b => M.pure (.bl (!b))) := by
  refine (pe_not ha).imp fun σ H Q h => ?_
  obtain ⟨ρ, s, rfl, ho, so, h⟩ := h
  refine ⟨ρ, s, rfl, ho, so, h.bindM.imp fun t s1 l1 o1 h1 v rv => ?_⟩
  unfold truth at h1
  split at h1
  · cases rv
    exact ⟨_, rfl, (h1.bindM.pure o1).pure o1 _ (.bl _)⟩
  · exact h1.elim
theorem d_and {a b : Expr} {r : List Expr} {x y : E} {es : Es} (ha : PE X a (tD Γ W (ev G x))) (hb : PE X (.BoolOp .And (b :: r) pos) (tD Γ W (evAnd G (.cons y es)))) : PE X (.BoolOp .And (a :: b :: r) pos) (tD Γ W (evAnd G (.cons x (.cons y es)))) := by
  refine (pe_and ha hb).imp fun σ H Q h => ?_
  obtain ⟨ρ, s, rfl, ho, so, h⟩ := h
  have h : Rs Γ W s (M.bind (ev G x ρ) (fun d => M.bind (truth d) fun b => if b = true then evAnd G (.cons y es) ρ else M.pure (.bl false)) s.μ) _ := h
  refine ⟨ρ, s, rfl, ho, so, h.bindM.imp fun t s1 l1 o1 h1 v rv => ?_⟩
  unfold truth at h1
  split at h1
  · rename_i c
    cases rv
    have h2 := h1.bindM.pure o1
    refine ⟨c, rfl, ?_⟩
    cases c with
    | true => exact ⟨ρ, s1, rfl, ho.mono l1, o1, h2⟩
    | false => exact h2.pure o1 _ (.bl _)
  · exact h1.elim
theorem d_or {a b : Expr} {r : List Expr} {x y : E} {es : Es} (ha : PE X a (tD Γ W (ev G x))) (hb : PE X (.BoolOp .Or (b :: r) pos) (tD Γ W (evOr G (.cons y es)))) : PE X (.BoolOp .Or (a :: b :: r) pos) (tD Γ W (evOr G (.cons x (.cons y es)))) := by
  refine (pe_or ha hb).imp fun σ H Q h => ?_
  obtain ⟨ρ, s, rfl, ho, so, h⟩ := h
  have h : Rs Γ W s (M.bind (ev G x ρ) (fun d => M.bind (truth d) fun b => if b = true then M.pure (.bl true) else evOr G (.cons y es) ρ) s.μ) _ := h
  refine ⟨ρ, s, rfl, ho, so, h.bindM.imp fun t s1 l1 o1 h1 v rv => ?_⟩
  unfold truth at h1
  split at h1
  · rename_i c
    cases rv
    have h2 := h1.bindM.pure o1
    refine ⟨c, rfl, ?_⟩
    cases c with
    | false => exact ⟨ρ, s1, rfl, ho.mono l1, o1, h2⟩
    | true => exact h2.pure o1 _ (.bl _)
  · exact h1.elim
theorem d_tand {a b : Expr} {r : List Expr} {x y : E} {es : Es} (ha : PT X a (tDT Γ W (evT G x))) (hb : PW X (.BoolOp .And (b :: r) pos) (tDT Γ W (evAndT G (.cons y es)))) : PW X (.BoolOp .And (a :: b :: r) pos) (tDT Γ W (evAndT G (.cons x (.cons y es)))) := by
  refine (pw_and ha hb).imp fun σ H Q h => ?_
  obtain ⟨ρ, s, rfl, ho, so, h⟩ := h
  have h : Rs Γ W s (M.bind (evT G x ρ) (fun b => if b = true then evAndT G (.cons y es) ρ else M.pure false) s.μ) _ := h
  · refine ⟨ρ, s, rfl, ho, so, h.bindM.imp fun t s1 l1 o1 h1 => ?_⟩
    cases t with
    | true => exact ⟨ρ, s1, rfl, ho.mono l1, o1, h1⟩
    | false => exact h1.pure o1
theorem d_tor {a b : Expr} {r : List Expr} {x y : E} {es : Es} (ha : PT X a (tDT Γ W (evT G x))) (hb : PW X (.BoolOp .Or (b :: r) pos) (tDT Γ W (evOrT G (.cons y es)))) : PW X (.BoolOp .Or (a :: b :: r) pos) (tDT Γ W (evOrT G (.cons x (.cons y es)))) := by
  refine (pw_or ha hb).imp fun σ H Q h => ?_
  obtain ⟨ρ, s, rfl, ho, so, h⟩ := h
  have h : Rs Γ W s (M.bind (evT G x ρ) (fun b => if b = true then M.pure true else evOrT G (.cons y es) ρ) s.μ) _ := h
  · refine ⟨ρ, s, rfl, ho, so, h.bindM.imp fun t s1 l1 o1 h1 => ?_⟩
    cases t with
    | false => exact ⟨ρ, s1, rfl, ho.mono l1, o1, h1⟩
    | true => exact h1.pure o1
end
end QS
end
section
set_option linter.all false
set_option maxRecDepth 100000
set_option autoImplicit false
/-! QS3: what the operations are worth. -/
namespace QS
open PySem PySem.Spec PyProof.Rows L2 QL

section
variable {Γ : Inf} {W : XK}
/-! ### a new object -/
theorem own_tracked {s : Stt} {a : Addr} (so : StOk Γ s) (h : own s a) : s.H a ≠ none := by
  rcases h with h | ⟨n, c, e, l, rfl⟩
  · exact so.trk a h
  · have q := so.cell n c e
    cases c with
    | lst ds => obtain ⟨vs, h1, _⟩ := q; rw [h1]; exact fun z => nomatch z
    | ins _ _ _ => obtain ⟨_, vs, h1, _⟩ := q; rw [h1]; exact fun z => nomatch z
    | dct _ _ => exact q.elim
    | dead => cases l
theorem CellOk.mono {s s' : Stt} {n : Nat} {c : Cell} (l : Le s s') (h : CellOk Γ s n c) (e : live c = true → s'.H (s'.α n) = s.H (s.α n)) : CellOk Γ s' n c := by
  cases c with
  | lst ds => obtain ⟨vs, h1, h2⟩ := h; exact ⟨vs, (e rfl).trans h1, l.rvs h2⟩
  | ins _ _ _ => obtain ⟨dx, vs, h1, h2, h3⟩ := h; exact ⟨dx, vs, (e rfl).trans h1, l.rvs h2, h3⟩
  | dct _ _ => exact h.elim
  | dead => trivial
abbrev laid (s : Stt) (p : Addr) (o : HO) : Stt := { s with H := upd s.H p o }
theorem new_st {s : Stt} {p : Addr} (so : StOk Γ s) (hp : s.H p = none) (o : HO) : Le s (laid s p o) ∧ StOk Γ (laid s p o) ∧ ¬ own (laid s p o) p := by
  have np : ¬ own s p := fun h => own_tracked so h hp
  have ne : ∀ b, s.H b ≠ none → b ≠ p := fun b h z => h (z ▸ hp)
  have le : Le s (laid s p o) := by
    refine ⟨LeD.of (Nat.le_refl _) (fun _ _ => rfl) fun b u h e => ⟨h, ?_⟩, fun b h => ⟨h, ?_⟩⟩
    · show upd s.H p o b = some u
      rw [upd_ne (ne_of_none e hp)]
      exact e
    · show upd s.H p o b = s.H b
      exact upd_ne (ne b (so.trk b h))
  refine ⟨le, ⟨fun n c e => (so.cell n c e).mono le fun l => ?_, so.inj, so.hid, fun b h => ?_⟩, np⟩
  · show upd s.H p o (s.α n) = s.H (s.α n)
    exact upd_ne (ne _ (own_tracked so (.inr ⟨n, c, e, l, rfl⟩)))
  · show upd s.H p o b ≠ none
    rw [upd_ne (ne b (so.trk b h))]
    exact so.trk b h
/-- a new list, a new tuple -/
theorem new_lst {s : Stt} {p : Addr} {vs : List V} {ds : List D} (so : StOk Γ s) (hp : s.H p = none) (r : RVs Γ s vs ds) : RV Γ (laid s p (.lst vs)) (.ref p) (.lst ds) :=
  let ⟨l, _, n⟩ := new_st so hp (.lst vs)
  .lst ⟨n, .inl upd_same⟩ (l.rvs r)
theorem new_tup {s : Stt} {p : Addr} {o : Obj} {vs : List V} {ds : List D} (so : StOk Γ s) (hp : s.H p = none) (hd : o.dict = none) (r : RVs Γ s vs ds) : RV Γ (laid s p (.frz o (.tup vs))) (.ref p) (.tup ds) :=
  let ⟨l, _, n⟩ := new_st so hp (.frz o (.tup vs))
  .tup (.inl ⟨n, o, upd_same, hd⟩) (l.rvs r)
/-- what is to hold of the answer -/
abbrev KD (Γ : Inf) (Q : VK) : D → Stt → Prop := fun d s' => ∀ v, RV Γ s' v d → Q v s'.H
def rD1 (Γ : Inf) (W : XK) (f : D → M D) : V → Hp → VK → Prop := fun x H Q => ∃ s a, s.H = H ∧ StOk Γ s ∧ RV Γ s x a ∧ Rs Γ W s (f a s.μ) (KD Γ Q)
def rD2 (Γ : Inf) (W : XK) (f : D → D → M D) : R2 := fun x y H Q => ∃ s a b, s.H = H ∧ StOk Γ s ∧ RV Γ s x a ∧ RV Γ s y b ∧ Rs Γ W s (f a b s.μ) (KD Γ Q)
theorem do1_of {s : Stt} {o : O1} {a : D} {k : D → Stt → Prop} (so : StOk Γ s) (ho : o ≠ .freeze) (h : Rs Γ W s (doM1 o a s.μ) k) : ∃ d, do1 o a s.μ = some d ∧ Rs Γ W s (.ok d s.μ) k := by
  have e : doM1 o a s.μ = ofO (do1 o a s.μ) s.μ := by cases o <;> first | rfl | exact absurd rfl ho
  rw [e] at h
  cases q : do1 o a s.μ with
  | none => rw [q] at h; exact h.elim
  | some d => rw [q] at h; exact ⟨d, rfl, h⟩
theorem do2_of {s : Stt} {o : O2} {a b : D} {k : D → Stt → Prop} (so : StOk Γ s) (ho : o ≠ .append) (h : Rs Γ W s (doM2 o a b s.μ) k) : ∃ d, do2 o a b s.μ = some d ∧ Rs Γ W s (.ok d s.μ) k := by
  have e : doM2 o a b s.μ = ofO (do2 o a b s.μ) s.μ := by cases o <;> first | rfl | exact absurd rfl ho
  rw [e] at h
  cases q : do2 o a b s.μ with
  | none => rw [q] at h; exact h.elim
  | some d => rw [q] at h; exact ⟨d, rfl, h⟩
theorem Rs.now {s : Stt} {d : D} {k : D → Stt → Prop} (h : Rs Γ W s (.ok d s.μ) k) (so : StOk Γ s) : k d s := h s (Le.refl s) so rfl
/-- behind a new list -/
theorem Rs.lst {s : Stt} {p : Addr} {vs : List V} {ds : List D} {Q : VK} (h : Rs Γ W s (.ok (.lst ds) s.μ) (KD Γ Q)) (so : StOk Γ s) (hp : s.H p = none) (r : RVs Γ s vs ds) : Q (.ref p) (upd s.H p (.lst vs)) :=
  let ⟨l, o, _⟩ := new_st so hp (.lst vs)
  h (laid s p (.lst vs)) l o rfl _ (new_lst so hp r)
theorem Rs.tup {s : Stt} {p : Addr} {ob : Obj} {vs : List V} {ds : List D} {Q : VK} (h : Rs Γ W s (.ok (.tup ds) s.μ) (KD Γ Q)) (so : StOk Γ s) (hp : s.H p = none) (hd : ob.dict = none) (r : RVs Γ s vs ds) : Q (.ref p) (upd s.H p (.frz ob (.tup vs))) :=
  let ⟨l, o, _⟩ := new_st so hp (.frz ob (.tup vs))
  h (laid s p (.frz ob (.tup vs))) l o rfl _ (new_tup so hp hd r)
/-- what a list, a tuple, a cell's list is read as -/
theorem seq_rd {s : Stt} {x : V} {a : D} {l : List D} (so : StOk Γ s) (r : RV Γ s x a) (e : seqOf s.μ a = some l) : ∃ p vs, x = .ref p ∧ (SqL Γ.K s.H p vs ∨ SqT Γ.K s.H p vs) ∧ RVs Γ s vs l := by
  cases r with
  | lst h1 h2 => cases e; exact ⟨_, _, rfl, .inl h1.sq, h2⟩
  | tup h1 h2 => cases e; exact ⟨_, _, rfl, .inr h1.sq, h2⟩
  | ref hn =>
    rename_i n
    simp only [seqOf] at e
    split at e
    · rename_i l' e'
      cases e
      obtain ⟨vs, h1, h2⟩ := so.cell n _ e'
      exact ⟨_, vs, rfl, .inl (SqL.of h1), h2⟩
    · cases e
  | _ => cases e
end
section
variable {Γ : Inf} {W : XK} {X : Cx}
theorem lim_eq : LIM = sizeLine := rfl
/-! ### whole numbers -/
theorem od_int {f : Value → Value → Sem Value} {o : O2} (g : Int → Int → D) (gv : Int → Int → V) (C : Int → Int → Prop) (ho : o ≠ .append) (h : OpR X f (rI C gv))
    (hd : ∀ a b m d, do2 o a b m = some d → ∃ i j, a = .int i ∧ b = .int j ∧ C i j ∧ d = g i j) (hg : ∀ i j s, RV Γ s (gv i j) (g i j)) : OpR X f (rD2 Γ W (doM2 o)) := by
  intro pins st σ H x y v u Q I rx ry q
  obtain ⟨s, a, b, rfl, so, ra, rb, q⟩ := q
  obtain ⟨d, e, q⟩ := do2_of so ho q
  obtain ⟨i, j, rfl, rfl, hc, rfl⟩ := hd a b _ d e
  cases ra
  cases rb
  exact h pins st σ s.H _ _ v u Q I rx ry ⟨i, j, rfl, rfl, hc, q.now so _ (hg i j s)⟩
theorem rI0_rI {f : Value → Value → Sem Value} {g : Int → Int → V} (h : OpR X f (rI0 g)) : OpR X f (rI (fun _ _ => True) g) := fun pins s σ H x y v u Q I rx ry q => by
  obtain ⟨i, j, h1, h2, _, q⟩ := q
  exact h pins s σ H x y v u Q I rx ry ⟨i, j, h1, h2, q⟩
/-! ### tuples made, their objects known -/
abbrev tupO' (us : List Value) (n : Nat) : Obj := { cls := .type "tuple", data := .seq us.toArray n }
theorem tup_laid {pins : List (Addr × Obj)} {σ : L2.St} {H : Hp} {s : Shared} {us : List Value} {vs : List V} {t : Nat} (I : Inv X pins σ H s) (r : Vals vs us) (z : vs.length ≤ sizeLine) :
    Inv X pins σ (upd H s.heap.objs.size (.frz (tupO' us 0) (.tup vs))) { s with heap := s.heap.push (tupO' us 0), toks := t } :=
  I.laid (t' := t) (o := .frz (tupO' us 0) (.tup vs)) (fun b u e => Heap.get?_push_of_some _ e) (Nat.le_refl _) ⟨Heap.get?_push_size _ rfl, z, us, r, IsTup.new _ _⟩
def tTupF (t : L2.TA) : TE := fun σ H Q => t σ H fun xs H1 => xs.length ≤ sizeLine ∧ ∀ p o, H1 p = none → o.dict = none → Q (.ref p) (upd H1 p (.frz o (.tup xs)))
theorem pe_tupF {es : List Expr} {t : L2.TA} {x1 : Nat} {pos : Pos} (h : PA X es t) : PE X (.Tuple es x1 pos) (tTupF t) := by
  refine ⟨fun pins s σ H Q I hq => ?_⟩
  refine wpAny_Tuple_spliced (thn (h.run pos pins s σ H _ I hq) fun us s1 ⟨xs, H1, I1, r, z, q⟩ => ⟨by rw [← r.length]; exact z, ?_⟩)
  exact ⟨.ref s1.heap.objs.size, _, tup_laid (t := s1.toks) I1 r z, rfl, q _ _ (I1.hok.fresh (Nat.le_refl _)) rfl⟩
def rCatF (K : PySem.W.Frag) : R2 := fun x y H Q => ∃ a b xs ys, x = .ref a ∧ y = .ref b ∧ SqT K H a xs ∧ SqT K H b ys ∧ xs.length + ys.length ≤ sizeLine ∧
  (xs = [] → Q (.ref b) H) ∧ (xs ≠ [] → ys = [] → Q (.ref a) H) ∧ (xs ≠ [] → ys ≠ [] → ∀ p o, H p = none → o.dict = none → Q (.ref p) (upd H p (.frz o (.tup (xs ++ ys)))))
theorem op_catF : OpR X (binaryOp .Add) (rCatF X.K) := by
  intro pins s σ H x y v u Q I rx ry h
  obtain ⟨a, b, xs, ys, rfl, rfl, ha, hb, hz, q0, q1, q2⟩ := h
  cases rx
  cases ry
  obtain ⟨its, r1, p1, _⟩ := I.tuple ha
  obtain ⟨its2, r2, p2, _⟩ := I.tuple hb
  by_cases hx : xs = []
  · subst hx
    cases r1
    exact cat_tup0 p1 p2 ⟨.ref b, H, I, rfl, q0 rfl⟩
  · refine HT.cat_tup p1 p2 (fun z => hx (r1.nil_iff.mp z)) (fun z => ⟨.ref a, H, I, rfl, q1 hx (r2.nil_iff.mp z)⟩) (fun z => ?_) (by rw [← r1.length, ← r2.length]; exact hz)
    exact ⟨.ref s.heap.objs.size, _, tup_laid (t := s.toks) I (r1.append r2) (by rw [List.length_append]; exact hz), rfl, q2 hx (fun w => z (r2.nil_iff.mpr w)) _ _ (I.hok.fresh (Nat.le_refl _)) rfl⟩
theorem call_tuple_ofF : CallR X (.type "tuple") (fun xs H Q => ∃ p ys, xs = [.ref p] ∧ ((SqL X.K H p ys ∧ ∀ l o, H l = none → o.dict = none → Q (.ref l) (upd H l (.frz o (.tup ys)))) ∨ (SqT X.K H p ys ∧ Q (.ref p) H))) := by
  intro pins s σ H xs us Q I r h
  obtain ⟨p, ys, rfl, h⟩ := h
  obtain ⟨u, rfl, rx⟩ := vals1 r
  cases rx
  rcases h with ⟨hq, q⟩ | ⟨hq, q⟩
  · obtain ⟨its, r', pl, hz⟩ := I.list hq
    have hlen := r'.length
    refine call_tuple_list pl.isList (fun h' kp => ?_) (by simp only [List.size_toArray] <;> omega)
    have I1 : Inv X pins σ H { s with heap := h' } := I.kept (t' := s.toks) kp
    exact ⟨.ref h'.objs.size, _, tup_laid (t := s.toks) I1 r' hz, rfl, q _ _ (I1.hok.fresh (Nat.le_refl _)) rfl⟩
  · obtain ⟨its, r', pl, hz⟩ := I.tuple hq
    exact call_tuple_same pl ⟨.ref p, H, I, rfl, q⟩
def rSlF (K : PySem.W.Frag) : V → Option Int → Option Int → Hp → VK → Prop := fun x lo hi H Q => ∃ a xs, x = .ref a ∧ SqT K H a xs ∧
  (HT.sIx xs.length 0 lo = 0 ∧ HT.sIx xs.length xs.length hi = xs.length → Q (.ref a) H) ∧ (¬ (HT.sIx xs.length 0 lo = 0 ∧ HT.sIx xs.length xs.length hi = xs.length) → ∀ p o, H p = none → o.dict = none → Q (.ref p) (upd H p (.frz o (.tup (cutV xs lo hi)))))
theorem sl_tupF : SlR X (rSlF X.K) := by
  intro pins s σ H x v vl vu lo hi sl Q I rx hs pl pu h
  obtain ⟨a, xs, rfl, hx, q1, q2⟩ := h
  cases rx
  obtain ⟨its, r, ht, hz⟩ := I.tuple hx
  have hlen : its.toArray.size = xs.length := by rw [List.size_toArray]; exact r.length.symm
  refine ⟨"tuple", _, PyProof.Rows.slot_tuple_getitem.lookup, ht.typeIs, ?_⟩
  by_cases hw : HT.sIx xs.length 0 lo = 0 ∧ HT.sIx xs.length xs.length hi = xs.length
  · exact getItem_tuple_whole ht hs pl pu (by rw [hlen]; exact hw) ⟨.ref a, H, I, rfl, q1 hw⟩
  · refine HT.getItem_tuple_cut ht hs pl pu (by rw [hlen]; exact hw) ?_ (by rw [hlen]; exact hz)
    rw [hlen]
    exact ⟨.ref s.heap.objs.size, _, tup_laid (t := s.toks) I ((r.drop (HT.sIx xs.length 0 lo)).take (HT.sIx xs.length xs.length hi - HT.sIx xs.length 0 lo)) (Nat.le_trans (cutV_length xs lo hi) hz), rfl, q2 hw _ _ (I.hok.fresh (Nat.le_refl _)) rfl⟩
theorem od_sub : OpR X (binaryOp .Sub) (rD2 Γ W (doM2 .sub)) :=
  od_int (fun i j => .int (i - j)) (fun i j => .int (i - j)) (fun _ _ => True) (by decide) (rI0_rI op_sub) (fun a b m d e => by
    unfold do2 at e
    split at e <;> first | (cases e; done) | skip
    all_goals simp_all) fun i j s => .int _
theorem Inv.lstR {pins : List (Addr × Obj)} {σ : L2.St} {H : Hp} {s : Shared} {p : Addr} {xs : List V} (I : Inv X pins σ H s) (h : Rd H p (.lst xs)) :
    ∃ (its : List Value) (n : Nat), Vals xs its ∧ its.length = xs.length ∧ xs.length ≤ sizeLine ∧ s.heap.get? p = some { cls := .type "list", data := .seq its.toArray n } := by
  obtain ⟨z, its, n, r, e⟩ := h.ok I.hok
  exact ⟨its, n, r, r.length.symm, z, e⟩
def rCatL : R2 := fun x y H Q => ∃ l b xs zs, x = .ref l ∧ y = .ref b ∧ Rd H l (.lst xs) ∧ Rd H b (.lst zs) ∧ xs.length + zs.length ≤ sizeLine ∧ ∀ p, H p = none → Q (.ref p) (upd H p (.lst (xs ++ zs)))
theorem cat_lst : OpR X (binaryOp .Add) rCatL := by
  intro pins s σ H x y v u Q I rx ry h
  obtain ⟨l, b, xs, zs, rfl, rfl, hH, hB, hz, q⟩ := h
  cases rx
  cases ry
  obtain ⟨its, n, r, hl, z, e⟩ := QS.Inv.lstR I hH
  obtain ⟨its2, n2, r2, hl2, z2, e2⟩ := QS.Inv.lstR I hB
  refine PySem.P.add_list e e2 ?_ (by rw [List.size_toArray, List.size_toArray]; omega)
  have ea : its.toArray ++ its2.toArray = (its ++ its2).toArray := by simp
  rw [ea]
  exact ⟨.ref _, _, I.lnew (t' := s.toks) (r.append r2) (by rw [List.length_append]; omega), rfl, q _ I.fresh⟩
theorem add_of (hK : X.K = Γ.K) : OpR X (binaryOp .Add) (rD2 Γ W (doM2 .add)) := by
  intro pins st σ H x y v u Q I rx ry q
  obtain ⟨s, a, b, rfl, so, ra, rb, q⟩ := q
  obtain ⟨d, e, q⟩ := do2_of so (by decide) q
  cases a <;> cases b <;> simp only [do2, reduceCtorEq] at e
  · cases ra; cases rb; cases e
    exact op_add pins st σ s.H _ _ v u Q I rx ry ⟨_, _, rfl, rfl, q.now so _ (.int _)⟩
  · cases ra; cases rb
    split at e
    · cases e
      exact op_add_str pins st σ s.H _ _ v u Q I rx ry ⟨_, _, rfl, rfl, by assumption, q.now so _ (.str _)⟩
    · cases e
  · rename_i l k
    unfold tupO at e
    split at e
    · rename_i hz
      cases e
      cases ra with
      | tup h1 h2 =>
        rename_i p vs
        cases rb with
        | tup h3 h4 =>
          rename_i p2 ws
          have e1 := h2.length
          have e2 := h4.length
          rw [List.length_append, lim_eq] at hz
          refine op_catF pins st σ s.H _ _ v u Q I rx ry ⟨p, p2, vs, ws, rfl, rfl, hK ▸ h1.sq, hK ▸ h3.sq, by omega, fun z => ?_, fun _ z => ?_, fun _ _ p' o hp hd => q.tup so hp hd (h2.append h4)⟩
          · subst z
            cases h2
            exact q.now so _ (.tup h3 h4)
          · subst z
            cases h4
            rw [List.append_nil] at q
            exact q.now so _ (.tup h1 h2)
    · cases e
  · rename_i l k
    unfold lstO at e
    split at e
    · rename_i hz
      cases e
      cases ra with
      | lst h1 h2 =>
        rename_i p vs
        cases rb with
        | lst h3 h4 =>
          rename_i p2 ws
          have e1 := h2.length
          have e2 := h4.length
          rw [List.length_append, lim_eq] at hz
          exact cat_lst pins st σ s.H _ _ v u Q I rx ry ⟨p, p2, vs, ws, rfl, rfl, h1.2, h3.2, by omega, fun p' hp => q.lst so hp (h2.append h4)⟩
    · cases e
theorem mul_of : OpR X (binaryOp .Mult) (rD2 Γ W (doM2 .mul)) :=
  od_int (fun i j => .int (i * j)) (fun i j => .int (i * j)) CMulW (by decide) op_mulW (fun a b m d e => by
    cases a <;> cases b <;> simp only [do2, reduceCtorEq] at e
    split at e
    · rename_i h
      cases e
      exact ⟨_, _, rfl, rfl, wide_mul (a := 200) (b := 200) (Nat.lt_trans h.1 (by decide)) (Nat.lt_trans h.2 (by decide)) (by decide) (by decide) (by decide), rfl⟩
    · cases e) fun i j s => .int _
theorem fdiv_of : OpR X (binaryOp .FloorDiv) (rD2 Γ W (doM2 .fdiv)) :=
  od_int (fun i j => .int (i / j)) (fun i j => .int (i / j)) CDivW (by decide) op_fdivW (fun a b m d e => by
    cases a <;> cases b <;> simp only [do2, reduceCtorEq] at e
    split at e
    · rename_i h
      cases e
      exact ⟨_, _, rfl, rfl, wide_div h.1 (b := 200) (Nat.lt_trans h.2 (by decide)) (by decide) (by decide), rfl⟩
    · cases e) fun i j s => .int _
theorem mod_of : OpR X (binaryOp .Mod) (rD2 Γ W (doM2 .mod)) :=
  od_int (fun i j => .int (i % j)) (fun i j => .int (i % j)) (fun _ j => 0 < j) (by decide) op_mod (fun a b m d e => by
    cases a <;> cases b <;> simp only [do2, reduceCtorEq] at e
    split at e
    · cases e
      exact ⟨_, _, rfl, rfl, by assumption, rfl⟩
    · cases e) fun i j s => .int _
theorem pow_of : OpR X (binaryOp .Pow) (rD2 Γ W (doM2 .pow)) :=
  od_int (fun i j => .int (i ^ j.toNat)) (fun i j => .int (i ^ j.toNat)) CPow (by decide) op_pow (fun a b m d e => by
    cases a <;> cases b <;> simp only [do2, reduceCtorEq] at e
    split at e
    · cases e
      exact ⟨_, _, rfl, rfl, by assumption, rfl⟩
    · cases e) fun i j s => .int _
theorem lt_of : OpR X (compareOp .Lt) (rD2 Γ W (doM2 .lt)) :=
  od_int (fun i j => .bl (decide (i < j))) (fun i j => .bl (decide (i < j))) (fun _ _ => True) (by decide) (rI0_rI op_lt) (fun a b m d e => by
    cases a <;> cases b <;> simp only [do2, reduceCtorEq] at e
    cases e; exact ⟨_, _, rfl, rfl, trivial, rfl⟩) fun i j s => .bl _
theorem le_of : OpR X (compareOp .LtE) (rD2 Γ W (doM2 .le)) :=
  od_int (fun i j => .bl (decide (i ≤ j))) (fun i j => .bl (decide (i ≤ j))) (fun _ _ => True) (by decide) (rI0_rI op_le) (fun a b m d e => by
    cases a <;> cases b <;> simp only [do2, reduceCtorEq] at e
    cases e; exact ⟨_, _, rfl, rfl, trivial, rfl⟩) fun i j s => .bl _
theorem gt_of : OpR X (compareOp .Gt) (rD2 Γ W (doM2 .gt)) :=
  od_int (fun i j => .bl (decide (j < i))) (fun i j => .bl (decide (j < i))) (fun _ _ => True) (by decide) (rI0_rI op_gt) (fun a b m d e => by
    cases a <;> cases b <;> simp only [do2, reduceCtorEq] at e
    cases e; exact ⟨_, _, rfl, rfl, trivial, rfl⟩) fun i j s => .bl _
theorem ge_of : OpR X (compareOp .GtE) (rD2 Γ W (doM2 .ge)) :=
  od_int (fun i j => .bl (decide (j ≤ i))) (fun i j => .bl (decide (j ≤ i))) (fun _ _ => True) (by decide) (rI0_rI op_ge) (fun a b m d e => by
    cases a <;> cases b <;> simp only [do2, reduceCtorEq] at e
    cases e; exact ⟨_, _, rfl, rfl, trivial, rfl⟩) fun i j s => .bl _
/-! ### equality, in -/
theorem eqD_of {a b : D} {c : Bool} (h : eqD a b = some c) : ∃ p q, shp a = some p ∧ shp b = some q ∧ c = PyData.eqv p q := by
  unfold eqD at h
  split at h
  · rename_i p q e1 e2
    cases h
    exact ⟨p, q, e1, e2, rfl⟩
  · cases h
theorem inD_of {a : D} {l : List D} {c : Bool} (h : inD a l = some c) : ∃ p qs, shp a = some p ∧ shp (.lst l) = some (.list qs) ∧ c = qs.any fun z => PyData.eqv z p := by
  unfold inD at h
  split at h
  · rename_i p qs e1 e2
    cases h
    exact ⟨p, qs, e1, e2, rfl⟩
  · cases h
theorem eq_of (hK : X.K = Γ.K) (hu : X.A.units + 64 < cLine) : OpR X (compareOp .Eq) (rD2 Γ W (doM2 .eq)) := by
  intro pins st σ H x y v u Q I rx ry q
  obtain ⟨s, a, b, rfl, so, ra, rb, q⟩ := q
  obtain ⟨d, e, q⟩ := do2_of so (by decide) q
  simp only [do2, Option.map_eq_some_iff] at e
  obtain ⟨c, e, rfl⟩ := e
  obtain ⟨p, r, e1, e2, rfl⟩ := eqD_of e
  obtain ⟨h1, h2⟩ := ra.dps e1
  obtain ⟨h3, h4⟩ := rb.dps e2
  exact op_eqD hu pins st σ s.H _ _ v u Q I rx ry ⟨p, r, hK ▸ h1, hK ▸ h3, h2, h4, q.now so _ (.bl _)⟩
theorem ne_of' (hK : X.K = Γ.K) (hu : X.A.units + 64 < cLine) : OpR X (compareOp .NotEq) (rD2 Γ W (doM2 .ne)) := by
  intro pins st σ H x y v u Q I rx ry q
  obtain ⟨s, a, b, rfl, so, ra, rb, q⟩ := q
  obtain ⟨d, e, q⟩ := do2_of so (by decide) q
  simp only [do2, Option.map_eq_some_iff] at e
  obtain ⟨c, e, rfl⟩ := e
  obtain ⟨p, r, e1, e2, rfl⟩ := eqD_of e
  obtain ⟨h1, h2⟩ := ra.dps e1
  obtain ⟨h3, h4⟩ := rb.dps e2
  exact op_neD hu pins st σ s.H _ _ v u Q I rx ry ⟨p, r, hK ▸ h1, hK ▸ h3, h2, h4, q.now so _ (.bl _)⟩
/-- the items of a sequence as the library's data -/
theorem seq_dp {s : Stt} {x : V} {a : D} {l : List D} {qs : List PyData} (so : StOk Γ s) (r : RV Γ s x a) (e : seqOf s.μ a = some l) (h : shp (.lst l) = some (.list qs)) :
    (Dp Γ.K s.H x (.list qs) ∨ Dp Γ.K s.H x (.tuple qs)) ∧ SeqAt.shaped (.list qs) = true := by
  obtain ⟨p, vs, rfl, hq, rl⟩ := seq_rd so r e
  obtain ⟨e1, e2⟩ := shp_toP h
  simp only [toP, Option.map_eq_some_iff] at e1
  obtain ⟨ps, e1, e3⟩ := e1
  cases e3
  have da := RVs.dp l vs qs rl e1
  refine ⟨?_, e2⟩
  rcases hq with hq | hq
  · exact .inl (.lst hq da)
  · exact .inr (.tup hq da)
theorem in_gen {neg : Bool} {op : CmpOp} (hop : op = if neg then .NotIn else .In) (hK : X.K = Γ.K) (hu : X.A.units + 65 < cLine) {pins : List (Addr × Obj)} {st : Shared} {σ : L2.St} {s : Stt} {x y : V} {v u : Value} {Q : VK} {a b : D} {l : List D} {c : Bool}
    (I : Inv X pins σ s.H st) (rx : RelV x v) (ry : RelV y u) (so : StOk Γ s) (ra : RV Γ s x a) (rb : RV Γ s y b) (e : seqOf s.μ b = some l) (h : inD a l = some c) (q : Q (.bl (if neg then !c else c)) s.H) :
    wpAny (model X.prog X.w) X.A (compareOp op v u) (EP X pins σ Q) X.xe st := by
  obtain ⟨p, qs, e1, e2, rfl⟩ := inD_of h
  obtain ⟨h1, sd⟩ := ra.dps e1
  obtain ⟨h3, se⟩ := seq_dp so rb e e2
  rw [← hK] at h1 h3
  obtain ⟨as, r1⟩ := Dp.reads I p x v h1 rx
  have cl : PyData.canLayAll0 qs = true := SeqAt.canLay_of_shaped se
  have cd := SeqAt.canLay_of_shaped sd
  have rm := room_in_shaped (xs := qs) sd hu
  rcases h3 with h3 | h3
  · obtain ⟨bs, r2⟩ := Dp.reads I _ y u h3 ry
    cases neg with
    | false => subst hop; exact SeqAt.in_list_reads r2 r1 cl cd rm ⟨.bl _, s.H, I, rfl, q⟩
    | true => subst hop; exact SeqAt.notIn_list_reads r2 r1 cl cd rm ⟨.bl _, s.H, I, rfl, q⟩
  · obtain ⟨bs, r2⟩ := Dp.reads I _ y u h3 ry
    cases neg with
    | false => subst hop; exact SeqAt.in_tuple_reads r2 r1 cl cd rm ⟨.bl _, s.H, I, rfl, q⟩
    | true => subst hop; exact SeqAt.notIn_tuple_reads r2 r1 cl cd rm ⟨.bl _, s.H, I, rfl, q⟩
theorem in_of (hK : X.K = Γ.K) (hu : X.A.units + 65 < cLine) : OpR X (compareOp .In) (rD2 Γ W (doM2 .isIn)) := by
  intro pins st σ H x y v u Q I rx ry q
  obtain ⟨s, a, b, rfl, so, ra, rb, q⟩ := q
  obtain ⟨d, e, q⟩ := do2_of so (by decide) q
  unfold do2 at e
  split at e <;> first | contradiction | skip
  · rename_i z1 z2 z3 x1 y1 e0
    cases ra
    cases rb
    split at e
    · rename_i c ec
      cases e
      have hx : x1 = ⟨#[c]⟩ := by
        cases x1 with
        | mk cps =>
          congr 1
          apply Array.toList_inj.mp
          exact ec
      subst hx
      exact op_in_sign pins st σ s.H _ _ v u Q I rx ry ⟨c, y1, rfl, rfl, q.now so _ (.bl _)⟩
    · cases e
  · split at e
    · rename_i l el
      simp only [Option.map_eq_some_iff] at e
      obtain ⟨c, e, rfl⟩ := e
      exact in_gen (neg := false) rfl hK hu I rx ry so ra rb el e (q.now so _ (.bl _))
    · cases e
theorem notIn_of (hK : X.K = Γ.K) (hu : X.A.units + 65 < cLine) : OpR X (compareOp .NotIn) (rD2 Γ W (doM2 .notIn)) := by
  intro pins st σ H x y v u Q I rx ry q
  obtain ⟨s, a, b, rfl, so, ra, rb, q⟩ := q
  obtain ⟨d, e, q⟩ := do2_of so (by decide) q
  simp only [do2] at e
  split at e
  · rename_i l el
    simp only [Option.map_eq_some_iff] at e
    obtain ⟨c, e, rfl⟩ := e
    exact in_gen (neg := true) rfl hK hu I rx ry so ra rb el e (q.now so _ (.bl _))
  · cases e
theorem isB_of : OpR X (compareOp .Is) (rD2 Γ W (doM2 .isB)) := by
  intro pins st σ H x y v u Q I rx ry q
  obtain ⟨s, a, b, rfl, so, ra, rb, q⟩ := q
  obtain ⟨d, e, q⟩ := do2_of so (by decide) q
  cases a <;> cases b <;> simp only [do2, reduceCtorEq] at e
  cases ra; cases rb; cases e
  exact op_isBl pins st σ s.H _ _ v u Q I rx ry ⟨_, _, rfl, rfl, q.now so _ (.bl _)⟩
theorem notB_of : OpR X (compareOp .IsNot) (rD2 Γ W (doM2 .notB)) := by
  intro pins st σ H x y v u Q I rx ry q
  obtain ⟨s, a, b, rfl, so, ra, rb, q⟩ := q
  obtain ⟨d, e, q⟩ := do2_of so (by decide) q
  cases a <;> cases b <;> simp only [do2, reduceCtorEq] at e
  cases ra; cases rb; cases e
  exact op_notBl pins st σ s.H _ _ v u Q I rx ry ⟨_, _, rfl, rfl, q.now so _ (.bl _)⟩
end
end QS
end
section
set_option linter.all false
set_option maxRecDepth 100000
set_option autoImplicit false
/-! QS4: built-ins. -/
namespace QS
open PySem PySem.Spec PyProof.Rows L2 QL
section
variable {Γ : Inf} {W : XK} {X : Cx}
def rC1 (Γ : Inf) (W : XK) (f : D → M D) : List V → Hp → VK → Prop := fun xs H Q => ∃ x, xs = [x] ∧ rD1 Γ W f x H Q
def rC2 (Γ : Inf) (W : XK) (f : D → D → M D) : List V → Hp → VK → Prop := fun xs H Q => ∃ x y, xs = [x, y] ∧ rD2 Γ W f x y H Q
/-- opening a call of one argument -/
theorem c1 {f : Value} {o : O1} (ho : o ≠ .freeze) (h : ∀ (pins : List (Addr × Obj)) (st : Shared) (σ : L2.St) (s : Stt) (x : V) (us : List Value) (Q : VK) (a d : D), Inv X pins σ s.H st → Vals [x] us → StOk Γ s → RV Γ s x a → do1 o a s.μ = some d → Rs Γ W s (.ok d s.μ) (KD Γ Q) →
    wpAny (model X.prog X.w) X.A (call f us) (EP X pins σ Q) X.xe st) : CallR X f (rC1 Γ W (doM1 o)) := by
  intro pins st σ H xs us Q I r q
  obtain ⟨x, rfl, s, a, rfl, so, ra, q⟩ := q
  obtain ⟨d, e, q⟩ := do1_of so ho q
  exact h pins st σ s x us Q a d I r so ra e q
theorem c2 {f : Value} {o : O2} (ho : o ≠ .append) (h : ∀ (pins : List (Addr × Obj)) (st : Shared) (σ : L2.St) (s : Stt) (x y : V) (us : List Value) (Q : VK) (a b d : D), Inv X pins σ s.H st → Vals [x, y] us → StOk Γ s → RV Γ s x a → RV Γ s y b → do2 o a b s.μ = some d → Rs Γ W s (.ok d s.μ) (KD Γ Q) →
    wpAny (model X.prog X.w) X.A (call f us) (EP X pins σ Q) X.xe st) : CallR X f (rC2 Γ W (doM2 o)) := by
  intro pins st σ H xs us Q I r q
  obtain ⟨x, y, rfl, s, a, b, rfl, so, ra, rb, q⟩ := q
  obtain ⟨d, e, q⟩ := do2_of so ho q
  exact h pins st σ s x y us Q a b d I r so ra rb e q
theorem non_iff {s : Stt} {x : V} {a : D} (r : RV Γ s x a) : decide (x = .non) = isNon a := by
  cases r <;> rfl
theorem seq_do {s : Stt} {a : D} {d : D} {f : List D → D} (e : (seqOf s.μ a).map f = some d) : ∃ l, seqOf s.μ a = some l ∧ d = f l := by
  simp only [Option.map_eq_some_iff] at e
  obtain ⟨l, h1, h2⟩ := e
  exact ⟨l, h1, h2.symm⟩
theorem scr_rd {s : Stt} {x : V} {ns : List Int} (r : RV Γ s x (.scr ns)) : ∃ p, x = .ref p ∧ SqL Γ.K s.H p (ns.map V.int) := by
  cases r with
  | scr h => exact ⟨_, rfl, h.sq⟩
theorem len_of (hK : X.K = Γ.K) : CallR X (.builtin "len") (rC1 Γ W (doM1 .len)) := c1 (by decide) fun pins st σ s x us Q a d I r so ra e q => by
  have sq : ∀ l : List D, seqOf s.μ a = some l → d = .int l.length → wpAny (model X.prog X.w) X.A (call (.builtin "len") us) (EP X pins σ Q) X.xe st := fun l el ed => by
    subst ed
    obtain ⟨p, vs, rfl, hq, rl⟩ := seq_rd so ra el
    refine call_len_seq pins st σ s.H _ us Q I r ⟨p, vs, rfl, hK ▸ hq, ?_⟩
    rw [rl.length]
    exact q.now so _ (.int _)
  unfold do1 at e
  split at e <;> first | contradiction | skip
  · cases ra
    split at e
    · cases e
      exact call_len_str pins st σ s.H _ us Q I r ⟨_, rfl, by assumption, q.now so _ (.int _)⟩
    · cases e
  · cases e
    obtain ⟨p, rfl, hq⟩ := scr_rd ra
    refine call_len_seq pins st σ s.H _ us Q I r ⟨p, _, rfl, .inl (hK ▸ hq), ?_⟩
    rw [List.length_map]
    exact q.now so _ (.int _)
  · obtain ⟨l, el, ed⟩ := seq_do e
    exact sq l el ed
theorem lst_rd {s : Stt} {x : V} {l : List D} (r : RV Γ s x (.lst l)) : ∃ p vs, x = .ref p ∧ SqL Γ.K s.H p vs ∧ RVs Γ s vs l := by
  cases r with
  | lst h1 h2 => exact ⟨_, _, rfl, h1.sq, h2⟩
theorem tup_rd {s : Stt} {x : V} {l : List D} (r : RV Γ s x (.tup l)) : ∃ p vs, x = .ref p ∧ SqT Γ.K s.H p vs ∧ RVs Γ s vs l := by
  cases r with
  | tup h1 h2 => exact ⟨_, _, rfl, h1.sq, h2⟩
theorem sum_of (hK : X.K = Γ.K) (hc : X.calm = true) : CallR X (.builtin "sum") (rC1 Γ W (doM1 .sum)) := c1 (by decide) fun pins st σ s x us Q a d I r so ra e q => by
  cases a <;> simp only [do1, reduceCtorEq, Option.map_eq_some_iff] at e
  obtain ⟨ns, e, rfl⟩ := e
  obtain ⟨p, vs, rfl, hq, rl⟩ := lst_rd ra
  have := rl.intsO e
  subst this
  exact cr_sum hc pins st σ s.H _ us Q I r ⟨p, ns, rfl, hK ▸ hq, q.now so _ (.int _)⟩
theorem all_of (hK : X.K = Γ.K) (hc : X.calm = true) : CallR X (.builtin "all") (rC1 Γ W (doM1 .all)) := c1 (by decide) fun pins st σ s x us Q a d I r so ra e q => by
  cases a <;> simp only [do1, reduceCtorEq, Option.map_eq_some_iff] at e
  obtain ⟨ns, e, rfl⟩ := e
  obtain ⟨p, vs, rfl, hq, rl⟩ := lst_rd ra
  have := rl.boolsO e
  subst this
  exact cr_all hc pins st σ s.H _ us Q I r ⟨p, ns, rfl, hK ▸ hq, q.now so _ (.bl _)⟩
theorem any_of (hK : X.K = Γ.K) (hc : X.calm = true) : CallR X (.builtin "any") (rC1 Γ W (doM1 .any)) := c1 (by decide) fun pins st σ s x us Q a d I r so ra e q => by
  cases a <;> simp only [do1, reduceCtorEq, Option.map_eq_some_iff] at e
  obtain ⟨ns, e, rfl⟩ := e
  obtain ⟨p, vs, rfl, hq, rl⟩ := lst_rd ra
  have := rl.boolsO e
  subst this
  exact cr_any hc pins st σ s.H _ us Q I r ⟨p, ns, rfl, hK ▸ hq, q.now so _ (.bl _)⟩
/-! greatest and least -/
theorem maxF : ∀ (r : List Int) (a : Int), (∀ y ∈ a :: r, y ≤ r.foldl (fun x y => if x < y then y else x) a) ∧ r.foldl (fun x y => if x < y then y else x) a ∈ a :: r
  | [], a => ⟨fun y h => by simp at h; subst h; exact Int.le_refl _, by simp⟩
  | b :: r, a => by
    rw [List.foldl_cons]
    have ih := maxF r (if a < b then b else a)
    obtain ⟨h1, h2⟩ := ih
    refine ⟨fun y hy => ?_, ?_⟩
    · have h0 := h1 _ List.mem_cons_self
      rcases List.mem_cons.mp hy with rfl | hy
      · by_cases hb : y < b
        · rw [if_pos hb] at h0 ⊢; omega
        · rw [if_neg hb] at h0 ⊢; omega
      · rcases List.mem_cons.mp hy with rfl | hy
        · by_cases hb : a < y
          · rw [if_pos hb] at h0 ⊢; omega
          · rw [if_neg hb] at h0 ⊢; omega
        · exact h1 y (List.mem_cons_of_mem _ hy)
    · rcases List.mem_cons.mp h2 with e | e
      · rw [e]
        by_cases hb : a < b
        · rw [if_pos hb]; simp
        · rw [if_neg hb]; simp
      · exact List.mem_cons_of_mem _ (List.mem_cons_of_mem _ e)
theorem minF : ∀ (r : List Int) (a : Int), (∀ y ∈ a :: r, r.foldl (fun x y => if y < x then y else x) a ≤ y) ∧ r.foldl (fun x y => if y < x then y else x) a ∈ a :: r
  | [], a => ⟨fun y h => by simp at h; subst h; exact Int.le_refl _, by simp⟩
  | b :: r, a => by
    rw [List.foldl_cons]
    have ih := minF r (if b < a then b else a)
    obtain ⟨h1, h2⟩ := ih
    refine ⟨fun y hy => ?_, ?_⟩
    · have h0 := h1 _ List.mem_cons_self
      rcases List.mem_cons.mp hy with rfl | hy
      · by_cases hb : b < y
        · rw [if_pos hb] at h0 ⊢; omega
        · rw [if_neg hb] at h0 ⊢; omega
      · rcases List.mem_cons.mp hy with rfl | hy
        · by_cases hb : y < a
          · rw [if_pos hb] at h0 ⊢; omega
          · rw [if_neg hb] at h0 ⊢; omega
        · exact h1 y (List.mem_cons_of_mem _ hy)
    · rcases List.mem_cons.mp h2 with e | e
      · rw [e]
        by_cases hb : b < a
        · rw [if_pos hb]; simp
        · rw [if_neg hb]; simp
      · exact List.mem_cons_of_mem _ (List.mem_cons_of_mem _ e)
theorem maxL_is {ns : List Int} (h : 0 < ns.length) : (∀ y ∈ ns, y ≤ maxL ns) ∧ maxL ns ∈ ns := by
  cases ns with
  | nil => simp at h
  | cons a r => exact maxF r a
theorem minL_is {ns : List Int} (h : 0 < ns.length) : (∀ y ∈ ns, minL ns ≤ y) ∧ minL ns ∈ ns := by
  cases ns with
  | nil => simp at h
  | cons a r => exact minF r a
theorem intsO_len : ∀ {l : List D} {ns : List Int}, intsO l = some ns → ns.length = l.length
  | [], _, h => by cases h; rfl
  | d :: l, ns, h => by
    cases d <;> simp only [QL.intsO, reduceCtorEq, Option.map_eq_some_iff] at h
    obtain ⟨ms, h1, rfl⟩ := h
    rw [List.length_cons, List.length_cons, intsO_len h1]
theorem max_of (hK : X.K = Γ.K) (hc : X.calm = true) : CallR X (.builtin "max") (rC1 Γ W (doM1 .max)) := c1 (by decide) fun pins st σ s x us Q a d I r so ra e q => by
  unfold do1 at e
  split at e <;> first | contradiction | skip
  rename_i z1 d0 l e0
  simp only [Option.map_eq_some_iff] at e
  obtain ⟨ns, e, rfl⟩ := e
  obtain ⟨p, vs, rfl, hq, rl⟩ := lst_rd ra
  have hl := intsO_len e
  have := rl.intsO e
  subst this
  have h0 : 0 < ns.length := by rw [hl]; simp
  obtain ⟨m1, m2⟩ := maxL_is h0
  refine cr_max hc pins st σ s.H _ us Q I r ⟨p, ns, rfl, hK ▸ hq, h0, fun m hm hle => ?_⟩
  have : m = maxL ns := Int.le_antisymm (m1 m hm) (hle _ m2)
  rw [this]
  exact q.now so _ (.int _)
theorem minT_raw {prog : Program} {w : World} {A : Around} {E : Value → Shared → Prop} {s : Shared} {l : Addr} {its : List Value} {ns : List Int} {Q : Value → Shared → Prop} (hh : A.handled = none) (hl : s.heap.IsTuple l its.toArray) (hi : IntsAre its ns) (hne : 0 < ns.length)
    (h : ∀ h' tk M t', (∀ b o, s.heap.get? b = some o → h'.get? b = some o) → M ∈ ns → (∀ a, a ∈ ns → M ≤ a) → Q (.int M t') { s with heap := h', toks := tk }) : wpAny (model prog w) A (call (.builtin "min") [.ref l]) Q E s := by
  obtain ⟨xs, e⟩ := hi.allInts.items
  have hn : numsOf (intItems xs).toList = ns := by rw [← e]; exact hi.numsOf
  rw [nums_intItems] at hn
  subst hn
  rw [e] at hl
  have hsz : 0 < xs.size := by simpa using hne
  have hlt : l < s.heap.objs.size := let ⟨_, ho, _⟩ := hl; Heap.lt_size ho
  refine call_min_walk (wpAny_pyIter_tuple hl ?_)
  refine ⟨_, [_, l], [_], _, _, _, _, rfl, Walks.tuple (A := A.in1) hh _ l (Nat.ne_of_lt hlt) (intItems xs),
    ⟨⟨_, Heap.get?_push_size _ rfl, rfl, rfl⟩, hl.push _⟩, fun c hc => ?_, by simpa [intItems] using hsz, CmpOf.ints_lt (numAt xs) (fun _ _ => intItems_at), fun v h' tk hP hk => ?_⟩
  · show c < (s.heap.push _).objs.size
    rw [Heap.size_push]
    rcases List.mem_cons.mp hc with rfl | hc
    · exact Nat.lt_succ_self _
    · rcases List.mem_cons.mp hc with rfl | hc
      · exact Nat.lt_succ_of_lt hlt
      · cases hc
  · have hold : ∀ c o, s.heap.get? c = some o → h'.get? c = some o := fun c o e => by
      refine hk c o (fun hm => ?_) (Heap.get?_push_of_some _ e)
      rcases List.mem_cons.mp hm with e1 | hm
      · have := Heap.lt_size e; rw [e1] at this; exact Nat.lt_irrefl _ this
      · cases hm
    have hP' : (intItems xs)[argBest (fun i j => decide (numAt xs i < numAt xs j)) (xs.size - 1)]? = some v := by simpa [intItems] using hP
    obtain ⟨t, rfl⟩ := intItems_at hP'
    obtain ⟨h1, h2⟩ := argBest_lt (numAt xs) (xs.size - 1)
    refine h h' tk _ t hold ?_ fun a ha => ?_
    · rw [numAt_eq]; exact PySem.getD_mem (by rw [List.length_map, Array.length_toList]; omega)
    · obtain ⟨j, hj, rfl⟩ := mem_getD ha
      rw [List.length_map, Array.length_toList] at hj
      rw [← numAt_eq]; exact h2 j (by omega)
theorem min_of (hK : X.K = Γ.K) (hc : X.calm = true) : CallR X (.builtin "min") (rC1 Γ W (doM1 .min)) := c1 (by decide) fun pins st σ s x us Q a d I r so ra e q => by
  unfold do1 at e
  split at e <;> first | contradiction | skip
  · rename_i z1 d0 l e0
    simp only [Option.map_eq_some_iff] at e
    obtain ⟨ns, e, rfl⟩ := e
    obtain ⟨p, vs, rfl, hq, rl⟩ := lst_rd ra
    have hl := intsO_len e
    have := rl.intsO e
    subst this
    have h0 : 0 < ns.length := by rw [hl]; simp
    obtain ⟨m1, m2⟩ := minL_is h0
    refine cr_min hc pins st σ s.H _ us Q I r ⟨p, ns, rfl, hK ▸ hq, h0, fun m hm hle => ?_⟩
    have : m = minL ns := Int.le_antisymm (hle _ m2) (m1 m hm)
    rw [this]
    exact q.now so _ (.int _)
  · rename_i z1 d0 l e0
    simp only [Option.map_eq_some_iff] at e
    obtain ⟨ns, e, rfl⟩ := e
    obtain ⟨p, vs, rfl, hq, rl⟩ := tup_rd ra
    have hl := intsO_len e
    have := rl.intsO e
    subst this
    have h0 : 0 < ns.length := by rw [hl]; simp
    obtain ⟨m1, m2⟩ := minL_is h0
    obtain ⟨its, rv, hT, hz⟩ := I.tuple (hK ▸ hq)
    rw [Vals.ref1 r]
    refine minT_raw (I.ok.hd hc) hT rv.ints h0 fun h' tk m t' hk hm hle => ⟨.int _, s.H, I.kept hk, ⟨_, rfl⟩, ?_⟩
    have : m = minL ns := Int.le_antisymm (hle _ m2) (m1 m hm)
    rw [this]
    exact q.now so _ (.int _)
end
end QS
end
section
set_option linter.all false
set_option maxRecDepth 100000
set_option autoImplicit false
/-! QSet: sorted(set(xs)) of a list of ints (the set's making turned from the library's one for tuples). -/
namespace QS
open PySem PySem.Spec PyProof.Rows L2 QL
section
variable {P : Program} {w : World} {A : Around} {E : Value → Shared → Prop} {s : Shared}
set_option maxHeartbeats 3200000 in
theorem set_of_list {l : Addr} {items : Array Value} (ns : List Int) {Q : Value → Shared → Prop} (hh : A.handled = none) (hl : s.heap.IsList l items) (hit : IntsAre items.toList ns) (hb : ns.length + 1 < scanBound)
    (h : ∀ (h' : Heap) (tk c : Nat), SetR w h' s.heap.objs.size (fun j => decide (j ∈ ns)) c → c ≤ ns.length → (∀ b o, s.heap.get? b = some o → h'.get? b = some o) → Q (.ref s.heap.objs.size) { s with heap := h', toks := tk }) :
    wpAny (model P w) A (call (.type "set") [.ref l]) Q E s := by
  have hisz : items.size = ns.length := by
    have q := IntsAre.length hit
    rw [Array.length_toList] at q
    exact q
  obtain ⟨c, tl, hmro⟩ := F.called_set.mro
  have hmade := F.called_set.made
  have hsub := F.called_set.sub
  refine wpAny_call (codeAny_of_tree ?_)
  show wpAny _ _ (callAny (.type "set") _) _ _ _
  refine wpAny_pure ⟨Code.quiet_builtin _ (by decide +kernel), codeAny_builtin F.entry_type_call ?_⟩
  rw [Around.under_plain (weight_type_call_type "set" [.ref l] []) rfl]
  have h1 := F.called_set.notType
  have h2 := F.called_set.canCreate
  have hct := F.typeCall_set_1 (.ref l)
  repeat (any_goals (first | assumption | wp_step))

  refine codeAny_mono (code_set_led1 (.ref l) (E := E) (Q₁ := fun obj s₁ => obj = .ref s.heap.objs.size ∧ s₁ = { s with heap := s.heap.push { cls := .type "set", dict := none, data := .set #[] 0 (.fresh 0 0 (!w.params.followText "set-order")) } }) ⟨rfl, rfl⟩) fun r s₁ hr => ?_
  cases r with
  | error e => exact hr
  | ok fl =>
    cases fl with
    | ret obj =>
      obtain ⟨rfl, rfl⟩ := hr
      have hS : (s.heap.push { cls := .type "set", dict := none, data := .set #[] 0 (.fresh 0 0 (!w.params.followText "set-order")) }).get? s.heap.objs.size = some { cls := .type "set", dict := none, data := .set #[] 0 (.fresh 0 0 (!w.params.followText "set-order")) } := Heap.get?_push_size _ rfl
      have hT : Shared.TypeIs { s with heap := s.heap.push { cls := .type "set", dict := none, data := .set #[] 0 (.fresh 0 0 (!w.params.followText "set-order")) } } (.ref s.heap.objs.size) "set" := ⟨_, hS, rfl⟩
      have hli := F.called_set.init.lookup
      have hbi := F.called_set.init.bind (.ref s.heap.objs.size)
      repeat (any_goals (first | assumption | wp_step))

      refine codeAny_mono (codeAny_call_builtin (R := wants (fun r s₂ => r = .none ∧ ∃ h' tk c, s₂ = { s with heap := h', toks := tk } ∧ SetR w h' s.heap.objs.size (fun j => decide (j ∈ ns)) c ∧ c ≤ ns.length ∧
          (∀ b o, s.heap.get? b = some o → h'.get? b = some o)) E) F.called_set.init.plain F.entry_set_init (check_set_init_1 hT ?_)) fun r₂ s₂ hr₂ => ?_
      · obtain ⟨ol, hol, hcl, nl, hdl⟩ := hl
        obtain ⟨ocls, odict, odata, oslots⟩ := ol
        simp only at hcl hdl
        subst hcl; subst hdl
        have hol' : (s.heap.push { cls := .type "set", dict := none, data := .set #[] 0 (.fresh 0 0 (!w.params.followText "set-order")) }).get? l = some { cls := .type "list", dict := odict, data := .seq items nl, slots := oslots } := Heap.get?_push_of_some _ hol
        have hsls := F.sub_list_set
        have hslf := F.sub_list_frozenset
        have hne : (Value.type "list" == Value.type "dict") = false := by decide
        have hl1 : (s.heap.push { cls := .type "set", dict := none, data := .set #[] 0 (.fresh 0 0 (!w.params.followText "set-order")) }).IsList l items := ⟨_, hol', rfl, nl, rfl⟩
        unfold Builtin.«set.__init__» noKeywords Builtin.Frozenset.updateFrom
        generalize hPI : pyIter = PI
        wp_walk
        subst hPI

        refine wpAny_pyIter_list hl1 ?_
        refine wpAny_bind (wpAny_runValue ?_)
        have hlS : l < s.heap.objs.size := Heap.lt_size hol
        have hh3 : A.in1.in1.in1.handled = none := by simp [hh]
        have hz1 : (s.heap.push { cls := .type "set", dict := none, data := .set #[] 0 (.fresh 0 0 (!w.params.followText "set-order")) }).objs.size = s.heap.objs.size + 1 := Heap.size_push ..
        have hneI : l ≠ (s.heap.push { cls := .type "set", dict := none, data := .set #[] 0 (.fresh 0 0 (!w.params.followText "set-order")) }).objs.size := by
          rw [Heap.size_push]; exact Nat.ne_of_lt (Nat.lt_succ_of_lt hlS)
        have hSf : s.heap.objs.size ∉ [(s.heap.push { cls := .type "set", dict := none, data := .set #[] 0 (.fresh 0 0 (!w.params.followText "set-order")) }).objs.size, l] := by
          rw [Heap.size_push]; simp only [List.mem_cons, List.mem_singleton, List.not_mem_nil, or_false, not_or]
          exact ⟨Nat.ne_of_lt (Nat.lt_succ_self _), Nat.ne_of_gt hlS⟩
        have hval : ∀ (i : Nat) (v : Value), items[i]? = some v → ∃ k t, ns[i]? = some k ∧ v = .int k t := fun i v hv => by
          have hi : i < ns.length := by rw [← hisz]; exact (Array.getElem?_eq_some_iff.mp hv).1
          obtain ⟨t, e⟩ := PyProof.Rows.IntsAre.int_at hit i v (by rw [Array.getElem?_toList]; exact hv)
          refine ⟨ns[i], t, List.getElem?_eq_getElem hi, ?_⟩
          rw [e, List.getD_eq_getElem?_getD, List.getElem?_eq_getElem hi] <;> rfl
        refine set_update_ints ((Walks.list hh3 _ l hneI items).toS) s.heap.objs.size
          hSf ns hisz hb hval (items.size - 0) 0 _ (by omega) (Nat.zero_le _)
          ⟨⟨_, Heap.get?_push_size _ rfl, rfl, rfl⟩, (hl1.push _)⟩ ?hS0 ?hR
        case hS0 =>
          have hget : ((s.heap.push { cls := .type "set", dict := none, data := .set #[] 0 (.fresh 0 0 (!w.params.followText "set-order")) }).push { cls := .type "list_iterator", data := .fields #[.ref l, .int 0 0] }).get? s.heap.objs.size
              = some { cls := .type "set", dict := none, data := .set #[] 0 (.fresh 0 0 (!w.params.followText "set-order")) } := Heap.get?_push_of_some _ hS
          exact ⟨0, Nat.le_refl 0, setR_new_at hget⟩
        case hR =>
          intro s' c' hm hc' hS'
          obtain ⟨h', g2, d', tk', os'⟩ := s'
          have eg : g2 = s.gens := hm.gens
          have ed : d' = s.drawn := hm.drawn
          have eo : os' = s.os := hm.os
          subst eg; subst ed; subst eo
          show wpAny _ _ _ _ _ _
          refine wpAny_pure ?_
          show wpAny _ _ (ret Value.none) _ _ _
          rw [hisz] at hc'
          refine wpAny_pure ⟨rfl, h', tk', c', rfl, hS', hc', fun b o e => ?_⟩
          have hb0 : b < s.heap.objs.size := Heap.lt_size e
          have hb1 : b ≠ s.heap.objs.size := Nat.ne_of_lt hb0
          have hb2 : b ≠ (s.heap.push { cls := .type "set", dict := none, data := .set #[] 0 (.fresh 0 0 (!w.params.followText "set-order")) }).objs.size := by
            rw [Heap.size_push]; exact Nat.ne_of_lt (Nat.lt_succ_of_lt hb0)
          exact hm.heap b o (by simp only [List.mem_cons, List.mem_singleton, List.not_mem_nil, or_false, not_or]; exact ⟨hb1, hb2⟩) (Heap.get?_push_of_some _ (Heap.get?_push_of_some _ e))

      · cases r₂ with
        | error e => exact hr₂
        | ok fl₂ =>
          cases fl₂ with
          | ret r =>
            obtain ⟨rfl, h', tk, c', rfl, hS', hc', hk'⟩ := hr₂
            repeat (any_goals (first | assumption | wp_step))
            exact h _ _ _ hS' hc' hk'
          | _ => exact hr₂.elim
    | _ => exact hr.elim

end
section
variable {Γ : Inf} {W : XK} {X : Cx}
def rSetI (K : PySem.W.Frag) (w : World) : List V → Hp → VK → Prop := fun xs H Q => ∃ (a : Addr) (ns : List Int), xs = [V.ref a] ∧ SqL K H a (ns.map V.int) ∧ ns.length + 1 < scanBound ∧
  ∀ p c, H p = none → c ≤ ns.length → Q (.ref p) (upd H p (SetO w p (fun j => decide (j ∈ ns)) c))
theorem cr_setI (hc : X.calm = true) : CallR X (.type "set") (rSetI X.K X.w) := by
  intro pins s σ H xs us Q I r h
  obtain ⟨a, ns, rfl, hs, hb, q⟩ := h
  obtain ⟨its, rv, hl, _⟩ := I.list hs
  rw [Vals.ref1 r]
  refine set_of_list ns (I.ok.hd hc) hl.isList rv.ints hb fun h' tk c R hc' k => ?_
  exact ⟨.ref _, _, I.laid (t' := tk) k (Nat.le_refl _) (setO_new R), rfl, q _ c (I.hok.fresh (Nat.le_refl _)) hc'⟩
/-! strictly rising lists of the same members are one -/
theorem rising_same : ∀ {a b : List Int}, a.Pairwise (· < ·) → b.Pairwise (· < ·) → (∀ k, k ∈ a ↔ k ∈ b) → a = b
  | [], [], _, _, _ => rfl
  | [], y :: b, _, _, h => by have := (h y).mpr List.mem_cons_self; cases this
  | x :: a, [], _, _, h => by have := (h x).mp List.mem_cons_self; cases this
  | x :: a, y :: b, ha, hb, h => by
    obtain ⟨ha1, ha2⟩ := List.pairwise_cons.mp ha
    obtain ⟨hb1, hb2⟩ := List.pairwise_cons.mp hb
    have e : x = y := by
      rcases List.mem_cons.mp ((h x).mp List.mem_cons_self) with e | e
      · exact e
      · rcases List.mem_cons.mp ((h y).mpr List.mem_cons_self) with f | f
        · exact f.symm
        · have := hb1 x e; have := ha1 y f; omega
    subst e
    rw [rising_same ha2 hb2 fun k => ⟨fun hk => ?_, fun hk => ?_⟩]
    · rcases List.mem_cons.mp ((h k).mp (List.mem_cons_of_mem _ hk)) with e | e
      · have := ha1 k hk; omega
      · exact e
    · rcases List.mem_cons.mp ((h k).mpr (List.mem_cons_of_mem _ hk)) with e | e
      · have := hb1 k hk; omega
      · exact e
theorem mem_dedup {k : Int} : ∀ {l : List Int}, k ∈ dedup l ↔ k ∈ l
  | [] => Iff.rfl
  | a :: r => by
    unfold dedup
    split
    · rename_i h
      rw [mem_dedup (l := r)]
      exact ⟨fun q => List.mem_cons_of_mem _ q, fun q => (List.mem_cons.mp q).elim (fun e => e ▸ h) id⟩
    · rw [List.mem_cons, List.mem_cons, mem_dedup (l := r)]
theorem dedup_len : ∀ l : List Int, (dedup l).length ≤ l.length
  | [] => Nat.le_refl _
  | a :: r => by
    unfold dedup
    have := dedup_len r
    split
    · rw [List.length_cons]; omega
    · rw [List.length_cons, List.length_cons]; omega
theorem dedup_nodup : ∀ l : List Int, (dedup l).Nodup
  | [] => List.nodup_nil
  | a :: r => by
    unfold dedup
    split
    · exact dedup_nodup r
    · rename_i h
      exact List.nodup_cons.mpr ⟨fun q => h (mem_dedup.mp q), dedup_nodup r⟩
theorem mem_insertI {k i : Int} : ∀ {l : List Int}, k ∈ insertI i l ↔ k = i ∨ k ∈ l
  | [] => by simp [insertI]
  | a :: r => by
    unfold insertI
    split
    · simp
    · rw [List.mem_cons, mem_insertI (l := r), List.mem_cons]
      constructor
      · rintro (h | h | h)
        · exact .inr (.inl h)
        · exact .inl h
        · exact .inr (.inr h)
      · rintro (h | h | h)
        · exact .inr (.inl h)
        · exact .inl h
        · exact .inr (.inr h)
theorem mem_sortI {k : Int} : ∀ {l : List Int}, k ∈ sortI l ↔ k ∈ l
  | [] => Iff.rfl
  | a :: r => by
    unfold sortI
    rw [mem_insertI, mem_sortI (l := r), List.mem_cons]
theorem insertI_le {i : Int} : ∀ {l : List Int}, l.Pairwise (· ≤ ·) → (insertI i l).Pairwise (· ≤ ·)
  | [], _ => by simp [insertI]
  | a :: r, h => by
    obtain ⟨h1, h2⟩ := List.pairwise_cons.mp h
    unfold insertI
    split
    · rename_i hi
      exact List.pairwise_cons.mpr ⟨fun b hb => (List.mem_cons.mp hb).elim (fun e => e ▸ hi) fun q => Int.le_trans hi (h1 b q), h⟩
    · rename_i hi
      refine List.pairwise_cons.mpr ⟨fun b hb => ?_, insertI_le h2⟩
      rcases mem_insertI.mp hb with e | e
      · subst e; omega
      · exact h1 b e
theorem sortI_le : ∀ l : List Int, (sortI l).Pairwise (· ≤ ·)
  | [] => List.Pairwise.nil
  | a :: r => insertI_le (sortI_le r)
theorem insertI_perm {i : Int} : ∀ l : List Int, (insertI i l).Perm (i :: l)
  | [] => List.Perm.refl _
  | a :: r => by
    unfold insertI
    split
    · exact List.Perm.refl _
    · exact ((insertI_perm r).cons a).trans (List.Perm.swap i a r)
theorem sortI_perm : ∀ l : List Int, (sortI l).Perm l
  | [] => List.Perm.refl _
  | a :: r => (insertI_perm (sortI r)).trans ((sortI_perm r).cons a)
theorem lt_of_le_nodup : ∀ {l : List Int}, l.Pairwise (· ≤ ·) → l.Nodup → l.Pairwise (· < ·)
  | [], _, _ => List.Pairwise.nil
  | a :: r, h, n => by
    obtain ⟨h1, h2⟩ := List.pairwise_cons.mp h
    obtain ⟨n1, n2⟩ := List.nodup_cons.mp n
    exact List.pairwise_cons.mpr ⟨fun b hb => by
      have := h1 b hb
      have ne : a ≠ b := fun e => n1 (e ▸ hb)
      omega, lt_of_le_nodup h2 n2⟩
theorem sortI_uniq {a b : List Int} (p : a.Perm b) (ha : a.Pairwise (· ≤ ·)) (hb : b.Pairwise (· ≤ ·)) : a = b :=
  p.eq_of_pairwise (fun x y _ _ h1 h2 => Int.le_antisymm h1 h2) ha hb
theorem sset_lt (l : List Int) : (sortI (dedup l)).Pairwise (· < ·) :=
  lt_of_le_nodup (sortI_le _) ((sortI_perm _).nodup_iff.mpr (dedup_nodup l))
end
end QS
end
section
set_option linter.all false
set_option maxRecDepth 100000
set_option autoImplicit false
/-! QS5: built-ins, further; subscripts, slices, methods. -/
namespace QS
open PySem PySem.Spec PyProof.Rows L2 QL
section
variable {Γ : Inf} {W : XK} {X : Cx}
theorem seq_rd2 {s : Stt} {x : V} {a : D} {l : List D} (so : StOk Γ s) (r : RV Γ s x a) (e : seqOf s.μ a = some l) : ∃ p vs, x = .ref p ∧ RVs Γ s vs l ∧ (Rd s.H p (.lst vs) ∨ (a = .tup l ∧ SqT Γ.K s.H p vs)) := by
  cases r with
  | lst h1 h2 => cases e; exact ⟨_, _, rfl, h2, .inl h1.2⟩
  | tup h1 h2 => cases e; exact ⟨_, _, rfl, h2, .inr ⟨rfl, h1.sq⟩⟩
  | ref hn =>
    simp only [seqOf] at e
    split at e
    · rename_i l' e'
      cases e
      obtain ⟨vs, h1, h2⟩ := so.cell _ _ e'
      exact ⟨_, vs, rfl, h2, .inl (.inl h1)⟩
    · cases e
  | _ => cases e
theorem tuple_of (hK : X.K = Γ.K) : CallR X (.type "tuple") (rC1 Γ W (doM1 .tuple)) := c1 (by decide) fun pins st σ s x us Q a d I r so ra e q => by
  have key : ∃ l, seqOf s.μ a = some l ∧ d = .tup l := by
    unfold do1 at e
    split at e <;> first | contradiction | skip
    · cases e; exact ⟨_, rfl, rfl⟩
    · obtain ⟨l, el, rfl⟩ := seq_do e; exact ⟨l, el, rfl⟩
  obtain ⟨l, el, rfl⟩ := key
  obtain ⟨p, vs, rfl, rl, hq⟩ := seq_rd2 so ra el
  rcases hq with hq | ⟨rfl, hq⟩
  · exact call_tuple_ofF pins st σ s.H _ us Q I r ⟨p, vs, rfl, .inl ⟨.inl hq, fun l o hl ho => q.tup so hl ho rl⟩⟩
  · exact call_tuple_ofF pins st σ s.H _ us Q I r ⟨p, vs, rfl, .inr ⟨hK ▸ hq, q.now so _ ra⟩⟩
theorem list_of (hK : X.K = Γ.K) : CallR X (.type "list") (rC1 Γ W (doM1 .list)) := c1 (by decide) fun pins st σ s x us Q a d I r so ra e q => by
  simp only [do1] at e
  obtain ⟨l, el, rfl⟩ := seq_do e
  obtain ⟨p, vs, rfl, hq, rl⟩ := seq_rd so ra el
  exact call_list_of pins st σ s.H _ us Q I r ⟨p, vs, rfl, hK ▸ hq, fun l hl => q.lst so hl rl⟩
theorem int_of : CallR X (.type "int") (rC1 Γ W (doM1 .int)) := c1 (by decide) fun pins st σ s x us Q a d I r so ra e q => by
  cases a <;> simp only [do1, reduceCtorEq] at e
  · cases ra; cases e
    exact call_int1 pins st σ s.H _ us Q I r (.inr ⟨_, rfl, q.now so _ (.int _)⟩)
  · cases ra; cases e
    exact call_int1 pins st σ s.H _ us Q I r (.inl ⟨_, rfl, q.now so _ (.int _)⟩)
theorem abs_of : CallR X (.builtin "abs") (rC1 Γ W (doM1 .abs)) := c1 (by decide) fun pins st σ s x us Q a d I r so ra e q => by
  cases a <;> simp only [do1, reduceCtorEq] at e
  cases ra; cases e
  exact call_abs pins st σ s.H _ us Q I r ⟨_, rfl, q.now so _ (.int _)⟩
theorem sorted_of (hK : X.K = Γ.K) : CallR X (.builtin "sorted") (rC1 Γ W (doM1 .sorted)) := c1 (by decide) fun pins st σ s x us Q a d I r so ra e q => by
  cases a <;> simp only [do1, reduceCtorEq] at e
  split at e
  · rename_i ns en
    split at e
    · rename_i h64
      cases e
      obtain ⟨p, vs, rfl, hq, rl⟩ := lst_rd ra
      have := rl.intsO en
      subst this
      refine cr_sorted pins st σ s.H _ us Q I r ⟨p, ns, rfl, hK ▸ hq, h64, fun ns' p' pm pw hp => ?_⟩
      have : ns' = sortI ns := sortI_uniq (pm.trans (sortI_perm ns).symm) pw (sortI_le ns)
      subst this
      exact q.lst so hp (RVs.of_ints _)
    · cases e
  · cases e
theorem max2_of (hc : X.calm = true) : CallR X (.builtin "max") (rC2 Γ W (doM2 .max2)) := c2 (by decide) fun pins st σ s x y us Q a b d I r so ra rb e q => by
  cases a <;> cases b <;> simp only [do2, reduceCtorEq] at e
  cases ra; cases rb; cases e
  exact call_max2 hc pins st σ s.H _ us Q I r ⟨_, _, rfl, q.now so _ (.int _)⟩
theorem min2_of (hc : X.calm = true) : CallR X (.builtin "min") (rC2 Γ W (doM2 .min2)) := c2 (by decide) fun pins st σ s x y us Q a b d I r so ra rb e q => by
  cases a <;> cases b <;> simp only [do2, reduceCtorEq] at e
  cases ra; cases rb; cases e
  exact call_min2 hc pins st σ s.H _ us Q I r ⟨_, _, rfl, q.now so _ (.int _)⟩
/-! ### isinstance -/
def tyN : Ty → String
  | .int => "int" | .bool => "bool" | .str => "str" | .tuple => "tuple" | .cls _ => ""
theorem isi_of (hK : X.K = Γ.K) {t : Ty} (ht : ∀ k, t ≠ .cls k) {pins : List (Addr × Obj)} {st : Shared} {σ : L2.St} {s : Stt} {x : V} {us : List Value} {Q : VK} {a : D} {b : Bool} (I : Inv X pins σ s.H st) (r : Vals [x, .ty (tyN t)] us) (so : StOk Γ s) (ra : RV Γ s x a)
    (e : isiO t a = some b) (q : Q (.bl b) s.H) : wpAny (model X.prog X.w) X.A (call (.builtin "isinstance") us) (EP X pins σ Q) X.xe st := by
  have go : ∀ (n : String), TyX X.K s.H x (.type n) → PySem.W.kitOne X.K (.type n) (.type (tyN t)) = some b → wpAny (model X.prog X.w) X.A (call (.builtin "isinstance") us) (EP X pins σ Q) X.xe st := fun n h1 h2 =>
    call_isi pins st σ s.H _ us Q I r ⟨x, .ty (tyN t), .type n, .type (tyN t), b, rfl, .ty _, h1, h2, q⟩
  cases ra with
  | non => refine go "NoneType" (.base .non) (kit_ty ?_); cases t <;> first | (cases e; decide +kernel) | exact absurd rfl (ht _)
  | bl c => refine go "bool" (.base (.bl c)) (kit_ty ?_); cases t <;> first | (cases e; decide +kernel) | exact absurd rfl (ht _)
  | int c => refine go "int" (.base (.int c)) (kit_ty ?_); cases t <;> first | (cases e; decide +kernel) | exact absurd rfl (ht _)
  | str c => refine go "str" (.base (.str c)) (kit_ty ?_); cases t <;> first | (cases e; decide +kernel) | exact absurd rfl (ht _)
  | lst h1 h2 =>
    refine go "list" ?_ (kit_ty ?_)
    · rcases h1.2 with h | ⟨o, h⟩
      · exact .base (.lst h)
      · exact .base (.frz h)
    · cases t <;> first | (cases e; decide +kernel) | exact absurd rfl (ht _)
  | tup h1 h2 =>
    refine go "tuple" ?_ (kit_ty ?_)
    · rcases h1 with ⟨_, o, h, _⟩ | ⟨o, its, n, h, hc, _⟩
      · exact .fTuple h
      · exact .kTuple (hK ▸ h) hc
    · cases t <;> first | (cases e; decide +kernel) | exact absurd rfl (ht _)
  | ins h1 h2 h3 => cases t <;> cases e
  | ref h => cases t <;> cases e
  | scr h => cases t <;> cases e
  | dct h1 h2 h3 h4 => cases t <;> cases e
/-! ### subscripts -/
theorem ixN_eq (n : Nat) (i : Int) : QL.ixN n i = L2.ixN n i := rfl
theorem at_rd {s : Stt} {vs : List V} {l : List D} {i : Int} {d : D} (rl : RVs Γ s vs l) (e : QL.atI l i = some d) : ∃ v, L2.atI vs i = some v ∧ RV Γ s v d := by
  unfold QL.atI at e
  cases q : QL.ixN l.length i with
  | none => rw [q] at e; cases e
  | some j =>
    rw [q] at e
    obtain ⟨v, h1, h2⟩ := rl.get (show l[j]? = some d from e)
    refine ⟨v, ?_, h2⟩
    unfold L2.atI
    rw [rl.length, ← ixN_eq, q]
    exact h1
theorem ix_of (hK : X.K = Γ.K) : IxR X (rD2 Γ W (doM2 .ix)) := by
  intro value slice pins st σ H x y v u Q I rx ry h hs
  obtain ⟨s, a, b, rfl, so, ra, rb, h⟩ := h
  obtain ⟨d, e, q⟩ := do2_of so (by decide) h
  clear h
  unfold do2 at e
  split at e <;> first | contradiction | skip
  · cases ra; cases rb
    split at e
    · rename_i hz
      split at e
      · rename_i j ej
        simp only [Option.map_eq_some_iff] at e
        obtain ⟨c, e1, rfl⟩ := e
        refine ix_str value slice pins st σ s.H _ _ v u Q I rx ry ⟨_, _, c, rfl, rfl, hz, ?_, q.now so _ (.str _)⟩ hs
        unfold L2.atI
        rw [← ixN_eq, ej]
        exact e1
      · cases e
    · cases e
  · cases rb
    obtain ⟨p, rfl, hq⟩ := scr_rd ra
    rename_i ns i _
    cases hj : QL.ixN ns.length i with
    | none => rw [hj] at e; cases e
    | some j =>
      rw [hj] at e
      have e : (ns[j]?).map D.int = some d := e
      simp only [Option.map_eq_some_iff] at e
      obtain ⟨k, e1, rfl⟩ := e
      refine ix_list value slice pins st σ s.H _ _ v u Q I rx ry ⟨p, _, i, .int k, rfl, rfl, hK ▸ hq, ?_, q.now so _ (.int _)⟩ hs
      unfold L2.atI
      rw [List.length_map, ← ixN_eq, hj]
      show (ns.map V.int)[j]? = _
      rw [List.getElem?_map, e1]
      rfl
  · cases rb
    split at e
    · rename_i l el
      obtain ⟨p, vs, rfl, hq, rl⟩ := seq_rd so ra el
      obtain ⟨w, h1, h2⟩ := at_rd rl e
      rcases hq with hq | hq
      · exact ix_list value slice pins st σ s.H _ _ v u Q I rx ry ⟨p, vs, _, w, rfl, rfl, hK ▸ hq, h1, q.now so _ h2⟩ hs
      · exact ix_tup value slice pins st σ s.H _ _ v u Q I rx ry ⟨p, vs, _, w, rfl, rfl, hK ▸ hq, h1, q.now so _ h2⟩ hs
    · cases e
/-! ### slices -/
theorem cut_from (vs : List V) (i : Int) : cutV vs (some i) none = vs.drop (QL.sIx vs.length i) := by
  unfold cutV
  show List.take (vs.length - HT.sIx vs.length 0 (some i)) _ = _
  rw [List.take_of_length_le (by rw [List.length_drop]; exact Nat.le_refl _)]
  rfl
theorem cut_to (vs : List V) (i : Int) : cutV vs none (some i) = vs.take (QL.sIx vs.length i) := by
  unfold cutV
  show List.take (HT.sIx vs.length vs.length (some i) - 0) (vs.drop 0) = _
  rw [List.drop_zero, Nat.sub_zero]
  rfl
theorem sIx_whole {n : Nat} {i : Int} (h : QL.sIx n i = 0 → False) : True := trivial
theorem drop_zero_of {l : List D} {k : Nat} (h : k = 0) : l.drop k = l := by rw [h]; rfl
theorem slF_of (hK : X.K = Γ.K) {e e2 : Expr} {pos p2 : Pos} {ga gb : QL.Env → M D} (ha : PE X e (tD Γ W ga)) (hb : PE X e2 (tD Γ W gb)) : PE X (.Subscript e (.Slice (some e2) none none p2) pos) (tD Γ W fun ρ => M.bind (ga ρ) fun x => M.bind (gb ρ) fun y => doM2 .slF x y) := by
  refine (pe_slice (sl_list.or sl_tupF) ha (po_some hb) po_none).imp fun σ H Q h => ?_
  obtain ⟨ρ, s, rfl, ho, so, h⟩ := h
  refine ⟨ρ, s, rfl, ho, so, h.bindM.imp fun a s1 l1 o1 h1 v rv => ?_⟩
  refine ⟨ρ, s1, rfl, ho.mono l1, o1, h1.bindM.imp fun b s2 l2 o2 h2 u ru => ?_⟩
  obtain ⟨d, e, q⟩ := do2_of o2 (by decide) h2
  have rv2 := l2.rv rv
  cases a <;> cases b <;> simp only [do2, reduceCtorEq] at e
  · cases ru; cases e
    refine ⟨_, rfl, ?_⟩
    obtain ⟨p, vs, rfl, hq, rl⟩ := tup_rd rv2
    refine .inr ⟨p, vs, rfl, hK ▸ hq, fun hw => ?_, fun _ p' o hp hd => ?_⟩
    · have h0 := hw.1
      have : QL.sIx vs.length _ = 0 := h0
      rw [← rl.length, this, List.drop_zero] at q
      exact q.now o2 _ rv2
    · rw [cut_from]
      refine q.tup o2 hp hd ?_
      rw [rl.length]
      exact rl.drop _
  · cases ru; cases e
    refine ⟨_, rfl, ?_⟩
    obtain ⟨p, vs, rfl, hq, rl⟩ := lst_rd rv2
    refine .inl ⟨p, vs, rfl, hK ▸ hq, fun p' hp => ?_⟩
    rw [cut_from]
    refine q.lst o2 hp ?_
    rw [rl.length]
    exact rl.drop _
theorem slT_of (hK : X.K = Γ.K) {e e2 : Expr} {pos p2 : Pos} {ga gb : QL.Env → M D} (ha : PE X e (tD Γ W ga)) (hb : PE X e2 (tD Γ W gb)) : PE X (.Subscript e (.Slice none (some e2) none p2) pos) (tD Γ W fun ρ => M.bind (ga ρ) fun x => M.bind (gb ρ) fun y => doM2 .slT x y) := by
  refine (pe_slice (sl_list.or sl_tupF) ha po_none (po_some hb)).imp fun σ H Q h => ?_
  obtain ⟨ρ, s, rfl, ho, so, h⟩ := h
  refine ⟨ρ, s, rfl, ho, so, h.bindM.imp fun a s1 l1 o1 h1 v rv => ?_⟩
  refine ⟨ρ, s1, rfl, ho.mono l1, o1, h1.bindM.imp fun b s2 l2 o2 h2 u ru => ?_⟩
  obtain ⟨d, e, q⟩ := do2_of o2 (by decide) h2
  have rv2 := l2.rv rv
  cases a <;> cases b <;> simp only [do2, reduceCtorEq] at e
  · cases ru; cases e
    refine ⟨_, rfl, ?_⟩
    obtain ⟨p, vs, rfl, hq, rl⟩ := tup_rd rv2
    refine .inr ⟨p, vs, rfl, hK ▸ hq, fun hw => ?_, fun _ p' o hp hd => ?_⟩
    · have : QL.sIx vs.length _ = vs.length := hw.2
      rw [← rl.length, this, rl.length, List.take_length] at q
      exact q.now o2 _ rv2
    · rw [cut_to]
      refine q.tup o2 hp hd ?_
      rw [rl.length]
      exact rl.take _
  · cases ru; cases e
    refine ⟨_, rfl, ?_⟩
    obtain ⟨p, vs, rfl, hq, rl⟩ := lst_rd rv2
    refine .inl ⟨p, vs, rfl, hK ▸ hq, fun p' hp => ?_⟩
    rw [cut_to]
    refine q.lst o2 hp ?_
    rw [rl.length]
    exact rl.take _
  · cases ru; cases e
    refine ⟨_, rfl, ?_⟩
    obtain ⟨p, rfl, hq⟩ := scr_rd rv2
    refine .inl ⟨p, _, rfl, hK ▸ hq, fun p' hp => ?_⟩
    rw [cut_to, List.length_map, ← List.map_take]
    exact q.lst o2 hp (RVs.of_ints _)
end
end QS
end
section
set_option linter.all false
set_option maxRecDepth 100000
set_option autoImplicit false
/-! QS6: methods of built-ins; displays; calls. -/
namespace QS
open PySem PySem.Spec PyProof.Rows L2 QL
section
variable {Γ : Inf} {W : XK} {X : Cx}
/-! ### a method of a text, a list, a tuple -/
def tyF (K : PySem.W.Frag) (T : String) (x : V) (H : Hp) : Prop := (∃ z, x = .str z ∧ T = "str") ∨ (∃ p xs, x = .ref p ∧ T = "list" ∧ SqL K H p xs) ∨
  (∃ p xs o, x = .ref p ∧ T = "tuple" ∧ H p = some (.frz o (.tup xs)) ∧ o.dict = none) ∨ (∃ p xs, x = .ref p ∧ T = "tuple" ∧ KT K p xs)
theorem tyF_is {pins : List (Addr × Obj)} {σ : L2.St} {H : Hp} {s : Shared} {T : String} {x : V} {v : Value} (I : Inv X pins σ H s) (r : RelV x v) (ty : tyF X.K T x H) :
    s.TypeIs v T ∧ ∀ a, v = .ref a → ∃ ob, s.heap.get? a = some ob ∧ ob.dict = none := by
  rcases ty with ⟨z, rfl, rfl⟩ | ⟨p, xs, rfl, rfl, h⟩ | ⟨p, xs, o, rfl, rfl, h, hd⟩ | ⟨p, xs, rfl, rfl, o, its, n, hk, hc, hd, _⟩
  · exact tyV_is I r rfl
  · exact tyV_is I r (.inl ⟨rfl, xs, h⟩)
  · cases r
    obtain ⟨ho, _, _, _, o', h1, h2, _⟩ := (show ObjOk X.prog X.w H s.heap p (.frz o (.tup xs)) from I.hok p _ h)
    rw [ho] at h1
    cases h1
    exact ⟨⟨o, ho, h2⟩, fun a e => by cases e; exact ⟨o, ho, hd⟩⟩
  · exact tyV_is I r (.inr (.inl ⟨rfl, o, hk, hc, hd⟩))
def tBF (K : PySem.W.Frag) (T : String) (r : V → List V → Hp → VK → Prop) (to : TE) (t : L2.TA) : TE := fun σ H Q => to σ H fun x H1 => tyF K T x H1 ∧ t σ H1 fun xs H2 => r x xs H2 Q
/-- the methods called so, whatever the receiver (ok) -/
def MRule (X : Cx) (name : Str) (ok : D → V → Hp → Prop) (r : D → V → List V → Hp → VK → Prop) : Prop :=
  ∀ i x H, ok i x H → ∃ T id, PlainAttrs T ∧ Slot T name id ∧ typeOf (.builtin id) = pure (.type "method_descriptor") ∧ tyF X.K T x H ∧ ∃ r', MtR X id r' ∧ ∀ xs H' Q, r i x xs H' Q → r' x xs H' Q
def tBG (ok : D → V → Hp → Prop) (r : D → V → List V → Hp → VK → Prop) (to : TE) (t : L2.TA) : TE := fun σ H Q => to σ H fun x H1 => ∃ i, ok i x H1 ∧ t σ H1 fun xs H2 => r i x xs H2 Q
/-- one argument, no star in it -/
theorem pe_bg {o e : Expr} {to : TE} {t : L2.TA} {name : Str} {apos cpos : Pos} {ok : D → V → Hp → Prop} {r : D → V → List V → Hp → VK → Prop} (hm : MRule X name ok r) (ho : PE X o to) (ha : PA X [e] t)
    (hbase : attributeBase o name X.env (eval o X.env) = eval o X.env) (hline : (apos.endLine == cpos.line) = true) (hs : starEach [e] X.env = (false, eval e X.env) :: starEach [] X.env) :
    PE X (.Call (.Attribute o name apos) [e] [] cpos) (tBG ok r to t) := by
  refine ⟨fun pins s σ H Q I h => ?_⟩
  refine wpAny_Call_method_late hbase (by rw [hs]; rfl) hline rfl (thn (ho.run pins s σ H _ I h) fun v s1 ⟨x, H1, I1, r1, i, ty, q1⟩ => ?_)
  obtain ⟨T, id, pa, slot, hty, tf, r', mr, im⟩ := hm i x H1 ty
  obtain ⟨h1, h2⟩ := tyF_is I1 r1 tf
  refine ⟨T, id, pa, slot, hty, h1, h2, ?_⟩
  have hA := ha.run cpos pins s1 σ H1 _ I1 q1
  rw [hs] at hA ⊢
  refine Calls.callWith_builtin rfl (Calls.evalArgs_plain ?_)
  exact thn hA fun us s2 ⟨vs, H2, I2, r2, q2⟩ => mr pins s2 σ H2 x vs v us Q I2 r1 r2 (im vs H2 Q q2)
/-- the type of the receiver by its data -/
def tyD (T : String) : D → Bool
  | .str _ => T == "str"
  | .lst _ => T == "list"
  | .tup _ => T == "tuple"
  | _ => false
theorem tyD_F {s : Stt} {x : V} {a : D} {T : String} (r : RV Γ s x a) (h : tyD T a = true) : tyF Γ.K T x s.H := by
  cases r <;> simp only [tyD, Bool.false_eq_true, beq_iff_eq] at h
  · exact .inl ⟨_, rfl, h⟩
  · rename_i h1 h2; exact .inr (.inl ⟨_, _, rfl, h, h1.sq⟩)
  · rename_i h1 h2
    rcases h1 with ⟨_, o, e, hd⟩ | hk
    · exact .inr (.inr (.inl ⟨_, _, o, rfl, h, e, hd⟩))
    · exact .inr (.inr (.inr ⟨_, _, rfl, h, hk⟩))
def mOk (Γ : Inf) (op : O2) : D → V → Hp → Prop := fun a x H => ∃ s, s.H = H ∧ StOk Γ s ∧ RV Γ s x a ∧ recv op a s.μ = true
def mRd (Γ : Inf) (W : XK) (op : O2) : D → V → List V → Hp → VK → Prop := fun a x xs H Q => ∃ y s b, xs = [y] ∧ s.H = H ∧ StOk Γ s ∧ RV Γ s x a ∧ RV Γ s y b ∧ Rs Γ W s (doM2 op a b s.μ) (KD Γ Q)
/-- a method by data -/
theorem d_meth {o e : Expr} {go ge : QL.Env → M D} {op : O2} {name : Str} {apos cpos : Pos} (hm : MRule X name (mOk Γ op) (mRd Γ W op))
    (ho : PE X o (tD Γ W go)) (ha : PE X e (tD Γ W ge))
    (hbase : attributeBase o name X.env (eval o X.env) = eval o X.env) (hline : (apos.endLine == cpos.line) = true) (hs : starEach [e] X.env = (false, eval e X.env) :: starEach [] X.env) :
    PE X (.Call (.Attribute o name apos) [e] [] cpos) (tD Γ W fun ρ => M.bind (go ρ) fun x => M.bind (recvM op x) fun _ => M.bind (ge ρ) fun y => doM2 op x y) := by
  refine (pe_bg hm ho (pa_cons ha pa_nil hs) hbase hline hs).imp fun σ H Q h => ?_
  obtain ⟨ρ, s, rfl, hρ, so, h⟩ := h
  refine ⟨ρ, s, rfl, hρ, so, h.bindM.imp fun a s1 l1 o1 h1 v rv => ?_⟩
  cases hr : recv op a s1.μ with
  | false =>
    have e : recvM op a s1.μ = .bad := if_neg (by rw [hr]; decide)
    have h1 := h1.bindM
    rw [e] at h1
    exact h1.elim
  | true =>
    have e : recvM op a s1.μ = .ok ⟨⟩ s1.μ := if_pos hr
    have h1 := h1.bindM
    rw [e] at h1
    have h1 := h1 s1 (Le.refl s1) o1 rfl
    refine ⟨a, ⟨s1, rfl, o1, rv, hr⟩, ρ, s1, rfl, hρ.mono l1, o1, (show Rs Γ W s1 (M.bind (ge ρ) (fun y => doM2 op a y) s1.μ) _ from h1).bindM.imp fun b s2 l2 o2 h2 u ru => ?_⟩
    exact ⟨u, s2, b, rfl, rfl, o2, l2.rv rv, ru, h2⟩
theorem indexP_get {p : PyData} : ∀ {qs : List PyData} {j : Nat}, indexP p qs = some j → ∃ z, qs[j]? = some z ∧ PyData.eqv z p = true ∧ ∀ (m : Nat) (z' : PyData), m < j → qs[m]? = some z' → PyData.eqv z' p = false
  | [], _, h => by cases h
  | z :: r, j, h => by
    unfold indexP at h
    split at h
    · rename_i hz
      cases h
      exact ⟨z, rfl, hz, fun m z' hm => by omega⟩
    · rename_i hz
      simp only [Option.map_eq_some_iff] at h
      obtain ⟨k, hk, rfl⟩ := h
      obtain ⟨y, h1, h2, h3⟩ := indexP_get hk
      refine ⟨y, by simpa using h1, h2, fun m z' hm hz' => ?_⟩
      cases m with
      | zero => simp at hz'; subst hz'; simpa using hz
      | succ m => exact h3 m z' (by omega) (by simpa using hz')
theorem indexD_of {a : D} {l : List D} {j : Nat} (h : indexD a l = some j) : ∃ p qs, shp a = some p ∧ shp (.lst l) = some (.list qs) ∧ indexP p qs = some j := by
  unfold indexD at h
  split at h
  · rename_i p qs e1 e2
    exact ⟨p, qs, e1, e2, h⟩
  · cases h
/-- t.index(x) of data -/
def rIndexT (K : PySem.W.Frag) : V → List V → Hp → VK → Prop := fun x xs H Q => ∃ (a : Addr) (vs : List V) (y : V) (d : PyData) (ds : List PyData) (j : Nat) (z : PyData), x = V.ref a ∧ xs = [y] ∧ SqT K H a vs ∧ DpAll K H vs ds ∧ Dp K H y d ∧
  SeqAt.shaped (.list ds) = true ∧ SeqAt.shaped d = true ∧ ds[j]? = some z ∧ PyData.eqv z d = true ∧ (∀ (m : Nat) (z' : PyData), m < j → ds[m]? = some z' → PyData.eqv z' d = false) ∧ Q (.int (j : Nat)) H
theorem mt_indexT (hu : X.A.units + 65 < cLine) : MtR X "tuple.index" (rIndexT X.K) := by
  intro pins s σ H x xs v us Q I rx rxs h
  obtain ⟨a, vs, y, d, ds, j, z, rfl, rfl, hs, ha, hy, sl, sd, hz, hzj, hno, q⟩ := h
  cases rx
  obtain ⟨uy, rfl, ry⟩ := rxs.one
  obtain ⟨bs, r1⟩ := Dp.reads I d y uy hy ry
  have hxs : PyData.canLayAll0 ds = true := SeqAt.canLay_of_shaped sl
  have hroom : X.A.units + 1 + min (PyData.depthAll ds) d.depth < cLine := room_in_shaped sd hu
  obtain ⟨its, rv, ⟨⟨cls, dd, data, sls⟩, ho, hc, n, hdt⟩, hlen⟩ := I.tuple hs
  simp only at hc hdt
  subst hc hdt
  obtain ⟨as, h4⟩ := Dp.readsAll I ds _ its ha rv
  have hn : its.length = ds.length := SeqAt.ReadsAll.length ds its as h4
  have hmap : its.map (SeqAt.readOf s.heap) = ds := SeqAt.readsAll_map ds its as hxs h4
  obtain ⟨hjd, _⟩ := List.getElem?_eq_some_iff.mp hz
  have hj : j < its.toArray.size := by simp; omega
  have at_ : ∀ (m : Nat) (hm : m < its.toArray.size) (z' : PyData), ds[m]? = some z' → SeqAt.readOf s.heap its.toArray[m] = z' := by
    intro m hm z' hz'
    have hml : m < its.length := by simpa using hm
    rw [← hmap, List.getElem?_map, List.getElem?_eq_getElem hml] at hz'
    have e1 : SeqAt.readOf s.heap its[m] = z' := Option.some.inj hz'
    simpa using e1
  refine call_meets PySem.F.slot_tuple_index ⟨_, ho, rfl⟩ PySem.F.entry_tuple_index (PySem.F.args_tuple_index_2 _ _)
    (TI.tuple_indexAt a its.toArray n dd sls uy (fun u => PyData.eqv (SeqAt.readOf s.heap u) d) j hj ?_ ?_) ⟨ho, SeqAt.items_eqAt (vs := its.toArray) (show ReadsAll s.heap its.toArray.toList ds as from h4) r1 hxs (SeqAt.canLay_of_shaped sd) hroom, ?_⟩
  · show PyData.eqv (SeqAt.readOf s.heap its.toArray[j]) d = true
    rw [at_ j hj z hz]; exact hzj
  · intro m hm hmj
    show PyData.eqv (SeqAt.readOf s.heap its.toArray[m]) d = false
    obtain ⟨z', hz'⟩ : ∃ z', ds[m]? = some z' := ⟨ds[m]'(by omega), List.getElem?_eq_getElem (by omega)⟩
    rw [at_ m hm z' hz']; exact hno m z' hmj hz'
  · exact ⟨.int (j : Nat), H, I.tok _, ⟨_, rfl⟩, q⟩
theorem m_index (hK : X.K = Γ.K) (hu : X.A.units + 65 < cLine) : MRule X "index" (mOk Γ .index) (mRd Γ W .index) := by
  rintro a x H ⟨s0, rfl, so0, r0, h0⟩
  cases a <;> first | (cases h0; done) | skip
  · rename_i ds
    refine ⟨"tuple", _, PySem.F.plainAttrs_tuple, PySem.F.slot_tuple_index, PySem.F.type_tuple_index, hK ▸ tyD_F r0 rfl, _, mt_indexT hu, fun xs H' Q q => ?_⟩
    obtain ⟨y, s, b, rfl, rfl, so, ra, rb, q⟩ := q
    obtain ⟨d, e, q⟩ := do2_of so (by decide) q
    simp only [do2, Option.map_eq_some_iff] at e
    obtain ⟨j, e, rfl⟩ := e
    obtain ⟨p, qs, e1, e2, e3⟩ := indexD_of e
    obtain ⟨z, h1, h2, h3⟩ := indexP_get e3
    obtain ⟨pa, vs, rfl, hq, rl⟩ := tup_rd ra
    obtain ⟨hb1, hb2⟩ := rb.dps e1
    obtain ⟨e4, e5⟩ := shp_toP e2
    simp only [toP, Option.map_eq_some_iff] at e4
    obtain ⟨ps, e4, e6⟩ := e4
    cases e6
    exact ⟨pa, vs, y, p, qs, j, z, rfl, rfl, hK ▸ hq, hK ▸ RVs.dp ds vs qs rl e4, hK ▸ hb1, e5, hb2, h1, h2, h3, q.now so _ (.int _)⟩
  · rename_i ds
    refine ⟨"list", _, PySem.F.plainAttrs_list, PySem.F.slot_list_index, PySem.F.type_list_index, hK ▸ tyD_F r0 rfl, _, mt_indexD hu, fun xs H' Q q => ?_⟩
    obtain ⟨y, s, b, rfl, rfl, so, ra, rb, q⟩ := q
    obtain ⟨d, e, q⟩ := do2_of so (by decide) q
    simp only [do2, Option.map_eq_some_iff] at e
    obtain ⟨j, e, rfl⟩ := e
    obtain ⟨p, qs, e1, e2, e3⟩ := indexD_of e
    obtain ⟨z, h1, h2, h3⟩ := indexP_get e3
    obtain ⟨pa, vs, rfl, hq, rl⟩ := lst_rd ra
    obtain ⟨hb1, hb2⟩ := rb.dps e1
    obtain ⟨e4, e5⟩ := shp_toP e2
    simp only [toP, Option.map_eq_some_iff] at e4
    obtain ⟨ps, e4, e6⟩ := e4
    cases e6
    exact ⟨pa, y, p, qs, j, z, rfl, rfl, .lst (hK ▸ hq) (hK ▸ RVs.dp ds vs qs rl e4), hK ▸ hb1, e5, hb2, h1, h2, h3, q.now so _ (.int _)⟩
theorem m_join (hK : X.K = Γ.K) : MRule X "join" (mOk Γ .join) (mRd Γ W .join) := by
  rintro a x H ⟨s0, rfl, so0, r0, h0⟩
  cases a <;> first | (cases h0; done) | skip
  rename_i z
  refine ⟨"str", _, PySem.F.plainAttrs_str, PySem.F.slot_str_join, PySem.F.type_str_join, hK ▸ tyD_F r0 rfl, _, mt_join, fun xs H' Q q => ?_⟩
  obtain ⟨y, s, b, rfl, rfl, so, ra, rb, q⟩ := q
  obtain ⟨d, e, q⟩ := do2_of so (by decide) q
  simp only [do2] at e
  split at e
  · rename_i l el
    split at e
    · rename_i ys ey
      split at e
      · rename_i hz
        cases e
        obtain ⟨p, vs, rfl, hq, rl⟩ := seq_rd so rb el
        have := rl.strsO ey
        subst this
        cases ra
        exact ⟨z, p, ys, rfl, rfl, hK ▸ hq, hz, q.now so _ (.str _)⟩
      · cases e
    · cases e
  · cases e
theorem m_split (hK : X.K = Γ.K) : MRule X "split" (mOk Γ .split) (mRd Γ W .split) := by
  rintro a x H ⟨s0, rfl, so0, r0, h0⟩
  cases a <;> first | (cases h0; done) | skip
  rename_i z
  refine ⟨"str", _, PySem.F.plainAttrs_str, PySem.F.slot_str_split, PySem.F.type_str_split, hK ▸ tyD_F r0 rfl, _, mt_split, fun xs H' Q q => ?_⟩
  obtain ⟨y, s, b, rfl, rfl, so, ra, rb, q⟩ := q
  obtain ⟨d, e, q⟩ := do2_of so (by decide) q
  cases b <;> simp only [do2, reduceCtorEq] at e
  split at e
  · rename_i hz
    cases e
    cases ra
    cases rb
    refine ⟨z, _, rfl, rfl, hz.1, hz.2, fun p hp => ?_⟩
    have : ∀ ys : List Str, RVs Γ s (ys.map V.str) (ys.map D.str) := fun ys => by
      induction ys with
      | nil => exact .nil
      | cons y ys ih => exact .cons (.str y) ih
    exact q.lst so hp (this _)
  · cases e
end
end QS
end
section
set_option linter.all false
set_option maxRecDepth 100000
set_option autoImplicit false
/-! QS7: displays, calls, comprehensions, what is walked. -/
namespace QS
open PySem PySem.Spec PyProof.Rows L2 QL
section
variable {Γ : Inf} {W : XK} {X : Cx} {G : Gs} {pos : Pos}
theorem m_count (hK : X.K = Γ.K) : MRule X "count" (mOk Γ .count) (mRd Γ W .count) := by
  rintro a x H ⟨s0, rfl, so0, r0, h0⟩
  cases a <;> first | (cases h0; done) | skip
  · rename_i ds
    refine ⟨"tuple", _, PySem.F.plainAttrs_tuple, PySem.F.slot_tuple_count, PySem.F.type_tuple_count, hK ▸ tyD_F r0 rfl, fun x xs H Q => ∃ (p : Addr) (ns : List Int) (k : Int), x = .ref p ∧ xs = [.int k] ∧ SqT X.K H p (ns.map V.int) ∧ Q (.int (ns.count k : Nat)) H, ?_, fun xs H' Q q => ?_⟩
    · intro pins s σ H x xs v us Q I rx rxs h
      obtain ⟨p, ns, k, rfl, rfl, hs, q⟩ := h
      cases rx
      obtain ⟨u, rfl, ru⟩ := rxs.one
      obtain ⟨t, rfl⟩ := ru
      obtain ⟨its, rv, ⟨⟨cls, dd, data, sl⟩, ho, hc, n, hd⟩, hlen⟩ := I.tuple hs
      simp only at hc hd
      subst hc hd
      have hi := ints_of_vals rv
      refine call_meets PySem.F.slot_tuple_count ⟨_, ho, rfl⟩ PySem.F.entry_tuple_count (PySem.F.args_tuple_count_2 _ _)
        (SeqAt.tuple_countAt p its.toArray n dd sl (.int k t) (eqk k)) ⟨ho, fun y hy => (eqk_gives hi y (by simpa using hy)).at _ _, ?_⟩
      have ec : its.toArray.toList.countP (eqk k) = ns.count k := eqk_count hi
      refine ⟨.int (ns.count k : Nat), H, I.tok _, ⟨s.toks, ?_⟩, q⟩
      show Value.int (its.toArray.toList.countP (eqk k) : Nat) s.toks = _
      rw [ec]
    · obtain ⟨y, s, b, rfl, rfl, so, ra, rb, q⟩ := q
      obtain ⟨d, e, q⟩ := do2_of so (by decide) q
      cases b <;> simp only [do2, reduceCtorEq, Option.map_eq_some_iff] at e
      obtain ⟨ns, e, rfl⟩ := e
      obtain ⟨pa, vs, rfl, hq, rl⟩ := tup_rd ra
      have := rl.intsO e
      subst this
      cases rb
      exact ⟨pa, ns, _, rfl, rfl, hK ▸ hq, q.now so _ (.int _)⟩
  · refine ⟨"list", _, PySem.F.plainAttrs_list, PySem.F.slot_list_count, PySem.F.type_list_count, hK ▸ tyD_F r0 rfl, fun _ _ _ _ => False, (fun _ _ _ _ _ _ _ _ _ _ _ _ z => z.elim), fun xs H' Q q => ?_⟩
    obtain ⟨y, s, b, rfl, rfl, so, ra, rb, q⟩ := q
    obtain ⟨d, e, q⟩ := do2_of so (by decide) q
    cases b <;> simp only [do2, reduceCtorEq] at e
/-- a live cell is changed -/
theorem cell_le {s : Stt} {n : Nat} {c c' : Cell} {o : HO} (so : StOk Γ s) (hn : s.μ[n]? = some c) (hc : live c = true) (hc' : live c' = true) : Le s { s with μ := s.μ.set n c', H := upd s.H (s.α n) o } := by
  have own_same : ∀ b, own { s with μ := s.μ.set n c', H := upd s.H (s.α n) o } b ↔ own s b := fun b => by
    constructor
    · rintro (h | ⟨m, d, h1, h2, h3⟩)
      · exact .inl h
      · by_cases hm : m = n
        · subst hm
          exact .inr ⟨m, c, hn, hc, h3⟩
        · have h1 : (s.μ.set n c')[m]? = some d := h1
          rw [List.getElem?_set_ne (Ne.symm hm)] at h1
          exact .inr ⟨m, d, h1, h2, h3⟩
    · rintro (h | ⟨m, d, h1, h2, h3⟩)
      · exact .inl h
      · by_cases hm : m = n
        · subst hm
          exact .inr ⟨m, c', by show (s.μ.set m c')[m]? = _; rw [List.getElem?_set_self (List.getElem?_eq_some_iff.mp hn).1], hc', h3⟩
        · exact .inr ⟨m, d, by show (s.μ.set n c')[m]? = _; rw [List.getElem?_set_ne (Ne.symm hm)]; exact h1, h2, h3⟩
  refine ⟨LeD.of (by show _ ≤ (s.μ.set n c').length; rw [List.length_set]; exact Nat.le_refl _) (fun _ _ => rfl) fun b u h e => ⟨fun q => h ((own_same b).mp q), ?_⟩, fun b h => ⟨h, ?_⟩⟩
  · show upd s.H (s.α n) o b = some u
    rw [upd_ne fun z => h (.inr ⟨n, c, hn, hc, z.symm⟩)]
    exact e
  · show upd s.H (s.α n) o b = s.H b
    exact upd_ne fun z => so.hid n c hn hc (z ▸ h)
theorem cell_ok {s : Stt} {n : Nat} {c c' : Cell} {o : HO} (so : StOk Γ s) (hn : s.μ[n]? = some c) (hc : live c = true) (hc' : live c' = true) (h : CellOk Γ { s with μ := s.μ.set n c', H := upd s.H (s.α n) o } n c') :
    StOk Γ { s with μ := s.μ.set n c', H := upd s.H (s.α n) o } := by
  have l := cell_le (o := o) so hn hc hc'
  have get : ∀ m d, (s.μ.set n c')[m]? = some d → (m = n ∧ d = c') ∨ (m ≠ n ∧ s.μ[m]? = some d) := fun m d e => by
    by_cases hm : m = n
    · subst hm
      rw [List.getElem?_set_self (List.getElem?_eq_some_iff.mp hn).1] at e
      cases e
      exact .inl ⟨rfl, rfl⟩
    · rw [List.getElem?_set_ne (Ne.symm hm)] at e
      exact .inr ⟨hm, e⟩
  refine ⟨fun m d e => ?_, fun m k d f e1 e2 l1 l2 e3 => ?_, fun m d e ld => ?_, fun b hb => ?_⟩
  · rcases get m d e with ⟨rfl, rfl⟩ | ⟨hm, e⟩
    · exact h
    · refine (so.cell m d e).mono l fun ld => ?_
      show upd s.H (s.α n) o (s.α m) = s.H (s.α m)
      exact upd_ne fun z => hm (so.inj m n d c e hn ld hc z)
  · have a1 : ∃ d', s.μ[m]? = some d' ∧ live d' = true := by
      rcases get m d e1 with ⟨rfl, rfl⟩ | ⟨_, e⟩
      · exact ⟨c, hn, hc⟩
      · exact ⟨d, e, l1⟩
    have a2 : ∃ d', s.μ[k]? = some d' ∧ live d' = true := by
      rcases get k f e2 with ⟨rfl, rfl⟩ | ⟨_, e⟩
      · exact ⟨c, hn, hc⟩
      · exact ⟨f, e, l2⟩
    obtain ⟨d1, h1, h2⟩ := a1
    obtain ⟨d2, h3, h4⟩ := a2
    exact so.inj m k d1 d2 h1 h3 h2 h4 e3
  · rcases get m d e with ⟨rfl, rfl⟩ | ⟨_, e⟩
    · exact so.hid m c hn hc
    · exact so.hid m d e ld
  · show upd s.H (s.α n) o b ≠ none
    by_cases hb' : b = s.α n
    · rw [hb', upd_same]; exact fun z => nomatch z
    · rw [upd_ne hb']; exact so.trk b hb
theorem ref_rd {s : Stt} {x : V} {n : Nat} (r : RV Γ s x (.ref n)) : x = .ref (s.α n) ∧ n < s.μ.length := by
  cases r with
  | ref h => exact ⟨rfl, h⟩
theorem m_append : MRule X "append" (mOk Γ .append) (mRd Γ W .append) := by
  rintro a x H ⟨s0, rfl, so0, r0, h0⟩
  cases a <;> first | (cases h0; done) | skip
  rename_i n
  obtain ⟨rfl, hn⟩ := ref_rd r0
  have hc : ∃ ds, s0.μ[n]? = some (.lst ds) := by
    simp only [recv] at h0
    split at h0
    · rename_i l e; exact ⟨l, e⟩
    · cases h0
  obtain ⟨ds, hc⟩ := hc
  obtain ⟨vs, h1, h2⟩ := so0.cell n _ hc
  refine ⟨"list", _, PySem.F.plainAttrs_list, PySem.F.slot_list_append, PySem.F.type_list_append, .inr (.inl ⟨_, vs, rfl, rfl, SqL.of h1⟩), _, mt_append, fun xs H' Q q => ?_⟩
  obtain ⟨y, s, b, rfl, rfl, so, ra, rb, q⟩ := q
  obtain ⟨ea, hn'⟩ := ref_rd ra
  rw [ea]
  have q : Rs Γ W s (appendM (.ref n) b s.μ) (KD Γ Q) := q
  simp only [appendM] at q
  split at q
  · rename_i l el
    split at q
    · rename_i hz
      obtain ⟨ws, h3, h4⟩ := so.cell n _ el
      refine ⟨s.α n, ws, y, rfl, rfl, h3, by rw [h4.length]; exact hz, ?_⟩
      have l1 := cell_le (c' := .lst (l ++ [b])) (o := .lst (ws ++ [y])) so el rfl rfl
      have o1 := cell_ok (c' := .lst (l ++ [b])) (o := .lst (ws ++ [y])) so el rfl rfl ⟨ws ++ [y], upd_same, (l1.rvs h4).append (.cons (l1.rv rb) .nil)⟩
      exact q _ l1 o1 rfl _ .non
    · exact q.elim
  · exact q.elim
/-! ### displays -/
theorem d_tup {es : List Expr} {as : Es} {k : Nat} (h : PA X es (tDA Γ W (evs G as))) : PE X (.Tuple es k pos) (tD Γ W (ev G (.tup as))) := by
  refine (pe_tupF h).imp fun σ H Q h => ?_
  obtain ⟨ρ, s, rfl, ho, so, h⟩ := h
  have h : Rs Γ W s (M.bind (evs G as ρ) (fun l => ofO (tupO l)) s.μ) _ := h
  refine ⟨ρ, s, rfl, ho, so, h.bindM.imp fun ds s1 l1 o1 h1 vs rv => ?_⟩
  obtain ⟨d, e, h1⟩ := h1.ofO'
  unfold tupO at e
  split at e
  · rename_i hz
    cases e
    exact ⟨by rw [rv.length]; exact hz, fun p o hp hd => Rs.tup h1 o1 hp hd rv⟩
  · cases e
theorem d_lst {es : List Expr} {as : Es} (h : PA X es (tDA Γ W (evs G as))) : PE X (.List es pos) (tD Γ W (ev G (.lst as))) := by
  refine (pe_lst h).imp fun σ H Q h => ?_
  obtain ⟨ρ, s, rfl, ho, so, h⟩ := h
  have h : Rs Γ W s (M.bind (evs G as ρ) (fun l => ofO (lstO l)) s.μ) _ := h
  refine ⟨ρ, s, rfl, ho, so, h.bindM.imp fun ds s1 l1 o1 h1 vs rv => ?_⟩
  obtain ⟨d, e, h1⟩ := h1.ofO'
  unfold lstO at e
  split at e
  · rename_i hz
    cases e
    exact ⟨by rw [rv.length]; exact hz, fun p hp => Rs.lst h1 o1 hp rv⟩
  · cases e
/-! ### calls of the program's own defs -/
def spD (Γ : Inf) (F : List D → M D) (n : Nat) : Sp := fun vs H Q E => ∃ s ds, s.H = H ∧ StOk Γ s ∧ RVs Γ s vs ds ∧ ds.length = n ∧ Rs Γ E s (F ds s.μ) (KD Γ Q)
theorem d_call {CX : CXT} {k f n : Nat} {a : Addr} {fd : FuncData} {ps : List Str} {x : Str} {p : Pos} {es : List Expr} {as : Es} (F : FnOk X.prog X.w X.K X.mg X.base CX k a fd ps (spD Γ (G f) n)) (hr : Room k X.A) (hg : Gl X x) (hm : X.mg x = some (.ref a)) (hk : PySem.W.keepIn X.K (.ref a) = true)
    (hb : Binds X.K fd ps []) (hx : Passes CX X W) (hl : ∀ ds m, G f ds m ≠ .bad → ds.length = n) (ha : PA X es (tDA Γ W (evs G as))) (hdb : (x == ("__debug__" : Str)) = false) (h0 : es = [] → as = .nil) (hs : ∀ e r, es = e :: r → starEach (e :: r) X.env = (false, eval e X.env) :: starEach r X.env ∧ (backTo pos (starEach r X.env)).any (·.1) = false) :
    PE X (.Call (.Name x p) es [] pos) (tD Γ W (ev G (.call f as))) := by
  have key : ∀ σ H Q, tD Γ W (ev G (.call f as)) σ H Q → tCall (spD Γ (G f) n) [] W (tDA Γ W (evs G as)) σ H Q := fun σ H Q h => by
    obtain ⟨ρ, s, rfl, ho, so, h⟩ := h
    have h : Rs Γ W s (M.bind (evs G as ρ) (fun l => G f l) s.μ) _ := h
    refine ⟨ρ, s, rfl, ho, so, h.bindM.imp fun ds s1 l1 o1 h1 vs rv => ?_⟩
    show spD Γ (G f) n (vs ++ []) s1.H Q W
    rw [List.append_nil]
    exact ⟨s1, ds, rfl, o1, rv, hl ds s1.μ (fun z => by rw [z] at h1; exact h1), h1⟩
  cases es with
  | nil =>
    refine (pe_call0 F hr hg hm hk hb .nil hx hdb).imp fun σ H Q h => ?_
    obtain rfl := h0 rfl
    obtain ⟨ρ, s, rfl, ho, so, h⟩ := h
    have h : Rs Γ W s (G f [] s.μ) _ := h
    exact ⟨s, [], rfl, so, .nil, hl [] s.μ (fun z => by rw [z] at h; exact h), h⟩
  | cons e r => exact (pe_call F hr hg hm hk hb .nil hx ha hdb (hs e r rfl).1 (hs e r rfl).2).imp key
end
end QS
end
section
set_option linter.all false
set_option maxRecDepth 100000
set_option autoImplicit false
/-! QS8: lists and tuples walked, enumerated, zipped. -/
namespace QS
open PySem PySem.Spec PyProof.Rows L2 QL
/-- a list (true) or a tuple -/
def SqB (b : Bool) (K : PySem.W.Frag) (H : Hp) (a : Addr) (xs : List V) : Prop := match b with
  | true => SqL K H a xs
  | false => SqT K H a xs
def IterB (b : Bool) (h : Heap) (it a : Addr) (i : Nat) : Prop := match b with
  | true => h.IsListIter it a i
  | false => h.IsTupleIter it a i
def IsB (b : Bool) (h : Heap) (a : Addr) (items : Array Value) : Prop := match b with
  | true => h.IsList a items
  | false => h.IsTuple a items
def iterO (b : Bool) (a : Addr) : Obj := match b with
  | true => { cls := .type "list_iterator", data := .fields #[.ref a, .int 0 0] }
  | false => { cls := .type "tuple_iterator", data := .fields #[.ref a, .int 0 0] }
theorem IterB.at' {b : Bool} {h h' : Heap} {it a : Addr} {i : Nat} (x : IterB b h it a i) (k : ∀ o, h.get? it = some o → h'.get? it = some o) : IterB b h' it a i := by
  cases b with
  | true => exact Heap.IsListIter.at x k
  | false => exact Heap.IsTupleIter.at x k
theorem IterB.obj {b : Bool} {h : Heap} {it a : Addr} {i : Nat} (x : IterB b h it a i) : ∃ o, h.get? it = some o ∧ ∀ v, o.data ≠ .cell v := by
  cases b with
  | true => obtain ⟨o, e, _, d⟩ := x; exact ⟨o, e, fun v q => by rw [d] at q; cases q⟩
  | false => obtain ⟨o, e, _, d⟩ := x; exact ⟨o, e, fun v q => by rw [d] at q; cases q⟩
theorem iterO_is (b : Bool) {h : Heap} {it a : Addr} (e : h.get? it = some (iterO b a)) : IterB b h it a 0 := by
  cases b with
  | true => exact ⟨_, e, rfl, rfl⟩
  | false => exact ⟨_, e, rfl, rfl⟩
section
variable {X : Cx} {pins : List (Addr × Obj)} {σ : L2.St} {H : Hp} {s : Shared} {b : Bool} {a : Addr} {xs ys : List V}
theorem SqB.get (I : Inv X pins σ H s) (h : SqB b X.K H a xs) : ∃ its : List Value, Vals xs its ∧ IsB b s.heap a its.toArray := by
  cases b with
  | true => obtain ⟨its, r, p, _⟩ := I.list h; exact ⟨its, r, p.isList⟩
  | false => obtain ⟨its, r, p, _⟩ := I.tuple h; exact ⟨its, r, p⟩
theorem SqB.inj (I : Inv X pins σ H s) (h : SqB b X.K H a xs) (h' : SqB b X.K H a ys) : xs = ys := by
  cases b with
  | true => exact I.list_inj h h'
  | false => exact I.tuple_inj h h'
theorem IsB.lt {h : Heap} {its : Array Value} (x : IsB b h a its) : a < h.objs.size := by
  cases b with
  | true => obtain ⟨_, e, _⟩ := x; exact Heap.lt_size e
  | false => obtain ⟨_, e, _⟩ := x; exact Heap.lt_size e
end
theorem drawsB {prog : Program} {w : World} {A : Around} (b : Bool) (hh : A.handled = none) (it a : Addr) (hne : a ≠ it) (items : Array Value) :
    Draws prog w A it [it, a] items.size (fun i v => items[i]? = some v) (fun i h => IterB b h it a i ∧ IsB b h a items) := by
  cases b with
  | true => exact Draws.list hh it a hne items
  | false => exact Draws.tuple hh it a hne items
theorem beginsB (b : Bool) (a : Addr) (items : Array Value) : Begins (.ref a) (iterO b a) fun h => IsB b h a items := by
  cases b with
  | true => exact begins_list a items
  | false => exact begins_tuple a items
/-! ### enumerate -/
def IteB (b : Bool) (K : PySem.W.Frag) (a : Addr) : It :=
  ⟨fun i H => ∃ (xs : List V) (x : V), SqB b K H a xs ∧ xs[i]? = some x, fun i H v H' => ∃ T x, v = .ref T ∧ H T = none ∧ H' = upd H T (.tup [.int (i : Nat), x]) ∧ ∀ xs, SqB b K H a xs → xs[i]? = some x, fun i H => ∃ xs : List V, SqB b K H a xs ∧ xs.length = i⟩
theorem turn_enumB {P : Program} {w : World} {K : PySem.W.Frag} {elts : List Expr} {kk : Nat} {tpos : Pos} (b : Bool) (a e it : Addr) (hei : e ≠ it) :
    Turn P w K (.Tuple elts kk tpos) (IteB b K a) [e, it] e (fun i h => (∃ old, IsEnum h e it ((0 : Int) + (i : Nat)) old) ∧ IterB b h it a i ∧ a ≠ it ∧ a ≠ e) where
  mem := by simp
  obj := fun i h st c hc => by
    obtain ⟨⟨old, he⟩, hi, _⟩ := st
    have e' : c = e ∨ c = it := by simpa using hc
    rcases e' with z | z
    · rw [z]; exact ⟨_, he, fun v q => nomatch q⟩
    · rw [z]; exact hi.obj
  keep := fun i h h' st k => let ⟨⟨old, he⟩, hi, hne⟩ := st; ⟨⟨old, k e (by simp) _ he⟩, hi.at' fun o q => k it (by simp) o q, hne⟩
  item := by
    intro X hP hw hK hc i pins s σ H E I hf st hg
    subst hP hw hK
    obtain ⟨⟨old, he⟩, hit, hne, hae⟩ := st
    obtain ⟨xs, x, hq, hx⟩ := hg
    obtain ⟨its, rv, hT⟩ := SqB.get I hq
    obtain ⟨u, hu, ru⟩ := rv.get hx
    have hlt : i < its.toArray.size := by
      have := (List.getElem?_eq_some_iff.mp hu).1
      simpa using this
    have W := GoesN.enumFrom (elts := elts) (x1 := kk) (pos := tpos) 0 (drawsB (prog := X.prog) (w := X.w) (A := X.A.in1) b (I.ok.hd hc) it a hne its.toArray) e hei (by simp only [List.mem_cons, List.not_mem_nil, or_false, not_or]; exact ⟨hei, Ne.symm hae⟩) (by simp)
    refine wpAny_mono (W.goes i s (fun v s2 => ∃ x H', Inv X pins σ H' s2 ∧ RelV x v ∧ (IteB b X.K a).yld i H x H' ∧ ((∃ old, IsEnum s2.heap e it ((0 : Int) + ((i + 1 : Nat) : Int)) old) ∧ IterB b s2.heap it a (i + 1) ∧ a ≠ it ∧ a ≠ e) ∧ ∀ c ∈ [e, it], H' c = none) E hlt ⟨⟨old, he⟩, hit, hT⟩ fun v h' tk hY st' hk htk => ?_) (fun r s1 hr => hr) fun _ _ z => z
    obtain ⟨T, t, y, rfl, hnew, hy, hTup⟩ := hY
    have ey : y = u := by
      have hy : its.toArray[i]? = some y := hy
      rw [List.getElem?_toArray, hu] at hy
      exact (Option.some.inj hy).symm
    subst ey
    have ei : (0 : Int) + (i : Nat) = (i : Nat) := by omega
    obtain ⟨o, ho, hcl, n, hd⟩ := hTup
    have new : ObjOk X.prog X.w (upd H T (.tup [.int (i : Nat), x])) h' T (.tup [.int (i : Nat), x]) :=
      ⟨by show 2 ≤ sizeLine; decide, [.int ((0 : Int) + (i : Nat)) t, y], .cons ⟨t, by rw [ei]⟩ (.cons ru .nil), ⟨o, ho, hcl, n, hd⟩⟩
    have I1 : Inv X pins σ (upd H T (.tup [.int (i : Nat), x])) { s with heap := h', toks := tk } :=
      I.turnedNew (ch := [e, it]) (fun c ob hb q => hk c ob hb q) hf hnew new
    refine ⟨.ref T, _, I1, rfl, ⟨T, x, rfl, I.hok.fresh hnew, rfl, fun ys hy => by rw [SqB.inj I hy hq]; exact hx⟩, ⟨st'.1, st'.2.1, hne, hae⟩, fun c hcm => ?_⟩
    have hlt : c < s.heap.objs.size := by
      have e' : c = e ∨ c = it := by simpa using hcm
      rcases e' with z | z
      · rw [z]; exact Heap.lt_size he
      · rw [z]; obtain ⟨o, q, _⟩ := hit.obj; exact Heap.lt_size q
    rw [upd_ne (Nat.ne_of_lt (Nat.lt_of_lt_of_le hlt hnew))]
    exact (hf c hcm).1
  done := by
    intro X hP hw hK hc i pins s σ H E I hf st hg
    subst hP hw hK
    obtain ⟨⟨old, he⟩, hit, hne, hae⟩ := st
    obtain ⟨xs, hq, hx⟩ := hg
    obtain ⟨its, rv, hT⟩ := SqB.get I hq
    have hn : its.toArray.size = i := by rw [List.size_toArray, ← rv.length, hx]
    have W := GoesN.enumFrom (elts := elts) (x1 := kk) (pos := tpos) 0 (drawsB (prog := X.prog) (w := X.w) (A := X.A.in1) b (I.ok.hd hc) it a hne its.toArray) e hei (by simp only [List.mem_cons, List.not_mem_nil, or_false, not_or]; exact ⟨hei, Ne.symm hae⟩) (by simp)
    refine W.stops s (fun s1 => Inv X pins σ H s1) E (by rw [hn]; exact ⟨⟨old, he⟩, hit, hT⟩) fun h' tk hk htk => ?_
    exact I.turnedL (t' := tk) (ch := [e, it]) (fun c o hb q => hk c o hb q) hf
  self := fun A i s Q E st h => let ⟨⟨_, he⟩, _⟩ := st; wpAny_pyIter_enum he h
/-! ### zip -/
def ItzB (b c : Bool) (K : PySem.W.Frag) (a a2 : Addr) : It :=
  ⟨fun i H => ∃ (xs ys : List V) (x y : V), SqB b K H a xs ∧ SqB c K H a2 ys ∧ xs[i]? = some x ∧ ys[i]? = some y,
    fun i H v H' => ∃ T x y, v = .ref T ∧ H T = none ∧ H' = upd H T (.tup [x, y]) ∧ (∀ xs, SqB b K H a xs → xs[i]? = some x) ∧ ∀ ys, SqB c K H a2 ys → ys[i]? = some y,
    fun i H => ∃ xs ys : List V, SqB b K H a xs ∧ SqB c K H a2 ys ∧ i = min xs.length ys.length⟩
structure ZApart (z TI TO i1 i2 a a2 : Addr) : Prop where
  sep : ZipSep2 z TI TO i1 i2 [i1, a] [i2, a2]
  n1 : a ≠ i1
  n2 : a2 ≠ i2
theorem turn_zipB {P : Program} {w : World} {K : PySem.W.Frag} {elts : List Expr} {kk : Nat} {tpos : Pos} (b c : Bool) {a a2 z TI TO i1 i2 : Addr} (D : ZApart z TI TO i1 i2 a a2) :
    Turn P w K (.Tuple elts kk tpos) (ItzB b c K a a2) [z, TI, TO, i1, i2] z (fun i h => IsZip h z TI TO .none ∧ IsTupOf2 h TI (.ref i1) (.ref i2) ∧ (∃ x y, IsTupOf2 h TO x y) ∧ IterB b h i1 a i ∧ IterB c h i2 a2 i) where
  mem := by simp
  obj := fun i h st d hd => by
    obtain ⟨hz, hTI, ⟨x, y, hTO⟩, h1, h2⟩ := st
    have e' : d = z ∨ d = TI ∨ d = TO ∨ d = i1 ∨ d = i2 := by simpa using hd
    rcases e' with q | q | q | q | q
    · rw [q]; exact ⟨_, hz, fun v q => nomatch q⟩
    · rw [q]; exact ⟨_, hTI, fun v q => nomatch q⟩
    · rw [q]; exact ⟨_, hTO, fun v q => nomatch q⟩
    · rw [q]; exact h1.obj
    · rw [q]; exact h2.obj
  keep := fun i h h' st k => by
    obtain ⟨hz, hTI, ⟨x, y, hTO⟩, h1, h2⟩ := st
    exact ⟨k z (by simp) _ hz, k TI (by simp) _ hTI, ⟨x, y, k TO (by simp) _ hTO⟩, h1.at' fun o q => k i1 (by simp) o q, h2.at' fun o q => k i2 (by simp) o q⟩
  item := by
    intro X hP hw hK hc i pins s σ H E I hf st hg
    subst hP hw hK
    obtain ⟨hz, hTI, hTO, h1, h2⟩ := st
    obtain ⟨xs, ys, x, y, hqx, hqy, hx, hy⟩ := hg
    obtain ⟨its, rv, p1⟩ := SqB.get I hqx
    obtain ⟨its2, rv2, p2⟩ := SqB.get I hqy
    obtain ⟨u, hu, ru⟩ := rv.get hx
    obtain ⟨u2, hu2, ru2⟩ := rv2.get hy
    have l1 : i < its.toArray.size := by have := (List.getElem?_eq_some_iff.mp hu).1; simpa using this
    have l2 : i < its2.toArray.size := by have := (List.getElem?_eq_some_iff.mp hu2).1; simpa using this
    have W := GoesN.zip2 (elts := elts) (x1 := kk) (pos := tpos) D.sep (drawsB (prog := X.prog) (w := X.w) (A := X.A.in1) b (I.ok.hd hc) i1 a D.n1 its.toArray) (drawsB (prog := X.prog) (w := X.w) (A := X.A.in1) c (I.ok.hd hc) i2 a2 D.n2 its2.toArray)
    refine wpAny_mono (W.goes i s (fun v s2 => ∃ x H', Inv X pins σ H' s2 ∧ RelV x v ∧ (ItzB b c X.K a a2).yld i H x H' ∧ (IsZip s2.heap z TI TO .none ∧ IsTupOf2 s2.heap TI (.ref i1) (.ref i2) ∧ (∃ x y, IsTupOf2 s2.heap TO x y) ∧ IterB b s2.heap i1 a (i + 1) ∧ IterB c s2.heap i2 a2 (i + 1)) ∧ ∀ d ∈ [z, TI, TO, i1, i2], H' d = none) E (Nat.lt_min.mpr ⟨l1, l2⟩)
      ⟨hz, hTI, hTO, ⟨h1, p1⟩, ⟨h2, p2⟩⟩ fun v h' tk hY st' hk htk => ?_) (fun r s1 hr => hr) fun _ _ z => z
    obtain ⟨T, v1, v2, rfl, hnew, hv1, hv2, hTup⟩ := hY
    have e1 : v1 = u := by
      have hv1 : its.toArray[i]? = some v1 := hv1
      rw [List.getElem?_toArray, hu] at hv1
      exact (Option.some.inj hv1).symm
    have e2 : v2 = u2 := by
      have hv2 : its2.toArray[i]? = some v2 := hv2
      rw [List.getElem?_toArray, hu2] at hv2
      exact (Option.some.inj hv2).symm
    subst e1 e2
    obtain ⟨o, ho, hcl, n, hd⟩ := hTup
    have new : ObjOk X.prog X.w (upd H T (.tup [x, y])) h' T (.tup [x, y]) :=
      ⟨by show 2 ≤ sizeLine; decide, [v1, v2], .cons ru (.cons ru2 .nil), ⟨o, ho, hcl, n, hd⟩⟩
    have I1 : Inv X pins σ (upd H T (.tup [x, y])) { s with heap := h', toks := tk } :=
      I.turnedNew (ch := [z, TI, TO, i1, i2]) (fun d ob hb q => hk d ob (fun hm => hb (by
        simp only [List.mem_cons, List.not_mem_nil, or_false] at hm ⊢
        rcases hm with q | q | q | q
        · exact .inl q
        · exact .inr (.inr (.inl q))
        · exact .inr (.inr (.inr (.inl q)))
        · exact .inr (.inr (.inr (.inr q))))) q) hf hnew new
    refine ⟨.ref T, _, I1, rfl, ⟨T, x, y, rfl, I.hok.fresh hnew, rfl, fun l hl => by rw [SqB.inj I hl hqx]; exact hx, fun l hl => by rw [SqB.inj I hl hqy]; exact hy⟩,
      ⟨st'.1, st'.2.1, st'.2.2.1, st'.2.2.2.1.1, st'.2.2.2.2.1⟩, fun d hdm => ?_⟩
    have hlt : d < s.heap.objs.size := by
      obtain ⟨x0, y0, hTO⟩ := hTO
      have e' : d = z ∨ d = TI ∨ d = TO ∨ d = i1 ∨ d = i2 := by simpa using hdm
      rcases e' with q | q | q | q | q
      · rw [q]; exact Heap.lt_size hz
      · rw [q]; exact Heap.lt_size hTI
      · rw [q]; exact Heap.lt_size hTO
      · rw [q]; obtain ⟨o, e1, _⟩ := h1.obj; exact Heap.lt_size e1
      · rw [q]; obtain ⟨o, e1, _⟩ := h2.obj; exact Heap.lt_size e1
    rw [upd_ne (Nat.ne_of_lt (Nat.lt_of_lt_of_le hlt hnew))]
    exact (hf d hdm).1
  done := by
    intro X hP hw hK hc i pins s σ H E I hf st hg
    subst hP hw hK
    obtain ⟨hz, hTI, hTO, h1, h2⟩ := st
    obtain ⟨xs, ys, hqx, hqy, hend⟩ := hg
    obtain ⟨its, rv, p1⟩ := SqB.get I hqx
    obtain ⟨its2, rv2, p2⟩ := SqB.get I hqy
    have hn : min its.toArray.size its2.toArray.size = i := by rw [List.size_toArray, List.size_toArray, ← rv.length, ← rv2.length, hend]
    have W := GoesN.zip2 (elts := elts) (x1 := kk) (pos := tpos) D.sep (drawsB (prog := X.prog) (w := X.w) (A := X.A.in1) b (I.ok.hd hc) i1 a D.n1 its.toArray) (drawsB (prog := X.prog) (w := X.w) (A := X.A.in1) c (I.ok.hd hc) i2 a2 D.n2 its2.toArray)
    refine W.stops s (fun s1 => Inv X pins σ H s1) E (by rw [hn]; exact ⟨hz, hTI, hTO, ⟨h1, p1⟩, ⟨h2, p2⟩⟩) fun h' tk hk htk => ?_
    refine I.turnedL (t' := tk) (ch := [z, TI, TO, i1, i2]) (fun d o hb q => hk d o (fun hm => hb ?_) q) hf
    simp only [List.mem_cons, List.not_mem_nil, or_false] at hm ⊢
    rcases hm with q | q | q | q
    · exact .inl q
    · exact .inr (.inr (.inl q))
    · exact .inr (.inr (.inr (.inl q)))
    · exact .inr (.inr (.inr (.inr q)))
  self := fun A i s Q E st h => wpAny_pyIter_zip st.1 h
theorem meets_enum1 {v : Value} {o : Obj} {H : Heap → Prop} (B : Begins v o H) :
    Meets (Builtin.«enumerate.__new__» ⟨[.type "enumerate", v], []⟩) (fun _ R s => H s.heap ∧
      R (.ok (.ret (.ref (s.heap.push o).objs.size))) { s with heap := (s.heap.push o).push { cls := .type "enumerate", data := .fields #[.none, .bool false, .ref s.heap.objs.size, rawInt 0, .none, .none] } }) :=
  .of_wp fun prog w A R s h => by
    obtain ⟨hp, g, d, tk, os⟩ := s
    obtain ⟨h1, h⟩ := h
    have hsub := sub_enumerate
    have q1 : ∀ {A' : Around} {E : Value → Shared → Prop} {Q : Value → Shared → Prop}, Q (.ref hp.objs.size) ⟨hp.push o, g, d, tk, os⟩ → wpAny (model prog w) A' (pyIter v) Q E ⟨hp, g, d, tk, os⟩ :=
      fun q => B.iter prog w _ _ ⟨hp, g, d, tk, os⟩ _ h1 q
    wp_walk using q1
    refine wpAny_stack_any fun st => wpAny_pure ?_
    split
    · rename_i c _ _ _ _ _
      cases (c == Value.type "enumerate")
      all_goals (wp_walk using q1; exact ⟨_, rfl, h⟩)
    · wp_walk using q1
      exact ⟨_, rfl, h⟩
theorem enum_one {prog : Program} {w : World} {A : Around} {E : Value → Shared → Prop} {s : Shared} {v : Value} {o : Obj} {H : Heap → Prop} {Q : Value → Shared → Prop} (B : Begins v o H) (h1 : H s.heap)
    (h : ∀ h', IsEnum h' (s.heap.objs.size + 1) s.heap.objs.size 0 .none → h'.get? s.heap.objs.size = some o →
      (∀ b o, s.heap.get? b = some o → h'.get? b = some o) → Q (.ref (s.heap.objs.size + 1)) { s with heap := h' }) :
    wpAny (model prog w) A (call (.type "enumerate") [v]) Q E s := by
  refine callType_new F.called_enumerate (by decide) (F.typeCall_enumerate_1 _) (F.newCall_enumerate_1 _) (fun obj => F.args_object_init_2 obj _) F.entry_enumerate_new
    (meets_enum1 B) ⟨h1, ?_⟩
  have hz : (s.heap.push o).objs.size = s.heap.objs.size + 1 := Heap.size_push ..
  show _ ∧ _
  rw [hz]
  have hg : ((s.heap.push o).push { cls := .type "enumerate", data := .fields #[.none, .bool false, .ref s.heap.objs.size, rawInt 0, .none, .none] }).get? s.heap.objs.size = some o := Heap.get?_push_of_some _ (Heap.get?_push_size _ B.free)
  have he : IsEnum ((s.heap.push o).push { cls := .type "enumerate", data := .fields #[.none, .bool false, .ref s.heap.objs.size, rawInt 0, .none, .none] }) (s.heap.objs.size + 1) s.heap.objs.size 0 .none := by
    have := Heap.get?_push_size (s.heap.push o) (o := { cls := .type "enumerate", data := .fields #[.none, .bool false, .ref s.heap.objs.size, rawInt 0, .none, .none] }) rfl
    rw [hz] at this
    exact this
  exact ⟨⟨_, he, rfl⟩, h _ he hg fun b o x => Heap.get?_push_of_some _ (Heap.get?_push_of_some _ x)⟩
def iEnumB (K : PySem.W.Frag) (ta : L2.TA) : TI := fun σ H R => ta σ H fun vs H1 => ∃ b a xs, vs = [.ref a] ∧ SqB b K H1 a xs ∧ R (IteB b K a) H1
theorem pi_enumB {X : Cx} {e : Expr} {ta : L2.TA} {p pos tpos : Pos} {elts : List Expr} {kk : Nat} (hg : Gl X "enumerate") (hm : X.mg "enumerate" = none) (ha : PA X [e] ta) (hs : starEach [e] X.env = [(false, eval e X.env)]) :
    PI X (.Tuple elts kk tpos) (.Call (.Name "enumerate" p) [e] [] pos) (iEnumB X.K ta) := by
  refine ⟨fun pins s σ H R I h => ?_⟩
  refine Call_ (ld_blt I hg hm boot_enumerate (PyProof.Rows.callWith_type1 (thn (ha.run pos pins s σ H _ I h) fun us s1 ⟨vs, H1, I1, r1, q1⟩ => ?_) hs rfl))
  obtain ⟨b, a, xs, rfl, hq, q⟩ := q1
  rw [Vals.ref1 r1]
  obtain ⟨its, rv, hT⟩ := SqB.get I1 hq
  have hlt : a < s1.heap.objs.size := hT.lt
  refine enum_one (beginsB b a its.toArray) hT fun h' he hit hk => wpAny_pyIter_enum he ?_
  have I2 : Inv X pins σ H1 { s1 with heap := h' } := I1.kept (t' := s1.toks) hk
  refine ⟨s1.heap.objs.size + 1, [s1.heap.objs.size + 1, s1.heap.objs.size], _, _, H1, rfl, I2, turn_enumB b a (s1.heap.objs.size + 1) s1.heap.objs.size (Nat.succ_ne_self _), ⟨⟨.none, he⟩, iterO_is b hit, Nat.ne_of_lt hlt, Nat.ne_of_lt (Nat.lt_succ_of_lt hlt)⟩, fun c hc => ?_, q⟩
  have hle : s1.heap.objs.size ≤ c := by
    have e' : c = s1.heap.objs.size + 1 ∨ c = s1.heap.objs.size := by simpa using hc
    rcases e' with z | z
    · rw [z]; exact Nat.le_add_right _ _
    · rw [z]; exact Nat.le_refl _
  exact I1.fpOk hle (I1.hok.fresh hle)
def iZipB (K : PySem.W.Frag) (ta : L2.TA) : TI := fun σ H R => ta σ H fun vs H1 => ∃ b c a a2 xs ys, vs = [.ref a, .ref a2] ∧ SqB b K H1 a xs ∧ SqB c K H1 a2 ys ∧ R (ItzB b c K a a2) H1
theorem pi_zipB {X : Cx} {e e2 : Expr} {ta : L2.TA} {p pos tpos : Pos} {elts : List Expr} {kk : Nat} (hg : Gl X "zip") (hm : X.mg "zip" = none) (ha : PA X [e, e2] ta)
    (hs : starEach [e, e2] X.env = (false, eval e X.env) :: starEach [e2] X.env) (hpl : (backTo pos (starEach [e2] X.env)).any (·.1) = false) :
    PI X (.Tuple elts kk tpos) (.Call (.Name "zip" p) [e, e2] [] pos) (iZipB X.K ta) := by
  refine ⟨fun pins s σ H R I h => ?_⟩
  refine Call_ (ld_blt I hg hm PyProof.Rows.boot_zip (PyProof.Rows.callWith_type1 (thn (ha.run pos pins s σ H _ I h) fun us s1 ⟨vs, H1, I1, r1, q1⟩ => ?_) hs hpl))
  obtain ⟨b, c, a, a2, xs, ys, rfl, hqx, hqy, q⟩ := q1
  cases r1 with
  | cons r rr =>
    cases rr with
    | cons r' rr =>
      cases rr
      cases r
      cases r'
      obtain ⟨its, rv, h1⟩ := SqB.get I1 hqx
      obtain ⟨its2, rv2, h2⟩ := SqB.get I1 hqy
      have l1 : a < s1.heap.objs.size := h1.lt
      have l2 : a2 < s1.heap.objs.size := h2.lt
      refine zip_begins2 (beginsB b a its.toArray) (beginsB c a2 its2.toArray) h1 h2 fun h' hz hTI hTO e1 e2 hsz hk => wpAny_pyIter_zip hz ?_
      have I2 : Inv X pins σ H1 { s1 with heap := h' } := I1.kept (t' := s1.toks) hk
      refine ⟨s1.heap.objs.size + 4, [s1.heap.objs.size + 4, s1.heap.objs.size + 2, s1.heap.objs.size + 3, s1.heap.objs.size, s1.heap.objs.size + 1], _, _, H1, rfl, I2,
        turn_zipB b c ⟨zip_sep2 (N := s1.heap.objs.size) (fp1 := [a]) (fp2 := [a2]) (by simpa using l1) (by simpa using l2), Nat.ne_of_lt l1, Nat.ne_of_lt (Nat.lt_succ_of_lt l2)⟩, ⟨hz, hTI, ⟨_, _, hTO⟩, iterO_is b e1, iterO_is c e2⟩, fun d hd => ?_, q⟩
      have hle : s1.heap.objs.size ≤ d := by
        have e' : d = s1.heap.objs.size + 4 ∨ d = s1.heap.objs.size + 2 ∨ d = s1.heap.objs.size + 3 ∨ d = s1.heap.objs.size ∨ d = s1.heap.objs.size + 1 := by simpa using hd
        rcases e' with z | z | z | z | z
        · rw [z]; exact Nat.le_add_right _ _
        · rw [z]; exact Nat.le_add_right _ _
        · rw [z]; exact Nat.le_add_right _ _
        · rw [z]; exact Nat.le_refl _
        · rw [z]; exact Nat.le_add_right _ _
      exact I1.fpOk hle (I1.hok.fresh hle)
/-- a list or a tuple as it is -/
def ItB (b : Bool) (K : PySem.W.Frag) (p : Addr) : It := match b with
  | true => Itl K p
  | false => Itt K p
def iSqB (K : PySem.W.Frag) (te : TE) : TI := fun σ H R => te σ H fun x H1 => ∃ b a xs, x = .ref a ∧ SqB b K H1 a xs ∧ R (ItB b K a) H1
theorem pi_sqB {X : Cx} {tg l : Expr} {tl : TE} (hl : PE X l tl) : PI X tg l (iSqB X.K tl) := by
  refine ⟨fun pins s σ H R I h => ?_⟩
  refine thn (hl.run pins s σ H _ I h) fun v s1 ⟨x, H1, I1, r1, q1⟩ => ?_
  obtain ⟨b, a, xs, rfl, hq, q⟩ := q1
  cases r1
  have fp : ∀ c ∈ [s1.heap.objs.size], FpOk X pins H1 c := fun c hc => by
    have e : c = s1.heap.objs.size := by simpa using hc
    subst e
    exact I1.fpOk (Nat.le_refl _) (I1.hok.fresh (Nat.le_refl _))
  cases b with
  | true =>
    obtain ⟨its, rv, p, hz⟩ := I1.list hq
    exact wpAny_pyIter_list p.isList ⟨s1.heap.objs.size, [s1.heap.objs.size], _, _, H1, rfl, I1.kept (t' := s1.toks) fun b o e => Heap.get?_push_of_some _ e, turn_list a _, ⟨_, Heap.get?_push_size _ rfl, rfl, rfl⟩, fp, q⟩
  | false =>
    obtain ⟨its, rv, p, hz⟩ := I1.tuple hq
    exact wpAny_pyIter_tuple (show s1.heap.IsTuple a its.toArray from p) ⟨s1.heap.objs.size, [s1.heap.objs.size], _, _, H1, rfl, I1.kept (t' := s1.toks) fun b o e => Heap.get?_push_of_some _ e, turn_tuple a _, ⟨_, Heap.get?_push_size _ rfl, rfl, rfl⟩, fp, q⟩
end QS
end
section
set_option linter.all false
set_option maxRecDepth 100000
set_option autoImplicit false
/-! QS9: what is walked, by data; targets; comprehensions; loops. -/
namespace QS
open PySem PySem.Spec PyProof.Rows L2 QL
section
variable {Γ : Inf} {W : XK} {X : Cx} {G : Gs} {pos : Pos}
theorem SqB.of_la {K : PySem.W.Frag} {s : Stt} {a : Addr} {xs : List V} (h : LA s a xs) : SqB true K s.H a xs := h.sq
theorem SqB.of_ta {K : PySem.W.Frag} {s : Stt} {a : Addr} {xs : List V} (h : TA' K s a xs) : SqB false K s.H a xs := h.sq
/-- a list or a tuple that is walked -/
theorem items_rd {s : Stt} {x : V} {a : D} {k : List D → Stt → Prop} (r : RV Γ s x a) (h : Rs Γ W s (itemsOf a s.μ) k) (so : StOk Γ s) :
    ∃ b p vs l, x = .ref p ∧ (∀ s', LeD s s' → SqB b Γ.K s'.H p vs) ∧ RVs Γ s vs l ∧ k l s := by
  cases a with
  | lst l =>
    cases r with
    | lst h1 h2 => exact ⟨true, _, _, l, rfl, fun s' le => SqB.of_la (le.la h1), h2, Rs.pure h so⟩
  | tup l =>
    cases r with
    | tup h1 h2 => exact ⟨false, _, _, l, rfl, fun s' le => SqB.of_ta (le.ta h1), h2, Rs.pure h so⟩
  | _ => exact h.elim
theorem it_sq {s : Stt} {b : Bool} {p : Addr} {vs : List V} {l : List D} (hq : ∀ s', LeD s s' → SqB b Γ.K s'.H p vs) (rl : RVs Γ s vs l) : ItD Γ (ItB b Γ.K p) s false l := by
  have hl := rl.length
  have nx : ∀ i s1 x H', LeD s s1 → StOk Γ s1 → i < l.length → (H' = s1.H ∧ vs[i]? = some x) → ∃ s2 d, s2.H = H' ∧ Le s1 s2 ∧ StOk Γ s2 ∧ s2.μ = s1.μ ∧ l[i]? = some d ∧ RV Γ s2 x d := fun i s1 x H' le so hi h => by
    obtain ⟨rfl, hx⟩ := h
    obtain ⟨d, e, r⟩ := rl.getV hx
    exact ⟨s1, d, rfl, Le.refl _, so, rfl, e, le.rv r⟩
  cases b with
  | true =>
    refine ⟨fun i s1 le hi => ⟨vs, vs[i]'(by omega), hq s1 le, by simp [show i < vs.length by omega]⟩, fun s1 le => ⟨vs, hq s1 le, by omega⟩, fun i s1 x H' le so hi y => ?_⟩
    obtain ⟨s2, d, h⟩ := nx i s1 x H' le so hi ⟨y.1, y.2 vs (hq s1 le)⟩
    exact ⟨s2, d, by simpa using h⟩
  | false =>
    refine ⟨fun i s1 le hi => ⟨vs, vs[i]'(by omega), hq s1 le, by simp [show i < vs.length by omega]⟩, fun s1 le => ⟨vs, hq s1 le, by omega⟩, fun i s1 x H' le so hi y => ?_⟩
    obtain ⟨s2, d, h⟩ := nx i s1 x H' le so hi ⟨y.1, y.2 vs (hq s1 le)⟩
    exact ⟨s2, d, by simpa using h⟩
theorem d_iseq {tg e : Expr} {g : QL.Env → M D} (hK : X.K = Γ.K) (h : PE X e (tD Γ W g)) : PI X tg e (tDI Γ W false fun ρ => M.bind (g ρ) itemsOf) := by
  refine (pi_sqB h).imp fun σ H R h => ?_
  obtain ⟨ρ, s, rfl, ho, so, h⟩ := h
  refine ⟨ρ, s, rfl, ho, so, h.bindM.imp fun a s1 l1 o1 h1 v rv => ?_⟩
  obtain ⟨b, p, vs, l, rfl, hq, rl, q⟩ := items_rd rv h1 o1
  exact ⟨b, p, vs, rfl, hK ▸ hq s1 (LeD.refl _), hK ▸ q _ (it_sq hq rl)⟩
theorem enumL_get {l : List D} : ∀ {n i : Nat}, (enumL n l)[i]? = (l[i]?).map fun d => .tup [.int ((n + i : Nat) : Int), d] := by
  induction l with
  | nil => intro n i; simp [enumL]
  | cons a r ih =>
    intro n i
    cases i with
    | zero => simp [enumL]
    | succ i =>
      simp only [enumL, List.getElem?_cons_succ]
      rw [ih]
      congr 1
      funext d
      have : n + 1 + i = n + (i + 1) := by omega
      rw [this]
theorem enumL_len {l : List D} : ∀ {n : Nat}, (enumL n l).length = l.length := by
  induction l with
  | nil => intro n; rfl
  | cons a r ih => intro n; simp only [enumL, List.length_cons]; rw [ih]
theorem zipL_get : ∀ {l k : List D} {i : Nat} {x y : D}, l[i]? = some x → k[i]? = some y → (zipL l k)[i]? = some (.tup [x, y])
  | a :: r, b :: s, 0, x, y, h1, h2 => by simp at h1 h2; subst h1 h2; rfl
  | a :: r, b :: s, i + 1, x, y, h1, h2 => by simp only [zipL, List.getElem?_cons_succ] at h1 h2 ⊢; exact zipL_get h1 h2
  | [], _, _, _, _, h1, _ => by simp at h1
  | _ :: _, [], _, _, _, _, h2 => by simp at h2
theorem zipL_len : ∀ {l k : List D}, (zipL l k).length = min l.length k.length
  | [], k => by simp [zipL]
  | _ :: _, [] => by simp [zipL]
  | _ :: r, _ :: s => by simp only [zipL, List.length_cons]; rw [zipL_len]; omega
theorem pair_new {s1 : Stt} {T : Addr} {x y : V} {d e : D} (so : StOk Γ s1) (hT : s1.H T = none) (h1 : RV Γ s1 x d) (h2 : RV Γ s1 y e) :
    ∃ s2, s2.H = upd s1.H T (.tup [x, y]) ∧ Le s1 s2 ∧ StOk Γ s2 ∧ s2.μ = s1.μ ∧ IRV Γ s2 (.ref T) (.tup [d, e]) := by
  obtain ⟨l, o, n⟩ := new_st so hT (.tup [x, y])
  exact ⟨laid s1 T (.tup [x, y]), rfl, l, o, rfl, .inr ⟨T, [x, y], [d, e], rfl, upd_same, rfl, .cons (l.rv h1) (.cons (l.rv h2) .nil)⟩⟩
theorem d_ienum {e : Expr} {elts : List Expr} {kk : Nat} {p tpos : Pos} {g : QL.Env → M D} (hK : X.K = Γ.K) (hg : Gl X "enumerate") (hm : X.mg "enumerate" = none) (hs : starEach [e] X.env = [(false, eval e X.env)]) (h : PE X e (tD Γ W g)) :
    PI X (.Tuple elts kk tpos) (.Call (.Name "enumerate" p) [e] [] pos) (tDI Γ W true fun ρ => M.bind (g ρ) fun x => M.bind (itemsOf x) fun l => M.pure (enumL 0 l)) := by
  refine (pi_enumB hg hm (pa_cons h pa_nil hs) hs).imp fun σ H R h => ?_
  obtain ⟨ρ, s, rfl, ho, so, h⟩ := h
  refine ⟨ρ, s, rfl, ho, so, h.bindM.imp fun a s1 l1 o1 h1 v rv => ?_⟩
  obtain ⟨b, p, vs, l, rfl, hq, rl, q⟩ := items_rd rv h1.bindM o1
  have hl := rl.length
  refine ⟨b, p, vs, rfl, hK ▸ hq s1 (LeD.refl _), hK ▸ q.pure o1 _ ⟨fun i s2 le hi => ⟨vs, vs[i]'(by rw [enumL_len] at hi; omega), hq s2 le, by simp [show i < vs.length by rw [enumL_len] at hi; omega]⟩, fun s2 le => ⟨vs, hq s2 le, by rw [enumL_len]; exact hl⟩, fun i s2 x H' le o2 hi y => ?_⟩⟩
  obtain ⟨T, z, rfl, hT, rfl, hz⟩ := y
  obtain ⟨d, e, r⟩ := rl.getV (hz vs (hq s2 le))
  obtain ⟨s3, h3, l3, o3, m3, r3⟩ := pair_new o2 hT (.int (i : Nat)) (le.rv r)
  refine ⟨s3, .tup [.int (i : Nat), d], h3, l3, o3, m3, ?_, by simpa using r3⟩
  rw [enumL_get, e, Nat.zero_add]
  rfl
theorem d_izip {e e2 : Expr} {elts : List Expr} {kk : Nat} {p tpos : Pos} {g g2 : QL.Env → M D} (hK : X.K = Γ.K) (hg : Gl X "zip") (hm : X.mg "zip" = none) (hs : starEach [e, e2] X.env = (false, eval e X.env) :: starEach [e2] X.env) (hs2 : starEach [e2] X.env = (false, eval e2 X.env) :: starEach [] X.env) (hpl : (backTo pos (starEach [e2] X.env)).any (·.1) = false)
    (h : PE X e (tD Γ W g)) (h2 : PE X e2 (tD Γ W g2)) :
    PI X (.Tuple elts kk tpos) (.Call (.Name "zip" p) [e, e2] [] pos) (tDI Γ W true fun ρ => M.bind (g ρ) fun x => M.bind (g2 ρ) fun y => M.bind (itemsOf x) fun l => M.bind (itemsOf y) fun k => M.pure (zipL l k)) := by
  refine (pi_zipB hg hm (pa_cons h (pa_cons h2 pa_nil hs2) hs) hs hpl).imp fun σ H R h => ?_
  obtain ⟨ρ, s, rfl, ho, so, h⟩ := h
  refine ⟨ρ, s, rfl, ho, so, h.bindM.imp fun a s1 l1 o1 h1 v rv => ?_⟩
  refine ⟨ρ, s1, rfl, ho.mono l1, o1, h1.bindM.imp fun a2 s2 l2 o2 h2 u ru => ?_⟩
  obtain ⟨b, p, vs, l, rfl, hq, rl, q⟩ := items_rd (l2.rv rv) h2.bindM o2
  obtain ⟨c, p2, ws, k, rfl, hq2, rk, q⟩ := items_rd ru q.bindM o2
  have hl := rl.length
  have hk := rk.length
  refine ⟨b, c, p, p2, vs, ws, rfl, hK ▸ hq s2 (LeD.refl _), hK ▸ hq2 s2 (LeD.refl _), hK ▸ q.pure o2 _ ⟨fun i s3 le hi => ?_, fun s3 le => ⟨vs, ws, hq s3 le, hq2 s3 le, by rw [zipL_len, hl, hk]⟩, fun i s3 x H' le o3 hi y => ?_⟩⟩
  · rw [zipL_len] at hi
    exact ⟨vs, ws, vs[i]'(by omega), ws[i]'(by omega), hq s3 le, hq2 s3 le, by simp [show i < vs.length by omega], by simp [show i < ws.length by omega]⟩
  · obtain ⟨T, z, y', rfl, hT, rfl, hz, hy⟩ := y
    obtain ⟨d, e, r⟩ := rl.getV (hz vs (hq s3 le))
    obtain ⟨d2, e2, r2⟩ := rk.getV (hy ws (hq2 s3 le))
    obtain ⟨s4, h4, l4, o4, m4, r4⟩ := pair_new o3 hT (le.rv r) (le.rv r2)
    exact ⟨s4, .tup [d, d2], h4, l4, o4, m4, zipL_get e e2, by simpa using r4⟩
theorem rangeL_get {a b : Int} {i : Nat} (h : i < (rangeL a b).length) : (rangeL a b)[i]? = some (.int (a + (i : Nat))) := by
  unfold rangeL at h ⊢
  rw [List.length_map, List.length_range] at h
  rw [List.getElem?_map, List.getElem?_range h]
  rfl
theorem rangeL_len (a b : Int) : (rangeL a b).length = (b - a).toNat := by unfold rangeL; rw [List.length_map, List.length_range]
theorem it_range {s : Stt} (a b : Int) : ItD Γ (Itr a (b - a).toNat) s false (rangeL a b) :=
  ⟨fun i s1 le hi => by rw [rangeL_len] at hi; exact hi, fun s1 le => by rw [rangeL_len]; exact Nat.le_refl _, fun i s1 x H' le so hi y => by
    obtain ⟨rfl, rfl⟩ := y
    exact ⟨s1, _, rfl, Le.refl _, so, rfl, rangeL_get hi, by simpa using RV.int _⟩⟩
theorem range_of {a b : Int} {s : Stt} {k : List D → Stt → Prop} (h : Rs Γ W s (rangeM a b s.μ) k) (so : StOk Γ s) : (-1000000000 ≤ a ∧ a ≤ 1000000000 ∧ -1000000000 ≤ b ∧ b ≤ 1000000000) ∧ k (rangeL a b) s := by
  unfold rangeM at h
  split at h
  · rename_i hc; exact ⟨hc, Rs.pure h so⟩
  · exact h.elim
theorem d_range1 {tg e : Expr} {p : Pos} {g : QL.Env → M D} (hg : Gl X "range") (hm : X.mg "range" = none) (hs : starEach [e] X.env = [(false, eval e X.env)]) (h : PE X e (tD Γ W g)) :
    PI X tg (.Call (.Name "range" p) [e] [] pos) (tDI Γ W false fun ρ => M.bind (g ρ) fun x => match x with | .int j => rangeM 0 j | _ => M.bad) := by
  refine (pi_range1 hg hm (pa_cons h pa_nil hs) hs).imp fun σ H R h => ?_
  obtain ⟨ρ, s, rfl, ho, so, h⟩ := h
  refine ⟨ρ, s, rfl, ho, so, h.bindM.imp fun a s1 l1 o1 h1 v rv => ?_⟩
  cases a with
  | int j =>
    cases rv
    obtain ⟨hc, q⟩ := range_of h1 o1
    have := q _ (it_range 0 j)
    rw [Int.sub_zero] at this
    exact ⟨j, rfl, by omega, by omega, this⟩
  | _ => exact h1.elim
theorem d_range2 {tg e e2 : Expr} {p : Pos} {g g2 : QL.Env → M D} (hg : Gl X "range") (hm : X.mg "range" = none) (hs : starEach [e, e2] X.env = [(false, eval e X.env), (false, eval e2 X.env)]) (hs2 : starEach [e2] X.env = [(false, eval e2 X.env)]) (h : PE X e (tD Γ W g)) (h2 : PE X e2 (tD Γ W g2)) :
    PI X tg (.Call (.Name "range" p) [e, e2] [] pos) (tDI Γ W false fun ρ => M.bind (g ρ) fun x => M.bind (recvM .range2 x) fun _ => M.bind (g2 ρ) fun y => match x, y with | .int i, .int j => rangeM i j | _, _ => M.bad) := by
  refine (pi_range2 hg hm (pa_cons h (pa_cons h2 pa_nil (by rw [hs2]; rfl)) (by rw [hs, hs2])) hs hs2).imp fun σ H R h => ?_
  obtain ⟨ρ, s, rfl, ho, so, h⟩ := h
  refine ⟨ρ, s, rfl, ho, so, h.bindM.imp fun a s1 l1 o1 h1 v rv => ?_⟩
  have h1 : Rs Γ W s1 (M.bind (g2 ρ) (fun y => match a, y with | .int i, .int j => rangeM i j | _, _ => M.bad) s1.μ) _ := h1
  refine ⟨ρ, s1, rfl, ho.mono l1, o1, h1.bindM.imp fun b s2 l2 o2 h2 u ru => ?_⟩
  have rv2 := l2.rv rv
  split at h2
  · cases rv2
    cases ru
    obtain ⟨hc, q⟩ := range_of h2 o2
    exact ⟨_, _, rfl, by omega, q _ (it_range _ _)⟩
  · exact h2.elim
/-! ### targets -/
/-- the target tg with the reading g -/
def GOk (Γ : Inf) (pr : Bool) (tg : List Nat) (g : TG) : Prop := ∀ s σ ρ ρ1 x d (Q : L2.St → Hp → Prop), EnvOk Γ s σ ρ → (if pr = true then IRV Γ s x d else RV Γ s x d) → setT tg d ρ = some ρ1 →
  (∀ σ1, EnvOk Γ s σ1 ρ1 → σ1.length = σ.length → (∀ j, j ∉ tg → σ1[j]? = σ[j]?) → Q σ1 s.H) → g x σ s.H Q
theorem g_name (i : Nat) : GOk Γ false [i] (gName i) := fun s σ ρ ρ1 x d Q ho r e q => by
  cases e
  refine q _ (ho.set (by simpa using r)) (by rw [List.length_set]) fun j hj => ?_
  rw [List.getElem?_set_ne (fun z => hj (by simp [z]))]
def gNames : List Nat → TGs
  | [] => gNil
  | i :: is => gCons (gName i) (gNames is)
theorem setAll_len : ∀ {is : List Nat} {ds : List D} {ρ ρ1 : QL.Env}, setAll is ds ρ = some ρ1 → ds.length = is.length
  | [], [], _, _, _ => rfl
  | [], _ :: _, _, _, h => by simp [setAll] at h
  | _ :: _, [], _, _, h => by simp [setAll] at h
  | _ :: is, _ :: ds, _, _, h => by simp only [setAll] at h; rw [List.length_cons, List.length_cons, setAll_len h]
theorem g_names : ∀ (is : List Nat) (s : Stt) (σ : L2.St) (ρ ρ1 : QL.Env) (vs : List V) (ds : List D) (Q : L2.St → Hp → Prop), EnvOk Γ s σ ρ → RVs Γ s vs ds → setAll is ds ρ = some ρ1 →
    (∀ σ1, EnvOk Γ s σ1 ρ1 → σ1.length = σ.length → (∀ j, j ∉ is → σ1[j]? = σ[j]?) → Q σ1 s.H) → gNames is vs σ s.H Q
  | [], s, σ, ρ, ρ1, vs, ds, Q, ho, r, e, q => by
    cases ds with
    | nil => cases r; cases e; exact ⟨rfl, q σ ho rfl fun _ _ => rfl⟩
    | cons d ds => simp [setAll] at e
  | i :: is, s, σ, ρ, ρ1, vs, ds, Q, ho, r, e, q => by
    cases ds with
    | nil => simp [setAll] at e
    | cons d ds =>
      cases r with
      | cons r1 r2 =>
        simp only [setAll] at e
        refine ⟨_, _, rfl, g_names is s _ _ ρ1 _ ds Q (ho.set r1) r2 e fun σ1 h1 h2 h3 => q σ1 h1 (by rw [h2, List.length_set]) fun j hj => ?_⟩
        rw [h3 j (fun z => hj (List.mem_cons_of_mem _ z)), List.getElem?_set_ne (fun z => hj (by simp [z]))]
/-- a tuple or a list taken apart -/
def gTL (K : PySem.W.Frag) (n : Nat) (t : TGs) : TG := fun v σ H Q => gTup K n t v σ H Q ∨ gUnl K n t v σ H Q
theorem pg_alt {X : Cx} {e : Expr} {t u : TG} (h1 : PG X e t) (h2 : PG X e u) : PG X e (fun v σ H Q => t v σ H Q ∨ u v σ H Q) :=
  ⟨fun pins s σ H v w Q I r q => q.elim (h1.run pins s σ H v w Q I r) (h2.run pins s σ H v w Q I r)⟩
theorem pg_TL {X : Cx} {es : List Expr} {k : Nat} {t : TGs} {n : Nat} {pos : Pos} (hc : X.calm = true) (h : PGs X es t) (hn : (assignEach es X.env).length = n) (hst : (assignEach es X.env).findIdx? (·.1) = none) : PG X (.Tuple es k pos) (gTL X.K n t) :=
  pg_alt (pg_tup hc h hn hst) (pg_unl hc h hn hst)
theorem setU_of {is : List Nat} {d : D} {ρ ρ1 : QL.Env} (h : setU is d ρ = some ρ1) : (∃ ds, d = .tup ds ∧ setAll is ds ρ = some ρ1) ∨ ∃ ds, d = .lst ds ∧ setAll is ds ρ = some ρ1 := by
  cases d <;> first | (cases h; done) | skip
  · exact .inl ⟨_, rfl, h⟩
  · exact .inr ⟨_, rfl, h⟩
theorem g_TL (hK : X.K = Γ.K) {s : Stt} {σ : L2.St} {ρ ρ1 : QL.Env} {x : V} {d : D} {Q : L2.St → Hp → Prop} (is : List Nat) (ho : EnvOk Γ s σ ρ) (r : IRV Γ s x d) (e : setU is d ρ = some ρ1)
    (q : ∀ σ1, EnvOk Γ s σ1 ρ1 → σ1.length = σ.length → (∀ j, j ∉ is → σ1[j]? = σ[j]?) → Q σ1 s.H) : gTL X.K is.length (gNames is) x σ s.H Q := by
  rcases setU_of e with ⟨ds, rfl, e'⟩ | ⟨ds, rfl, e'⟩
  · have hl := setAll_len e'
    have key : ∃ a vs, x = .ref a ∧ SqT Γ.K s.H a vs ∧ RVs Γ s vs ds := by
      rcases r with h | ⟨T, vs, ds', rfl, hT, e, rl⟩
      · obtain ⟨p, vs, rfl, hq, rl⟩ := tup_rd h
        exact ⟨p, vs, rfl, hq, rl⟩
      · cases e
        exact ⟨T, vs, rfl, SqT.of hT, rl⟩
    obtain ⟨a, vs, rfl, hq, rl⟩ := key
    exact .inl ⟨a, vs, rfl, hK ▸ hq, by rw [rl.length, hl], g_names is s σ ρ ρ1 vs ds Q ho rl e' q⟩
  · have hl := setAll_len e'
    rcases r with h | ⟨T, vs, ds', rfl, hT, e, rl⟩
    · obtain ⟨p, vs, rfl, hq, rl⟩ := lst_rd h
      exact .inr ⟨p, vs, rfl, hK ▸ hq, by rw [rl.length, hl], g_names is s σ ρ ρ1 vs ds Q ho rl e' q⟩
    · cases e
theorem g_tup (hK : X.K = Γ.K) (is : List Nat) (h2 : 2 ≤ is.length) (pr : Bool) : GOk Γ pr is (gTL X.K is.length (gNames is)) := fun s σ ρ ρ1 x d Q ho r e q => by
  have e' : setU is d ρ = some ρ1 := by
    cases is with
    | nil => simp at h2
    | cons i r =>
      cases r with
      | nil => simp at h2
      | cons j r => exact e
  refine g_TL hK is ho ?_ e' q
  cases pr with
  | true => simpa using r
  | false => exact .inl (by simpa using r)
theorem wipe_same {σ σ1 : L2.St} : ∀ {vs : List Nat}, σ1.length = σ.length → (∀ j, j ∉ vs → σ1[j]? = σ[j]?) → wipe σ1 vs = wipe σ vs := fun {vs} hl h => by
  have get : ∀ (vs : List Nat) (σ : L2.St) (j : Nat), (wipe σ vs)[j]? = if j ∈ vs then (σ[j]?).map fun _ => none else σ[j]? := by
    intro vs
    induction vs with
    | nil => intro σ j; simp [wipe]
    | cons v vs ih =>
      intro σ j
      unfold wipe
      by_cases hj : v = j
      · subst hj
        rw [if_pos List.mem_cons_self]
        by_cases hv : v < σ.length
        · rw [List.getElem?_set_self (by rw [wipe_length]; exact hv), List.getElem?_eq_getElem hv]
          rfl
        · rw [List.getElem?_eq_none (by rw [List.length_set, wipe_length]; omega), List.getElem?_eq_none (by omega)]
          rfl
      · rw [List.getElem?_set_ne hj, ih]
        by_cases hm : j ∈ vs
        · rw [if_pos hm, if_pos (List.mem_cons_of_mem _ hm)]
        · rw [if_neg hm, if_neg (by simp only [List.mem_cons, not_or]; exact ⟨fun z => hj z.symm, hm⟩)]
  apply List.ext_getElem?
  intro j
  rw [get, get]
  by_cases hm : j ∈ vs
  · rw [if_pos hm, if_pos hm]
    by_cases hj : j < σ.length
    · rw [List.getElem?_eq_getElem hj, List.getElem?_eq_getElem (show j < σ1.length by omega)]
      rfl
    · rw [List.getElem?_eq_none (show σ1.length ≤ j by omega), List.getElem?_eq_none (show σ.length ≤ j by omega)]
  · rw [if_neg hm, if_neg hm, h j hm]
theorem wipe_wipe (σ : L2.St) (vs : List Nat) : wipe (wipe σ vs) vs = wipe σ vs :=
  wipe_same (wipe_length σ vs) fun j hj => wipe_out hj
end
end QS
end
section
set_option linter.all false
set_option maxRecDepth 100000
set_option autoImplicit false
/-! QS10: comprehensions. -/
namespace QS
open PySem PySem.Spec PyProof.Rows L2 QL
section
variable {Γ : Inf} {W : XK} {X : Cx} {G : Gs} {pos : Pos}
/-! ### what is being made -/
abbrev hide (s : Stt) (D : Addr) (o : HO) : Stt := { s with H := upd s.H D o, hid := fun b => s.hid b ∨ b = D }
abbrev unhide (s : Stt) (D : Addr) : Stt := { s with hid := fun b => s.hid b ∧ b ≠ D }
theorem hide_le {s : Stt} {D : Addr} (so : StOk Γ s) (hD : s.H D = none) (o : HO) : Le s (hide s D o) := by
  have ne : ∀ b, s.H b ≠ none → b ≠ D := fun b h z => h (z ▸ hD)
  refine ⟨LeD.of (Nat.le_refl _) (fun _ _ => rfl) fun b u h e => ⟨?_, ?_⟩, fun b h => ⟨.inl h, ?_⟩⟩
  · rintro ((h' | h') | h')
    · exact h (.inl h')
    · exact ne b (by rw [e]; exact fun z => nomatch z) h'
    · exact h (.inr h')
  · show upd s.H D o b = some u
    rw [upd_ne (ne b (by rw [e]; exact fun z => nomatch z))]
    exact e
  · show upd s.H D o b = s.H b
    exact upd_ne (ne b (so.trk b h))
theorem hide_ok {s : Stt} {D : Addr} (so : StOk Γ s) (hD : s.H D = none) (o : HO) : StOk Γ (hide s D o) := by
  have ne : ∀ b, s.H b ≠ none → b ≠ D := fun b h z => h (z ▸ hD)
  have le := hide_le so hD o
  refine ⟨fun n c e => (so.cell n c e).mono le fun l => ?_, so.inj, fun n c e l => ?_, fun b h => ?_⟩
  · show upd s.H D o (s.α n) = s.H (s.α n)
    exact upd_ne (ne _ (own_tracked so (.inr ⟨n, c, e, l, rfl⟩)))
  · rintro (h | h)
    · exact so.hid n c e l h
    · exact ne _ (own_tracked so (.inr ⟨n, c, e, l, rfl⟩)) h
  · show upd s.H D o b ≠ none
    rcases h with h | h
    · rw [upd_ne (ne b (so.trk b h))]
      exact so.trk b h
    · rw [h, upd_same]
      exact fun z => nomatch z
theorem laid_le1 {s1 s : Stt} {D : Addr} (le : Le s1 s) (so : StOk Γ s1) (hD : s1.H D = none) (o : HO) : Le s1 (laid s D o) := by
  have ne : ∀ b, s1.H b ≠ none → b ≠ D := fun b h z => h (z ▸ hD)
  refine ⟨⟨le.len, le.α, fun b u h e => ?_⟩, fun b h => ⟨(le.hid b h).1, ?_⟩⟩
  · obtain ⟨h1, h2⟩ := le.dat b u h e
    exact ⟨h1, by show upd s.H D o b = _; rw [upd_ne (ne b (by rw [e]; exact fun z => nomatch z))]; exact h2⟩
  · show upd s.H D o b = s1.H b
    rw [upd_ne (ne b (so.trk b h))]
    exact (le.hid b h).2
theorem laid_leD {s : Stt} {D : Addr} (hD : s.hid D) (o : HO) : LeD s (laid s D o) := by
  refine LeD.of (Nat.le_refl _) (fun _ _ => rfl) fun b u h e => ⟨h, ?_⟩
  show upd s.H D o b = some u
  rw [upd_ne (show b ≠ D from fun z => h (.inl (by rw [z]; exact hD)))]
  exact e
theorem CellOk.monoD {s s' : Stt} {n : Nat} {c : Cell} (l : LeD s s') (h : CellOk Γ s n c) (e : live c = true → s'.H (s'.α n) = s.H (s.α n)) : CellOk Γ s' n c := by
  cases c with
  | lst ds => obtain ⟨vs, h1, h2⟩ := h; exact ⟨vs, (e rfl).trans h1, l.rvs h2⟩
  | ins _ _ _ => obtain ⟨dx, vs, h1, h2, h3⟩ := h; exact ⟨dx, vs, (e rfl).trans h1, l.rvs h2, h3⟩
  | dct _ _ => exact h.elim
  | dead => trivial
theorem laid_ok {s : Stt} {D : Addr} (so : StOk Γ s) (hD : s.hid D) (o : HO) : StOk Γ (laid s D o) := by
  have le := laid_leD hD o
  refine ⟨fun n c e => (so.cell n c e).monoD le fun l => ?_, so.inj, so.hid, fun b h => ?_⟩
  · show upd s.H D o (s.α n) = s.H (s.α n)
    exact upd_ne fun z => so.hid n c e l (z ▸ hD)
  · show upd s.H D o b ≠ none
    by_cases hb : b = D
    · rw [hb, upd_same]; exact fun z => nomatch z
    · rw [upd_ne hb]; exact so.trk b h
theorem unhide_leD {s : Stt} {D : Addr} : LeD s (unhide s D) :=
  LeD.of (Nat.le_refl _) (fun _ _ => rfl) fun b u h e => ⟨fun z => h (by
    rcases z with z | z
    · exact .inl z.1
    · exact .inr z), e⟩
theorem unhide_le1 {s1 s : Stt} {D : Addr} (le : Le s1 s) (so : StOk Γ s1) (hD : s1.H D = none) : Le s1 (unhide s D) :=
  ⟨le.toLeD.trans unhide_leD, fun b h => ⟨⟨(le.hid b h).1, fun z => so.trk b h (z ▸ hD)⟩, (le.hid b h).2⟩⟩
theorem unhide_ok {s : Stt} {D : Addr} (so : StOk Γ s) : StOk Γ (unhide s D) :=
  ⟨fun n c e => (so.cell n c e).monoD unhide_leD fun l => rfl, so.inj, fun n c e l h => so.hid n c e l h.1, fun b h => so.trk b h.1⟩
theorem unhide_own {s : Stt} {D : Addr} (so : StOk Γ s) (hD : s.hid D) : ¬ own (unhide s D) D := by
  rintro (h | ⟨n, c, e, l, h⟩)
  · exact h.2 rfl
  · exact so.hid n c e l (h ▸ hD)
/-! ### a clause's tests -/
def WN : XK := fun _ _ _ => False
def TOk (Γ : Inf) (tt : TT) (gc : QL.Env → M Bool) : Prop := ∀ s σ ρ (Q : Bool → Hp → Prop), EnvOk Γ s σ ρ → StOk Γ s → Rs Γ WN s (gc ρ s.μ) (fun b s' => Q b s'.H) → tt σ s.H Q
theorem tok_yes (G : Gs) : TOk Γ tYes (evT G (.bl true)) := fun s σ ρ Q ho so h => by
  have h : Rs Γ WN s (M.bind (M.pure (.bl true)) truth s.μ) _ := h
  exact h.bindM.pure so |>.pure so
theorem tok_of {gc : QL.Env → M Bool} : TOk Γ (tDT Γ WN gc) gc := fun s σ ρ Q ho so h => ⟨ρ, s, rfl, ho, so, h⟩
theorem M.bind_ok {α β : Type} {x : M α} {f : α → M β} {m m' : Mem} {b : β} (h : M.bind x f m = .ok b m') : ∃ a m1, x m = .ok a m1 ∧ f a m1 = .ok b m' := by
  unfold M.bind at h
  cases e : x m with
  | ok a m1 => rw [e] at h; exact ⟨a, m1, rfl, h⟩
  | ex _ _ _ => rw [e] at h; cases h
  | bad => rw [e] at h; cases h
theorem ofO_ok {α : Type} {o : Option α} {m m' : Mem} {a : α} (h : ofO o m = .ok a m') : o = some a ∧ m' = m := by
  cases o with
  | none => cases h
  | some b => cases h; exact ⟨rfl, rfl⟩
theorem pure_ok {α : Type} {a b : α} {m m' : Mem} (h : M.pure a m = .ok b m') : b = a ∧ m' = m := by cases h; exact ⟨rfl, rfl⟩
theorem nox_ok {α : Type} {x : M α} {s : Stt} {k : α → Stt → Prop} (h : Rs Γ W s (nox x s.μ) k) : ∃ a m, x s.μ = .ok a m ∧ ∀ s', Le s s' → StOk Γ s' → s'.μ = m → k a s' := by
  unfold nox at h
  cases e : x s.μ with
  | ok a m => rw [e] at h; exact ⟨a, m, rfl, h⟩
  | ex _ _ _ => rw [e] at h; exact h.elim
  | bad => rw [e] at h; exact h.elim
theorem rs_ok {α : Type} {r : Res α} {s : Stt} {a : α} {m : Mem} {k : α → Stt → Prop} (h : r = .ok a m) (i : ∀ s', Le s s' → StOk Γ s' → s'.μ = m → k a s') : Rs Γ W s r k := by rw [h]; exact i
/-- one turn of a clause: what a walked thing gives is put to the target -/
theorem turn_law {pr : Bool} {tg vs : List Nat} {g : TG} {s : Stt} {σ : L2.St} {ρ ρ1 : QL.Env} {x : V} {d : D} {Q : L2.St → Hp → Prop} (hg : GOk Γ pr tg g) (htg : ∀ i ∈ tg, i ∈ vs) (ho : EnvOk Γ s σ ρ) (r : if pr = true then IRV Γ s x d else RV Γ s x d) (e : setT tg d (wipeE ρ vs) = some ρ1)
    (q : ∀ σ1, EnvOk Γ s σ1 ρ1 → wipe σ1 vs = wipe σ vs → Q σ1 s.H) : g x (wipe σ vs) s.H Q :=
  hg s _ _ ρ1 x d Q (ho.wipe vs) r e fun σ1 h1 h2 h3 => q σ1 h1 (by
    rw [wipe_same h2 fun j hj => h3 j fun z => hj (htg j z), wipe_wipe])
theorem itd_walk {J : It} {s1 : Stt} {pr : Bool} {ds : List D} (hJ : ItD Γ J s1 pr ds) : Walk J ds.length (fun H => ∃ s2, s2.H = H ∧ LeD s1 s2)
    (fun i H x H' => ∀ s2, s2.H = H → LeD s1 s2 → StOk Γ s2 → ∃ s3 d, s3.H = H' ∧ Le s2 s3 ∧ StOk Γ s3 ∧ s3.μ = s2.μ ∧ ds[i]? = some d ∧ (if pr = true then IRV Γ s3 x d else RV Γ s3 x d)) :=
  ⟨fun i H hi ⟨s2, e, le⟩ => e ▸ hJ.goes i s2 le hi, fun H ⟨s2, e, le⟩ => e ▸ hJ.stops s2 le, fun i H x H' hi _ y s2 e le so2 => by subst e; exact hJ.yields i s2 x H' le so2 hi y⟩
theorem drop_cons {α : Type} {l : List α} {i : Nat} {d : α} (h : l[i]? = some d) : l.drop i = d :: l.drop (i + 1) := by
  obtain ⟨hi, e⟩ := List.getElem?_eq_some_iff.mp h
  rw [List.drop_eq_getElem_cons hi, e]
/-- what becomes of the new list -/
def EndOk (Γ : Inf) (F : List D → M D) : Prop := ∀ (s2 : Stt) (D : Addr) (acc : List V) (accD : List QL.D), StOk Γ s2 → s2.hid D → s2.H D = some (.lst acc) → RVs Γ s2 acc accD →
  ∃ d s', F accD s2.μ = .ok d s'.μ ∧ s'.H = s2.H ∧ (∀ s1, Le s1 s2 → StOk Γ s1 → s1.H D = none → Le s1 s') ∧ StOk Γ s' ∧ RV Γ s' (.ref D) d
theorem end_pure : EndOk Γ fun r => M.pure (.lst r) := fun s2 D acc accD o2 hd2 hD2 ra =>
  ⟨_, unhide s2 D, rfl, rfl, fun s1 le o1 h => unhide_le1 le o1 h, unhide_ok o2, .lst ⟨unhide_own o2 hd2, .inl hD2⟩ (unhide_leD.rvs ra)⟩
/-- a thing that is being made becomes a cell -/
abbrev cellOf (s : Stt) (D : Addr) (c : Cell) : Stt := { s with μ := s.μ ++ [c], α := fun n => if n = s.μ.length then D else s.α n, hid := fun b => s.hid b ∧ b ≠ D }
theorem cellOf_own {s : Stt} {D : Addr} {c : Cell} (hd : s.hid D) (hc : live c = true) : ∀ b, own (cellOf s D c) b ↔ own s b := fun b => by
  constructor
  · rintro (h | ⟨n, d, h1, h2, h3⟩)
    · exact .inl h.1
    · have h1 : (s.μ ++ [c])[n]? = some d := h1
      have h3 : (if n = s.μ.length then D else s.α n) = b := h3
      by_cases hn : n = s.μ.length
      · rw [if_pos hn] at h3
        exact .inl (h3 ▸ hd)
      · rw [if_neg hn] at h3
        have hl : n < s.μ.length := by
          have := (List.getElem?_eq_some_iff.mp h1).1
          rw [List.length_append, List.length_singleton] at this
          omega
        rw [List.getElem?_append_left hl] at h1
        exact .inr ⟨n, d, h1, h2, h3⟩
  · rintro (h | ⟨n, d, h1, h2, h3⟩)
    · by_cases hb : b = D
      · exact .inr ⟨s.μ.length, c, by show (s.μ ++ [c])[s.μ.length]? = _; simp, hc, by show (if s.μ.length = s.μ.length then D else _) = b; rw [if_pos rfl, hb]⟩
      · exact .inl ⟨h, hb⟩
    · have hl := (List.getElem?_eq_some_iff.mp h1).1
      exact .inr ⟨n, d, by show (s.μ ++ [c])[n]? = _; rw [List.getElem?_append_left hl]; exact h1, h2, by show (if n = s.μ.length then D else s.α n) = b; rw [if_neg (by omega)]; exact h3⟩
theorem cellOf_leD {s : Stt} {D : Addr} {c : Cell} (hd : s.hid D) (hc : live c = true) : LeD s (cellOf s D c) :=
  LeD.of (by show _ ≤ (s.μ ++ [c]).length; rw [List.length_append]; omega) (fun n h => by show (if n = s.μ.length then D else s.α n) = s.α n; rw [if_neg (by omega)])
    fun b u h e => ⟨fun z => h ((cellOf_own hd hc b).mp z), e⟩
theorem cellOf_le1 {s1 s : Stt} {D : Addr} {c : Cell} (le : Le s1 s) (so : StOk Γ s1) (hD : s1.H D = none) (hd : s.hid D) (hc : live c = true) : Le s1 (cellOf s D c) :=
  ⟨le.toLeD.trans (cellOf_leD hd hc), fun b h => ⟨⟨(le.hid b h).1, fun z => so.trk b h (z ▸ hD)⟩, (le.hid b h).2⟩⟩
theorem cellOf_ok {s : Stt} {D : Addr} {c : Cell} (so : StOk Γ s) (hd : s.hid D) (hc : live c = true) (h : CellOk Γ (cellOf s D c) s.μ.length c) : StOk Γ (cellOf s D c) := by
  have le := cellOf_leD hd hc
  have get : ∀ n d, (s.μ ++ [c])[n]? = some d → (n = s.μ.length ∧ d = c) ∨ (n < s.μ.length ∧ s.μ[n]? = some d) := fun n d e => by
    by_cases hn : n < s.μ.length
    · rw [List.getElem?_append_left hn] at e
      exact .inr ⟨hn, e⟩
    · have hl := (List.getElem?_eq_some_iff.mp e).1
      rw [List.length_append, List.length_singleton] at hl
      have : n = s.μ.length := by omega
      subst this
      simp at e
      exact .inl ⟨rfl, e.symm⟩
  have al : ∀ n, n < s.μ.length → (cellOf s D c).α n = s.α n := fun n hn => by show (if n = s.μ.length then D else s.α n) = s.α n; rw [if_neg (by omega)]
  have aD : (cellOf s D c).α s.μ.length = D := by show (if s.μ.length = s.μ.length then D else s.α s.μ.length) = D; rw [if_pos rfl]
  refine ⟨fun n d e => ?_, fun n m d f e1 e2 l1 l2 ea => ?_, fun n d e l => ?_, fun b hb => so.trk b hb.1⟩
  · rcases get n d e with ⟨rfl, rfl⟩ | ⟨hn, e⟩
    · exact h
    · exact (so.cell n d e).monoD le fun l => by rw [al n hn]
  · rcases get n d e1 with ⟨rfl, rfl⟩ | ⟨hn, e1'⟩ <;> rcases get m f e2 with ⟨rfl, rfl⟩ | ⟨hm, e2'⟩
    · rfl
    · rw [aD, al m hm] at ea
      exact absurd hd (by rw [ea]; exact so.hid m f e2' l2)
    · rw [aD, al n hn] at ea
      exact absurd hd (by rw [← ea]; exact so.hid n d e1' l1)
    · rw [al n hn, al m hm] at ea
      exact so.inj n m d f e1' e2' l1 l2 ea
  · rcases get n d e with ⟨rfl, rfl⟩ | ⟨hn, e⟩
    · rw [aD]; exact fun z => z.2 rfl
    · rw [al n hn]; exact fun z => so.hid n d e l z.1
theorem end_new : EndOk Γ fun r => newM (.lst r) := fun s2 D acc accD o2 hd2 hD2 ra => by
  have le := cellOf_leD (c := .lst accD) hd2 rfl
  have aD : (cellOf s2 D (.lst accD)).α s2.μ.length = D := by show (if s2.μ.length = s2.μ.length then D else s2.α s2.μ.length) = D; rw [if_pos rfl]
  refine ⟨_, cellOf s2 D (.lst accD), rfl, rfl, fun s1 l o1 h => cellOf_le1 l o1 h hd2 rfl, cellOf_ok o2 hd2 rfl ⟨acc, by rw [aD]; exact hD2, le.rvs ra⟩, ?_⟩
  have : RV Γ (cellOf s2 D (.lst accD)) (.ref ((cellOf s2 D (.lst accD)).α s2.μ.length)) (.ref s2.μ.length) := .ref (by show _ < (s2.μ ++ [_]).length; simp)
  rw [aD] at this
  exact this
/-- what is walked, where P stands at the start -/
def WOk (Γ : Inf) (W : XK) (P : Stt → L2.St → Prop) (pr : Bool) (wi : TI) (gi : QL.Env → M (List D)) : Prop := ∀ σ ρ s (R : It → Hp → Prop), EnvOk Γ s σ ρ → StOk Γ s → P s σ → Rs Γ W s (gi ρ s.μ) (fun ds s' => ∀ J, ItD Γ J s' pr ds → R J s'.H) → wi σ s.H R
abbrev PT' : Stt → L2.St → Prop := fun _ _ => True
theorem wok_of {pr : Bool} {gi : QL.Env → M (List D)} : WOk Γ W PT' pr (tDI Γ W pr gi) gi := fun σ ρ s R ho so _ h => ⟨ρ, s, rfl, ho, so, h⟩
def tDP (Γ : Inf) (W : XK) (P : Stt → L2.St → Prop) (g : QL.Env → M D) : TE := fun σ H Q => ∃ ρ s, s.H = H ∧ EnvOk Γ s σ ρ ∧ StOk Γ s ∧ P s σ ∧ Rs Γ W s (g ρ s.μ) fun d s' => ∀ v, RV Γ s' v d → Q v s'.H
theorem tdp_of {g : QL.Env → M D} {σ : L2.St} {H : Hp} {Q : VK} (h : tD Γ W g σ H Q) : tDP Γ W PT' g σ H Q := let ⟨ρ, s, a, b, c, d⟩ := h; ⟨ρ, s, a, b, c, trivial, d⟩
theorem lc_law {pr : Bool} {P : Stt → L2.St → Prop} {wi : TI} {tg vs : List Nat} {g : TG} {tt : TT} {gi : QL.Env → M (List D)} {gc : QL.Env → M Bool} {ge : QL.Env → M D} {F : List D → M D} {σ : L2.St} {H : Hp} {Q : VK} (hF : EndOk Γ F) (hwi : WOk Γ W P pr wi gi) (hg : GOk Γ pr tg g) (htg : ∀ i ∈ tg, i ∈ vs) (htt : TOk Γ tt gc)
    (h : tDP Γ W P (fun ρ => M.bind (gi ρ) fun l => M.bind (lim l) fun _ => M.bind (nox (compL (compF tg vs gc ge ρ) l)) F) σ H Q) : tLc wi g tt (tD Γ WN ge) vs σ H Q := by
  obtain ⟨ρ, s, rfl, ho, so, hP, h⟩ := h
  refine hwi σ ρ s _ ho so hP (h.bindM.imp fun ds s1 l1 o1 h1 J hJ D hD => ?_)
  have hz : ds.length ≤ LIM ∧ Rs Γ W s1 (M.bind (nox (compL (compF tg vs gc ge ρ) ds)) F s1.μ) (KD Γ Q) := by
    by_cases hz : ds.length ≤ LIM
    · have h2 := h1.bindM
      unfold lim at h2
      rw [if_pos hz] at h2
      exact ⟨hz, h2.pure o1⟩
    · have h2 := h1.bindM
      unfold lim at h2
      rw [if_neg hz] at h2
      exact h2.elim
  obtain ⟨hz, h1⟩ := hz
  obtain ⟨r, mf, er, -⟩ := nox_ok h1.bindM
  have h1' : M.bind (nox (compL (compF tg vs gc ge ρ) ds)) F s1.μ = F r mf := by unfold M.bind nox; rw [er]; rfl
  rw [h1'] at h1
  have ho1 := ho.mono l1
  have le0 := hide_le o1 hD (.lst [])
  refine lc_it (itd_walk hJ)
    (fun i H => ∃ s2 acc accD rest, s2.H = H ∧ Le s1 s2 ∧ StOk Γ s2 ∧ s2.hid D ∧ s2.H D = some (.lst acc) ∧ RVs Γ s2 acc accD ∧ acc.length ≤ i ∧ compL (compF tg vs gc ge ρ) (ds.drop i) s2.μ = .ok rest mf ∧ accD ++ rest = r)
    ⟨hide s1 D (.lst []), [], [], r, rfl, le0, hide_ok o1 hD _, .inr rfl, upd_same, .nil, Nat.le_refl _, er, rfl⟩ (fun i H _ ⟨s2, _, _, _, e, le, _⟩ => ⟨s2, e, le.toLeD⟩) ?_ ?_
  · rintro i x H H' hi ⟨s2, acc, accD, rest, rfl, le2, o2, hd2, hD2, ra, hacc, ec, rfl⟩ y
    obtain ⟨s3, d, rfl, le3, o3, m3, ed, rd⟩ := y s2 rfl le2.toLeD o2
    rw [drop_cons ed] at ec
    obtain ⟨o, m4, e1, ec⟩ := M.bind_ok ec
    obtain ⟨l, m5, e2, ec⟩ := M.bind_ok ec
    obtain ⟨rfl, rfl⟩ := pure_ok ec
    obtain ⟨ρ1, m6, e3, e1⟩ := M.bind_ok e1
    obtain ⟨e3', rfl⟩ := ofO_ok e3
    obtain ⟨t, m7, e4, e1⟩ := M.bind_ok e1
    have le13 := le2.trans le3
    refine turn_law hg htg (ho1.mono le13) rd e3' fun σ1 ho3 hw => ⟨hw, ?_⟩
    refine htt s3 σ1 ρ1 _ ho3 o3 (rs_ok (by rw [m3]; exact e4) fun s4 le4 o4 m4' => ?_)
    have hd4 : s4.hid D ∧ s4.H D = some (.lst acc) := by
      obtain ⟨a1, a2⟩ := le3.hid D hd2
      obtain ⟨b1, b2⟩ := le4.hid D a1
      exact ⟨b1, by rw [b2, a2]; exact hD2⟩
    cases t with
    | false =>
      rw [if_neg (by decide)] at e1
      obtain ⟨rfl, rfl⟩ := pure_ok e1
      rw [if_neg (by decide)]
      exact ⟨s4, acc, accD, _, rfl, le13.trans le4, o4, hd4.1, hd4.2, (le3.trans le4).rvs ra, by omega, by rw [m4']; exact e2, rfl⟩
    | true =>
      rw [if_pos rfl] at e1
      obtain ⟨y', m8, e5, e1⟩ := M.bind_ok e1
      obtain ⟨rfl, rfl⟩ := pure_ok e1
      rw [if_pos rfl]
      refine ⟨ρ1, s4, rfl, ho3.mono le4, o4, rs_ok (by rw [m4']; exact e5) fun s5 le5 o5 m5' v rv => ?_⟩
      obtain ⟨hd5, hD5⟩ := le5.hid D hd4.1
      have le15 := (le13.trans le4).trans le5
      have lD := laid_leD hd5 (.lst (acc ++ [v]))
      refine ⟨acc, by rw [hD5]; exact hd4.2, Nat.lt_of_lt_of_le (Nat.lt_of_le_of_lt hacc hi) hz, ?_⟩
      refine ⟨laid s5 D (.lst (acc ++ [v])), acc ++ [v], accD ++ [y'], l, rfl, laid_le1 le15 o1 hD _, laid_ok o5 hd5 _, hd5, upd_same, ?_, by rw [List.length_append]; simp; exact hacc, by rw [← e2]; show compL _ _ s5.μ = _; rw [m5'], by simp⟩
      exact (lD.rvs (((le3.trans le4).trans le5).rvs ra)).append (.cons (lD.rv rv) .nil)
  · rintro H ⟨s2, acc, accD, rest, rfl, le2, o2, hd2, hD2, ra, _, ec, rfl⟩
    rw [List.drop_length] at ec
    obtain ⟨rfl, rfl⟩ := pure_ok ec
    rw [List.append_nil] at h1
    obtain ⟨d, s', e, eH, le9, o9, r9⟩ := hF s2 D acc accD o2 hd2 hD2 ra
    rw [e] at h1
    rw [← eH]
    exact h1 s' (le9 s1 le2 o1 hD) o9 rfl _ r9
/-- two clauses -/
theorem lc2_law {pr pr1 : Bool} {tg vs tg1 vs1 : List Nat} {g g1 : TG} {tt tt1 : TT} {gi gi1 : QL.Env → M (List D)} {gc : QL.Env → M Bool} {ge : QL.Env → M D} {F : List D → M D} {σ : L2.St} {H : Hp} {Q : VK} (hF : EndOk Γ F) (hg : GOk Γ pr tg g) (htg : ∀ i ∈ tg, i ∈ vs) (hg1 : GOk Γ pr1 tg1 g1) (htg1 : ∀ i ∈ tg1, i ∈ vs1)
    (htt : ∀ σ H (Q : Bool → Hp → Prop), Q true H → tt σ H Q) (htt1 : TOk Γ tt1 gc)
    (h : tD Γ W (fun ρ => M.bind (gi ρ) fun l => M.bind (nox (compLL (fun d acc => M.bind (ofO (setT tg d (wipeE ρ vs))) fun ρ1 => M.bind (gi1 ρ1) fun l2 => compA (compF tg1 vs1 gc ge ρ1) l2 acc) l [])) F) σ H Q) :
    tLc2 (tDI Γ W pr gi) g tt (tDI Γ WN pr1 gi1) g1 tt1 (tD Γ WN ge) vs vs1 σ H Q := by
  obtain ⟨ρ, s, rfl, ho, so, h⟩ := h
  refine ⟨ρ, s, rfl, ho, so, h.bindM.imp fun ds s1 l1 o1 h1 J hJ D hD => ?_⟩
  obtain ⟨r, mf, er, -⟩ := nox_ok h1.bindM
  generalize hf : (fun d acc => M.bind (ofO (setT tg d (wipeE ρ vs))) fun ρ1 => M.bind (gi1 ρ1) fun l2 => compA (compF tg1 vs1 gc ge ρ1) l2 acc) = f at h1 er
  have h1' : M.bind (nox (compLL f ds [])) F s1.μ = F r mf := by unfold M.bind nox; rw [er]; rfl
  rw [h1'] at h1
  have ho1 := ho.mono l1
  have le0 := hide_le o1 hD (.lst [])
  have wk := itd_walk hJ
  refine ⟨fun i m H => m = ds.length - i ∧ i ≤ ds.length ∧ ∃ s2 acc accD, s2.H = H ∧ Le s1 s2 ∧ StOk Γ s2 ∧ s2.hid D ∧ s2.H D = some (.lst acc) ∧ RVs Γ s2 acc accD ∧ compLL f (ds.drop i) accD s2.μ = .ok r mf,
    ⟨ds.length, by simp, Nat.zero_le _, hide s1 D (.lst []), [], [], rfl, le0, hide_ok o1 hD _, .inr rfl, upd_same, .nil, er⟩, ?_⟩
  rintro i m H ⟨rfl, hi, s2, acc, accD, rfl, le2, o2, hd2, hD2, ra, ec⟩
  by_cases hlt : i < ds.length
  · refine .inr ⟨wk.goes i _ hlt ⟨s2, rfl, le2.toLeD⟩, (fun H => ∃ s2 acc accD, s2.H = H ∧ Le s1 s2 ∧ StOk Γ s2 ∧ s2.hid D ∧ s2.H D = some (.lst acc) ∧ RVs Γ s2 acc accD ∧ compLL f (ds.drop (i + 1)) accD s2.μ = .ok r mf), fun H' p' => ⟨ds.length - (i + 1), by omega, rfl, hlt, p'⟩, fun x H' y => ?_⟩
    obtain ⟨s3, d, rfl, le3, o3, m3, ed, rd⟩ := wk.yields i _ x H' hlt ⟨s2, rfl, le2.toLeD⟩ y s2 rfl le2.toLeD o2
    rw [drop_cons ed] at ec
    obtain ⟨acc', m4, e1, ec⟩ := M.bind_ok ec
    rw [← hf] at e1
    obtain ⟨ρ1, m6, e3, e1⟩ := M.bind_ok e1
    obtain ⟨e3', rfl⟩ := ofO_ok e3
    obtain ⟨l2, m7, e4, e1⟩ := M.bind_ok e1
    have le13 := le2.trans le3
    refine turn_law hg htg (ho1.mono le13) rd e3' fun σ1 ho3 hw => ⟨hw, htt _ _ _ ?_⟩
    rw [if_pos rfl]
    refine ⟨ρ1, s3, rfl, ho3, o3, rs_ok (by rw [m3]; exact e4) fun s4 le4 o4 m4' J1 hJ1 => ?_⟩
    have wk1 := itd_walk hJ1
    have hd4 : s4.hid D ∧ s4.H D = some (.lst acc) := by
      obtain ⟨a1, a2⟩ := le3.hid D hd2
      obtain ⟨b1, b2⟩ := le4.hid D a1
      exact ⟨b1, by rw [b2, a2]; exact hD2⟩
    have le14 := le13.trans le4
    have ho4 := ho3.mono le4
    -- what is before the inner loop, its list left out
    refine ⟨fun j k H => k = l2.length - j ∧ j ≤ l2.length ∧ ∃ s5 acc accD, s5.H = H ∧ Le s1 s5 ∧ LeD s4 s5 ∧ StOk Γ s5 ∧ s5.hid D ∧ s5.H D = some (.lst acc) ∧ RVs Γ s5 acc accD ∧ compA (compF tg1 vs1 gc ge ρ1) (l2.drop j) accD s5.μ = .ok acc' m4,
      ⟨l2.length, by simp, Nat.zero_le _, s4, acc, accD, rfl, le14, LeD.refl _, o4, hd4.1, hd4.2, (le3.trans le4).rvs ra, by rw [m4']; exact e1⟩, ?_⟩
    rintro j k H ⟨rfl, hj, s5, acc5, accD5, rfl, le15, l45, o5, hd5, hD5, ra5, ec5⟩
    by_cases hlt5 : j < l2.length
    · refine .inr ⟨wk1.goes j _ hlt5 ⟨s5, rfl, l45⟩, (fun H => ∃ s5 acc accD, s5.H = H ∧ Le s1 s5 ∧ LeD s4 s5 ∧ StOk Γ s5 ∧ s5.hid D ∧ s5.H D = some (.lst acc) ∧ RVs Γ s5 acc accD ∧ compA (compF tg1 vs1 gc ge ρ1) (l2.drop (j + 1)) accD s5.μ = .ok acc' m4), fun H' p' => ⟨l2.length - (j + 1), by omega, rfl, hlt5, p'⟩, fun x H' y => ?_⟩
      obtain ⟨s6, d6, rfl, le6, o6, m6, ed6, rd6⟩ := wk1.yields j _ x H' hlt5 ⟨s5, rfl, l45⟩ y s5 rfl l45 o5
      rw [drop_cons ed6] at ec5
      obtain ⟨oo, m7, f1, ec5⟩ := M.bind_ok ec5
      obtain ⟨ρ2, m8, f3, f1⟩ := M.bind_ok f1
      obtain ⟨f3', rfl⟩ := ofO_ok f3
      obtain ⟨t, m9, f4, f1⟩ := M.bind_ok f1
      have l46 := l45.trans le6.toLeD
      refine turn_law hg1 htg1 (ho4.monoD l46) rd6 f3' fun σ2 ho6 hw2 => ⟨hw2, ?_⟩
      refine htt1 s6 σ2 ρ2 _ ho6 o6 (rs_ok (by rw [m6]; exact f4) fun s7 le7 o7 m7' => ?_)
      have hd7 : s7.hid D ∧ s7.H D = some (.lst acc5) := by
        obtain ⟨a1, a2⟩ := le6.hid D hd5
        obtain ⟨b1, b2⟩ := le7.hid D a1
        exact ⟨b1, by rw [b2, a2]; exact hD5⟩
      have le17 := (le15.trans le6).trans le7
      have l47 := l46.trans le7.toLeD
      cases t with
      | false =>
        rw [if_neg (by decide)] at f1
        obtain ⟨rfl, rfl⟩ := pure_ok f1
        rw [if_neg (by decide)]
        exact ⟨s7, acc5, accD5, rfl, le17, l47, o7, hd7.1, hd7.2, (le6.trans le7).rvs ra5, by rw [m7']; exact ec5⟩
      | true =>
        rw [if_pos rfl] at f1
        obtain ⟨y', m10, f5, f1⟩ := M.bind_ok f1
        obtain ⟨rfl, rfl⟩ := pure_ok f1
        rw [if_pos rfl]
        refine ⟨ρ2, s7, rfl, ho6.mono le7, o7, rs_ok (by rw [m7']; exact f5) fun s8 le8 o8 m8' v rv => ?_⟩
        have hz : accD5.length < LIM ∧ compA (compF tg1 vs1 gc ge ρ1) (l2.drop (j + 1)) (accD5 ++ [y']) m7 = .ok acc' m4 := by
          by_cases hz : accD5.length < LIM
          · have ec5 : (if accD5.length < LIM then compA (compF tg1 vs1 gc ge ρ1) (l2.drop (j + 1)) (accD5 ++ [y']) else M.bad) m7 = .ok acc' m4 := ec5
            rw [if_pos hz] at ec5
            exact ⟨hz, ec5⟩
          · have ec5 : (if accD5.length < LIM then compA (compF tg1 vs1 gc ge ρ1) (l2.drop (j + 1)) (accD5 ++ [y']) else M.bad) m7 = .ok acc' m4 := ec5
            rw [if_neg hz] at ec5
            cases ec5
        obtain ⟨hd8, hD8⟩ := le8.hid D hd7.1
        have lD := laid_leD hd8 (.lst (acc5 ++ [v]))
        refine ⟨acc5, by rw [hD8]; exact hd7.2, by rw [ra5.length]; exact hz.1, ?_⟩
        refine ⟨laid s8 D (.lst (acc5 ++ [v])), acc5 ++ [v], accD5 ++ [y'], rfl, laid_le1 (le17.trans le8) o1 hD _, (l47.trans le8.toLeD).trans lD, laid_ok o8 hd8 _, hd8, upd_same, ?_, by rw [← hz.2]; show compA _ _ _ s8.μ = _; rw [m8']⟩
        exact (lD.rvs (((le6.trans le7).trans le8).rvs ra5)).append (.cons (lD.rv rv) .nil)
    · have e : j = l2.length := by omega
      subst e
      rw [List.drop_length] at ec5
      obtain ⟨rfl, rfl⟩ := pure_ok ec5
      exact .inl ⟨wk1.stops _ ⟨s5, rfl, l45⟩, s5, acc5, _, rfl, le15, o5, hd5, hD5, ra5, ec⟩
  · have e : i = ds.length := by omega
    subst e
    rw [List.drop_length] at ec
    obtain ⟨rfl, rfl⟩ := pure_ok ec
    refine .inl ⟨wk.stops _ ⟨s2, rfl, le2.toLeD⟩, ?_⟩
    obtain ⟨d, s', e, eH, le9, o9, r9⟩ := hF s2 D acc _ o2 hd2 hD2 ra
    rw [e] at h1
    rw [← eH]
    exact h1 s' (le9 s1 le2 o1 hD) o9 rfl _ r9
end
end QS
end
section
set_option linter.all false
set_option maxRecDepth 100000
set_option autoImplicit false
/-! QS11: dicts. -/
namespace QS
open PySem PySem.Spec PyProof.Rows L2 QL
section
variable {Γ : Inf} {W : XK} {X : Cx} {G : Gs} {pos : Pos}
theorem dct_rd {s : Stt} {x : V} {ks : List Int} {vs : List D} (r : RV Γ s x (.dct ks vs)) : ∃ a kvs, x = .ref a ∧ ¬ own s a ∧ Rd s.H a (.dK kvs) ∧ kvs.map Prod.fst = ks.map Sum.inl ∧ RVs Γ s (kvs.map Prod.snd) vs := by
  cases r with
  | dct h1 h2 h3 h4 => exact ⟨_, _, rfl, h1, h2, h3, h4⟩
theorem valV_none : ∀ {kvs : List (Key × V)} {ks : List Int} {k : Int}, kvs.map Prod.fst = ks.map Sum.inl → k ∉ ks → valV kvs (.inl k) = none
  | [], _, _, _, _ => rfl
  | p :: r, [], _, h, _ => by simp at h
  | p :: r, i :: ks, k, h, hk => by
    simp only [List.map_cons, List.cons.injEq] at h
    rw [valV_neg (by rw [h.1]; intro z; cases z; exact hk List.mem_cons_self)]
    exact valV_none h.2 fun z => hk (List.mem_cons_of_mem _ z)
theorem valV_look {s : Stt} : ∀ {kvs : List (Key × V)} {ks : List Int} {vs : List D} {k : Int} {d : D}, kvs.map Prod.fst = ks.map Sum.inl → RVs Γ s (kvs.map Prod.snd) vs → lookD k ks vs = some d → ∃ v, valV kvs (.inl k) = some v ∧ RV Γ s v d
  | [], [], _, _, _, _, _, e => by simp [lookD] at e
  | [], _ :: _, _, _, _, h, _, _ => by simp at h
  | p :: r, [], _, _, _, h, _, _ => by simp at h
  | p :: r, i :: ks, [], _, _, _, h, _ => by cases h
  | p :: r, i :: ks, v :: vs, k, d, h, rv, e => by
    simp only [List.map_cons, List.cons.injEq] at h
    cases rv with
    | cons r1 r2 =>
      simp only [lookD] at e
      by_cases hik : i = k
      · rw [if_pos hik] at e
        cases e
        exact ⟨p.2, valV_pos (by rw [h.1, hik]), r1⟩
      · rw [if_neg hik] at e
        obtain ⟨v', h1, h2⟩ := valV_look h.2 r2 e
        exact ⟨v', by rw [valV_neg (by rw [h.1]; intro z; cases z; exact hik rfl)]; exact h1, h2⟩
/-! ### dict comprehensions -/
theorem dc_law {pr : Bool} {tg vs : List Nat} {g : TG} {tt : TT} {gi : QL.Env → M (List D)} {gc : QL.Env → M Bool} {gk gv : QL.Env → M D} {σ : L2.St} {H : Hp} {Q : VK} (hg : GOk Γ pr tg g) (htg : ∀ i ∈ tg, i ∈ vs) (htt : TOk Γ tt gc)
    (h : tD Γ W (fun ρ => M.bind (gi ρ) fun l => M.bind (lim l) fun _ => M.bind (nox (compD (compF2 tg vs gc gk gv ρ) l [] [])) fun r => M.pure (QL.D.dct r.1 r.2)) σ H Q) : tDc (tDI Γ W pr gi) g tt (tD Γ WN gk) (tD Γ WN gv) vs σ H Q := by
  obtain ⟨ρ, s, rfl, ho, so, h⟩ := h
  refine ⟨ρ, s, rfl, ho, so, h.bindM.imp fun ds s1 l1 o1 h1 J hJ D hD => ?_⟩
  have hz : ds.length ≤ LIM ∧ Rs Γ W s1 (M.bind (nox (compD (compF2 tg vs gc gk gv ρ) ds [] [])) (fun r => M.pure (QL.D.dct r.1 r.2)) s1.μ) (KD Γ Q) := by
    by_cases hz : ds.length ≤ LIM
    · have h2 := h1.bindM
      unfold lim at h2
      rw [if_pos hz] at h2
      exact ⟨hz, h2.pure o1⟩
    · have h2 := h1.bindM
      unfold lim at h2
      rw [if_neg hz] at h2
      exact h2.elim
  obtain ⟨hz, h1⟩ := hz
  obtain ⟨r, mf, er, -⟩ := nox_ok h1.bindM
  have h1' : M.bind (nox (compD (compF2 tg vs gc gk gv ρ) ds [] [])) (fun r => M.pure (QL.D.dct r.1 r.2)) s1.μ = M.pure (QL.D.dct r.1 r.2) mf := by unfold M.bind nox; rw [er]; rfl
  rw [h1'] at h1
  have ho1 := ho.mono l1
  have le0 := hide_le o1 hD (.dK [])
  have wk := itd_walk hJ
  refine ⟨fun i m H => m = ds.length - i ∧ i ≤ ds.length ∧ ∃ s2 kvs ks us, s2.H = H ∧ Le s1 s2 ∧ StOk Γ s2 ∧ s2.hid D ∧ s2.H D = some (.dK kvs) ∧ kvs.map Prod.fst = ks.map Sum.inl ∧ RVs Γ s2 (kvs.map Prod.snd) us ∧ kvs.length ≤ i ∧ compD (compF2 tg vs gc gk gv ρ) (ds.drop i) ks us s2.μ = .ok r mf,
    ⟨ds.length, by simp, Nat.zero_le _, hide s1 D (.dK []), [], [], [], rfl, le0, hide_ok o1 hD _, .inr rfl, upd_same, rfl, .nil, Nat.le_refl _, er⟩, ?_⟩
  rintro i m H ⟨rfl, hi, s2, kvs, ks, us, rfl, le2, o2, hd2, hD2, hk, ra, hn, ec⟩
  by_cases hlt : i < ds.length
  · refine .inr ⟨wk.goes i _ hlt ⟨s2, rfl, le2.toLeD⟩, (fun H => ∃ s2 kvs ks us, s2.H = H ∧ Le s1 s2 ∧ StOk Γ s2 ∧ s2.hid D ∧ s2.H D = some (.dK kvs) ∧ kvs.map Prod.fst = ks.map Sum.inl ∧ RVs Γ s2 (kvs.map Prod.snd) us ∧ kvs.length ≤ i + 1 ∧ compD (compF2 tg vs gc gk gv ρ) (ds.drop (i + 1)) ks us s2.μ = .ok r mf), fun H' p' => ⟨ds.length - (i + 1), by omega, rfl, hlt, p'⟩, fun x H' y => ?_⟩
    obtain ⟨s3, d, rfl, le3, o3, m3, ed, rd⟩ := wk.yields i _ x H' hlt ⟨s2, rfl, le2.toLeD⟩ y s2 rfl le2.toLeD o2
    rw [drop_cons ed] at ec
    obtain ⟨o, m4, e1, ec⟩ := M.bind_ok ec
    obtain ⟨ρ1, m6, e3, e1⟩ := M.bind_ok e1
    obtain ⟨e3', rfl⟩ := ofO_ok e3
    obtain ⟨t, m7, e4, e1⟩ := M.bind_ok e1
    have le13 := le2.trans le3
    refine turn_law hg htg (ho1.mono le13) rd e3' fun σ1 ho3 hw => ⟨hw, ?_⟩
    refine htt s3 σ1 ρ1 _ ho3 o3 (rs_ok (by rw [m3]; exact e4) fun s4 le4 o4 m4' => ?_)
    have hd4 : s4.hid D ∧ s4.H D = some (.dK kvs) := by
      obtain ⟨a1, a2⟩ := le3.hid D hd2
      obtain ⟨b1, b2⟩ := le4.hid D a1
      exact ⟨b1, by rw [b2, a2]; exact hD2⟩
    cases t with
    | false =>
      rw [if_neg (by decide)] at e1
      obtain ⟨rfl, rfl⟩ := pure_ok e1
      rw [if_neg (by decide)]
      exact ⟨s4, kvs, ks, us, rfl, le13.trans le4, o4, hd4.1, hd4.2, hk, (le3.trans le4).rvs ra, by omega, by rw [m4']; exact ec⟩
    | true =>
      rw [if_pos rfl] at e1
      obtain ⟨kd, m8, e5, e1⟩ := M.bind_ok e1
      obtain ⟨vd, m9, e6, e1⟩ := M.bind_ok e1
      obtain ⟨rfl, rfl⟩ := pure_ok e1
      rw [if_pos rfl]
      have key : ∃ k, kd = .int k ∧ k ∉ ks ∧ compD (compF2 tg vs gc gk gv ρ) (ds.drop (i + 1)) (ks ++ [k]) (us ++ [vd]) m4 = .ok r mf := by
        cases kd with
        | int k =>
          have ec : (if k ∈ ks then M.bad else compD (compF2 tg vs gc gk gv ρ) (ds.drop (i + 1)) (ks ++ [k]) (us ++ [vd])) m4 = .ok r mf := ec
          by_cases hk : k ∈ ks
          · rw [if_pos hk] at ec; cases ec
          · rw [if_neg hk] at ec; exact ⟨k, rfl, hk, ec⟩
        | _ => cases ec
      obtain ⟨k, rfl, hkn, ec⟩ := key
      refine ⟨ρ1, s4, rfl, ho3.mono le4, o4, rs_ok (by rw [m4']; exact e5) fun s5 le5 o5 m5' kv rkv => ?_⟩
      refine ⟨ρ1, s5, rfl, (ho3.mono le4).mono le5, o5, rs_ok (by rw [m5']; exact e6) fun s6 le6 o6 m6' v rv => ?_⟩
      obtain ⟨hd5, hD5⟩ := le5.hid D hd4.1
      obtain ⟨hd6, hD6⟩ := le6.hid D hd5
      have le16 := ((le13.trans le4).trans le5).trans le6
      cases rkv
      have hvn := valV_none hk hkn
      rw [← hvn] at *
      have hput : putK kvs (.inl k) v = kvs ++ [(.inl k, v)] := putK_new v (valV_none hk hkn)
      have lD := laid_leD hd6 (.dK (kvs ++ [(.inl k, v)]))
      refine ⟨kvs, .inl k, rfl, by rw [hD6, hD5]; exact hd4.2, Nat.lt_of_lt_of_le (Nat.lt_of_le_of_lt hn hlt) hz, ?_⟩
      rw [hput]
      refine ⟨laid s6 D (.dK (kvs ++ [(.inl k, v)])), kvs ++ [(.inl k, v)], ks ++ [k], us ++ [vd], rfl, laid_le1 le16 o1 hD _, laid_ok o6 hd6 _, hd6, upd_same, by simp [hk], ?_, by rw [List.length_append]; simp; exact hn, by rw [← ec]; show compD _ _ _ _ s6.μ = _; rw [m6']⟩
      rw [List.map_append]
      exact (lD.rvs ((((le3.trans le4).trans le5).trans le6).rvs ra)).append (.cons (lD.rv rv) .nil)
  · have e : i = ds.length := by omega
    subst e
    rw [List.drop_length] at ec
    obtain ⟨rfl, rfl⟩ := pure_ok ec
    refine .inl ⟨wk.stops _ ⟨s2, rfl, le2.toLeD⟩, ?_⟩
    refine h1 (unhide s2 D) (unhide_le1 le2 o1 hD) (unhide_ok o2) rfl _ (.dct (unhide_own o2 hd2) (.inl hD2) hk (unhide_leD.rvs ra))
/-! ### a dict walked -/
def FrzAt (i : Nat) (s : Stt) (σ : L2.St) : Prop := ∃ a o kvs, σ[i]? = some (some (.ref a)) ∧ s.H a = some (.frz o (.dK kvs)) ∧ ¬ own s a
theorem wok_keys {i : Nat} : WOk Γ W (FrzAt i) false (iKeys (tVar i)) (fun ρ => M.bind (getM ρ i) keysM) := fun σ ρ s R ho so hP h => by
  obtain ⟨a, o, kvs, hσ, hH, hn⟩ := hP
  have hd : ∃ d, ρ[i]? = some (some d) ∧ Rs Γ W s (keysM d s.μ) (fun ds s' => ∀ J, ItD Γ J s' false ds → R J s'.H) := by
    have h : Rs Γ W s (M.bind (getM ρ i) keysM s.μ) _ := h
    have h := h.bindM
    cases e : ρ[i]? with
    | none => simp only [getM, e] at h; exact h.elim
    | some o =>
      cases o with
      | none => simp only [getM, e] at h; exact h.elim
      | some d => simp only [getM, e] at h; exact ⟨d, rfl, h.pure so⟩
  obtain ⟨d, e, h⟩ := hd
  obtain ⟨v, hv, rv⟩ := ho.at_ i d e
  rw [hσ] at hv
  cases hv
  cases d <;> first | exact h.elim | skip
  rename_i ks vs
  obtain ⟨a', kvs', ea, _, hr, hk, _⟩ := dct_rd rv
  cases ea
  have : kvs' = kvs := by
    rcases hr with hr | ⟨_, hr⟩ <;> (rw [hH] at hr; cases hr)
    rfl
  subst this
  have hl : kvs'.length = ks.length := by
    have := congrArg List.length hk
    simpa using this
  refine ⟨_, hσ, a, o, rfl, .inl ⟨kvs', hH, h.pure so (Itk a o kvs') ⟨fun j s1 le hj => ⟨(le.dat a _ hn hH).2, by simpa [hl] using hj⟩, fun s1 le => ⟨(le.dat a _ hn hH).2, by simp [hl]⟩, fun j s1 x H' le o1 hj y => ?_⟩⟩⟩
  obtain ⟨rfl, k, v, hkv, rfl⟩ := y
  refine ⟨s1, .int (ks[j]'(by simpa using hj)), rfl, Le.refl _, o1, rfl, by simp, ?_⟩
  have : k = .inl (ks[j]'(by simpa using hj)) := by
    have h1 : (kvs'.map Prod.fst)[j]? = some k := by rw [List.getElem?_map, hkv]; rfl
    rw [hk, List.getElem?_map, List.getElem?_eq_getElem (by simpa using hj)] at h1
    simpa using h1.symm
  subst this
  simp only [Bool.false_eq_true, if_false]
  exact .int _
theorem pe_alt {e : Expr} {t u : TE} (h1 : PE X e t) (h2 : PE X e u) : PE X e (fun σ H Q => t σ H Q ∨ u σ H Q) :=
  ⟨fun pins s σ H Q I q => q.elim (h1.run pins s σ H Q I) (h2.run pins s σ H Q I)⟩
theorem ps_alt {e : Stmt} {t u : TS} (h1 : PS X e t) (h2 : PS X e u) : PS X e (fun E σ H => t E σ H ∨ u E σ H) :=
  ⟨fun pins s σ H E I q => q.elim (h1.run pins s σ H E I) (h2.run pins s σ H E I)⟩
theorem CellOk.monoW {s s' : Stt} {n : Nat} {c : Cell} (l : LeW s s') (h : CellOk Γ s n c) (e : live c = true → s'.H (s'.α n) = s.H (s.α n)) : CellOk Γ s' n c := by
  cases c with
  | lst ds => obtain ⟨vs, h1, h2⟩ := h; exact ⟨vs, (e rfl).trans h1, l.rvs h2⟩
  | ins _ _ _ => obtain ⟨dx, vs, h1, h2, h3⟩ := h; exact ⟨dx, vs, (e rfl).trans h1, l.rvs h2, h3⟩
  | dct _ _ => exact h.elim
  | dead => trivial
/-- a dict locked, or let go again -/
theorem lockW {s : Stt} {a : Addr} {kvs : List (Key × V)} {u : HO} (hn : ¬ own s a) (hr : Rd s.H a (.dK kvs)) (hu : Rd (upd s.H a u) a (.dK kvs)) : LeW s (laid s a u) := by
  refine ⟨Nat.le_refl _, fun _ _ => rfl, fun b w h e n => ⟨h, ?_⟩, fun b kvs' h e => ⟨h, ?_⟩⟩
  · have hb : b ≠ a := fun z => by
      subst z
      rcases hr with hr | ⟨_, hr⟩ <;> (rw [e] at hr; cases hr; cases n)
    show upd s.H a u b = some w
    rw [upd_ne hb]
    exact e
  · by_cases hb : b = a
    · subst hb
      have : kvs' = kvs := by
        rcases hr with hr | ⟨_, hr⟩ <;> rcases e with e | ⟨_, e⟩ <;> (rw [hr] at e; cases e <;> rfl)
      subst this
      exact hu
    · rcases e with e | ⟨q, e⟩
      · exact .inl (by show upd s.H a u b = _; rw [upd_ne hb]; exact e)
      · exact .inr ⟨q, by show upd s.H a u b = _; rw [upd_ne hb]; exact e⟩
theorem lock_ok {s : Stt} {a : Addr} {kvs : List (Key × V)} {u : HO} (so : StOk Γ s) (hn : ¬ own s a) (hr : Rd s.H a (.dK kvs)) (hu : Rd (upd s.H a u) a (.dK kvs)) : StOk Γ (laid s a u) := by
  have le := lockW hn hr hu
  refine ⟨fun n c e => (so.cell n c e).monoW le fun l => ?_, so.inj, so.hid, fun b hb => ?_⟩
  · show upd s.H a u (s.α n) = s.H (s.α n)
    exact upd_ne fun z => hn (.inr ⟨n, c, e, l, z⟩)
  · show upd s.H a u b ≠ none
    rw [upd_ne (show b ≠ a from fun z => hn (.inl (by rw [← z]; exact hb)))]
    exact so.trk b hb
theorem EnvOk.monoW {s s' : Stt} {σ : L2.St} {ρ : QL.Env} (h : EnvOk Γ s σ ρ) (l : LeW s s') : EnvOk Γ s' σ ρ :=
  ⟨h.len, fun i d e => let ⟨v, h1, h2⟩ := h.at_ i d e; ⟨v, h1, l.rv h2⟩⟩
/-- the state behind a locked run -/
theorem unlock_st {s s2 : Stt} {a : Addr} {kvs : List (Key × V)} {od : Obj} (hn : ¬ own s a) (hr : s.H a = some (.dK kvs)) (le : Le (laid s a (.frz od (.dK kvs))) s2) (o2 : StOk Γ s2) :
    s2.H a = some (.frz od (.dK kvs)) ∧ Le s (laid s2 a (.dK kvs)) ∧ StOk Γ (laid s2 a (.dK kvs)) ∧ LeW s2 (laid s2 a (.dK kvs)) := by
  have h1 := le.dat a (.frz od (.dK kvs)) hn upd_same
  have rd2 : Rd s2.H a (.dK kvs) := .inr ⟨od, h1.2⟩
  refine ⟨h1.2, ⟨⟨le.len, le.α, fun b u h e => ?_⟩, fun b h => ⟨(le.hid b h).1, ?_⟩⟩, lock_ok o2 h1.1 rd2 (.inl upd_same), lockW h1.1 rd2 (.inl upd_same)⟩
  · by_cases hb : b = a
    · subst hb
      rw [hr] at e
      cases e
      exact ⟨h1.1, upd_same⟩
    · have := le.dat b u h (by show upd s.H a _ b = _; rw [upd_ne hb]; exact e)
      exact ⟨this.1, by show upd s2.H a _ b = _; rw [upd_ne hb]; exact this.2⟩
  · have hb : b ≠ a := fun z => hn (.inl (z ▸ h))
    show upd s2.H a _ b = s.H b
    rw [upd_ne hb, (le.hid b h).2]
    show upd s.H a _ b = s.H b
    exact upd_ne hb
/-- an answer that is no exception -/
def NoEx {α : Type} (r : Res α) : Prop := ∀ c x m, r ≠ .ex c x m
theorem d_lock {e : Expr} {i : Nat} {g : QL.Env → M D} (h : PE X e (tDP Γ W (FrzAt i) g)) (hg : ∀ ρ m, g ρ m ≠ .bad → ∃ ks vs, ρ[i]? = some (some (.dct ks vs))) (hx : ∀ ρ m, NoEx (g ρ m)) : PE X e (tD Γ W g) := by
  refine (pe_alt h (pe_lock h)).imp fun σ H Q h => ?_
  obtain ⟨ρ, s, rfl, ho, so, h⟩ := h
  obtain ⟨ks, vs, e⟩ := hg ρ s.μ (fun z => by rw [z] at h; exact h)
  obtain ⟨v, hσ, rv⟩ := ho.at_ i _ e
  obtain ⟨a, kvs, rfl, hn, hr, _⟩ := dct_rd rv
  rcases hr with hr | ⟨o, hr⟩
  · refine .inr ⟨a, .dK kvs, hr, trivial, fun od => ?_⟩
    have rl : Rd (upd s.H a (.frz od (.dK kvs))) a (.dK kvs) := .inr ⟨od, upd_same⟩
    refine ⟨ρ, laid s a (.frz od (.dK kvs)), rfl, ho.monoW (lockW hn (.inl hr) rl), lock_ok so hn (.inl hr) rl, ⟨a, od, kvs, hσ, upd_same, hn⟩, ?_⟩
    show Rs Γ W _ (g ρ s.μ) _
    cases q : g ρ s.μ with
    | ok d m =>
      rw [q] at h
      intro s2 le2 o2 m2 v rv2
      obtain ⟨h1, h2, h3, h4⟩ := unlock_st hn hr le2 o2
      exact ⟨h1, h _ h2 h3 m2 v (h4.rv rv2)⟩
    | ex c x m => exact absurd q (hx ρ s.μ c x m)
    | bad => rw [q] at h; exact h
  · exact .inl ⟨ρ, s, rfl, ho, so, ⟨a, o, kvs, hσ, hr, hn⟩, h⟩
def tDSP (Γ : Inf) (W : XK) (P : Stt → L2.St → Prop) (g : QL.Env → M Flw) : TS := fun E σ H => ∃ ρ s, s.H = H ∧ EnvOk Γ s σ ρ ∧ StOk Γ s ∧ P s σ ∧ Rs Γ W s (g ρ s.μ) fun fl s' => match fl with
  | .nx ρ' => ∀ σ', EnvOk Γ s' σ' ρ' → E.nx σ' s'.H
  | .rt d => ∀ v, RV Γ s' v d → E.rt v s'.H
theorem d_lockS {e : Stmt} {i : Nat} {g : QL.Env → M Flw} (h : PS X e (tDSP Γ W (FrzAt i) g)) (hg : ∀ ρ m, g ρ m ≠ .bad → ∃ ks vs, ρ[i]? = some (some (.dct ks vs))) (hx : ∀ ρ m, NoEx (g ρ m)) : PS X e (tDS Γ W g) := by
  refine (ps_alt h (ps_lock h)).imp fun E σ H h => ?_
  obtain ⟨ρ, s, rfl, ho, so, h⟩ := h
  obtain ⟨ks, vs, e⟩ := hg ρ s.μ (fun z => by rw [z] at h; exact h)
  obtain ⟨v, hσ, rv⟩ := ho.at_ i _ e
  obtain ⟨a, kvs, rfl, hn, hr, _⟩ := dct_rd rv
  rcases hr with hr | ⟨o, hr⟩
  · refine .inr ⟨a, .dK kvs, hr, trivial, fun od => ?_⟩
    have rl : Rd (upd s.H a (.frz od (.dK kvs))) a (.dK kvs) := .inr ⟨od, upd_same⟩
    refine ⟨ρ, laid s a (.frz od (.dK kvs)), rfl, ho.monoW (lockW hn (.inl hr) rl), lock_ok so hn (.inl hr) rl, ⟨a, od, kvs, hσ, upd_same, hn⟩, ?_⟩
    show Rs Γ W _ (g ρ s.μ) _
    cases q : g ρ s.μ with
    | ok fl m =>
      rw [q] at h
      intro s2 le2 o2 m2
      obtain ⟨h1, h2, h3, h4⟩ := unlock_st hn hr le2 o2
      have h9 := h _ h2 h3 m2
      cases fl with
      | nx ρ' => exact fun σ' ho' => ⟨h1, h9 σ' (ho'.monoW h4)⟩
      | rt d => exact fun v rv2 => ⟨h1, h9 v (h4.rv rv2)⟩
    | ex c x m => exact absurd q (hx ρ s.μ c x m)
    | bad => rw [q] at h; exact h
  · exact .inl ⟨ρ, s, rfl, ho, so, ⟨a, o, kvs, hσ, hr, hn⟩, h⟩
/-! ### a dict read -/
theorem d_ixD {o i : Expr} {go gi : QL.Env → M D} (hu : X.A.units + 1 < cLine) (ho : PE X o (tD Γ W go)) (hi : PE X i (tD Γ W gi)) (hs : NoSl i) : PE X (.Subscript o i pos) (tD Γ W fun ρ => M.bind (go ρ) fun x => M.bind (gi ρ) fun y => doM2 .ixD x y) := by
  refine (pe_dget hu ho hi hs).imp fun σ H Q h => ?_
  obtain ⟨ρ, s, rfl, ho, so, h⟩ := h
  refine ⟨ρ, s, rfl, ho, so, h.bindM.imp fun a s1 l1 o1 h1 v rv => ?_⟩
  refine ⟨ρ, s1, rfl, ho.mono l1, o1, h1.bindM.imp fun b s2 l2 o2 h2 u ru => ?_⟩
  obtain ⟨d, e, h9⟩ := do2_of o2 (by decide) h2
  cases a <;> first | (simp only [do2, reduceCtorEq] at e; done) | skip
  cases b <;> first | (simp only [do2, reduceCtorEq] at e; done) | skip
  rename_i ks vs k
  simp only [do2] at e
  obtain ⟨p, kvs, rfl, hn, hr, hk, rl⟩ := dct_rd (l2.rv rv)
  obtain ⟨w, h3, h4⟩ := valV_look hk rl e
  cases ru
  exact ⟨p, w, rfl, .inl ⟨kvs, .inl k, hr, rfl, h3.symm⟩, h9 s2 (Le.refl _) o2 rfl w h4⟩
end
end QS
end
section
set_option linter.all false
set_option maxRecDepth 100000
set_option autoImplicit false
/-! QS12: more operations; statements. -/
namespace QS
open PySem PySem.Spec PyProof.Rows L2 QL
section
variable {Γ : Inf} {W : XK} {X : Cx} {G : Gs} {pos : Pos}
theorem str_of : CallR X (.type "str") (rC1 Γ W (doM1 .str)) := c1 (by decide) fun pins st σ s x us Q a d I r so ra e q => by
  cases a <;> simp only [do1, reduceCtorEq] at e
  split at e
  · rename_i hz
    cases ra; cases e
    exact call_str_int pins st σ s.H _ us Q I r ⟨_, rfl, hz, q.now so _ (.str _)⟩
  · cases e
theorem repr_of : CallR X (.builtin "repr") (rC1 Γ W (doM1 .repr)) := c1 (by decide) fun pins st σ s x us Q a d I r so ra e q => by
  cases a <;> simp only [do1, reduceCtorEq] at e
  cases ra; cases e
  obtain ⟨u, rfl, ru⟩ := vals1 r
  cases ru
  exact PySem.P.repr_of_bool ⟨.str _, s.H, I.tok _, ⟨_, rfl⟩, q.now so _ (.str _)⟩
theorem lenD_of : CallR X (.builtin "len") (rC1 Γ W (doM1 .lenD)) := c1 (by decide) fun pins st σ s x us Q a d I r so ra e q => by
  cases a <;> simp only [do1, reduceCtorEq] at e
  cases e
  obtain ⟨p, kvs, rfl, hn, hr, hk, _⟩ := dct_rd ra
  obtain ⟨u, rfl, ru⟩ := vals1 r
  cases ru
  have hl := congrArg List.length hk
  rw [List.length_map, List.length_map] at hl
  refine d_len I hr fun t s' I' => ⟨.int kvs.length, s.H, I', ⟨t, rfl⟩, ?_⟩
  rw [hl]
  exact q.now so _ (.int _)
/-! ### signs of a text -/
theorem d_ichars {tg e : Expr} {g : QL.Env → M D} (h : PE X e (tD Γ W g)) : PI X tg e (tDI Γ W false fun ρ => M.bind (g ρ) charsM) := by
  refine (pi_str h).imp fun σ H R h => ?_
  obtain ⟨ρ, s, rfl, ho, so, h⟩ := h
  refine ⟨ρ, s, rfl, ho, so, h.bindM.imp fun a s1 l1 o1 h1 v rv => ?_⟩
  cases a <;> first | exact h1.elim | skip
  rename_i x
  cases rv
  have h1 : Rs Γ W s1 ((if x.length ≤ LIM then M.pure (x.cps.toList.map fun c => D.str ⟨#[c]⟩) else M.bad) s1.μ) _ := h1
  split at h1
  · refine ⟨x, rfl, h1.pure o1 _ ⟨fun i s2 le hi => (show i < x.cps.size by simpa using hi), fun s2 le => by simp [Its], fun i s2 y H' le o2 hi hy => ?_⟩⟩
    obtain ⟨rfl, c, hc, rfl⟩ := hy
    refine ⟨s2, .str ⟨#[c]⟩, rfl, Le.refl _, o2, rfl, by simp [List.getElem?_map, hc], ?_⟩
    simp only [Bool.false_eq_true, if_false]
    exact .str _
  · exact h1.elim
/-! ### two comparisons in a row -/
theorem rs_bl {s : Stt} {o : O2} {x y : D} {K : D → M D} {k : D → Stt → Prop} (so : StOk Γ s) (ho : o ≠ .append) (h : Rs Γ W s (M.bind (doM2 o x y) K s.μ) k) : ∃ d, do2 o x y s.μ = some d ∧ Rs Γ W s (K d s.μ) k := by
  obtain ⟨d, e, h⟩ := do2_of so ho h.bindM
  exact ⟨d, e, h s (Le.refl s) so rfl⟩
theorem chain_gen {ga gb gc : QL.Env → M D} {o p : O2} {σ : L2.St} {H : Hp} {Q : VK} (ho : o ≠ .append) (hp : p ≠ .append)
    (h : tD Γ W (fun ρ => M.bind (ga ρ) fun x => M.bind (gb ρ) fun y => M.bind (doM2 o x y) fun r => match r with
      | .bl true => M.bind (gc ρ) fun z => doM2 p y z
      | .bl false => M.pure (.bl false)
      | _ => M.bad) σ H Q) : tChain (rD2 Γ W (doM2 o)) (rD2 Γ W (doM2 p)) (tD Γ W ga) (tD Γ W gb) (tD Γ W gc) σ H Q := by
  obtain ⟨ρ, s, rfl, ho', so, h⟩ := h
  refine ⟨ρ, s, rfl, ho', so, h.bindM.imp fun a s1 l1 o1 h1 v rv => ?_⟩
  refine ⟨ρ, s1, rfl, ho'.mono l1, o1, h1.bindM.imp fun b s2 l2 o2 h2 u ru => ?_⟩
  have rv2 := l2.rv rv
  have ho2 := (ho'.mono l1).mono l2
  refine ⟨s2, a, b, rfl, o2, rv2, ru, h2.bindM.imp fun d s3 l3 o3 h3 z rz => ?_⟩
  cases d <;> first | exact h3.elim | skip
  rename_i k
  cases rz
  refine ⟨k, rfl, ?_⟩
  cases k with
  | true =>
    rw [if_pos rfl]
    refine ⟨ρ, s3, rfl, ho2.mono l3, o3, (show Rs Γ W s3 (M.bind (gc ρ) (fun z => doM2 p b z) s3.μ) _ from h3).bindM.imp fun c s4 l4 o4 h4 w rw' => ?_⟩
    exact ⟨s4, b, c, rfl, o4, (l3.trans l4).rv ru, rw', h4⟩
  | false =>
    rw [if_neg (by decide)]
    have h4 : Rs Γ W s3 (M.pure (D.bl false) s3.μ) (fun d s' => ∀ v, RV Γ s' v d → Q v s'.H) := h3
    exact h4.pure o3 _ (RV.bl _)
theorem d_chain {a b c : Expr} {op op' : CmpOp} {ga gb gc : QL.Env → M D} {o p : O2} (ho : o ≠ .append) (hp : p ≠ .append) (h1 : OpR X (compareOp op) (rD2 Γ W (doM2 o))) (h2 : OpR X (compareOp op') (rD2 Γ W (doM2 p)))
    (ha : PE X a (tD Γ W ga)) (hb : PE X b (tD Γ W gb)) (hc : PE X c (tD Γ W gc)) (hm : lastMarks [op, op'] [b, c] = false) :
    PE X (.Compare a [op, op'] [b, c] pos) (tD Γ W (fun ρ => M.bind (ga ρ) fun x => M.bind (gb ρ) fun y => M.bind (doM2 o x y) fun r => match r with
      | .bl true => M.bind (gc ρ) fun z => doM2 p y z
      | .bl false => M.pure (.bl false)
      | _ => M.bad)) ∧ PT X (.Compare a [op, op'] [b, c] pos) (tDT Γ W (fun ρ => M.bind (M.bind (ga ρ) fun x => M.bind (gb ρ) fun y => M.bind (doM2 o x y) fun r => match r with
      | .bl true => M.bind (gc ρ) fun z => doM2 p y z
      | .bl false => M.pure (.bl false)
      | _ => M.bad) truth)) := by
  refine ⟨(pe_chain h1 h2 ha hb hc hm).imp fun σ H Q h => chain_gen ho hp h, (pt_chain h1 h2 ha hb hc hm).imp fun σ H Q h => ?_⟩
  refine chain_gen ho hp ?_
  obtain ⟨ρ, s, rfl, ho', so, h⟩ := h
  refine ⟨ρ, s, rfl, ho', so, h.bindM.imp fun d s1 l1 o1 h1 v rv => ?_⟩
  unfold truth at h1
  split at h1
  · cases rv
    exact ⟨_, rfl, h1.pure o1⟩
  · exact h1.elim
/-- an operator's test -/
theorem d_testOp {e a b : Expr} {ga gb : QL.Env → M D} {o : O2} (h : PT X e (tTest (tOp (rD2 Γ W (doM2 o)) (tD Γ W ga) (tD Γ W gb)))) :
    PT X e (tDT Γ W fun ρ => M.bind (M.bind (ga ρ) fun x => M.bind (gb ρ) fun y => doM2 o x y) truth) := by
  refine h.imp fun σ H Q h => ?_
  obtain ⟨ρ, s, rfl, ho, so, h⟩ := h
  have h := h.bindM.bindM
  refine ⟨ρ, s, rfl, ho, so, h.imp fun a s1 l1 o1 h1 v rv => ?_⟩
  refine ⟨ρ, s1, rfl, ho.mono l1, o1, h1.bindM.imp fun b s2 l2 o2 h2 u ru => ?_⟩
  refine ⟨s2, a, b, rfl, o2, l2.rv rv, ru, h2.imp fun d s3 l3 o3 h3 v rv => ?_⟩
  unfold truth at h3
  split at h3
  · cases rv
    exact ⟨_, rfl, h3.pure o3⟩
  · exact h3.elim
/-! ### sorted(set(a)) -/
theorem d_sset {a : Expr} {ga : QL.Env → M D} {p p1 p2 : Pos} (hK : X.K = Γ.K) (hc : X.calm = true) (g1 : Gl X "sorted") (m1 : X.mg "sorted" = none) (g2 : Gl X "set") (m2 : X.mg "set" = none) (ha : PE X a (tD Γ W ga)) (hs : starEach [a] X.env = (false, eval a X.env) :: starEach [] X.env) :
    PE X (.Call (.Name "sorted" p1) [.Call (.Name "set" p2) [a] [] p] [] pos) (tD Γ W fun ρ => M.bind (ga ρ) (doM1 .sset)) := by
  refine (pe_callB (cr_sortedSet hc) g1 m1 (by decide +kernel) (pa_cons (pe_callTy (cr_setI hc) g2 m2 (by decide +kernel) (pa_cons ha pa_nil hs) (by decide) (by decide) hs) pa_nil)).imp fun σ H Q h => ?_
  obtain ⟨ρ, s, rfl, ho, so, h⟩ := h
  refine ⟨ρ, s, rfl, ho, so, h.bindM.imp fun a s1 l1 o1 h1 v rv => ?_⟩
  obtain ⟨d, e, h1⟩ := do1_of o1 (by decide) h1
  cases a <;> simp only [do1, reduceCtorEq] at e
  rename_i l
  split at e
  · rename_i ns en
    split at e
    · rename_i hl
      cases e
      obtain ⟨pa, vs, rfl, hq, rl⟩ := lst_rd rv
      have := rl.intsO en
      subst this
      refine ⟨pa, ns, rfl, hK ▸ hq, by have : (64 : Nat) < scanBound := by decide
                                       omega, fun q c hq' hc' => ?_⟩
      obtain ⟨le2, o2, n2⟩ := new_st o1 hq' (SetO X.w q (fun j => decide (j ∈ ns)) c)
      refine ⟨q, _, c, rfl, upd_same, by omega, fun ns' p' hr hm hl' hp' => ?_⟩
      obtain ⟨le3, o3, n3⟩ := new_st o2 hp' (.lst (ns'.map V.int))
      have e9 : ns' = sortI (dedup ns) := rising_same hr (sset_lt ns) fun k => by rw [hm, mem_sortI, mem_dedup]; simp
      subst e9
      exact h1 _ (le2.trans le3) o3 rfl _ (.lst ⟨n3, .inl upd_same⟩ (RVs.of_ints _))
    · cases e
  · cases e
theorem d_lrange {a : Expr} {ga : QL.Env → M D} {p p1 p2 : Pos} (hc : X.calm = true) (g1 : Gl X "list") (m1 : X.mg "list" = none) (g2 : Gl X "range") (m2 : X.mg "range" = none) (ha : PE X a (tD Γ W ga)) (hs : starEach [a] X.env = (false, eval a X.env) :: starEach [] X.env) :
    PE X (.Call (.Name "list" p1) [.Call (.Name "range" p2) [a] [] p] [] pos) (tD Γ W fun ρ => M.bind (ga ρ) (doM1 .lrange)) := by
  refine (pe_listRg hc g1 m1 (prg_1 g2 m2 ha hs)).imp fun σ H Q h => ?_
  obtain ⟨ρ, s, rfl, ho, so, h⟩ := h
  refine ⟨ρ, s, rfl, ho, so, h.bindM.imp fun a s1 l1 o1 h1 v rv => ?_⟩
  obtain ⟨d, e, h1⟩ := do1_of o1 (by decide) h1
  cases a <;> simp only [do1, reduceCtorEq] at e
  rename_i j
  split at e
  · rename_i hj
    cases e
    cases rv
    refine ⟨j, rfl, ⟨by omega, by omega, by omega, by omega, by omega⟩, fun q hq => h1.lst o1 hq ?_⟩
    have : rgV 0 j = (((List.range (j - 0).toNat).map fun i => (0 : Int) + ((i : Nat) : Int))).map V.int := by unfold rgV; rw [List.map_map]; rfl
    rw [this]
    have e2 : rangeL 0 j = (((List.range (j - 0).toNat).map fun i => (0 : Int) + ((i : Nat) : Int))).map D.int := by unfold rangeL; rw [List.map_map]; rfl
    rw [e2]
    exact RVs.of_ints _
  · cases e
end
end QS
end
section
set_option linter.all false
set_option maxRecDepth 100000
set_option autoImplicit false
/-! QS13: attributes, instances, calls; statements. -/
namespace QS
open PySem PySem.Spec PyProof.Rows L2 QL
section
variable {Γ : Inf} {W : XK} {X : Cx} {G : Gs} {pos : Pos}
/-! ### attributes -/
theorem look_zip {s : Stt} {k : Nat} (hk : ∀ i, Γ.atN i = Γ.atN k → i = k) : ∀ {ks : List Nat} {vs : List V} {ds : List D} {d : D}, RVs Γ s vs ds → lookN k ks ds = some d → ∃ v, ((ks.map Γ.atN).zip vs).lookup (Γ.atN k) = some v ∧ RV Γ s v d
  | [], _, _, _, _, e => by simp [lookN] at e
  | i :: ks, _, [], _, h, e => by simp [lookN] at e
  | i :: ks, _, d :: ds, d', .cons (v := v) (vs := vs) r1 r2, e => by
    simp only [lookN] at e
    show ∃ v', List.lookup (Γ.atN k) ((Γ.atN i, v) :: (ks.map Γ.atN).zip vs) = some v' ∧ _
    rw [List.lookup_cons]
    by_cases h : i = k
    · rw [if_pos h] at e
      cases e
      subst h
      rw [beq_self_eq_true]
      exact ⟨v, rfl, r1⟩
    · rw [if_neg h] at e
      have hb : (Γ.atN k == Γ.atN i) = false := by
        rw [beq_eq_false_iff_ne]
        exact fun z => h (hk i z.symm)
      rw [hb]
      exact look_zip hk r2 e
theorem put_zip {k : Nat} (hk : ∀ i, Γ.atN i = Γ.atN k → i = k) {y : V} : ∀ {ks : List Nat} {vs : List V} {ds : List D} {s : Stt} {d : D}, ks.length = ds.length → RVs Γ s vs ds → RV Γ s y d →
    ∃ vs', putF (Γ.atN k) y ((ks.map Γ.atN).zip vs) = ((putN k d ks ds).1.map Γ.atN).zip vs' ∧ RVs Γ s vs' (putN k d ks ds).2 ∧ (putN k d ks ds).1.length = (putN k d ks ds).2.length
  | [], _, [], s, d, _, .nil, r => ⟨[y], rfl, .cons r .nil, rfl⟩
  | i :: ks, _, d0 :: ds, s, d, hl, .cons (v := v) (vs := vs) r1 r2, r => by
    by_cases h : i = k
    · refine ⟨y :: vs, ?_, ?_, ?_⟩
      · show putF (Γ.atN k) y ((Γ.atN i, v) :: (ks.map Γ.atN).zip vs) = _
        unfold putF putN
        rw [if_pos (by rw [h]), if_pos h]
        rfl
      · unfold putN; rw [if_pos h]; exact .cons r r2
      · unfold putN; rw [if_pos h]; simpa using hl
    · obtain ⟨vs', h1, h2, h3⟩ := put_zip hk (by simpa using hl) r2 r
      refine ⟨v :: vs', ?_, ?_, ?_⟩
      · show putF (Γ.atN k) y ((Γ.atN i, v) :: (ks.map Γ.atN).zip vs) = _
        unfold putF putN
        rw [if_neg (fun z => h (hk i z)), if_neg h, h1]
        rfl
      · unfold putN; rw [if_neg h]; exact .cons r1 h2
      · unfold putN; rw [if_neg h]; simpa using h3
/-- what an instance is read as -/
theorem ins_rd {s : Stt} {x : V} {a : D} {c k : Nat} {K : D → Stt → Prop} (so : StOk Γ s) (r : RV Γ s x a) (h : Rs Γ W s (attrM c k a s.μ) K) (hk : ∀ i, Γ.atN i = Γ.atN k → i = k) :
    ∃ p dx fs v d, x = .ref p ∧ s.H p = some (.ins (Γ.clA c) dx fs) ∧ fs.lookup (Γ.atN k) = some v ∧ RV Γ s v d ∧ K d s := by
  cases a <;> first | exact h.elim | skip
  · rename_i c' ks vs
    have h' : Rs Γ W s ((if c' = c then ofO (lookN k ks vs) s.μ else .bad)) K := h
    clear h
    split at h'
    · rename_i hc
      subst hc
      obtain ⟨d, e, h⟩ := h'.ofO so
      cases r with
      | ins h1 h2 h3 =>
        obtain ⟨v, e1, e2⟩ := look_zip hk h3 e
        exact ⟨_, _, _, v, d, rfl, h2, e1, e2, h⟩
    · exact h'.elim
  · rename_i n
    obtain ⟨rfl, hn⟩ := ref_rd r
    unfold attrM at h
    simp only at h
    split at h
    · rename_i c' ks vs e
      split at h
      · rename_i hc
        subst hc
        obtain ⟨dx, us, h1, h2, h3⟩ := so.cell n _ e
        obtain ⟨d, e, h⟩ := h.ofO so
        obtain ⟨v, e1, e2⟩ := look_zip hk h2 e
        exact ⟨_, _, _, v, d, rfl, h1, e1, e2, h⟩
      · exact h.elim
    · exact h.elim
theorem d_attr {e : Expr} {f : Str} {g : QL.Env → M D} {c k : Nat} (he : PE X e (tD Γ W g)) (hb : attributeBase e f X.env (eval e X.env) = eval e X.env) (hc : Cls X.K (Γ.clA c)) (hn : NoAttr X.K (Γ.clA c) f) (hf : Γ.atN k = f) (hk : ∀ i, Γ.atN i = Γ.atN k → i = k) :
    PE X (.Attribute e f pos) (tD Γ W fun ρ => M.bind (g ρ) (attrM c k)) := by
  refine (pe_fld he hb).imp fun σ H Q h => ?_
  obtain ⟨ρ, s, rfl, ho, so, h⟩ := h
  refine ⟨ρ, s, rfl, ho, so, h.bindM.imp fun a s1 l1 o1 h1 v rv => ?_⟩
  obtain ⟨p, dx, fs, v, d, rfl, h2, h3, h4, h5⟩ := ins_rd o1 rv h1 hk
  exact ⟨p, _, dx, fs, v, rfl, h2, hc, hn, hf ▸ h3, h5 v h4⟩
theorem d_prop {CX : CXT} {E : XK} {n : Nat} {e : Expr} {f : Str} {g : QL.Env → M D} {c k : Nat} {p ga : Addr} {fd : FuncData} {ps : List Str} (he : PE X e (tD Γ W g)) (hb : attributeBase e f X.env (eval e X.env) = eval e X.env) (hc : Cls X.K (Γ.clA c)) (hp : PropOf X.K (Γ.clA c) f p ga)
    (F : FnOk X.prog X.w X.K X.mg X.base CX n ga fd ps (getSp (Γ.clA c) (Γ.atN k))) (hr : Room (n + 1) X.A) (hbd : Binds X.K fd ps []) (hx : Passes CX X.nox E) (hk : ∀ i, Γ.atN i = Γ.atN k → i = k) :
    PE X (.Attribute e f pos) (tD Γ W fun ρ => M.bind (g ρ) (attrM c k)) := by
  refine (pe_prop he hc hp F hr hbd .nil hx hb).imp fun σ H Q h => ?_
  obtain ⟨ρ, s, rfl, ho, so, h⟩ := h
  refine ⟨ρ, s, rfl, ho, so, h.bindM.imp fun a s1 l1 o1 h1 v rv => ?_⟩
  obtain ⟨q, dx, fs, v, d, rfl, h2, h3, h4, h5⟩ := ins_rd o1 rv h1 hk
  exact ⟨q, dx, fs, rfl, h2, q, dx, fs, v, rfl, h2, h3, h5 v h4⟩
/-! ### calls -/
def spN (Γ : Inf) (F : List D → M D) (n : Nat) : Sp := fun vs H Q _ => ∃ s ds, s.H = H ∧ StOk Γ s ∧ RVs Γ s vs ds ∧ ds.length = n ∧ Rs Γ WN s (F ds s.μ) (KD Γ Q)
theorem d_callN {CX : CXT} {k f n : Nat} {a : Addr} {fd : FuncData} {ps : List Str} {x : Str} {p : Pos} {es : List Expr} {as : Es} (F : FnOk X.prog X.w X.K X.mg X.base CX k a fd ps (spN Γ (G f) n)) (hr : Room k X.A) (hg : Gl X x) (hm : X.mg x = some (.ref a)) (hk : PySem.W.keepIn X.K (.ref a) = true)
    (hb : Binds X.K fd ps []) (hx : Passes CX X WN) (hl : ∀ ds m, G f ds m ≠ .bad → ds.length = n) (ha : PA X es (tDA Γ WN (evs G as))) (hdb : (x == ("__debug__" : Str)) = false) (h0 : es = [] → as = .nil) (hs : ∀ e r, es = e :: r → starEach (e :: r) X.env = (false, eval e X.env) :: starEach r X.env ∧ (backTo pos (starEach r X.env)).any (·.1) = false) :
    PE X (.Call (.Name x p) es [] pos) (tD Γ WN (ev G (.call f as))) := by
  have key : ∀ σ H Q, tD Γ WN (ev G (.call f as)) σ H Q → tCall (spN Γ (G f) n) [] WN (tDA Γ WN (evs G as)) σ H Q := fun σ H Q h => by
    obtain ⟨ρ, s, rfl, ho, so, h⟩ := h
    have h : Rs Γ WN s (M.bind (evs G as ρ) (fun l => G f l) s.μ) _ := h
    refine ⟨ρ, s, rfl, ho, so, h.bindM.imp fun ds s1 l1 o1 h1 vs rv => ?_⟩
    show spN Γ (G f) n (vs ++ []) s1.H Q WN
    rw [List.append_nil]
    exact ⟨s1, ds, rfl, o1, rv, hl ds s1.μ (fun z => by rw [z] at h1; exact h1), h1⟩
  cases es with
  | nil =>
    refine (pe_call0 F hr hg hm hk hb .nil hx hdb).imp fun σ H Q h => ?_
    obtain rfl := h0 rfl
    obtain ⟨ρ, s, rfl, ho, so, h⟩ := h
    have h : Rs Γ WN s (G f [] s.μ) _ := h
    exact ⟨s, [], rfl, so, .nil, hl [] s.μ (fun z => by rw [z] at h; exact h), h⟩
  | cons e r => exact (pe_call F hr hg hm hk hb .nil hx ha hdb (hs e r rfl).1 (hs e r rfl).2).imp key
/-! ### a new cell -/
abbrev newC (s : Stt) (p : Addr) (c : Cell) : Stt := { s with μ := s.μ ++ [c], α := fun n => if n = s.μ.length then p else s.α n }
theorem newC_eq {s : Stt} {p : Addr} {c : Cell} {o : HO} (so : StOk Γ s) (hp : s.H p = none) (hc : live c = true) (h : CellOk Γ (newC (laid s p o) p c) s.μ.length c) :
    Le s (newC (laid s p o) p c) ∧ StOk Γ (newC (laid s p o) p c) ∧ RV Γ (newC (laid s p o) p c) (.ref p) (.ref s.μ.length) ∧ LeD s (newC (laid s p o) p c) := by
  have np : ¬ s.hid p := fun h => so.trk p h hp
  have l0 := hide_le so hp o
  have o0 := hide_ok so hp o
  have e0 : newC (laid s p o) p c = cellOf (hide s p o) p c := by
    show ({ μ := s.μ ++ [c], α := _, H := upd s.H p o, hid := s.hid } : Stt) = { μ := s.μ ++ [c], α := _, H := upd s.H p o, hid := _ }
    congr 1
    funext b
    refine propext ⟨fun h => ⟨.inl h, fun z => np (z ▸ h)⟩, fun h => ?_⟩
    rcases h.1 with q | q
    · exact q
    · exact absurd q h.2
  rw [e0] at h ⊢
  have le := cellOf_le1 l0 so hp (.inr rfl) hc
  refine ⟨le, cellOf_ok o0 (.inr rfl) hc h, ?_, le.toLeD⟩
  have aD : (cellOf (hide s p o) p c).α s.μ.length = p := by show (if s.μ.length = s.μ.length then p else s.α s.μ.length) = p; rw [if_pos rfl]
  have : RV Γ (cellOf (hide s p o) p c) (.ref ((cellOf (hide s p o) p c).α s.μ.length)) (.ref s.μ.length) := .ref (by show _ < (s.μ ++ [c]).length; simp)
  rw [aD] at this
  exact this
/-- a new list as a cell -/
theorem newL {s : Stt} {p : Addr} {vs : List V} {ds : List D} {Q : VK} (so : StOk Γ s) (hp : s.H p = none) (r : RVs Γ s vs ds) (h : Rs Γ W s (newM (.lst ds) s.μ) (KD Γ Q)) : Q (.ref p) (upd s.H p (.lst vs)) := by
  have aD : (newC (laid s p (.lst vs)) p (.lst ds)).α s.μ.length = p := by show (if s.μ.length = s.μ.length then p else s.α s.μ.length) = p; rw [if_pos rfl]
  have hl : LeD s (newC (laid s p (.lst vs)) p (.lst ds)) := by
    have l0 := hide_le so hp (.lst vs)
    have e0 : newC (laid s p (.lst vs)) p (.lst ds) = cellOf (hide s p (.lst vs)) p (.lst ds) := by
      show ({ μ := s.μ ++ [_], α := _, H := upd s.H p _, hid := s.hid } : Stt) = { μ := s.μ ++ [_], α := _, H := upd s.H p _, hid := _ }
      congr 1
      funext b
      refine propext ⟨fun h => ⟨.inl h, fun z => so.trk b h (z ▸ hp)⟩, fun h => ?_⟩
      rcases h.1 with q | q
      · exact q
      · exact absurd q h.2
    rw [e0]
    exact l0.toLeD.trans (cellOf_leD (.inr rfl) rfl)
  obtain ⟨l1, o1, r1, _⟩ := newC_eq (c := .lst ds) (o := .lst vs) so hp rfl ⟨vs, by rw [aD]; exact upd_same, hl.rvs r⟩
  exact h _ l1 o1 rfl _ r1
theorem d_freshL {es : List Expr} {as : Es} (h : PA X es (tDA Γ W (evs G as))) : PE X (.List es pos) (tD Γ W (ev G (.fresh (.lst as)))) := by
  refine (pe_lst h).imp fun σ H Q h => ?_
  obtain ⟨ρ, s, rfl, ho, so, h⟩ := h
  have h : Rs Γ W s (M.bind (M.bind (evs G as ρ) (fun l => ofO (lstO l))) (fun d => match d with
    | .lst l => newM (.lst l)
    | _ => M.bad) s.μ) _ := h
  refine ⟨ρ, s, rfl, ho, so, h.bindM.bindM.imp fun ds s1 l1 o1 h1 vs rv => ?_⟩
  obtain ⟨d, e, h1⟩ := h1.ofO o1
  unfold lstO at e
  split at e
  · rename_i hz
    cases e
    exact ⟨by rw [rv.length]; exact hz, fun p hp => newL o1 hp rv h1⟩
  · cases e
/-- list(a), new -/
theorem d_freshC {a : Expr} {ga : QL.Env → M D} {p : Pos} (hK : X.K = Γ.K) (g1 : Gl X "list") (m1 : X.mg "list" = none) (ha : PE X a (tD Γ W ga)) (hs : starEach [a] X.env = (false, eval a X.env) :: starEach [] X.env) :
    PE X (.Call (.Name "list" p) [a] [] pos) (tD Γ W fun ρ => M.bind (M.bind (ga ρ) (doM1 .list)) fun d => match d with
    | .lst l => newM (.lst l)
    | _ => M.bad) := by
  refine (pe_callTy call_list_of g1 m1 (by decide +kernel) (pa_cons ha pa_nil hs) (by decide) (by decide) hs).imp fun σ H Q h => ?_
  obtain ⟨ρ, s, rfl, ho, so, h⟩ := h
  refine ⟨ρ, s, rfl, ho, so, h.bindM.bindM.imp fun a s1 l1 o1 h1 v rv => ?_⟩
  obtain ⟨d, e, h1⟩ := do1_of o1 (by decide) h1
  simp only [do1] at e
  obtain ⟨l, el, rfl⟩ := seq_do e
  obtain ⟨p, vs, rfl, hq, rl⟩ := seq_rd o1 rv el
  have h1 := h1 s1 (Le.refl _) o1 rfl
  exact ⟨p, vs, rfl, hK ▸ hq, fun q hq' => newL o1 hq' rl h1⟩
/-! ### a cell that nobody changes any more -/
theorem freeze_of {s : Stt} {x : V} {a : D} {Q : VK} (so : StOk Γ s) (r : RV Γ s x a) (h : Rs Γ W s (freezeM a s.μ) (KD Γ Q)) : Q x s.H := by
  cases a <;> first | exact h.elim | skip
  rename_i n
  obtain ⟨rfl, hn⟩ := ref_rd r
  have gen : ∀ c d, s.μ[n]? = some c → live c = true → Rs Γ W s (.ok d (s.μ.set n .dead)) (KD Γ Q) → (∀ s', LeD s s' → s'.H = s.H → ¬ own s' (s.α n) → RV Γ s' (.ref (s.α n)) d) → Q (.ref (s.α n)) s.H := fun c d hc hl h hr => by
    have own_sub : ∀ b, own { s with μ := s.μ.set n .dead } b → own s b ∧ (s.hid b ∨ b ≠ s.α n) := fun b hb => by
      rcases hb with hb | ⟨m, e, h1, h2, h3⟩
      · exact ⟨.inl hb, .inl hb⟩
      · by_cases hm : m = n
        · subst hm
          have h1 : (s.μ.set m .dead)[m]? = some e := h1
          rw [List.getElem?_set_self (List.getElem?_eq_some_iff.mp hc).1] at h1
          cases h1; cases h2
        · have h1 : (s.μ.set n .dead)[m]? = some e := h1
          rw [List.getElem?_set_ne (Ne.symm hm)] at h1
          refine ⟨.inr ⟨m, e, h1, h2, h3⟩, .inr fun z => hm (so.inj m n e c h1 hc h2 hl (h3.trans z))⟩
    have le : Le s { s with μ := s.μ.set n .dead } :=
      ⟨LeD.of (by show _ ≤ (s.μ.set n .dead).length; rw [List.length_set]; exact Nat.le_refl _) (fun _ _ => rfl) fun b u hb e => ⟨fun z => hb (own_sub b z).1, e⟩, fun b hb => ⟨hb, rfl⟩⟩
    have get : ∀ m e, (s.μ.set n .dead)[m]? = some e → live e = true → s.μ[m]? = some e := fun m e h1 h2 => by
      by_cases hm : m = n
      · subst hm
        rw [List.getElem?_set_self (List.getElem?_eq_some_iff.mp hc).1] at h1
        cases h1; cases h2
      · rw [List.getElem?_set_ne (Ne.symm hm)] at h1
        exact h1
    have o' : StOk Γ { s with μ := s.μ.set n .dead } := by
      refine ⟨fun m e h1 => ?_, fun m k e f h1 h2 l1 l2 h3 => so.inj m k e f (get m e h1 l1) (get k f h2 l2) l1 l2 h3, fun m e h1 l1 => so.hid m e (get m e h1 l1) l1, so.trk⟩
      cases e with
      | dead => trivial
      | _ => exact (so.cell m _ (get m _ h1 rfl)).monoD le.toLeD fun _ => rfl
    refine h { s with μ := s.μ.set n .dead } le o' rfl _ (hr _ le.toLeD rfl fun z => ?_)
    rcases (own_sub _ z).2 with q | q
    · exact so.hid n c hc hl q
    · exact q rfl
  unfold freezeM at h
  simp only at h
  split at h
  · rename_i l e
    obtain ⟨vs, h1, h2⟩ := so.cell n _ e
    exact gen _ _ e rfl h fun s' le eH hn => .lst ⟨hn, .inl (by rw [eH]; exact h1)⟩ (le.rvs h2)
  · rename_i c ks vs e
    obtain ⟨dx, us, h1, h2, h3⟩ := so.cell n _ e
    exact gen _ _ e rfl h fun s' le eH hn => .ins hn (by rw [eH]; exact h1) (le.rvs h2)
  · exact h.elim
theorem d_freeze {e : Expr} {g : QL.Env → M D} (h : PE X e (tD Γ W g)) : PE X e (tD Γ W fun ρ => M.bind (g ρ) (doM1 .freeze)) := by
  refine h.imp fun σ H Q h => ?_
  obtain ⟨ρ, s, rfl, ho, so, h⟩ := h
  exact ⟨ρ, s, rfl, ho, so, h.bindM.imp fun a s1 l1 o1 h1 v rv => freeze_of o1 rv h1⟩
/-! ### instances -/
theorem d_make {CX : CXT} {k f c n : Nat} {a : Addr} {fd : FuncData} {ps : List Str} {x : Str} {p : Pos} {e : Expr} {es : List Expr} {as : Es} (Mk' : Mk X.K (Γ.clA c) a) (F : FnOk X.prog X.w X.K X.mg X.base CX k a fd ps (spN Γ (G f) n)) (hr : Room (k + 1) X.A) (hg : Gl X x) (hm : X.mg x = some (.ref (Γ.clA c)))
    (hb : Binds X.K fd ps []) (hx : Passes CX X WN) (hl : ∀ ds m, G f ds m ≠ .bad → ds.length = n) (ha : PA X (e :: es) (tDA Γ WN (evs G as))) (hdb : (x == ("__debug__" : Str)) = false) (hs : starEach (e :: es) X.env = (false, eval e X.env) :: starEach es X.env ∧ (backTo pos (starEach es X.env)).any (·.1) = false) :
    PE X (.Call (.Name x p) (e :: es) [] pos) (tD Γ WN (ev G (.make c f as))) := by
  refine (pe_make Mk' F hr hg hm hb .nil hx ha hdb hs.1 hs.2).imp fun σ H Q h => ?_
  obtain ⟨ρ, s, rfl, ho, so, h⟩ := h
  have h : Rs Γ WN s (M.bind (evs G as ρ) (fun l => M.bind (newM (.ins c [] [])) fun x => M.bind (G f (x :: l)) fun r => match r with
    | .non => freezeM x
    | _ => M.bad) s.μ) _ := h
  refine ⟨ρ, s, rfl, ho, so, h.bindM.imp fun ds s1 l1 o1 h1 vs rv x dx hx' hdx hne => ?_⟩
  obtain ⟨l2, o2, n2⟩ := new_st o1 hdx (.own x)
  have hx2 : (laid s1 dx (.own x)).H x = none := by show upd s1.H dx _ x = none; rw [upd_ne (Ne.symm hne)]; exact hx'
  have aD : (newC (laid (laid s1 dx (.own x)) x (.ins (Γ.clA c) dx [])) x (.ins c [] [])).α s1.μ.length = x := by show (if s1.μ.length = s1.μ.length then x else s1.α s1.μ.length) = x; rw [if_pos rfl]
  obtain ⟨l3, o3, r3, d3⟩ := newC_eq (c := .ins c [] []) (o := .ins (Γ.clA c) dx []) o2 hx2 rfl ⟨dx, [], by rw [aD]; exact upd_same, .nil, rfl⟩
  have h2 := Rs.bindM (x := G f (D.ref s1.μ.length :: ds)) (h1.bindM _ (l2.trans l3) o3 rfl)
  have rv3 := (l2.trans l3).rvs rv
  show spN Γ (G f) n (.ref x :: (vs ++ [])) _ _ WN
  rw [List.append_nil]
  refine ⟨_, D.ref s1.μ.length :: ds, rfl, o3, .cons r3 rv3, hl _ _ (fun z => by rw [z] at h2; exact h2), h2.imp fun d s4 l4 o4 h4 v rv4 => ?_⟩
  cases d <;> first | exact h4.elim | skip
  cases rv4
  exact ⟨rfl, freeze_of o4 (l4.rv r3) h4⟩
end
end QS
end
section
set_option linter.all false
set_option maxRecDepth 100000
set_option autoImplicit false
/-! QS14: statements. -/
namespace QS
open PySem PySem.Spec PyProof.Rows L2 QL
section
variable {Γ : Inf} {W : XK} {X : Cx} {G : Gs} {pos : Pos}
theorem Rs.mono {α : Type} {s s2 : Stt} {r : Res α} {k : α → Stt → Prop} (le : Le s s2) (h : Rs Γ W s r k) : Rs Γ W s2 r k := by
  cases r with
  | ok a m => exact fun s' l o e => h s' (le.trans l) o e
  | ex c x m => exact fun s' cls dd l o e => h s' cls dd (le.trans l) o e
  | bad => exact h
theorem d_setG {st : Stmt} {te : TE} {g : QL.Env → M D} {i : Nat} (h : PS X st (tAsg te (gName i))) (hte : ∀ σ H Q, tD Γ W g σ H Q → te σ H Q) : PS X st (tDS Γ W fun ρ => M.bind (g ρ) fun d => M.pure (.nx (ρ.set i (some d)))) := by
  refine h.imp fun E σ H h => hte σ H _ ?_
  obtain ⟨ρ, s, rfl, ho, so, h⟩ := h
  exact ⟨ρ, s, rfl, ho, so, h.bindM.imp fun d s1 l1 o1 h1 v rv => (h1.pure o1) _ ((ho.mono l1).set rv)⟩
theorem d_unpG {st : Stmt} {g : QL.Env → M D} {is : List Nat} (hK : X.K = Γ.K) (h : PS X st (tAsg (tD Γ W g) (gTL X.K is.length (gNames is)))) :
    PS X st (tDS Γ W fun ρ => M.bind (g ρ) fun d => M.bind (ofO (setU is d ρ)) fun ρ' => M.pure (.nx ρ')) := by
  refine h.imp fun E σ H h => ?_
  obtain ⟨ρ, s, rfl, ho, so, h⟩ := h
  refine ⟨ρ, s, rfl, ho, so, h.bindM.imp fun d s1 l1 o1 h1 v rv => ?_⟩
  obtain ⟨ρ', e, h3⟩ := h1.bindM.ofO o1
  exact g_TL hK is (ho.mono l1) (.inl rv) e fun σ1 h4 _ _ => (h3.pure o1) σ1 h4
theorem d_par2 {st : Stmt} {g : QL.Env → M (List D)} {i j : Nat} (h : PS X st (tPar i j (tDA Γ W g))) :
    PS X st (tDS Γ W fun ρ => M.bind (g ρ) fun ds => M.bind (ofO (setAll [i, j] ds ρ)) fun ρ' => M.pure (.nx ρ')) := by
  refine h.imp fun E σ H h => ?_
  obtain ⟨ρ, s, rfl, ho, so, h⟩ := h
  refine ⟨ρ, s, rfl, ho, so, h.bindM.imp fun ds s1 l1 o1 h1 vs rv => ?_⟩
  obtain ⟨ρ', e, h3⟩ := h1.bindM.ofO o1
  cases rv with
  | nil => simp [setAll] at e
  | cons r1 t =>
    cases t with
    | nil => simp [setAll] at e
    | cons r2 t =>
      cases t with
      | nil => cases e; exact ⟨_, _, rfl, (h3.pure o1) _ (((ho.mono l1).set r1).set r2)⟩
      | cons _ _ => simp [setAll] at e
theorem d_par3 {st : Stmt} {g : QL.Env → M (List D)} {i j l : Nat} (h : PS X st (tPar3 i j l (tDA Γ W g))) :
    PS X st (tDS Γ W fun ρ => M.bind (g ρ) fun ds => M.bind (ofO (setAll [i, j, l] ds ρ)) fun ρ' => M.pure (.nx ρ')) := by
  refine h.imp fun E σ H h => ?_
  obtain ⟨ρ, s, rfl, ho, so, h⟩ := h
  refine ⟨ρ, s, rfl, ho, so, h.bindM.imp fun ds s1 l1 o1 h1 vs rv => ?_⟩
  obtain ⟨ρ', e, h3⟩ := h1.bindM.ofO o1
  cases rv with
  | nil => simp [setAll] at e
  | cons r1 t =>
    cases t with
    | nil => simp [setAll] at e
    | cons r2 t =>
      cases t with
      | nil => simp [setAll] at e
      | cons r3 t =>
        cases t with
        | nil => cases e; exact ⟨_, _, _, rfl, (h3.pure o1) _ ((((ho.mono l1).set r1).set r2).set r3)⟩
        | cons _ _ => simp [setAll] at e
theorem ixN_pos {n k : Nat} (h : k < n) : L2.ixN n (k : Int) = some k := by
  show QL.ixN n (k : Int) = some k
  unfold QL.ixN
  rw [if_pos (by omega), if_pos (by omega)]
  simp
/-- an item of a cell's list is set -/
theorem sti_of {s : Stt} {x y z : V} {a b d : D} {Q : Hp → Prop} {k : PUnit → Stt → Prop} (so : StOk Γ s) (ra : RV Γ s x a) (rb : RV Γ s y b) (rd : RV Γ s z d) (h : Rs Γ W s (stiM a b d s.μ) k) (hk : ∀ s', k ⟨⟩ s' → Q s'.H) : rSetL x y z s.H Q := by
  cases a <;> first | exact h.elim | skip
  cases b <;> first | exact h.elim | skip
  rename_i n j
  cases rb
  obtain ⟨rfl, hn⟩ := ref_rd ra
  unfold stiM at h
  simp only at h
  split at h
  · rename_i l el
    split at h
    · rename_i hj
      obtain ⟨ws, h3, h4⟩ := so.cell n _ el
      have hw := h4.length
      refine ⟨s.α n, ws, j, j.toNat, rfl, rfl, h3, ?_, ?_⟩
      · have : ((j.toNat : Nat) : Int) = j := Int.toNat_of_nonneg hj.1
        rw [← this]
        exact ixN_pos (n := ws.length) (k := j.toNat) (by rw [hw]; exact hj.2)
      · have l1 := cell_le (c' := .lst (l.set j.toNat d)) (o := .lst (ws.set j.toNat z)) so el rfl rfl
        have o1 := cell_ok (c' := .lst (l.set j.toNat d)) (o := .lst (ws.set j.toNat z)) so el rfl rfl ⟨ws.set j.toNat z, upd_same, (l1.rvs h4).set (l1.rv rd) _⟩
        exact hk _ (h _ l1 o1 rfl)
    · exact h.elim
  · exact h.elim
theorem d_stiG {st : Stmt} {go gi gv : QL.Env → M D} (h : PS X st (tAsg (tD Γ W gv) (gSub (tD Γ W go) (tD Γ W gi) rSetL))) :
    PS X st (tDS Γ W fun ρ => M.bind (gv ρ) fun z => M.bind (go ρ) fun x => M.bind (gi ρ) fun y => M.bind (stiM x y z) fun _ => M.pure (.nx ρ)) := by
  refine h.imp fun E σ H h => ?_
  obtain ⟨ρ, s, rfl, ho, so, h⟩ := h
  refine ⟨ρ, s, rfl, ho, so, h.bindM.imp fun d s1 l1 o1 h1 v rv => ?_⟩
  refine ⟨ρ, s1, rfl, ho.mono l1, o1, h1.bindM.imp fun a s2 l2 o2 h2 x rx => ?_⟩
  refine ⟨ρ, s2, rfl, (ho.mono l1).mono l2, o2, h2.bindM.imp fun b s3 l3 o3 h3 y ry => ?_⟩
  refine sti_of o3 (l3.rv rx) ry ((l2.trans l3).rv rv) (h3.bindM.imp fun u s4 l4 o4 h4 => (⟨l4, o4, h4⟩ : Le s3 s4 ∧ StOk Γ s4 ∧ _)) fun s4 ⟨l4, o4, h4⟩ => ?_
  exact (h4.pure o4) σ ((((ho.mono l1).mono l2).mono l3).mono l4)
theorem d_staG {st : Stmt} {go gv : QL.Env → M D} {c k : Nat} {f : Str} (hc : Cls X.K (Γ.clA c)) (hn : NoAttr X.K (Γ.clA c) f) (hf : Γ.atN k = f) (hk : ∀ i, Γ.atN i = Γ.atN k → i = k) (h : PS X st (sFld X.K (tD Γ W go) (tD Γ W gv) f)) :
    PS X st (tDS Γ W fun ρ => M.bind (gv ρ) fun z => M.bind (go ρ) fun x => M.bind (staM c k x z) fun _ => M.pure (.nx ρ)) := by
  refine h.imp fun E σ H h => ?_
  obtain ⟨ρ, s, rfl, ho, so, h⟩ := h
  refine ⟨ρ, s, rfl, ho, so, h.bindM.imp fun d s1 l1 o1 h1 v rv => ?_⟩
  refine ⟨ρ, s1, rfl, ho.mono l1, o1, h1.bindM.imp fun a s2 l2 o2 h2 x rx => ?_⟩
  cases a <;> first | exact h2.bindM.elim | skip
  rename_i n
  obtain ⟨rfl, hn'⟩ := ref_rd rx
  have h2 : Rs Γ W s2 (M.bind (staM c k (.ref n) d) (fun _ => M.pure (Flw.nx ρ)) s2.μ) _ := h2
  have h3 := h2.bindM
  unfold staM at h3
  simp only at h3
  split at h3
  · rename_i c' ks vs e
    split at h3
    · rename_i hcl
      obtain ⟨rfl, hl⟩ := hcl
      obtain ⟨dx, us, e1, e2, e3⟩ := s2_cell o2 e
      obtain ⟨us', p1, p2, p3⟩ := put_zip hk e3 e2 (l2.rv rv)
      have hlen : ((ks.map Γ.atN).zip us).length < 1000 := by
        rw [List.length_zip]
        have := e2.length
        omega
      refine ⟨s2.α n, _, dx, _, rfl, e1, hc, hn, hlen, ?_⟩
      have l4 := cell_le (c' := .ins c' (putN k d ks vs).1 (putN k d ks vs).2) (o := .ins (Γ.clA c') dx (putF f v ((ks.map Γ.atN).zip us))) o2 e rfl rfl
      have o4 := cell_ok (c' := .ins c' (putN k d ks vs).1 (putN k d ks vs).2) (o := .ins (Γ.clA c') dx (putF f v ((ks.map Γ.atN).zip us))) o2 e rfl rfl ⟨dx, us', by rw [← p1, hf]; exact upd_same, l4.rvs p2, p3⟩
      exact Rs.pure (h3 _ l4 o4 rfl) o4 σ (((ho.mono l1).mono l2).mono l4)
    · exact h3.elim
  · exact h3.elim
where s2_cell {Γ : Inf} {s2 : Stt} {n c : Nat} {ks : List Nat} {vs : List D} (o2 : StOk Γ s2) (e : s2.μ[n]? = some (.ins c ks vs)) : ∃ dx us, s2.H (s2.α n) = some (.ins (Γ.clA c) dx ((ks.map Γ.atN).zip us)) ∧ RVs Γ s2 us vs ∧ ks.length = vs.length := o2.cell n _ e
/-- o[i], x = divmod(a, b) -/
theorem d_dmG {st : Stmt} {go gi ga gb : QL.Env → M D} {i : Nat} (h : PS X st (tAsg (tCB (fun xs H Q => ∃ i j, xs = [V.int i, .int j] ∧ CDiv i j ∧ ∀ p, H p = none → Q (.ref p) (upd H p (.tup [.int (i / j), .int (i % j)]))) (tCons (tD Γ W ga) (tCons (tD Γ W gb) tNil)))
      (gTup X.K 2 (gCons (gSub (tD Γ W go) (tD Γ W gi) rSetL) (gCons (gName i) gNil))))) :
    PS X st (tDS Γ W fun ρ => M.bind (ga ρ) fun x => M.bind (gb ρ) fun y => M.bind (ofO (do2 .divmod x y [])) fun z => match z with
    | .tup [q, r] => M.bind (go ρ) fun u => M.bind (gi ρ) fun w => M.bind (stiM u w q) fun _ => M.pure (.nx (ρ.set i (some r)))
    | _ => M.bad) := by
  refine h.imp fun E σ H h => ?_
  obtain ⟨ρ, s, rfl, ho, so, h⟩ := h
  refine ⟨ρ, s, rfl, ho, so, h.bindM.imp fun a s1 l1 o1 h1 v rv => ?_⟩
  refine ⟨ρ, s1, rfl, ho.mono l1, o1, h1.bindM.imp fun b s2 l2 o2 h2 u ru => ?_⟩
  obtain ⟨d, e, h3⟩ := h2.bindM.ofO o2
  have rv2 := l2.rv rv
  cases a <;> first | (simp only [do2, reduceCtorEq] at e; done) | skip
  cases b <;> first | (simp only [do2, reduceCtorEq] at e; done) | skip
  rename_i m n
  simp only [do2] at e
  split at e
  · rename_i hc
    cases e
    cases rv2
    cases ru
    refine ⟨m, n, rfl, hc, fun p hp => ?_⟩
    obtain ⟨l3, o3, n3⟩ := new_st o2 hp (.tup [.int (m / n), .int (m % n)])
    have ho3 := ((ho.mono l1).mono l2).mono l3
    refine ⟨p, _, rfl, SqT.of upd_same, rfl, _, _, rfl, ?_⟩
    have h3 : Rs Γ W s2 (M.bind (go ρ) (fun u => M.bind (gi ρ) fun w => M.bind (stiM u w (.int (m / n))) fun _ => M.pure (Flw.nx (ρ.set i (some (.int (m % n)))))) s2.μ) _ := h3
    refine ⟨ρ, laid s2 p (.tup [.int (m / n), .int (m % n)]), rfl, ho3, o3, (h3.bindM.mono l3).imp fun x4 s4 l4 o4 h4 v4 rv4 => ?_⟩
    refine ⟨ρ, s4, rfl, ho3.mono l4, o4, h4.bindM.imp fun x5 s5 l5 o5 h5 v5 rv5 => ?_⟩
    refine sti_of o5 (l5.rv rv4) rv5 (.int (m / n)) (h5.bindM.imp fun u s6 l6 o6 h6 => (⟨l6, o6, h6⟩ : Le s5 s6 ∧ StOk Γ s6 ∧ _)) fun s6 ⟨l6, o6, h6⟩ => ?_
    exact ⟨_, _, rfl, rfl, (h6.pure o6) _ ((((ho3.mono l4).mono l5).mono l6).set (.int _))⟩
  · cases e
theorem d_exprG {st : Stmt} {g : QL.Env → M D} (h : PS X st (tDrop (tD Γ W g))) : PS X st (tDS Γ W fun ρ => M.bind (g ρ) fun _ => M.pure (.nx ρ)) := by
  refine h.imp fun E σ H h => ?_
  obtain ⟨ρ, s, rfl, ho, so, h⟩ := h
  exact ⟨ρ, s, rfl, ho, so, h.bindM.imp fun d s1 l1 o1 h1 v rv => (h1.pure o1) σ (ho.mono l1)⟩
theorem d_ifS {c : Expr} {a b : List Stmt} {gc : QL.Env → M Bool} {ga gb : QL.Env → M Flw} (hc : PT X c (tDT Γ W gc)) (ha : PSs X a (tDS Γ W ga)) (hb : PSs X b (tDS Γ W gb)) :
    PS X (.If c a b pos) (tDS Γ W fun ρ => M.bind (gc ρ) fun t => if t = true then ga ρ else gb ρ) := by
  refine (ps_if hc ha hb).imp fun E σ H h => ?_
  obtain ⟨ρ, s, rfl, ho, so, h⟩ := h
  refine ⟨ρ, s, rfl, ho, so, h.bindM.imp fun t s1 l1 o1 h1 => ?_⟩
  cases t with
  | true => exact ⟨ρ, s1, rfl, ho.mono l1, o1, h1⟩
  | false => exact ⟨ρ, s1, rfl, ho.mono l1, o1, h1⟩
theorem d_retS {e : Expr} {g : QL.Env → M D} (h : PE X e (tD Γ W g)) : PS X (.Return (some e) pos) (tDS Γ W fun ρ => M.bind (g ρ) fun d => M.pure (.rt d)) := by
  refine (ps_ret h).imp fun E σ H h => ?_
  obtain ⟨ρ, s, rfl, ho, so, h⟩ := h
  exact ⟨ρ, s, rfl, ho, so, h.bindM.imp fun d s1 l1 o1 h1 v rv => (h1.pure o1) v rv⟩
theorem d_retN : PS X (.Return none pos) (tDS Γ W fun _ => M.pure (.rt .non)) := by
  refine ps_retN.imp fun E σ H h => ?_
  obtain ⟨ρ, s, rfl, ho, so, h⟩ := h
  exact (h.pure so) .non .non
theorem d_pass : PS X (.Pass pos) (tDS Γ W fun ρ => M.pure (.nx ρ)) := by
  refine ps_pass.imp fun E σ H h => ?_
  obtain ⟨ρ, s, rfl, ho, so, h⟩ := h
  exact (h.pure so) σ ho
theorem d_never {st : Stmt} : PS X st (tDS Γ W fun _ => M.bad) := by
  refine ps_never.imp fun E σ H h => ?_
  obtain ⟨ρ, s, rfl, ho, so, h⟩ := h
  exact h
theorem d_neverE {e : Expr} : PE X e (tD Γ W fun _ => M.bad) := by
  refine (⟨fun pins s σ H Q I h => h.elim⟩ : PE X e (fun _ _ _ => False)).imp fun σ H Q h => ?_
  obtain ⟨ρ, s, rfl, ho, so, h⟩ := h
  exact h
theorem d_snil : PSs X [] (tDS Γ W fun ρ => M.pure (.nx ρ)) := by
  refine pss_nil.imp fun E σ H h => ?_
  obtain ⟨ρ, s, rfl, ho, so, h⟩ := h
  exact (h.pure so) σ ho
theorem d_scons {st : Stmt} {rest : List Stmt} {g1 g2 : QL.Env → M Flw} (h1 : PS X st (tDS Γ W g1)) (h2 : PSs X rest (tDS Γ W g2)) : PSs X (st :: rest) (tDS Γ W fun ρ => M.bind (g1 ρ) fun fl => match fl with
    | .nx ρ' => g2 ρ'
    | .rt d => M.pure (.rt d)) := by
  refine (pss_cons h1 h2).imp fun E σ H h => ?_
  obtain ⟨ρ, s, rfl, ho, so, h⟩ := h
  refine ⟨ρ, s, rfl, ho, so, h.bindM.imp fun fl s1 l1 o1 h1 => ?_⟩
  cases fl with
  | nx ρ' => exact fun σ' ho' => ⟨ρ', s1, rfl, ho', o1, h1⟩
  | rt d => exact fun v rv => (h1.pure o1) v rv
/-! ### for -/
abbrev KS (Γ : Inf) (E : Ends) : Flw → Stt → Prop := fun fl s' => match fl with
  | .nx ρ' => ∀ σ', EnvOk Γ s' σ' ρ' → E.nx σ' s'.H
  | .rt d => ∀ v, RV Γ s' v d → E.rt v s'.H
theorem d_forG {st : Stmt} {pr : Bool} {P : Stt → L2.St → Prop} {wi : TI} {tg : List Nat} {g : TG} {gi : QL.Env → M (List D)} {gb : QL.Env → M Flw} (h : PS X st (tFor wi g (tDS Γ W gb))) (hwi : WOk Γ W P pr wi gi) (hg : GOk Γ pr tg g) :
    PS X st (tDSP Γ W P fun ρ => M.bind (gi ρ) fun l => forL (fun d ρ => M.bind (ofO (setT tg d ρ)) fun ρ1 => gb ρ1) l ρ) := by
  refine h.imp fun E σ H h => ?_
  obtain ⟨ρ, s, rfl, ho, so, hP, h⟩ := h
  refine hwi σ ρ s _ ho so hP (h.bindM.imp fun ds s1 l1 o1 h1 J hJ => ?_)
  refine for_it (itd_walk hJ) (fun i σ H => ∃ s2 ρ2, s2.H = H ∧ Le s1 s2 ∧ StOk Γ s2 ∧ EnvOk Γ s2 σ ρ2 ∧ Rs Γ W s2 (forL (fun d ρ => M.bind (ofO (setT tg d ρ)) fun ρ1 => gb ρ1) (ds.drop i) ρ2 s2.μ) (KS Γ E))
    ⟨s1, ρ, rfl, Le.refl _, o1, ho.mono l1, h1⟩ (fun i σ H _ ⟨s2, _, e, le, _⟩ => ⟨s2, e, le.toLeD⟩) ?_ ?_
  · rintro i x σ H H' hi ⟨s2, ρ2, rfl, le2, o2, ho2, h2⟩ y
    obtain ⟨s3, d, rfl, le3, o3, m3, ed, rd⟩ := y s2 rfl le2.toLeD o2
    rw [drop_cons ed] at h2
    have h3 := (h2.bindM.mono le3)
    rw [← m3] at h3
    obtain ⟨ρ3, e3, h3⟩ := h3.bindM.ofO o3
    refine hg s3 σ ρ2 ρ3 x d _ (ho2.mono le3) rd e3 fun σ1 ho3 _ _ => ⟨ρ3, s3, rfl, ho3, o3, h3.imp fun fl s4 l4 o4 h4 => ?_⟩
    cases fl with
    | nx ρ' => exact fun σ' ho' => ⟨s4, ρ', rfl, (le2.trans le3).trans l4, o4, ho', h4⟩
    | rt d => exact fun v rv => (show Rs Γ W s4 (M.pure (.rt d) s4.μ) (KS Γ E) from h4).pure o4 v rv
  · rintro σ H ⟨s2, ρ2, rfl, le2, o2, ho2, h2⟩
    rw [List.drop_length] at h2
    exact (show Rs Γ W s2 (M.pure (.nx ρ2) s2.μ) (KS Γ E) from h2).pure o2 σ ho2
theorem tdsp_of {g : QL.Env → M Flw} {st : Stmt} (h : PS X st (tDSP Γ W PT' g)) : PS X st (tDS Γ W g) := h.imp fun E σ H h => let ⟨ρ, s, a, b, c, d⟩ := h; ⟨ρ, s, a, b, c, trivial, d⟩
theorem nox_ex {α : Type} (x : M α) (m : Mem) : NoEx (nox x m) := fun c a m' h => by
  unfold nox at h
  split at h
  · cases h
  · rename_i h' ; exact h' c a m' h
theorem rs_nox {α : Type} {s : Stt} {x : M α} {k : α → Stt → Prop} (h : Rs Γ W s (nox x s.μ) k) : Rs Γ W s (x s.μ) k := by
  obtain ⟨a, m, e, h⟩ := nox_ok h
  rw [e]
  exact h
theorem key_bad {i : Nat} {α : Type} {ρ : QL.Env} {m : Mem} {f : List D → M α} (h : M.bind (M.bind (getM ρ i) keysM) f m ≠ .bad) : ∃ ks vs, ρ[i]? = some (some (.dct ks vs)) := by
  cases e : ρ[i]? with
  | none => exact absurd (by unfold M.bind getM; rw [e]; rfl) h
  | some o =>
    cases o with
    | none => exact absurd (by unfold M.bind getM; rw [e]; rfl) h
    | some d =>
      cases d <;> first | exact ⟨_, _, rfl⟩ | exact absurd (by unfold M.bind getM; rw [e]; rfl) h
theorem d_forK {st : Stmt} {tg : List Nat} {g : TG} {i : Nat} {gb : QL.Env → M Flw} (h : PS X st (tFor (iKeys (tVar i)) g (tDS Γ W gb))) (hg : GOk Γ false tg g) :
    PS X st (tDS Γ W fun ρ => nox (M.bind (M.bind (getM ρ i) keysM) fun l => forL (fun d ρ => M.bind (ofO (setT tg d ρ)) fun ρ1 => gb ρ1) l ρ)) := by
  refine d_lockS ((d_forG h wok_keys hg).imp fun E σ H h => ?_) (fun ρ m h => key_bad (f := fun l => forL (fun d ρ => M.bind (ofO (setT tg d ρ)) fun ρ1 => gb ρ1) l ρ) (m := m) fun z => h (by unfold nox; rw [z])) fun ρ m => nox_ex _ _
  obtain ⟨ρ, s, a, b, c, d, h⟩ := h
  exact ⟨ρ, s, a, b, c, d, rs_nox h⟩
end
end QS
end
section
set_option linter.all false
set_option maxRecDepth 100000
set_option autoImplicit false
/-! QS15: a checked text does what it is worth; views. -/
namespace QS
open PySem PySem.Spec PyProof.Rows L2 QL QC
structure CxN (Γ : Inf) (T : Tab) (G : Gs) (k : Nat) (N : List Str) (sc : Scope) (X : Cx) : Prop where
  hK : X.K = Γ.K
  hN : X.N = N
  nd : N.Nodup
  hsc : X.env.scope = sc
  kind : sc.kind = .function
  calm : X.calm = true
  room : Room (k + 1) X.A
  po : PassesOwn (model X.prog X.w) X.A X.env X.xe
  fn : ∀ x f n, T.fn x = some (f, n) → ∃ (a : Addr) (fd : FuncData) (ps : List Str), FnOk X.prog X.w X.K X.mg X.base CX0 k a fd ps (spN Γ (G f) n) ∧ X.mg x = some (.ref a) ∧ PySem.W.keepIn X.K (.ref a) = true ∧ Binds X.K fd ps [] ∧ ∀ ds m, G f ds m ≠ .bad → ds.length = n
  free : ∀ x, T.free x = true → X.mg x = none
  glo : ∀ x d, T.glo x = some d → ∃ (v : V) (u : Value), X.mg x = some u ∧ RelV v u ∧ ∀ s, RV Γ s v d
  cls : ∀ x c f n, T.cls x = some (c, f, n) → ∃ (a : Addr) (fd : FuncData) (ps : List Str), Mk X.K (Γ.clA c) a ∧ FnOk X.prog X.w X.K X.mg X.base CX0 k a fd ps (spN Γ (G f) n) ∧ X.mg x = some (.ref (Γ.clA c)) ∧ Binds X.K fd ps [] ∧ ∀ ds m, G f ds m ≠ .bad → ds.length = n
  att : ∀ c f j, T.att c f = some j → (∀ i, Γ.atN i = Γ.atN j → i = j) ∧ Cls X.K (Γ.clA c) ∧ ((NoAttr X.K (Γ.clA c) f ∧ Γ.atN j = f) ∨ ∃ (p ga : Addr) (fd : FuncData) (ps : List Str), PropOf X.K (Γ.clA c) f p ga ∧ FnOk X.prog X.w X.K X.mg X.base CX0 k ga fd ps (getSp (Γ.clA c) (Γ.atN j)) ∧ Binds X.K fd ps [])
  sta : ∀ c f j, T.sta c f = some j → (∀ i, Γ.atN i = Γ.atN j → i = j) ∧ Cls X.K (Γ.clA c) ∧ NoAttr X.K (Γ.clA c) f ∧ Γ.atN j = f
section
variable {Γ : Inf} {T : Tab} {G : Gs} {k : Nat} {N : List Str} {sc : Scope} {X : Cx} {W : XK} {pos : Pos}
theorem CxN.rm (c : CxN Γ T G k N sc X) : Room k X.A := c.room.mono (Nat.le_succ k)
theorem CxN.un (c : CxN Γ T G k N sc X) : X.A.units + 65 < cLine := by have := c.room.un; omega
theorem CxN.un64 (c : CxN Γ T G k N sc X) : X.A.units + 64 < cLine := by have := c.room.un; omega
theorem CxN.un1 (c : CxN Γ T G k N sc X) : X.A.units + 1 < cLine := by have := c.room.un; omega
theorem CxN.pass (c : CxN Γ T G k N sc X) {E : XK} : Passes CX0 X E := fun _ _ _ _ _ _ _ h => h.elim
theorem CxN.blk (c : CxN Γ T G k N sc X) {s : Shared} {H : Hp} {scope : Scope} {C : Addr} {cl : List (Str × Addr)} {fp : List Addr} (hk : scope.kind = .function) :
    CxN Γ T G k N (QC.relS scope sc) (X.blk s H scope (compEnvC scope cl C X.env) fp) where
  hK := c.hK
  hN := c.hN
  nd := c.nd
  hsc := by
    show relabel scope X.env = QC.relS scope sc
    rw [← c.hsc]
    rfl
  kind := hk
  calm := c.calm
  room := c.room
  po := .never
  fn := c.fn
  free := c.free
  glo := c.glo
  cls := c.cls
  att := c.att
  sta := c.sta
theorem CxN.gl (c : CxN Γ T G k N sc X) {x : Str} (h : glb sc x = true) : Gl X x := by
  show X.env.scope.names.lookup x = some .globalImplicit
  rw [c.hsc]
  unfold glb at h
  split at h
  · assumption
  · cases h
theorem CxN.vis (c : CxN Γ T G k N sc X) {x : Str} (h : QC.vis sc x = true) : Vis X.env.scope x := by
  unfold Vis
  rw [c.hsc]
  unfold QC.vis at h
  split at h
  · exact .inl (by assumption)
  · exact .inr (.inl (by assumption))
  · exact .inr (.inr (by assumption))
  · cases h
theorem lcl_of {sc : Scope} {x : Str} (h : lcl sc x = true) : sc.names.lookup x = some .local := by
  unfold lcl at h
  split at h
  · assumption
  · cases h
theorem cel_of {sc : Scope} {x : Str} (h : cel sc x = true) : sc.names.lookup x = some .cell := by
  unfold cel at h
  split at h
  · assumption
  · cases h
theorem okN_of {x : Str} (h : okN x = true) : (x == ("__debug__" : Str)) = false ∧ (x == ("__classdict__" : Str)) = false ∧ x ≠ "__name__" := by
  unfold okN at h
  simp only [Bool.and_eq_true, Bool.not_eq_true'] at h
  exact ⟨h.1.1, h.1.2, by simpa using h.2⟩
theorem nm_of {i : Nat} {x : Str} (h : nm N i x = true) : N[i]? = some x := of_decide_eq_true h
theorem ns_of {e : Expr} {es : List Expr} {env : PySem.Env} (h : notSt e = true) : starEach (e :: es) env = (false, eval e env) :: starEach es env :=
  notStar fun a p z => by subst z; cases h
theorem nss_any {es : List Expr} {env : PySem.Env} {pos : Pos} (h : allNS es = true) : (backTo pos (starEach es env)).any (·.1) = false := by
  induction es with
  | nil => rfl
  | cons e r ih =>
    unfold allNS at h
    simp only [List.all_cons, Bool.and_eq_true] at h
    rw [ns_of h.1]
    show ((false : Bool) || (backTo pos (starEach r env)).any (·.1)) = false
    rw [ih h.2]
    rfl
theorem base_of {o : Expr} {a : Str} {env : PySem.Env} {w : Sem Value} (h : notBase o = true) : attributeBase o a env w = w := by
  cases o with
  | Call f as ks p =>
    cases f with
    | Name x q =>
      cases as with
      | nil =>
        cases ks with
        | nil => cases h
        | cons _ _ => rfl
      | cons _ _ => rfl
    | _ => rfl
  | _ => rfl
theorem plainIx_of {i : Expr} (h : notSl i = true) : PlainIx i := fun o x => by
  cases i with
  | Slice _ _ _ _ => cases h
  | _ => rfl
theorem noSl_of {i : Expr} (h : notSl i = true) : NoSl i := fun o x => by
  cases i with
  | Slice _ _ _ _ => cases h
  | _ => rfl
/-! ### one value -/
theorem opB_of {op : Operator} {o : O2} (hK : X.K = Γ.K) (h : opB op = some o) : OpR X (binaryOp op) (rD2 Γ W (doM2 o)) := by
  cases op <;> simp only [opB, Option.some.injEq, reduceCtorEq] at h <;> subst h
  · exact add_of hK
  · exact od_sub
  · exact mul_of
  · exact mod_of
  · exact pow_of
  · exact fdiv_of
theorem opC_of {op : CmpOp} {o : O2} (c : CxN Γ T G k N sc X) (h : opC op = some o) : OpR X (compareOp op) (rD2 Γ W (doM2 o)) ∧ o ≠ .append := by
  cases op <;> simp only [opC, Option.some.injEq, reduceCtorEq] at h <;> subst h
  · exact ⟨eq_of c.hK c.un64, by decide⟩
  · exact ⟨ne_of' c.hK c.un64, by decide⟩
  · exact ⟨lt_of, by decide⟩
  · exact ⟨le_of, by decide⟩
  · exact ⟨gt_of, by decide⟩
  · exact ⟨ge_of, by decide⟩
  · exact ⟨isB_of, by decide⟩
  · exact ⟨notB_of, by decide⟩
  · exact ⟨in_of c.hK c.un, by decide⟩
  · exact ⟨notIn_of c.hK c.un, by decide⟩
theorem d_testV {e : Expr} {g : QL.Env → M D} (h : PE X e (tD Γ W g)) (he : ∀ whole, isTrue e X.env whole = (do let v ← whole; standAt e.pos; holding [v] (truthy v)) := by intro _; rfl) : PT X e (tDT Γ W fun ρ => M.bind (g ρ) truth) := d_tval h he
theorem do1n {o : O1} (h : o ≠ .freeze) (d : D) : doM1 o d = fun m => ofO (do1 o d m) m := by cases o <;> first | rfl | exact absurd rfl h
theorem isN_rd {e : Expr} {ga : QL.Env → M D} {b : Bool} {p q : Pos} {j : Nat} (ha : PE X e (tD Γ W ga)) :
    (PE X (.Compare e [.Is] [.Constant .none j p] q) (tD Γ W fun ρ => M.bind (ga ρ) (doM1 .isN)) ∧ PT X (.Compare e [.Is] [.Constant .none j p] q) (tDT Γ W fun ρ => M.bind (M.bind (ga ρ) (doM1 .isN)) truth)) ∧
    (PE X (.Compare e [.IsNot] [.Constant .none j p] q) (tD Γ W fun ρ => M.bind (ga ρ) (doM1 .notN)) ∧ PT X (.Compare e [.IsNot] [.Constant .none j p] q) (tDT Γ W fun ρ => M.bind (M.bind (ga ρ) (doM1 .notN)) truth)) := by
  have one : ∀ (o : O1) (f : Bool → Bool) (s : Stt) (a : D) (x : V) (kk : D → Stt → Prop), (∀ d m, do1 o d m = some (.bl (f (isNon d)))) → o ≠ .freeze → StOk Γ s → RV Γ s x a → Rs Γ W s (doM1 o a s.μ) kk → kk (.bl (f (decide (x = .non)))) s := fun o f s a x kk hf ho so r h => by
    obtain ⟨d, e, h⟩ := do1_of so ho h
    rw [hf] at e
    cases e
    rw [non_iff r]
    exact h s (Le.refl s) so rfl
  refine ⟨⟨(pe_cmp (pc_isN ha)).imp fun σ H Q h => ?_, (pt_cmp (pc_isN ha)).imp fun σ H Q h => ?_⟩, ⟨(pe_cmp (pc_notN ha)).imp fun σ H Q h => ?_, (pt_cmp (pc_notN ha)).imp fun σ H Q h => ?_⟩⟩
  · obtain ⟨ρ, s, rfl, ho, so, h⟩ := h
    exact ⟨ρ, s, rfl, ho, so, h.bindM.imp fun a s1 l1 o1 h1 v rv => one .isN id s1 a v _ (fun d m => rfl) (by decide) o1 rv h1 _ (.bl _)⟩
  · obtain ⟨ρ, s, rfl, ho, so, h⟩ := h
    refine ⟨ρ, s, rfl, ho, so, h.bindM.bindM.imp fun a s1 l1 o1 h1 v rv => ?_⟩
    have h2 := one .isN id s1 a v _ (fun d m => rfl) (by decide) o1 rv h1
    exact ⟨_, rfl, (show Rs Γ W s1 (M.pure (decide (v = .non)) s1.μ) _ from h2).pure o1⟩
  · obtain ⟨ρ, s, rfl, ho, so, h⟩ := h
    exact ⟨ρ, s, rfl, ho, so, h.bindM.imp fun a s1 l1 o1 h1 v rv => one .notN (!·) s1 a v _ (fun d m => rfl) (by decide) o1 rv h1 _ (.bl _)⟩
  · obtain ⟨ρ, s, rfl, ho, so, h⟩ := h
    refine ⟨ρ, s, rfl, ho, so, h.bindM.bindM.imp fun a s1 l1 o1 h1 v rv => ?_⟩
    have h2 := one .notN (!·) s1 a v _ (fun d m => rfl) (by decide) o1 rv h1
    exact ⟨_, rfl, (show Rs Γ W s1 (M.pure (!decide (v = .non)) s1.μ) _ from h2).pure o1⟩
theorem neg_rd {e : Expr} {ga : QL.Env → M D} {p : Pos} (ha : PE X e (tD Γ W ga)) : PE X (.UnaryOp .USub e p) (tD Γ W fun ρ => M.bind (ga ρ) (doM1 .neg)) := by
  refine (pe_un un_neg ha).imp fun σ H Q h => ?_
  obtain ⟨ρ, s, rfl, ho, so, h⟩ := h
  refine ⟨ρ, s, rfl, ho, so, h.bindM.imp fun a s1 l1 o1 h1 v rv => ?_⟩
  obtain ⟨d, e, h2⟩ := do1_of o1 (by decide) h1
  cases a <;> simp only [do1, reduceCtorEq] at e
  cases rv; cases e
  exact ⟨_, rfl, h2 s1 (Le.refl _) o1 rfl _ (.int _)⟩
theorem b1_rd {o : O1} {x : Str} {e : Expr} {ga : QL.Env → M D} {p q : Pos} (c : CxN Γ T G k N sc X) (h : b1N o = some x) (hg : glb sc x = true) (hf : T.free x = true) (hn : okN x = true) (hs : notSt e = true) (ha : PE X e (tD Γ W ga)) :
    PE X (.Call (.Name x p) [e] [] q) (tD Γ W fun ρ => M.bind (ga ρ) (doM1 o)) := by
  have g := c.gl hg
  have m := c.free x hf
  have ns : starEach [e] X.env = (false, eval e X.env) :: starEach [] X.env := ns_of hs
  have fin : ∀ {e' : Expr}, (∀ {t : L2.TA}, PA X [e] t → PE X e' (tCB (rC1 Γ W (doM1 o)) t)) → PE X e' (tD Γ W fun ρ => M.bind (ga ρ) (doM1 o)) := fun h => d_cb h ha ns fun s x a Q so r h => ⟨x, rfl, s, a, rfl, so, r, h⟩
  cases o <;> simp only [b1N, Option.some.injEq, reduceCtorEq] at h <;> subst h
  · exact fin fun a => pe_callB lenD_of g m (by decide +kernel) a (by decide) (by decide) ns rfl
  · exact fin fun a => pe_callB (len_of c.hK) g m (by decide +kernel) a (by decide) (by decide) ns rfl
  · exact fin fun a => pe_callB (sum_of c.hK c.calm) g m (by decide +kernel) a (by decide) (by decide) ns rfl
  · exact fin fun a => pe_callB (max_of c.hK c.calm) g m (by decide +kernel) a (by decide) (by decide) ns rfl
  · exact fin fun a => pe_callB (min_of c.hK c.calm) g m (by decide +kernel) a (by decide) (by decide) ns rfl
  · exact fin fun a => pe_callB (all_of c.hK c.calm) g m (by decide +kernel) a (by decide) (by decide) ns rfl
  · exact fin fun a => pe_callB (any_of c.hK c.calm) g m (by decide +kernel) a (by decide) (by decide) ns rfl
  · exact fin fun a => pe_callTy (tuple_of c.hK) g m (by decide +kernel) a (by decide) (by decide) ns rfl
  · exact fin fun a => pe_callTy (list_of c.hK) g m (by decide +kernel) a (by decide) (by decide) ns rfl
  · exact fin fun a => pe_callTy int_of g m (by decide +kernel) a (by decide) (by decide) ns rfl
  · exact fin fun a => pe_callB abs_of g m (by decide +kernel) a (by decide) (by decide) ns rfl
  · exact fin fun a => pe_callB (sorted_of c.hK) g m (by decide +kernel) a (by decide) (by decide) ns rfl
  · exact fin fun a => pe_callTy str_of g m (by decide +kernel) a (by decide) (by decide) ns rfl
  · exact fin fun a => pe_callB repr_of g m (by decide +kernel) a (by decide) (by decide) ns rfl
theorem v1_ok {o : O1} {a e : Expr} {ga : QL.Env → M D} (c : CxN Γ T G k N sc X) (h : v1 T sc o a = some e) (ha : PE X e (tD Γ W ga)) :
    PE X a (tD Γ W fun ρ => M.bind (ga ρ) (doM1 o)) ∧ PT X a (tDT Γ W fun ρ => M.bind (M.bind (ga ρ) (doM1 o)) truth) := by
  unfold v1 at h
  split at h
  · split at h
    · rename_i ho; subst ho; cases h; exact ⟨neg_rd ha, d_testV (neg_rd ha)⟩
    · cases h
  · split at h
    · rename_i ho; subst ho; cases h; exact (isN_rd (b := true) ha).1
    · cases h
  · split at h
    · rename_i ho; subst ho; cases h; exact (isN_rd (b := true) ha).2
    · cases h
  · split at h
    · rename_i hc
      simp only [Bool.and_eq_true, decide_eq_true_eq] at hc
      obtain ⟨⟨⟨⟨⟨_, h1⟩, h2⟩, h3⟩, h4⟩, h5⟩ := hc
      cases h
      have := fun p q => b1_rd (p := p) (q := q) c h1 h2 h3 h4 h5 ha
      exact ⟨this _ _, d_testV (this _ _)⟩
    · split at h
      · split at h
        · rename_i hc
          simp only [Bool.and_eq_true, decide_eq_true_eq] at hc
          obtain ⟨⟨⟨⟨⟨⟨rfl, rfl⟩, h2⟩, h3⟩, h4⟩, h5⟩, h6⟩ := hc
          cases h
          have := fun pos p p1 p2 => d_sset (pos := pos) (p := p) (p1 := p1) (p2 := p2) c.hK c.calm (c.gl h2) (c.free _ h3) (c.gl h4) (c.free _ h5) ha (ns_of h6)
          exact ⟨this _ _ _ _, d_testV (this _ _ _ _)⟩
        · cases h
      · split at h
        · rename_i hc
          simp only [Bool.and_eq_true, decide_eq_true_eq] at hc
          obtain ⟨⟨⟨⟨⟨⟨rfl, rfl⟩, h2⟩, h3⟩, h4⟩, h5⟩, h6⟩ := hc
          cases h
          have := fun pos p p1 p2 => d_lrange (pos := pos) (p := p) (p1 := p1) (p2 := p2) c.calm (c.gl h2) (c.free _ h3) (c.gl h4) (c.free _ h5) ha (ns_of h6)
          exact ⟨this _ _ _ _, d_testV (this _ _ _ _)⟩
        · cases h
      · cases h
  · cases h
/-! ### two values -/
theorem op_rd {a : Expr} {o : O2} {ga gb : QL.Env → M D} (h : PE X a (tOp (rD2 Γ W (doM2 o)) (tD Γ W ga) (tD Γ W gb))) : PE X a (tD Γ W fun ρ => M.bind (ga ρ) fun x => M.bind (gb ρ) fun y => doM2 o x y) :=
  d_bin h fun s x y a b Q so ra rb h => ⟨s, a, b, rfl, so, ra, rb, h⟩
theorem recv_pure {o : O2} (h : opM o = none) (a : D) : recvM o a = M.pure ⟨⟩ := by
  funext m
  cases o <;> first | rfl | cases h
theorem norecv {o : O2} (h : opM o = none) (ga gb : QL.Env → M D) : (fun ρ => M.bind (ga ρ) fun x => M.bind (recvM o x) fun _ => M.bind (gb ρ) fun y => doM2 o x y) = fun ρ => M.bind (ga ρ) fun x => M.bind (gb ρ) fun y => doM2 o x y := by
  funext ρ
  congr 1
  funext x
  rw [recv_pure h]
  rfl
theorem v2_ok {o : O2} {a e f : Expr} {ga gb : QL.Env → M D} (c : CxN Γ T G k N sc X) (h : v2 T sc o a = some (e, f)) (ha : PE X e (tD Γ W ga)) (hb : PE X f (tD Γ W gb)) :
    PE X a (tD Γ W fun ρ => M.bind (ga ρ) fun x => M.bind (recvM o x) fun _ => M.bind (gb ρ) fun y => doM2 o x y) ∧ PT X a (tDT Γ W fun ρ => M.bind (M.bind (ga ρ) fun x => M.bind (recvM o x) fun _ => M.bind (gb ρ) fun y => doM2 o x y) truth) := by
  have nb : ∀ {o : O2}, opM o = none → (fun ρ => M.bind (ga ρ) fun x => M.bind (recvM o x) fun _ => M.bind (gb ρ) fun y => doM2 o x y) = fun ρ => M.bind (ga ρ) fun x => M.bind (gb ρ) fun y => doM2 o x y := fun h => norecv h ga gb
  have fin : ∀ {o : O2} {a : Expr}, opM o = none → PE X a (tD Γ W fun ρ => M.bind (ga ρ) fun x => M.bind (gb ρ) fun y => doM2 o x y) → (∀ whole, isTrue a X.env whole = (do let v ← whole; standAt a.pos; holding [v] (truthy v))) →
      PE X a (tD Γ W fun ρ => M.bind (ga ρ) fun x => M.bind (recvM o x) fun _ => M.bind (gb ρ) fun y => doM2 o x y) ∧ PT X a (tDT Γ W fun ρ => M.bind (M.bind (ga ρ) fun x => M.bind (recvM o x) fun _ => M.bind (gb ρ) fun y => doM2 o x y) truth) := fun h1 h2 h3 => by
    rw [← nb h1] at h2
    exact ⟨h2, d_testV h2 h3⟩
  unfold v2 at h
  split at h
  · split at h
    · rename_i x op y p ho
      cases h
      refine fin ?_ (op_rd (pe_op (opB_of c.hK ho) ha hb)) (fun _ => rfl)
      cases op <;> simp only [opB, Option.some.injEq, reduceCtorEq] at ho <;> subst ho <;> rfl
    · cases h
  · split at h
    · rename_i x op y p hc
      simp only [Bool.and_eq_true, decide_eq_true_eq, Bool.not_eq_true'] at hc
      cases h
      have hm : opM o = none := by
        have := hc.1
        cases op <;> simp only [opC, Option.some.injEq, reduceCtorEq] at this <;> subst this <;> rfl
      have e1 := nb hm
      have e2 : (fun ρ => M.bind (M.bind (ga ρ) fun x => M.bind (recvM o x) fun _ => M.bind (gb ρ) fun y => doM2 o x y) truth) = fun ρ => M.bind (M.bind (ga ρ) fun x => M.bind (gb ρ) fun y => doM2 o x y) truth := by
        funext ρ
        rw [show (M.bind (ga ρ) fun x => M.bind (recvM o x) fun _ => M.bind (gb ρ) fun y => doM2 o x y) = _ from congrFun e1 ρ]
      rw [e1, e2]
      exact ⟨op_rd (pe_cmpR (opC_of c hc.1).1 ha hb hc.2), d_testOp (a := e) (b := f) (pt_cmpR (opC_of c hc.1).1 ha hb hc.2)⟩
    · cases h
  · split at h
    · rename_i ho; subst ho; cases h; exact fin rfl (slF_of c.hK ha hb) (fun _ => rfl)
    · cases h
  · split at h
    · rename_i ho; subst ho; cases h; exact fin rfl (slT_of c.hK ha hb) (fun _ => rfl)
    · cases h
  · split at h
    · rename_i hc
      simp only [Bool.and_eq_true, Bool.or_eq_true, decide_eq_true_eq] at hc
      cases h
      rcases hc.2 with rfl | rfl
      · exact fin rfl (op_rd (pe_ix (ix_of c.hK) ha hb (plainIx_of hc.1))) (fun _ => rfl)
      · exact fin rfl (d_ixD c.un1 ha hb (noSl_of hc.1)) (fun _ => rfl)
    · cases h
  · split at h
    · rename_i x p e' f' q hc
      simp only [Bool.and_eq_true, decide_eq_true_eq] at hc
      obtain ⟨⟨⟨⟨⟨h1, h2⟩, h3⟩, h4⟩, h5⟩, h6⟩ := hc
      cases h
      have g := c.gl h2
      have m := c.free _ h3
      have ns : starEach [e, f] X.env = (false, eval e X.env) :: starEach [f] X.env := ns_of h5
      have ns2 : starEach [f] X.env = (false, eval f X.env) :: starEach [] X.env := ns_of h6
      have hp : (backTo q (starEach [f] X.env)).any (·.1) = false := by rw [ns2]; rfl
      cases o <;> simp only [b2N, Option.some.injEq, reduceCtorEq] at h1 <;> subst h1
      · exact fin rfl (d_cb2 (fun a => pe_callB (max2_of c.calm) g m (by decide +kernel) a (by decide) (by decide) ns hp) ha hb ns ns2 fun s x y a b Q so ra rb h => ⟨x, y, rfl, s, a, b, rfl, so, ra, rb, h⟩) (fun _ => rfl)
      · exact fin rfl (d_cb2 (fun a => pe_callB (min2_of c.calm) g m (by decide +kernel) a (by decide) (by decide) ns hp) ha hb ns ns2 fun s x y a b Q so ra rb h => ⟨x, y, rfl, s, a, b, rfl, so, ra, rb, h⟩) (fun _ => rfl)
    · cases h
  · split at h
    · rename_i b n ap e' cp hc
      simp only [Bool.and_eq_true, decide_eq_true_eq] at hc
      obtain ⟨⟨⟨h1, h2⟩, h3⟩, h4⟩ := hc
      cases h
      have ns : starEach [f] X.env = (false, eval f X.env) :: starEach [] X.env := ns_of h4
      have go : ∀ {name : Str}, MRule X name (mOk Γ o) (mRd Γ W o) → PE X (.Call (.Attribute e name ap) [f] [] cp) (tD Γ W fun ρ => M.bind (ga ρ) fun x => M.bind (recvM o x) fun _ => M.bind (gb ρ) fun y => doM2 o x y) ∧ PT X (.Call (.Attribute e name ap) [f] [] cp) (tDT Γ W fun ρ => M.bind (M.bind (ga ρ) fun x => M.bind (recvM o x) fun _ => M.bind (gb ρ) fun y => doM2 o x y) truth) := fun hm => by
        have := d_meth hm ha hb (base_of h2) h3 ns
        exact ⟨this, d_testV this⟩
      cases o <;> simp only [opM, Option.some.injEq, reduceCtorEq] at h1 <;> subst h1
      · exact go (m_join c.hK)
      · exact go (m_split c.hK)
      · exact go (m_index c.hK c.un)
      · exact go (m_count c.hK)
      · exact go m_append
    · cases h
  · cases h
end
end QS
end
section
set_option linter.all false
set_option maxRecDepth 100000
set_option autoImplicit false
/-! QS16: expressions: a checked text does what it is worth. -/
namespace QS
open PySem PySem.Spec PyProof.Rows L2 QL QC
section
variable (Γ : Inf) (T : Tab) (G : Gs) (k : Nat) (N : List Str)
def SE (e : E) : Prop := ∀ X sc, CxN Γ T G k N sc X → (∀ a, (c3 T N e).e sc a = true → PE X a (tD Γ WN (ev G e)) ∧ (isIte a = false → PT X a (tDT Γ WN (evT G e)))) ∧
  (∀ tg a, isKeys e = none → (c3 T N e).i sc tg a = true → PI X tg a (tDI Γ WN (prI e) (evI G e)))
def SEs (es : Es) : Prop := ∀ X sc, CxN Γ T G k N sc X → ∀ as, d3 T N es sc as = true → (allNS as = true → PA X as (tDA Γ WN (evs G es))) ∧ (as = [] ↔ es = .nil) ∧
  (as ≠ [] → noIte as = true → ∀ pos, (PE X (.BoolOp .And as pos) (tD Γ WN (evAnd G es)) ∧ PW X (.BoolOp .And as pos) (tDT Γ WN (evAndT G es))) ∧ (PE X (.BoolOp .Or as pos) (tD Γ WN (evOr G es)) ∧ PW X (.BoolOp .Or as pos) (tDT Γ WN (evOrT G es))))
end
section
variable {Γ : Inf} {T : Tab} {G : Gs} {k : Nat} {N : List Str}
def plainT : Expr → Bool
  | .BoolOp _ _ _ => false
  | .IfExp _ _ _ _ => false
  | .Compare _ _ _ _ => false
  | .UnaryOp .Not _ _ => false
  | _ => true
theorem plainT_of {a : Expr} {env : PySem.Env} (h : plainT a = true) : ∀ whole, isTrue a env whole = (do let v ← whole; standAt a.pos; holding [v] (truthy v)) := fun whole => by
  cases a with
  | UnaryOp op x p => cases op <;> first | rfl | cases h
  | BoolOp _ _ _ => cases h
  | IfExp _ _ _ _ => cases h
  | Compare _ _ _ _ => cases h
  | _ => rfl
theorem se_std {e : E} {f : Scope → Expr → Bool} (h3 : c3 T N e = ck f) (hb : ∀ ρ, evT G e ρ = M.bind (ev G e ρ) truth) (hi : ∀ ρ, evI G e ρ = M.bind (ev G e ρ) itemsOf) (hp : prI e = false)
    (H : ∀ X sc, CxN Γ T G k N sc X → ∀ a, f sc a = true → PE X a (tD Γ WN (ev G e)) ∧ (plainT a = true ∨ isIte a = true)) : SE Γ T G k N e := fun X sc c => by
  have eb : evT G e = fun ρ => M.bind (ev G e ρ) truth := funext hb
  have ei : evI G e = fun ρ => M.bind (ev G e ρ) itemsOf := funext hi
  rw [h3, eb, ei, hp]
  refine ⟨fun a h => ?_, fun tg a _ h => ?_⟩
  · obtain ⟨h1, h2⟩ := H X sc c a h
    exact ⟨h1, fun hn => d_tval h1 (plainT_of (h2.resolve_right (by rw [hn]; decide)))⟩
  · have h' : (f sc a && notSet a) = true := h
    simp only [Bool.and_eq_true] at h'
    exact d_iseq c.hK (H X sc c a h'.1).1
theorem se_var (i : Nat) : SE Γ T G k N (.var i) := se_std rfl (fun _ => rfl) (fun _ => rfl) rfl fun X sc c a h => by
  split at h
  · rename_i x p
    simp only [Bool.and_eq_true] at h
    obtain ⟨h1, h2, _⟩ := okN_of h.2
    exact ⟨d_var (by rw [c.hN]; exact nm_of h.1.1) (c.vis h.1.2) h1 h2, .inl rfl⟩
  · cases h
theorem eqC_of {d d' : D} (h : eqC d d' = true) : d = d' := by
  cases d <;> cases d' <;> first | (cases h; done) | skip
  · simp only [eqC, decide_eq_true_eq] at h; rw [h]
  · simp only [eqC, decide_eq_true_eq] at h; rw [h]
theorem se_glo (x : Str) (d : D) : SE Γ T G k N (.glo x d) := se_std rfl (fun _ => rfl) (fun _ => rfl) rfl fun X sc c a h => by
  split at h
  · rename_i y p
    simp only [Bool.and_eq_true, decide_eq_true_eq] at h
    obtain ⟨⟨⟨rfl, h2⟩, h3⟩, h4⟩ := h
    unfold gloC at h3
    split at h3
    · rename_i d' e
      have := eqC_of h3
      subst this
      obtain ⟨v, u, m, r, hr⟩ := c.glo _ _ e
      exact ⟨d_const (pe_glob (c.gl h2) m r (okN_of h4).1) hr, .inl rfl⟩
    · cases h3
  · cases h
theorem se_non : SE Γ T G k N .non := se_std rfl (fun _ => rfl) (fun _ => rfl) rfl fun X sc c a h => by
  split at h
  · exact ⟨d_const pe_non fun s => .non, .inl rfl⟩
  · cases h
theorem se_bl (b : Bool) : SE Γ T G k N (.bl b) := se_std rfl (fun _ => rfl) (fun _ => rfl) rfl fun X sc c a h => by
  split at h
  · have := beq_iff_eq.mp h
    subst this
    exact ⟨d_const pe_bl fun s => .bl _, .inl rfl⟩
  · cases h
theorem se_int (i : Int) : SE Γ T G k N (.int i) := se_std rfl (fun _ => rfl) (fun _ => rfl) rfl fun X sc c a h => by
  split at h
  · have := of_decide_eq_true h
    subst this
    exact ⟨d_const pe_int fun s => .int _, .inl rfl⟩
  · cases h
theorem se_str (x : Str) : SE Γ T G k N (.str x) := se_std rfl (fun _ => rfl) (fun _ => rfl) rfl fun X sc c a h => by
  split at h
  · have := of_decide_eq_true h
    subst this
    exact ⟨d_const pe_str fun s => .str _, .inl rfl⟩
  · cases h
theorem se_never : SE Γ T G k N .never := fun X sc c => ⟨fun a _ => ⟨d_neverE, fun _ => by
    refine (⟨fun pins s σ H Q I h => h.elim⟩ : PT X a (fun _ _ _ => False)).imp fun σ H Q h => ?_
    obtain ⟨ρ, s, rfl, ho, so, h⟩ := h
    exact h⟩, fun tg a _ _ => by
    refine (⟨fun pins s σ H Q I h => h.elim⟩ : PI X tg a (fun _ _ _ => False)).imp fun σ H Q h => ?_
    obtain ⟨ρ, s, rfl, ho, so, h⟩ := h
    exact h⟩
theorem se_o1 (o : O1) (b : E) (ih : SE Γ T G k N b) : SE Γ T G k N (.o1 o b) := fun X sc c => by
  obtain ⟨ihe, ihi⟩ := ih X sc c
  have hE : ∀ o a, (if o = .freeze then (isNm a && (c3 T N b).e sc a) else match v1 T sc o a with
      | some e => (c3 T N b).e sc e
      | none => false) = true → PE X a (tD Γ WN fun ρ => M.bind (ev G b ρ) (doM1 o)) ∧ PT X a (tDT Γ WN fun ρ => M.bind (M.bind (ev G b ρ) (doM1 o)) truth) := fun o a h => by
    by_cases ho : o = .freeze
    · subst ho
      rw [if_pos rfl] at h
      simp only [Bool.and_eq_true] at h
      have h1 := d_freeze (ihe a h.2).1
      refine ⟨h1, d_tval h1 (plainT_of ?_)⟩
      cases a <;> first | rfl | cases h.1
    · rw [if_neg ho] at h
      split at h
      · rename_i e he
        exact v1_ok c he (ihe e h).1
      · cases h
  refine ⟨fun a h => (hE o a h).imp id fun h _ => h, fun tg a hk h => ?_⟩
  have gen : ∀ o a, (notSet a && if o = .freeze then (isNm a && (c3 T N b).e sc a) else match v1 T sc o a with
      | some e => (c3 T N b).e sc e
      | none => false) = true → PI X tg a (tDI Γ WN false fun ρ => M.bind (M.bind (ev G b ρ) (doM1 o)) itemsOf) := fun o a h => by
    simp only [Bool.and_eq_true] at h
    exact d_iseq c.hK (hE o a h.2).1
  cases o
  case range =>
    have h' : (notSet a && (match (generalizing := false) a with
                     | .Call (.Name x _) [e] [] _ => decide (x = "range") && glb sc x && T.free x && notSt e && (c3 T N b).e sc e
                     | _ => false)) = true := h
    simp only [Bool.and_eq_true] at h'
    obtain ⟨_, h'⟩ := h'
    split at h'
    · simp only [Bool.and_eq_true, decide_eq_true_eq] at h'
      obtain ⟨⟨⟨⟨rfl, h2⟩, h3⟩, h4⟩, h5⟩ := h'
      exact d_range1 (c.gl h2) (c.free _ h3) (by rw [ns_of h4]; rfl) (ihe _ h5).1
    · cases h'
  case enum =>
    have h' : (notSet a && (match (generalizing := false) tg, a with
                     | .Tuple _ _ _, .Call (.Name x _) [e] [] _ => decide (x = "enumerate") && glb sc x && T.free x && notSt e && (c3 T N b).e sc e
                     | _, _ => false)) = true := h
    simp only [Bool.and_eq_true] at h'
    obtain ⟨_, h'⟩ := h'
    split at h'
    · simp only [Bool.and_eq_true, decide_eq_true_eq] at h'
      obtain ⟨⟨⟨⟨rfl, h2⟩, h3⟩, h4⟩, h5⟩ := h'
      exact d_ienum c.hK (c.gl h2) (c.free _ h3) (by rw [ns_of h4]; rfl) (ihe _ h5).1
    · cases h'
  case chars =>
    have h' : (notSet a && (c3 T N b).e sc a) = true := h
    simp only [Bool.and_eq_true] at h'
    exact d_ichars (ihe _ h'.2).1
  case keys =>
    have h' : (notSet a && false) = true := h
    simp at h'
  all_goals exact gen _ a h
theorem se_o2 (o : O2) (b d : E) (ih : SE Γ T G k N b) (ih2 : SE Γ T G k N d) : SE Γ T G k N (.o2 o b d) := fun X sc c => by
  obtain ⟨ihe, ihi⟩ := ih X sc c
  obtain ⟨ihe2, ihi2⟩ := ih2 X sc c
  have hE : ∀ o a, (match v2 T sc o a with
      | some (e, f) => (c3 T N b).e sc e && (c3 T N d).e sc f
      | none => false) = true → PE X a (tD Γ WN fun ρ => M.bind (ev G b ρ) fun x => M.bind (recvM o x) fun _ => M.bind (ev G d ρ) fun y => doM2 o x y) ∧ PT X a (tDT Γ WN fun ρ => M.bind (M.bind (ev G b ρ) fun x => M.bind (recvM o x) fun _ => M.bind (ev G d ρ) fun y => doM2 o x y) truth) := fun o a h => by
    split at h
    · rename_i e f he
      simp only [Bool.and_eq_true] at h
      exact v2_ok c he (ihe _ h.1).1 (ihe2 _ h.2).1
    · cases h
  refine ⟨fun a h => (hE o a h).imp id fun h _ => h, fun tg a hk h => ?_⟩
  have gen : ∀ o a, (notSet a && match v2 T sc o a with
      | some (e, f) => (c3 T N b).e sc e && (c3 T N d).e sc f
      | none => false) = true → PI X tg a (tDI Γ WN false fun ρ => M.bind (M.bind (ev G b ρ) fun x => M.bind (recvM o x) fun _ => M.bind (ev G d ρ) fun y => doM2 o x y) itemsOf) := fun o a h => by
    simp only [Bool.and_eq_true] at h
    exact d_iseq c.hK (hE o a h.2).1
  cases o
  case range2 =>
    have h' : (notSet a && (match (generalizing := false) a with
                       | .Call (.Name x _) [e, f] [] _ => decide (x = "range") && glb sc x && T.free x && notSt e && notSt f && (c3 T N b).e sc e && (c3 T N d).e sc f
                       | _ => false)) = true := h
    simp only [Bool.and_eq_true] at h'
    obtain ⟨_, h'⟩ := h'
    split at h'
    · simp only [Bool.and_eq_true, decide_eq_true_eq] at h'
      obtain ⟨⟨⟨⟨⟨⟨rfl, h2⟩, h3⟩, h4⟩, h5⟩, h6⟩, h7⟩ := h'
      exact d_range2 (c.gl h2) (c.free _ h3) (by rw [ns_of h4, ns_of h5]; rfl) (by rw [ns_of h5]; rfl) (ihe _ h6).1 (ihe2 _ h7).1
    · cases h'
  case zip =>
    have h' : (notSet a && (match (generalizing := false) tg, a with
                       | .Tuple _ _ _, .Call (.Name x _) [e, f] [] _ => decide (x = "zip") && glb sc x && T.free x && notSt e && notSt f && (c3 T N b).e sc e && (c3 T N d).e sc f
                       | _, _ => false)) = true := h
    simp only [Bool.and_eq_true] at h'
    obtain ⟨_, h'⟩ := h'
    split at h'
    · simp only [Bool.and_eq_true, decide_eq_true_eq] at h'
      obtain ⟨⟨⟨⟨⟨⟨rfl, h2⟩, h3⟩, h4⟩, h5⟩, h6⟩, h7⟩ := h'
      exact d_izip c.hK (c.gl h2) (c.free _ h3) (ns_of h4) (ns_of h5) (by rw [ns_of h5]; rfl) (ihe _ h6).1 (ihe2 _ h7).1
    · cases h'
  all_goals exact gen _ a h
/-! ### lists of expressions -/
theorem ses_nil : SEs Γ T G k N .nil := fun X sc c as h => by
  cases as with
  | nil => exact ⟨fun _ => d_anil, ⟨fun _ => rfl, fun _ => rfl⟩, fun h => absurd rfl h⟩
  | cons _ _ => cases h
theorem ses_cons (e : E) (r : Es) (ih : SE Γ T G k N e) (ihr : SEs Γ T G k N r) : SEs Γ T G k N (.cons e r) := fun X sc c as h => by
  cases as with
  | nil => cases h
  | cons a l =>
    have h' : ((c3 T N e).e sc a && d3 T N r sc l) = true := h
    simp only [Bool.and_eq_true] at h'
    obtain ⟨he, ht⟩ := (ih X sc c).1 a h'.1
    obtain ⟨hr, hnil, hbo⟩ := ihr X sc c l h'.2
    refine ⟨fun hn => ?_, ⟨(fun z => nomatch z), (fun z => nomatch z)⟩, fun _ hi pos => ?_⟩
    · unfold allNS at hn
      simp only [List.all_cons, Bool.and_eq_true] at hn
      exact d_acons he (hr hn.2) (ns_of hn.1)
    · unfold noIte at hi
      simp only [List.all_cons, Bool.and_eq_true, Bool.not_eq_true'] at hi
      have ht := ht hi.1
      cases l with
      | nil =>
        have : r = .nil := hnil.mp rfl
        subst this
        exact ⟨⟨pe_one he, pw_and1 ht⟩, ⟨pe_one he, pw_or1 ht⟩⟩
      | cons b l =>
        cases r with
        | nil => exact absurd (hnil.mpr rfl) (fun z => nomatch z)
        | cons y r =>
          obtain ⟨⟨h1, h2⟩, h3, h4⟩ := hbo (fun z => nomatch z) hi.2 pos
          exact ⟨⟨d_and he h1, d_tand ht h2⟩, ⟨d_or he h3, d_tor ht h4⟩⟩
theorem se_and (es : Es) (ih : SEs Γ T G k N es) : SE Γ T G k N (.and es) := fun X sc c => by
  have hE : ∀ a, (c3 T N (.and es)).e sc a = true → PE X a (tD Γ WN (ev G (.and es))) ∧ (isIte a = false → PT X a (tDT Γ WN (evT G (.and es)))) := fun a h => by
    have h' : (match (generalizing := false) a with
      | .BoolOp .And vs _ => noIte vs && d3 T N es sc vs
      | _ => false) = true := h
    split at h'
    · rename_i vs p
      simp only [Bool.and_eq_true] at h'
      obtain ⟨_, hn, hb⟩ := ih X sc c vs h'.2
      cases vs with
      | nil =>
        have := hn.mp rfl
        subst this
        refine ⟨d_neverE, fun _ => ?_⟩
        refine (⟨fun pins s σ H Q I h => h.elim⟩ : PT X _ (fun _ _ _ => False)).imp fun σ H Q h => ?_
        obtain ⟨ρ, s, rfl, ho, so, h⟩ := h
        exact h
      | cons v vs =>
        obtain ⟨⟨h1, h2⟩, _⟩ := hb (fun z => nomatch z) h'.1 p
        exact ⟨h1, fun _ => h2.pt⟩
    · cases h'
  exact ⟨hE, fun tg a _ h => by
    have h' : ((c3 T N (.and es)).e sc a && notSet a) = true := h
    simp only [Bool.and_eq_true] at h'
    exact d_iseq c.hK (hE a h'.1).1⟩
theorem se_or (es : Es) (ih : SEs Γ T G k N es) : SE Γ T G k N (.or es) := fun X sc c => by
  have hE : ∀ a, (c3 T N (.or es)).e sc a = true → PE X a (tD Γ WN (ev G (.or es))) ∧ (isIte a = false → PT X a (tDT Γ WN (evT G (.or es)))) := fun a h => by
    have h' : (match (generalizing := false) a with
      | .BoolOp .Or vs _ => noIte vs && d3 T N es sc vs
      | _ => false) = true := h
    split at h'
    · rename_i vs p
      simp only [Bool.and_eq_true] at h'
      obtain ⟨_, hn, hb⟩ := ih X sc c vs h'.2
      cases vs with
      | nil =>
        have := hn.mp rfl
        subst this
        refine ⟨d_neverE, fun _ => ?_⟩
        refine (⟨fun pins s σ H Q I h => h.elim⟩ : PT X _ (fun _ _ _ => False)).imp fun σ H Q h => ?_
        obtain ⟨ρ, s, rfl, ho, so, h⟩ := h
        exact h
      | cons v vs =>
        obtain ⟨_, h1, h2⟩ := hb (fun z => nomatch z) h'.1 p
        exact ⟨h1, fun _ => h2.pt⟩
    · cases h'
  exact ⟨hE, fun tg a _ h => by
    have h' : ((c3 T N (.or es)).e sc a && notSet a) = true := h
    simp only [Bool.and_eq_true] at h'
    exact d_iseq c.hK (hE a h'.1).1⟩
theorem se_not (b : E) (ih : SE Γ T G k N b) : SE Γ T G k N (.not b) := fun X sc c => by
  have hE : ∀ a, (c3 T N (.not b)).e sc a = true → PE X a (tD Γ WN (ev G (.not b))) ∧ (isIte a = false → PT X a (tDT Γ WN (evT G (.not b)))) := fun a h => by
    have h' : (match (generalizing := false) a with
      | .UnaryOp .Not x _ => (c3 T N b).t sc x
      | _ => false) = true := h
    split at h'
    · rename_i x p
      unfold Ck.t at h'
      simp only [Bool.and_eq_true, Bool.not_eq_true'] at h'
      obtain ⟨h1, h2⟩ := (ih X sc c).1 x h'.1
      exact ⟨d_not h1, fun _ => d_tnot (h2 h'.2)⟩
    · cases h'
  exact ⟨hE, fun tg a _ h => by
    have h' : ((c3 T N (.not b)).e sc a && notSet a) = true := h
    simp only [Bool.and_eq_true] at h'
    exact d_iseq c.hK (hE a h'.1).1⟩
theorem se_ite (t b d : E) (iht : SE Γ T G k N t) (ihb : SE Γ T G k N b) (ihd : SE Γ T G k N d) : SE Γ T G k N (.ite t b d) := se_std rfl (fun _ => rfl) (fun _ => rfl) rfl fun X sc c a h => by
  split at h
  · rename_i x y z p
    unfold Ck.t at h
    simp only [Bool.and_eq_true, Bool.not_eq_true'] at h
    obtain ⟨⟨⟨h1, h2⟩, h3⟩, h4⟩ := h
    exact ⟨d_ite (((iht X sc c).1 x h1).2 h2) ((ihb X sc c).1 y h3).1 ((ihd X sc c).1 z h4).1, .inr rfl⟩
  · cases h
theorem se_tup (es : Es) (ih : SEs Γ T G k N es) : SE Γ T G k N (.tup es) := se_std rfl (fun _ => rfl) (fun _ => rfl) rfl fun X sc c a h => by
  split at h
  · rename_i xs kk p
    simp only [Bool.and_eq_true] at h
    exact ⟨d_tup ((ih X sc c xs h.2).1 h.1), .inl rfl⟩
  · cases h
theorem se_lst (es : Es) (ih : SEs Γ T G k N es) : SE Γ T G k N (.lst es) := se_std rfl (fun _ => rfl) (fun _ => rfl) rfl fun X sc c a h => by
  split at h
  · rename_i xs p
    simp only [Bool.and_eq_true] at h
    exact ⟨d_lst ((ih X sc c xs h.2).1 h.1), .inl rfl⟩
  · cases h
theorem se_call (f : Nat) (es : Es) (ih : SEs Γ T G k N es) : SE Γ T G k N (.call f es) := se_std rfl (fun _ => rfl) (fun _ => rfl) rfl fun X sc c a h => by
  split at h
  · rename_i x p xs q
    simp only [Bool.and_eq_true] at h
    obtain ⟨⟨⟨⟨h1, h2⟩, h3⟩, h4⟩, h5⟩ := h
    split at h1
    · rename_i pr e
      obtain ⟨f', n⟩ := pr
      have := of_decide_eq_true h1
      simp only at this
      subst this
      obtain ⟨a, fd, ps, F, m, kp, b, hl⟩ := c.fn _ _ _ e
      obtain ⟨ha, hn, _⟩ := ih X sc c xs h5
      refine ⟨d_callN F c.rm (c.gl h2) m kp b c.pass hl (ha h4) (okN_of h3).1 hn.mp fun e r z => ?_, .inl rfl⟩
      subst z
      unfold allNS at h4
      simp only [List.all_cons, Bool.and_eq_true] at h4
      exact ⟨ns_of h4.1, nss_any h4.2⟩
    · cases h1
  · cases h
theorem se_make (cc f : Nat) (es : Es) (ih : SEs Γ T G k N es) : SE Γ T G k N (.make cc f es) := se_std rfl (fun _ => rfl) (fun _ => rfl) rfl fun X sc c a h => by
  split at h
  · rename_i x p e xs q
    simp only [Bool.and_eq_true] at h
    obtain ⟨⟨⟨⟨h1, h2⟩, h3⟩, h4⟩, h5⟩ := h
    split at h1
    · rename_i pr e
      obtain ⟨c', f', n⟩ := pr
      simp only [Bool.and_eq_true, decide_eq_true_eq] at h1
      obtain ⟨rfl, rfl⟩ := h1
      obtain ⟨a, fd, ps, M', F, m, b, hl⟩ := c.cls _ _ _ _ e
      obtain ⟨ha, hn, _⟩ := ih X sc c _ h5
      have h4' := h4
      unfold allNS at h4'
      simp only [List.all_cons, Bool.and_eq_true] at h4'
      exact ⟨d_make M' F c.room (c.gl h2) m b c.pass hl (ha h4) (okN_of h3).1 ⟨ns_of h4'.1, nss_any h4'.2⟩, .inl rfl⟩
    · cases h1
  · cases h
theorem se_attr (cc j : Nat) (b : E) (ih : SE Γ T G k N b) : SE Γ T G k N (.attr cc j b) := se_std rfl (fun _ => rfl) (fun _ => rfl) rfl fun X sc c a h => by
  split at h
  · rename_i x f p
    simp only [Bool.and_eq_true, decide_eq_true_eq] at h
    obtain ⟨⟨h1, h2⟩, h3⟩ := h
    obtain ⟨hi, hc, ha⟩ := c.att _ _ _ h1
    have hx := ((ih X sc c).1 x h3).1
    refine ⟨?_, .inl rfl⟩
    rcases ha with ⟨hn, hf⟩ | ⟨q, ga, fd, ps, hp, F, hb⟩
    · exact d_attr hx (base_of h2) hc hn hf hi
    · exact d_prop hx (base_of h2) hc hp F c.room hb (E := WN) (fun _ _ _ _ _ _ _ h => h.elim) hi
  · cases h
theorem tyS_of {t : Ty} {y : Str} (h : tyS t = some y) : bootBuiltins y = some (.type (tyN t)) ∧ (∀ k, t ≠ .cls k) ∧ y ≠ "__name__" ∧ (y == ("__debug__" : Str)) = false := by
  cases t <;> simp only [tyS, Option.some.injEq, reduceCtorEq] at h <;> subst h
  · exact ⟨by decide +kernel, fun k z => (by cases z), by decide, by decide⟩
  · exact ⟨by decide +kernel, fun k z => (by cases z), by decide, by decide⟩
  · exact ⟨by decide +kernel, fun k z => (by cases z), by decide, by decide⟩
  · exact ⟨by decide +kernel, fun k z => (by cases z), by decide, by decide⟩
theorem se_isi (t : Ty) (b : E) (ih : SE Γ T G k N b) : SE Γ T G k N (.isi t b) := se_std rfl (fun _ => rfl) (fun _ => rfl) rfl fun X sc c a h => by
  split at h
  · rename_i x p e y p2 q
    simp only [Bool.and_eq_true, decide_eq_true_eq] at h
    obtain ⟨⟨⟨⟨⟨⟨⟨rfl, h2⟩, h3⟩, h4⟩, h5⟩, h6⟩, h7⟩, h8⟩ := h
    obtain ⟨t1, t2, t3, t4⟩ := tyS_of h4
    have he := ((ih X sc c).1 e h8).1
    have ns : starEach [e, .Name y p2] X.env = (false, eval e X.env) :: starEach [.Name y p2] X.env := ns_of h7
    refine ⟨?_, .inl rfl⟩
    have cr : CallR X (.builtin "isinstance") (fun xs H Q => ∃ s a x b, xs = [x, .ty (tyN t)] ∧ s.H = H ∧ StOk Γ s ∧ RV Γ s x a ∧ isiO t a = some b ∧ Q (.bl b) s.H) := fun pins st σ H xs us Q I r h => by
      obtain ⟨s, a, x, b, rfl, rfl, so, ra, eb, q⟩ := h
      exact isi_of c.hK t2 I r so ra eb q
    refine (pe_callB cr (c.gl h2) (c.free _ h3) (by decide +kernel) (pa_cons he (pa_cons (pe_bltn (c.gl h5) (c.free _ h6) t1 (show RelV (.ty (tyN t)) (.type (tyN t)) from rfl) t3 t4) pa_nil rfl) ns) (by decide) (by decide) ns rfl).imp fun σ H Q h => ?_
    obtain ⟨ρ, s, rfl, ho, so, h⟩ := h
    have h : Rs Γ WN s (M.bind (ev G b ρ) (fun x => M.bind (ofO (isiO t x)) fun b => M.pure (D.bl b)) s.μ) _ := h
    refine ⟨ρ, s, rfl, ho, so, h.bindM.imp fun a s1 l1 o1 h1 v rv => ?_⟩
    obtain ⟨d, e, h2⟩ := h1.bindM.ofO o1
    exact ⟨s1, a, v, d, rfl, rfl, o1, rv, e, h2.pure o1 _ (.bl _)⟩
  · cases h
theorem se_chain (o p : O2) (a b d : E) (iha : SE Γ T G k N a) (ihb : SE Γ T G k N b) (ihd : SE Γ T G k N d) : SE Γ T G k N (.chain o p a b d) := fun X sc c => by
  have hE : ∀ x, (c3 T N (.chain o p a b d)).e sc x = true → PE X x (tD Γ WN (ev G (.chain o p a b d))) ∧ (isIte x = false → PT X x (tDT Γ WN (evT G (.chain o p a b d)))) := fun x h => by
    have h' : (match (generalizing := false) x with
      | .Compare x [op, op'] [y, z] _ => decide (opC op = some o) && decide (opC op' = some p) && !lastMarks [op, op'] [y, z] && (c3 T N a).e sc x && (c3 T N b).e sc y && (c3 T N d).e sc z
      | _ => false) = true := h
    split at h'
    · simp only [Bool.and_eq_true, decide_eq_true_eq, Bool.not_eq_true'] at h'
      obtain ⟨⟨⟨⟨⟨h1, h2⟩, h3⟩, h4⟩, h5⟩, h6⟩ := h'
      obtain ⟨r1, r2⟩ := d_chain (opC_of (W := WN) c h1).2 (opC_of (W := WN) c h2).2 (opC_of c h1).1 (opC_of c h2).1 ((iha X sc c).1 _ h4).1 ((ihb X sc c).1 _ h5).1 ((ihd X sc c).1 _ h6).1 h3
      exact ⟨r1, fun _ => r2⟩
    · cases h'
  exact ⟨hE, fun tg x _ h => by
    have h' : ((c3 T N (.chain o p a b d)).e sc x && notSet x) = true := h
    simp only [Bool.and_eq_true] at h'
    exact d_iseq c.hK (hE x h'.1).1⟩
end
end QS
end
section
set_option linter.all false
set_option maxRecDepth 100000
set_option autoImplicit false
/-! QS17: comprehensions; all expressions. -/
namespace QS
open PySem PySem.Spec PyProof.Rows L2 QL QC
section
variable {Γ : Inf} {T : Tab} {G : Gs} {k : Nat} {N : List Str}
theorem M.bind_assoc {α β γ : Type} (x : M α) (f : α → M β) (g : β → M γ) : M.bind (M.bind x f) g = M.bind x fun a => M.bind (f a) g := by
  funext m
  unfold M.bind
  cases x m <;> rfl
theorem fold_of {e : Expr} (h : notSet e = true) : ∀ env x, foldedSetIterable e env x = pure x := fun env x => by
  cases e with
  | Set _ _ _ => cases h
  | _ => rfl
theorem own_ix (vs : List Nat) : (ownOf N vs).map (·.2) = vs := by
  unfold QC.ownOf
  rw [List.map_map]
  exact List.map_id' vs
theorem blk_of {sc scope : Scope} {own : List (Str × Nat)} (h : QC.blkC N sc scope own = true) : BlkOk N sc scope own ∧ scope.kind = .function :=
  let b := blkOk_by (show L2.blkC N sc scope own = true from h)
  ⟨b, b.kind⟩
/-! ### targets -/
def gOf (K : PySem.W.Frag) : List Nat → TG
  | [i] => gName i
  | is => gTL K is.length (gNames is)
theorem asg_len {ok : Str → Bool} {env : PySem.Env} : ∀ {is : List Nat} {ts : List Expr}, nmsC N ok is ts = true → (assignEach ts env).length = is.length ∧ (assignEach ts env).findIdx? (·.1) = none
  | [], [], _ => ⟨rfl, rfl⟩
  | [], _ :: _, h => by cases h
  | i :: is, [], h => by cases h
  | i :: is, t :: ts, h => by
    cases t <;> first | (cases h; done) | skip
    simp only [nmsC, Bool.and_eq_true] at h
    obtain ⟨h1, h2⟩ := asg_len (env := env) h.2
    refine ⟨by show (assignEach ts env).length + 1 = is.length + 1; rw [h1], ?_⟩
    show List.findIdx? (·.1) ((false, _) :: assignEach ts env) = none
    rw [List.findIdx?_cons, h2]
    rfl
theorem pgs_of {X : Cx} {ok : Str → Bool} (hN : X.N = N) (nd : N.Nodup) (ho : ∀ x, ok x = true → Loc X.env.scope x ∧ (X.fn x = true ∨ X.env.scope.names.lookup x = some .local)) : ∀ {is : List Nat} {ts : List Expr}, nmsC N ok is ts = true → PGs X ts (gNames is)
  | [], [], _ => pgs_nil
  | [], _ :: _, h => by cases h
  | i :: is, [], h => by cases h
  | i :: is, t :: ts, h => by
    cases t <;> first | (cases h; done) | skip
    simp only [nmsC, Bool.and_eq_true] at h
    obtain ⟨hl, hf⟩ := ho _ h.1.2
    exact pgs_cons (pg_name (hN ▸ nd) (by rw [hN]; exact nm_of h.1.1) hl hf) (pgs_of hN nd ho h.2)
theorem pg_of {X : Cx} {ok : Str → Bool} {tg : List Nat} {t : Expr} (hN : X.N = N) (nd : N.Nodup) (hc : X.calm = true) (ho : ∀ x, ok x = true → Loc X.env.scope x ∧ (X.fn x = true ∨ X.env.scope.names.lookup x = some .local)) (h : tgC N ok tg t = true) : PG X t (gOf X.K tg) := by
  unfold tgC at h
  split at h
  · simp only [Bool.and_eq_true] at h
    obtain ⟨hl, hf⟩ := ho _ h.2
    exact pg_name (hN ▸ nd) (by rw [hN]; exact nm_of h.1) hl hf
  · obtain ⟨h1, h2⟩ := asg_len (env := X.env) h
    exact pg_TL hc (pgs_of hN nd ho h) h1 h2
  · cases h
theorem gok_of {X : Cx} {ok : Str → Bool} {tg : List Nat} {t : Expr} {pr : Bool} (hK : X.K = Γ.K) (h : tgC N ok tg t = true) (hp : pr = true → isTup t = true) : GOk Γ pr tg (gOf X.K tg) := by
  unfold tgC at h
  split at h
  · cases pr with
    | true => exact absurd (hp rfl) (by simp [isTup])
    | false => exact g_name _
  · exact g_tup hK _ (by simp) _
  · cases h
theorem okB_of {X : Cx} {sc scope : Scope} {s : Shared} {H : Hp} {C : Addr} {cl : List (Str × Addr)} {fp : List Addr} (c : CxN Γ T G k N sc X) {x : Str} (h : okB scope (QC.relS scope sc) x = true) :
    Loc (X.blk s H scope (compEnvC scope cl C X.env) fp).env.scope x ∧ ((X.blk s H scope (compEnvC scope cl C X.env) fp).fn x = true ∨ (X.blk s H scope (compEnvC scope cl C X.env) fp).env.scope.names.lookup x = some .local) := by
  have es : (X.blk s H scope (compEnvC scope cl C X.env) fp).env.scope = QC.relS scope sc := by
    show relabel scope X.env = QC.relS scope sc
    rw [← c.hsc]
    rfl
  unfold okB at h
  simp only [Bool.or_eq_true, Bool.and_eq_true] at h
  rcases h with h | ⟨h1, h2⟩
  · have := lcl_of h
    exact ⟨.inl (by rw [es]; exact this), .inr (by rw [es]; exact this)⟩
  · have := cel_of h2
    refine ⟨.inr (by rw [es]; exact this), .inl ?_⟩
    show (scope.names.lookup x == some .cell) = true
    rw [cel_of h1]
    rfl
/-! ### tests -/
def ttOf (Γ : Inf) (G : Gs) (ifs : List Expr) (c : E) : TT := match ifs with
  | [] => tYes
  | _ => tDT Γ WN (evT G c)
theorem pts_of {X : Cx} {sc : Scope} {c : E} {ifs : List Expr} (hc : CxN Γ T G k N sc X) (ih : SE Γ T G k N c) (h : ifC c (c3 T N c) sc ifs = true) : PTs X ifs (ttOf Γ G ifs c) := by
  unfold ifC at h
  split at h
  · exact pts_nil
  · unfold Ck.t at h
    simp only [Bool.and_eq_true, Bool.not_eq_true'] at h
    exact pts_one (((ih X sc hc).1 _ h.1).2 h.2)
  · cases h
theorem tok_of' {sc : Scope} {c : E} {ck : Ck} {ifs : List Expr} (h : ifC c ck sc ifs = true) : TOk Γ (ttOf Γ G ifs c) (evT G c) := by
  unfold ifC at h
  split at h
  · split at h
    · exact tok_yes G
    · cases h
  · exact tok_of
  · cases h
theorem pr_tup {it : E} {sc : Scope} {t a : Expr} (h : (c3 T N it).i sc t a = true) (hp : prI it = true) : isTup t = true := by
  unfold prI at hp
  split at hp
  · have h' : (notSet a && (match (generalizing := false) t, a with
                     | .Tuple _ _ _, .Call (.Name x _) [e] [] _ => decide (x = "enumerate") && glb sc x && T.free x && notSt e && (c3 T N _).e sc e
                     | _, _ => false)) = true := h
    simp only [Bool.and_eq_true] at h'
    obtain ⟨_, h'⟩ := h'
    split at h'
    · rfl
    · cases h'
  · have h' : (notSet a && (match (generalizing := false) t, a with
                       | .Tuple _ _ _, .Call (.Name x _) [e, f] [] _ => decide (x = "zip") && glb sc x && T.free x && notSt e && notSt f && (c3 T N _).e sc e && (c3 T N _).e sc f
                       | _, _ => false)) = true := h
    simp only [Bool.and_eq_true] at h'
    obtain ⟨_, h'⟩ := h'
    split at h'
    · rfl
    · cases h'
  · cases hp
theorem sub_of {l m : List Nat} (h : subN l m = true) : ∀ i ∈ l, i ∈ m := fun i hi => by
  unfold subN at h
  simpa using List.all_eq_true.mp h i hi
/-! ### list comprehensions -/
theorem comp_rd {X : Cx} {sc scope : Scope} {vs tg : List Nat} {it c elt : E} {x t iter : Expr} {ifs : List Expr} {pos : Pos} {F : List D → M D} (hF : EndOk Γ F) (hc : CxN Γ T G k N sc X) (ihi : SE Γ T G k N it) (ihc : SE Γ T G k N c) (ihe : SE Γ T G k N elt)
    (h : (QC.blkC N sc scope (ownOf N vs) && subN tg vs && tgC N (okB scope (QC.relS scope sc)) tg t && itC N it (c3 T N it) sc t iter && notSet iter && ifC c (c3 T N c) (QC.relS scope sc) ifs && (c3 T N elt).e (QC.relS scope sc) x) = true) :
    (isKeys it = none → ∃ te, PE X (.ListComp x [⟨t, iter, ifs, 0⟩] scope pos) te ∧ (∀ (i : Nat) (y : Str) (py spos : Pos), X.N[i]? = some y → X.env.scope.names.lookup y = some .local → swapsWith (.ListComp x [⟨t, iter, ifs, 0⟩] scope pos) (some (.Name y py)) spos.line X.env = pure true →
        PS X (.Assign [.Name y py] (.ListComp x [⟨t, iter, ifs, 0⟩] scope pos) spos) (tAsg te (gName i))) ∧
      ∀ σ H Q, tD Γ WN (fun ρ => M.bind (evI G it ρ) fun l => M.bind (lim l) fun _ => M.bind (nox (compL (compF tg vs (evT G c) (ev G elt) ρ) l)) F) σ H Q → te σ H Q) ∧
    (∀ i, isKeys it = some i → PE X (.ListComp x [⟨t, iter, ifs, 0⟩] scope pos) (tDP Γ WN (FrzAt i) (fun ρ => M.bind (evI G it ρ) fun l => M.bind (lim l) fun _ => M.bind (nox (compL (compF tg vs (evT G c) (ev G elt) ρ) l)) F))) := by
  simp only [Bool.and_eq_true] at h
  obtain ⟨⟨⟨⟨⟨⟨h1, h2⟩, h3⟩, h4⟩, h5⟩, h6⟩, h7⟩ := h
  obtain ⟨bk, hk⟩ := blk_of h1
  have bk' : BlkOk X.N X.env.scope scope (ownOf N vs) := by rw [hc.hN, hc.hsc]; exact bk
  have hsub : ∀ i ∈ tg, i ∈ (ownOf N vs).map (·.2) := by rw [own_ix]; exact sub_of h2
  have hg : ∀ (s : Shared) (H : Hp) (C : Addr) (cl : List (Str × Addr)) (fp : List Addr), PG (X.blk s H scope (compEnvC scope cl C X.env) fp) t (gOf X.K tg) := fun s H C cl fp => pg_of (X := X.blk s H scope (compEnvC scope cl C X.env) fp) hc.hN hc.nd hc.calm (fun x hx => okB_of hc hx) h3
  have ht : ∀ (s : Shared) (H : Hp) (C : Addr) (cl : List (Str × Addr)) (fp : List Addr), PTs (X.blk s H scope (compEnvC scope cl C X.env) fp) ifs (ttOf Γ G ifs c) := fun s H C cl fp => pts_of (hc.blk hk) ihc h6
  have he : ∀ (s : Shared) (H : Hp) (C : Addr) (cl : List (Str × Addr)) (fp : List Addr), PE (X.blk s H scope (compEnvC scope cl C X.env) fp) x (tD Γ WN (ev G elt)) := fun s H C cl fp => ((ihe _ _ (hc.blk hk)).1 x h7).1
  have hs := fold_of h5 X.env
  have nd : X.N.Nodup := hc.hN ▸ hc.nd
  refine ⟨fun hkn => ?_, fun i hki => ?_⟩
  · have h4' : (c3 T N it).i sc t iter = true := by unfold itC at h4; rw [hkn] at h4; exact h4
    have hi := (ihi X sc hc).2 t iter hkn h4'
    have gk := gok_of (Γ := Γ) (pr := prI it) hc.hK h3 (pr_tup h4')
    refine ⟨_, pe_lc hc.calm nd hi bk' hg ht he hs, fun i y py spos hy hyl hsw => ps_setLc hc.calm nd hy hyl hsw hi bk' hg ht he hs, fun σ H Q h => ?_⟩
    rw [own_ix] at hsub ⊢
    exact lc_law hF wok_of gk hsub (tok_of' h6) (tdp_of h)
  · have h4' : keyC N sc i iter = true := by unfold itC at h4; rw [hki] at h4; exact h4
    have e : it = .o1 .keys (.var i) := by
      unfold isKeys at hki
      split at hki
      · cases hki; rfl
      · cases hki
    subst e
    unfold keyC at h4'
    split at h4'
    · rename_i y p
      simp only [Bool.and_eq_true] at h4'
      obtain ⟨o1, o2, _⟩ := okN_of h4'.2
      have hi := pi_keys (tg := t) (pe_var (pos := p) (by rw [hc.hN]; exact nm_of h4'.1.1) (hc.vis h4'.1.2) o1 o2)
      have gk := gok_of (Γ := Γ) (pr := false) hc.hK h3 (fun z => nomatch z)
      refine (pe_lc hc.calm nd hi bk' hg ht he hs).imp fun σ H Q h => ?_
      rw [own_ix] at hsub ⊢
      exact lc_law hF wok_keys gk hsub (tok_of' h6) h
    · cases h4'
theorem NoEx.bind {α β : Type} {x : M α} {f : α → M β} {m : Mem} (hx : NoEx (x m)) (hf : ∀ a m, NoEx (f a m)) : NoEx (M.bind x f m) := fun c y m' h => by
  unfold M.bind at h
  cases e : x m with
  | ok a m1 => rw [e] at h; exact hf a m1 c y m' h
  | ex c' y' m1 => exact hx c' y' m1 e
  | bad => rw [e] at h; cases h
theorem noex_pure {α : Type} (a : α) (m : Mem) : NoEx (M.pure a m) := fun _ _ _ h => nomatch h
theorem noex_bad {α : Type} (m : Mem) : NoEx ((M.bad : M α) m) := fun _ _ _ h => nomatch h
theorem noex_getM (ρ : QL.Env) (i : Nat) (m : Mem) : NoEx (getM ρ i m) := by
  cases e : ρ[i]? with
  | none => simp only [getM, e]; exact noex_bad _
  | some o =>
    cases o with
    | none => simp only [getM, e]; exact noex_bad _
    | some d => simp only [getM, e]; exact noex_pure _ _
theorem noex_keysM (d : D) (m : Mem) : NoEx (keysM d m) := by
  unfold keysM
  split
  · exact noex_pure _ _
  · exact noex_bad _
theorem noex_lim (l : List D) (m : Mem) : NoEx (lim l m) := by
  unfold lim
  split
  · exact noex_pure _ _
  · exact noex_bad _
theorem keys_noex {α β : Type} {ρ : QL.Env} {i : Nat} {m : Mem} {z : List D → M α} {F : α → M β} (hF : ∀ a m, NoEx (F a m)) : NoEx (M.bind (M.bind (getM ρ i) keysM) (fun l => M.bind (lim l) fun _ => M.bind (nox (z l)) F) m) :=
  .bind (.bind (noex_getM ρ i m) noex_keysM) fun l m => .bind (noex_lim l m) fun _ m => .bind (nox_ex _ m) hF
theorem se_comp (vs tg : List Nat) (it c elt : E) (ihi : SE Γ T G k N it) (ihc : SE Γ T G k N c) (ihe : SE Γ T G k N elt) : SE Γ T G k N (.comp vs tg it c elt) := se_std rfl (fun _ => rfl) (fun _ => rfl) rfl fun X sc hc a h => by
  split at h
  · rename_i x t iter ifs scope p
    obtain ⟨h1, h2⟩ := comp_rd (pos := p) end_pure hc ihi ihc ihe h
    refine ⟨?_, .inl rfl⟩
    cases hk : isKeys it with
    | none =>
      obtain ⟨te, h3, _, h4⟩ := h1 hk
      exact h3.imp fun σ H Q h => h4 σ H Q h
    | some i =>
      have e : it = .o1 .keys (.var i) := by
        unfold isKeys at hk
        split at hk
        · cases hk; rfl
        · cases hk
      subst e
      exact d_lock (h2 i hk) (fun ρ m h => key_bad h) fun ρ m => keys_noex fun a m => noex_pure _ _
  · cases h
theorem se_comp2 (vs tg vs2 tg2 : List Nat) (it it2 c elt : E) (ihi : SE Γ T G k N it) (ihi2 : SE Γ T G k N it2) (ihc : SE Γ T G k N c) (ihe : SE Γ T G k N elt) : SE Γ T G k N (.comp2 vs tg it vs2 tg2 it2 c elt) := se_std rfl (fun _ => rfl) (fun _ => rfl) rfl fun X sc hc a h => by
  split at h
  · rename_i x t iter ifs t2 iter2 ifs2 scope p
    simp only [Bool.and_eq_true] at h
    obtain ⟨⟨⟨⟨⟨⟨⟨⟨⟨⟨⟨⟨⟨⟨h1, h2⟩, h3⟩, h4⟩, h5⟩, h6⟩, h7⟩, h8⟩, h9⟩, h10⟩, h11⟩, h12⟩, h13⟩, h14⟩, h15⟩ := h
    have hkn : isKeys it = none := by simpa using h8
    have hkn2 : isKeys it2 = none := by simpa using h9
    have hif : ifs = [] := by simpa using h7
    subst hif
    obtain ⟨bk, hk⟩ := blk_of h1
    have bk' : BlkOk X.N X.env.scope scope (QC.ownOf N vs) := by rw [hc.hN, hc.hsc]; exact bk
    have hsub : ∀ i ∈ tg, i ∈ (QC.ownOf N vs).map (·.2) := by rw [own_ix]; exact sub_of h2
    have hv : ∀ i ∈ vs2, i ∈ (QC.ownOf N vs).map (·.2) := by rw [own_ix]; exact sub_of h3
    have gk := gok_of (Γ := Γ) (pr := prI it) hc.hK h5 (pr_tup h10)
    have gk2 := gok_of (Γ := Γ) (pr := prI it2) hc.hK h6 (pr_tup h12)
    refine ⟨(pe_lc2 (wi := tDI Γ WN (prI it) (evI G it)) (g := gOf X.K tg) (tt := tYes) (wi1 := tDI Γ WN (prI it2) (evI G it2)) (g1 := gOf X.K tg2) (tt1 := ttOf Γ G ifs2 c) (te := tD Γ WN (ev G elt)) (vs1 := vs2) hc.calm (hc.hN ▸ hc.nd) ((ihi X sc hc).2 t iter hkn h10) bk' hv
      (fun s H C cl fp => pg_of (X := X.blk s H scope (compEnvC scope cl C X.env) fp) hc.hN hc.nd hc.calm (fun x hx => okB_of hc hx) h5) (fun s H C cl fp => pts_nil)
      (fun s H C cl fp => (ihi2 _ _ (hc.blk hk)).2 t2 iter2 hkn2 h12)
      (fun s H C cl fp => pg_of (X := X.blk s H scope (compEnvC scope cl C X.env) fp) hc.hN hc.nd hc.calm (fun x hx => okB_of hc hx) h6) (fun s H C cl fp => pts_of (hc.blk hk) ihc h14)
      (fun s H C cl fp => ((ihe _ _ (hc.blk hk)).1 x h15).1) (fold_of h11 X.env) (fun env => fold_of h13 env)).imp fun σ H Q h => ?_, .inl rfl⟩
    rw [own_ix] at hsub ⊢
    exact lc2_law end_pure gk hsub gk2 (sub_of h4) (fun σ H Q q => q) (tok_of' h14) h
  · cases h
theorem se_dcomp (vs tg : List Nat) (it c kk v : E) (ihi : SE Γ T G k N it) (ihc : SE Γ T G k N c) (ihk : SE Γ T G k N kk) (ihv : SE Γ T G k N v) : SE Γ T G k N (.dcomp vs tg it c kk v) := se_std rfl (fun _ => rfl) (fun _ => rfl) rfl fun X sc hc a h => by
  split at h
  · rename_i x y t iter ifs scope p
    simp only [Bool.and_eq_true] at h
    obtain ⟨⟨⟨⟨⟨⟨⟨⟨h1, h2⟩, h3⟩, h4⟩, h5⟩, h6⟩, h7⟩, h8⟩, h9⟩ := h
    have hkn : isKeys it = none := by simpa using h4
    obtain ⟨bk, hk⟩ := blk_of h1
    have bk' : BlkOk X.N X.env.scope scope (QC.ownOf N vs) := by rw [hc.hN, hc.hsc]; exact bk
    have hsub : ∀ i ∈ tg, i ∈ (QC.ownOf N vs).map (·.2) := by rw [own_ix]; exact sub_of h2
    have gk := gok_of (Γ := Γ) (pr := prI it) hc.hK h3 (pr_tup h5)
    refine ⟨(pe_dc (wi := tDI Γ WN (prI it) (evI G it)) (g := gOf X.K tg) (tt := ttOf Γ G ifs c) (tk := tD Γ WN (ev G kk)) (tv := tD Γ WN (ev G v)) hc.calm (hc.hN ▸ hc.nd) ((ihi X sc hc).2 t iter hkn h5) bk'
      (fun s H C cl fp => pg_of (X := X.blk s H scope (compEnvC scope cl C X.env) fp) hc.hN hc.nd hc.calm (fun x hx => okB_of hc hx) h3) (fun s H C cl fp => pts_of (hc.blk hk) ihc h7)
      (fun s H C cl fp => ((ihk _ _ (hc.blk hk)).1 x h8).1) (fun s H C cl fp => ((ihv _ _ (hc.blk hk)).1 y h9).1) (fold_of h6 X.env)).imp fun σ H Q h => ?_, .inl rfl⟩
    rw [own_ix] at hsub ⊢
    exact dc_law gk hsub (tok_of' h7) h
  · cases h
theorem fresh_comp (vs tg : List Nat) (it c elt : E) (ρ : QL.Env) : ev G (.fresh (.comp vs tg it c elt)) ρ = M.bind (evI G it ρ) fun l => M.bind (lim l) fun _ => M.bind (nox (compL (compF tg vs (evT G c) (ev G elt) ρ) l)) fun r => newM (.lst r) := by
  show M.bind (M.bind (evI G it ρ) _) _ = _
  rw [M.bind_assoc]
  congr 1
  funext l
  rw [M.bind_assoc]
  congr 1
  funext _
  rw [M.bind_assoc]
  rfl
theorem se_freshL (es : Es) (ih : SEs Γ T G k N es) : SE Γ T G k N (.fresh (.lst es)) := se_std rfl (fun _ => rfl) (fun _ => rfl) rfl fun X sc c a h => by
  cases a <;> first | (cases h; done) | skip
  rename_i xs p
  have h' : (allNS xs && d3 T N es sc xs) = true := h
  simp only [Bool.and_eq_true] at h'
  exact ⟨d_freshL ((ih X sc c xs h'.2).1 h'.1), .inl rfl⟩
theorem se_freshC (vs tg : List Nat) (it c elt : E) (ihi : SE Γ T G k N it) (ihc : SE Γ T G k N c) (ihe : SE Γ T G k N elt) : SE Γ T G k N (.fresh (.comp vs tg it c elt)) := se_std rfl (fun _ => rfl) (fun _ => rfl) rfl fun X sc hc a h => by
  cases a <;> first | (cases h; done) | skip
  rename_i x gs scope p
  have h' : ((isKeys it).isNone && (c3 T N (.comp vs tg it c elt)).e sc (.ListComp x gs scope p)) = true := h
  simp only [Bool.and_eq_true] at h'
  have hk : isKeys it = none := by simpa using h'.1
  have h2 := h'.2
  have h3 : (match (generalizing := false) (Expr.ListComp x gs scope p) with
    | .ListComp x [⟨t, iter, ifs, 0⟩] scope _ => QC.blkC N sc scope (QC.ownOf N vs) && subN tg vs && tgC N (okB scope (QC.relS scope sc)) tg t && itC N it (c3 T N it) sc t iter && notSet iter &&
      ifC c (c3 T N c) (QC.relS scope sc) ifs && (c3 T N elt).e (QC.relS scope sc) x
    | _ => false) = true := h2
  split at h3
  · rename_i e
    cases e
    obtain ⟨te, h4, _, h5⟩ := (comp_rd (pos := p) end_new hc ihi ihc ihe h3).1 hk
    refine ⟨h4.imp fun σ H Q h => h5 σ H Q ?_, .inl rfl⟩
    rw [show ev G (.fresh (.comp vs tg it c elt)) = _ from funext (fresh_comp vs tg it c elt)] at h
    exact h
  · cases h3
theorem v1_list {sc : Scope} {f e : Expr} {as : List Expr} {ks : List Keyword} {p : Pos} (he : v1 T sc .list (.Call f as ks p) = some e) : ∃ q, f = .Name "list" q ∧ as = [e] ∧ ks = [] ∧ glb sc "list" = true ∧ T.free "list" = true ∧ notSt e = true := by
  cases f <;> first | (cases he; done) | skip
  rename_i x q
  cases as with
  | nil => cases he
  | cons e1 as =>
    cases as with
    | cons _ _ => cases he
    | nil =>
      cases ks with
      | cons _ _ => cases he
      | nil =>
        have he' : (if (decide (O1.list ≠ .sset) && decide (b1N .list = some x) && glb sc x && T.free x && okN x && notSt e1) = true then some e1 else none) = some e := by
          rw [← he]
          unfold v1
          cases e1 <;> rfl
        split at he'
        · rename_i hcc
          simp only [Bool.and_eq_true, decide_eq_true_eq] at hcc
          obtain ⟨⟨⟨⟨⟨_, h1⟩, h2⟩, h3⟩, h4⟩, h5⟩ := hcc
          cases he'
          have : ("list" : Str) = x := Option.some.inj h1
          subst this
          exact ⟨_, rfl, rfl, rfl, h2, h3, h5⟩
        · cases he'
theorem se_freshT (b : E) (ih : SE Γ T G k N b) : SE Γ T G k N (.fresh (.o1 .list b)) := se_std rfl (fun _ => rfl) (fun _ => rfl) rfl fun X sc c a h => by
  cases a <;> first | (cases h; done) | skip
  rename_i f as ks p
  have h' : (match (generalizing := false) v1 T sc .list (.Call f as ks p) with
      | some e => (c3 T N b).e sc e
      | none => false) = true := h
  split at h'
  · rename_i e he
    obtain ⟨q, rfl, rfl, rfl, h2, h3, h4⟩ := v1_list he
    exact ⟨d_freshC c.hK (c.gl h2) (c.free _ h3) ((ih X sc c).1 e h').1 (ns_of h4), .inl rfl⟩
  · cases h'
theorem se_no {e : E} {f : Expr → Bool} (h3 : c3 T N e = ck fun _ _ => false) : SE Γ T G k N e := fun X sc c => by
  rw [h3]
  exact ⟨fun a h => (by cases h), fun tg a _ h => by
    have h : (false && notSet a) = true := h
    simp at h⟩
/-! ### all expressions -/
theorem se_freshO (o : O1) (a : E) (ih : SE Γ T G k N a) : SE Γ T G k N (.fresh (.o1 o a)) := by
  cases o <;> first | exact se_freshT a ih | exact se_no (f := fun _ => false) rfl
mutual
theorem se_all : ∀ e : E, SE Γ T G k N e
  | .var i => se_var i
  | .glo x d => se_glo x d
  | .non => se_non
  | .bl b => se_bl b
  | .int i => se_int i
  | .str x => se_str x
  | .o1 o a => se_o1 o a (se_all a)
  | .o2 o a b => se_o2 o a b (se_all a) (se_all b)
  | .sl _ _ _ => se_no (f := fun _ => false) rfl
  | .isi t a => se_isi t a (se_all a)
  | .chain o p a b c => se_chain o p a b c (se_all a) (se_all b) (se_all c)
  | .and es => se_and es (ses_all es)
  | .or es => se_or es (ses_all es)
  | .not a => se_not a (se_all a)
  | .ite c a b => se_ite c a b (se_all c) (se_all a) (se_all b)
  | .tup es => se_tup es (ses_all es)
  | .lst es => se_lst es (ses_all es)
  | .call f es => se_call f es (ses_all es)
  | .make c f es => se_make c f es (ses_all es)
  | .makeR _ _ _ => se_no (f := fun _ => false) rfl
  | .meth _ _ _ => se_no (f := fun _ => false) rfl
  | .prop _ _ => se_no (f := fun _ => false) rfl
  | .attr c j a => se_attr c j a (se_all a)
  | .comp vs tg it c elt => se_comp vs tg it c elt (se_all it) (se_all c) (se_all elt)
  | .comp2 vs tg it vs2 tg2 it2 c elt => se_comp2 vs tg vs2 tg2 it it2 c elt (se_all it) (se_all it2) (se_all c) (se_all elt)
  | .dcomp vs tg it c a b => se_dcomp vs tg it c a b (se_all it) (se_all c) (se_all a) (se_all b)
  | .fresh (.lst es) => se_freshL es (ses_all es)
  | .fresh (.comp vs tg it c elt) => se_freshC vs tg it c elt (se_all it) (se_all c) (se_all elt)
  | .fresh (.o1 o a) => se_freshO o a (se_all a)
  | .fresh (.var _) => se_no (f := fun _ => false) rfl
  | .fresh (.glo _ _) => se_no (f := fun _ => false) rfl
  | .fresh (.non) => se_no (f := fun _ => false) rfl
  | .fresh (.bl _) => se_no (f := fun _ => false) rfl
  | .fresh (.int _) => se_no (f := fun _ => false) rfl
  | .fresh (.str _) => se_no (f := fun _ => false) rfl
  | .fresh (.o2 _ _ _) => se_no (f := fun _ => false) rfl
  | .fresh (.sl _ _ _) => se_no (f := fun _ => false) rfl
  | .fresh (.isi _ _) => se_no (f := fun _ => false) rfl
  | .fresh (.chain _ _ _ _ _) => se_no (f := fun _ => false) rfl
  | .fresh (.and _) => se_no (f := fun _ => false) rfl
  | .fresh (.or _) => se_no (f := fun _ => false) rfl
  | .fresh (.not _) => se_no (f := fun _ => false) rfl
  | .fresh (.ite _ _ _) => se_no (f := fun _ => false) rfl
  | .fresh (.tup _) => se_no (f := fun _ => false) rfl
  | .fresh (.call _ _) => se_no (f := fun _ => false) rfl
  | .fresh (.make _ _ _) => se_no (f := fun _ => false) rfl
  | .fresh (.makeR _ _ _) => se_no (f := fun _ => false) rfl
  | .fresh (.meth _ _ _) => se_no (f := fun _ => false) rfl
  | .fresh (.prop _ _) => se_no (f := fun _ => false) rfl
  | .fresh (.attr _ _ _) => se_no (f := fun _ => false) rfl
  | .fresh (.comp2 _ _ _ _ _ _ _ _) => se_no (f := fun _ => false) rfl
  | .fresh (.dcomp _ _ _ _ _ _) => se_no (f := fun _ => false) rfl
  | .fresh (.fresh _) => se_no (f := fun _ => false) rfl
  | .fresh (.never) => se_no (f := fun _ => false) rfl
  | .never => se_never
theorem ses_all : ∀ es : Es, SEs Γ T G k N es
  | .nil => ses_nil
  | .cons e r => ses_cons e r (se_all e) (ses_all r)
end
end
end QS
end
section
set_option linter.all false
set_option maxRecDepth 100000
set_option autoImplicit false
/-! QS18: statements: a checked text does what it is worth. -/
namespace QS
open PySem PySem.Spec PyProof.Rows L2 QL QC
section
variable (Γ : Inf) (T : Tab) (G : Gs) (k : Nat) (N : List Str)
def SS (s : S) : Prop := ∀ X sc, CxN Γ T G k N sc X → (∀ x, X.fn x = true) → ∀ st, cS T N s sc st = true → PS X st (tDS Γ WN (ex G s))
def SSs (s : Ss) : Prop := ∀ X sc, CxN Γ T G k N sc X → (∀ x, X.fn x = true) → ∀ st, cSs T N s sc st = true → PSs X st (tDS Γ WN (exs G s))
end
section
variable {Γ : Inf} {T : Tab} {G : Gs} {k : Nat} {N : List Str}
theorem okS_of {X : Cx} {sc : Scope} (c : CxN Γ T G k N sc X) (hf : ∀ x, X.fn x = true) {x : Str} (h : okS sc x = true) : Loc X.env.scope x ∧ (X.fn x = true ∨ X.env.scope.names.lookup x = some .local) := by
  unfold okS at h
  simp only [Bool.or_eq_true] at h
  rw [c.hsc]
  rcases h with h | h
  · exact ⟨.inl (lcl_of h), .inl (hf x)⟩
  · exact ⟨.inr (cel_of h), .inl (hf x)⟩
theorem sw_eq {sc : Scope} {env : PySem.Env} (hs : env.scope = sc) (hk : sc.kind = .function) (v : Expr) (y : Str) (py : Pos) (l : Nat) : (swB sc v y py = false → swapsWith v (some (.Name y py)) l env = pure false) ∧
    (∀ x gs s p, v = .ListComp x gs s p → swB sc v y py = true → swapsWith v (some (.Name y py)) l env = pure true ∧ sc.names.lookup y = some .local) := by
  have hb : env.blockKind = .function := by unfold Env.blockKind; rw [hs, hk]; rfl
  have ky : env.kindOf y = sc.names.lookup y := by rw [← hs]; rfl
  have gen : ∀ x gs s p, swapsWith (.ListComp x gs s p) (some (.Name y py)) l env = pure (swB sc (.ListComp x gs s p) y py) := fun x gs s p => by
    unfold swapsWith swB lcl
    simp only [hb, ky, Expr.pos]
    cases e : sc.names.lookup y with
    | none => rfl
    | some kd => cases kd <;> rfl
  refine ⟨fun h => ?_, fun x gs s p e h => ?_⟩
  · cases v <;> first | rfl | (rw [gen, h]; done) | cases h
  · subst e
    rw [gen, h]
    refine ⟨rfl, ?_⟩
    unfold swB at h
    simp only [Bool.and_eq_true] at h
    exact lcl_of h.1.1
theorem ss_set (i : Nat) (e : E) (hall : ∀ e, SE Γ T G k N e) : SS Γ T G k N (.set i e) := fun X sc c hf st h => by
  have h' : (match (generalizing := false) st with
    | .Assign [.Name x p] v _ => nm N i x && okS sc x && (c3 T N e).e sc v && (!swB sc v x p || lcE e)
    | _ => false) = true := h
  split at h'
  · rename_i x p v q
    simp only [Bool.and_eq_true, Bool.or_eq_true, Bool.not_eq_true'] at h'
    obtain ⟨⟨⟨h1, h2⟩, h3⟩, h4⟩ := h'
    obtain ⟨hl, hf'⟩ := okS_of c hf h2
    have nd : X.N.Nodup := c.hN ▸ c.nd
    have hi : X.N[i]? = some x := by rw [c.hN]; exact nm_of h1
    by_cases hsw : swB sc v x p = false
    · exact d_setG (ps_set nd hi hl ((hall e X sc c).1 v h3).1 ((sw_eq c.hsc c.kind v x p q.line).1 hsw) hf') fun σ H Q h => h
    · have hsw' : swB sc v x p = true := by cases e : swB sc v x p <;> simp_all
      have h4' := h4.resolve_left hsw
      have gen : ∀ {vs tg : List Nat} {it cc elt : E} {F : List D → M D}, EndOk Γ F → isKeys it = none → (c3 T N (.comp vs tg it cc elt)).e sc v = true → (∀ ρ, ev G e ρ = M.bind (evI G it ρ) fun l => M.bind (lim l) fun _ => M.bind (nox (compL (compF tg vs (evT G cc) (ev G elt) ρ) l)) F) →
          PS X (.Assign [.Name x p] v q) (tDS Γ WN (ex G (.set i e))) := fun {vs tg it cc elt F} hF hk hc he => by
        have hc' : (match (generalizing := false) v with
          | .ListComp x [⟨t, iter, ifs, 0⟩] scope _ => QC.blkC N sc scope (QC.ownOf N vs) && subN tg vs && tgC N (okB scope (QC.relS scope sc)) tg t && itC N it (c3 T N it) sc t iter && notSet iter &&
            ifC cc (c3 T N cc) (QC.relS scope sc) ifs && (c3 T N elt).e (QC.relS scope sc) x
          | _ => false) = true := hc
        split at hc'
        · rename_i x' t iter ifs scope p'
          obtain ⟨te, _, h5, h6⟩ := (comp_rd (pos := p') hF c (hall it) (hall cc) (hall elt) hc').1 hk
          obtain ⟨s1, s2⟩ := (sw_eq c.hsc c.kind _ x p q.line).2 _ _ _ _ rfl hsw'
          exact d_setG (g := ev G e) (h5 i x p q hi (by rw [c.hsc]; exact s2) s1) fun σ H Q h => h6 σ H Q (by rw [show ev G e = _ from funext he] at h; exact h)
        · cases hc'
      unfold lcE at h4'
      split at h4'
      · rename_i vs tg it cc elt
        have hk : isKeys it = none := by simpa using h4'
        exact gen end_pure hk h3 fun ρ => rfl
      · rename_i vs tg it cc elt
        have hk : isKeys it = none := by simpa using h4'
        refine gen end_new hk ?_ fun ρ => fresh_comp vs tg it cc elt ρ
        cases v <;> first | (cases h3; done) | skip
        have h3' : ((isKeys it).isNone && (c3 T N (.comp vs tg it cc elt)).e sc _) = true := h3
        simp only [Bool.and_eq_true] at h3'
        exact h3'.2
      · cases h4'
  · cases h'
theorem sole_tup {ts : List Expr} {n : Nat} {p : Pos} {v : Expr} {l : Nat} {env : PySem.Env} : swapsWithSole [.Tuple ts n p] v l env = pure false := by
  cases v <;> rfl
theorem stores_tup {ts : List Expr} {n : Nat} {p : Pos} {v : Expr} {env : PySem.Env} (h : isTup v = false) : swappedStores [.Tuple ts n p] v env = pure none := by
  cases v <;> first | rfl | cases h
theorem ss_sti (o i v : E) (hall : ∀ e, SE Γ T G k N e) : SS Γ T G k N (.sti o i v) := fun X sc c hf st h => by
  have h' : (match (generalizing := false) st with
    | .Assign [.Subscript x y _] z _ => notSl y && (c3 T N o).e sc x && (c3 T N i).e sc y && (c3 T N v).e sc z
    | _ => false) = true := h
  split at h'
  · rename_i x y p z q
    simp only [Bool.and_eq_true] at h'
    obtain ⟨⟨⟨h1, h2⟩, h3⟩, h4⟩ := h'
    refine d_stiG (ps_asg ((hall v X sc c).1 z h4).1 (pg_sub ((hall o X sc c).1 x h2).1 ((hall i X sc c).1 y h3).1 set_list ?_) ?_ ?_)
    · intro w
      cases y <;> first | rfl | cases h1
    · cases z <;> rfl
    · cases z <;> rfl
  · cases h'
theorem ss_sta (cc j : Nat) (o v : E) (hall : ∀ e, SE Γ T G k N e) : SS Γ T G k N (.sta cc j o v) := fun X sc c hf st h => by
  have h' : (match (generalizing := false) st with
    | .Assign [.Attribute x f _] z _ => decide (T.sta cc f = some j) && (c3 T N o).e sc x && (c3 T N v).e sc z
    | _ => false) = true := h
  split at h'
  · rename_i x f p z q
    simp only [Bool.and_eq_true, decide_eq_true_eq] at h'
    obtain ⟨⟨h1, h2⟩, h3⟩ := h'
    obtain ⟨t1, t2, t3, t4⟩ := c.sta _ _ _ h1
    refine d_staG t2 t3 t4 t1 (ps_fld ((hall o X sc c).1 x h2).1 ((hall v X sc c).1 z h3).1 ?_)
    cases z <;> rfl
  · cases h'
theorem ss_dm (o ix : E) (i : Nat) (a b : E) (hall : ∀ e, SE Γ T G k N e) : SS Γ T G k N (.dm o ix i a b) := fun X sc c hf st h => by
  have h' : (match (generalizing := false) st with
    | .Assign [.Tuple [.Subscript x y _, .Name w _] _ _] (.Call (.Name g _) [u, v] [] _) _ => decide (g = "divmod") && glb sc g && T.free g && notSl y && nm N i w && okS sc w && notSt u && notSt v &&
      (c3 T N o).e sc x && (c3 T N ix).e sc y && (c3 T N a).e sc u && (c3 T N b).e sc v
    | _ => false) = true := h
  split at h'
  · rename_i x y p w p2 n p3 g p4 u v p5 q
    simp only [Bool.and_eq_true, decide_eq_true_eq] at h'
    obtain ⟨⟨⟨⟨⟨⟨⟨⟨⟨⟨⟨rfl, h2⟩, h3⟩, h4⟩, h5⟩, h6⟩, h7⟩, h8⟩, h9⟩, h10⟩, h11⟩, h12⟩ := h'
    obtain ⟨hl, hf'⟩ := okS_of c hf h6
    have nd : X.N.Nodup := c.hN ▸ c.nd
    have ns : starEach [u, v] X.env = (false, eval u X.env) :: starEach [v] X.env := ns_of h7
    have ns2 : starEach [v] X.env = (false, eval v X.env) :: starEach [] X.env := ns_of h8
    refine d_dmG (i := i) (ps_asg (pe_callB call_divmod (c.gl h2) (c.free _ h3) (by decide +kernel) (pa_cons ((hall a X sc c).1 u h11).1 (pa_cons ((hall b X sc c).1 v h12).1 pa_nil ns2) ns) (by decide) (by decide) ns (by rw [ns2]; rfl))
      (pg_tup c.calm (pgs_cons (pg_sub ((hall o X sc c).1 x h9).1 ((hall ix X sc c).1 y h10).1 set_list ?_) (pgs_cons (pg_name nd (by rw [c.hN]; exact nm_of h5) hl hf') pgs_nil)) rfl rfl) rfl rfl)
    intro w
    cases y <;> first | rfl | cases h4
  · cases h'
theorem ss_expr (e : E) (hall : ∀ e, SE Γ T G k N e) : SS Γ T G k N (.expr e) := fun X sc c hf st h => by
  have h' : (match (generalizing := false) st with
    | .Expr v _ => !isCp v && (c3 T N e).e sc v
    | _ => false) = true := h
  split at h'
  · rename_i v q
    simp only [Bool.and_eq_true, Bool.not_eq_true'] at h'
    refine d_exprG (ps_expr ((hall e X sc c).1 v h'.2).1 ?_)
    cases v <;> first | rfl | cases h'.1
  · cases h'
theorem ss_ite (t : E) (a b : Ss) (hall : ∀ e, SE Γ T G k N e) (iha : SSs Γ T G k N a) (ihb : SSs Γ T G k N b) : SS Γ T G k N (.ite t a b) := fun X sc c hf st h => by
  have h' : (match (generalizing := false) st with
    | .If x y z _ => (c3 T N t).t sc x && cSs T N a sc y && cSs T N b sc z
    | _ => false) = true := h
  split at h'
  · rename_i x y z q
    unfold Ck.t at h'
    simp only [Bool.and_eq_true, Bool.not_eq_true'] at h'
    obtain ⟨⟨⟨h1, h2⟩, h3⟩, h4⟩ := h'
    exact d_ifS (((hall t X sc c).1 x h1).2 h2) (iha X sc c hf y h3) (ihb X sc c hf z h4)
  · cases h'
theorem ss_for (tg : List Nat) (it : E) (b : Ss) (hall : ∀ e, SE Γ T G k N e) (ih : SSs Γ T G k N b) : SS Γ T G k N (.for_ tg it b) := fun X sc c hf st h => by
  have h' : (match (generalizing := false) st with
    | .For t x y [] _ => tgC N (okS sc) tg t && (isKeys it).isNone && (c3 T N it).i sc t x && notSet x && cSs T N b sc y
    | _ => false) = true := h
  split at h'
  · rename_i t x y q
    simp only [Bool.and_eq_true] at h'
    obtain ⟨⟨⟨⟨h1, h2⟩, h3⟩, h4⟩, h5⟩ := h'
    have hk : isKeys it = none := by simpa using h2
    exact tdsp_of (d_forG (pr := prI it) (ps_for c.po c.calm ((hall it X sc c).2 t x hk h3) (pg_of c.hN c.nd c.calm (fun x hx => okS_of c hf hx) h1) (ih X sc c hf y h5) (fold_of h4 X.env)) wok_of (gok_of c.hK h1 (pr_tup h3)))
  · cases h'
theorem ss_forK (tg : List Nat) (i : Nat) (b : Ss) (hall : ∀ e, SE Γ T G k N e) (ih : SSs Γ T G k N b) : SS Γ T G k N (.forK tg i b) := fun X sc c hf st h => by
  have h' : (match (generalizing := false) st with
    | .For t x y [] _ => (match (generalizing := false) tg with
      | [_] => true
      | _ => false) && tgC N (okS sc) tg t && keyC N sc i x && cSs T N b sc y
    | _ => false) = true := h
  split at h'
  · rename_i t x y q
    simp only [Bool.and_eq_true] at h'
    obtain ⟨⟨⟨h1, h2⟩, h3⟩, h4⟩ := h'
    unfold keyC at h3
    split at h3
    · rename_i z p
      simp only [Bool.and_eq_true] at h3
      obtain ⟨o1, o2, _⟩ := okN_of h3.2
      have hi := pi_keys (tg := t) (pe_var (pos := p) (by rw [c.hN]; exact nm_of h3.1.1) (c.vis h3.1.2) o1 o2)
      exact d_forK (ps_for c.po c.calm hi (pg_of c.hN c.nd c.calm (fun x hx => okS_of c hf hx) h2) (ih X sc c hf y h4) (fun _ => rfl)) (gok_of c.hK h2 (fun z => nomatch z))
    · cases h3
  · cases h'
theorem ss_ret (e : E) (hall : ∀ e, SE Γ T G k N e) : SS Γ T G k N (.ret e) := fun X sc c hf st h => by
  have h' : (match (generalizing := false) st with
    | .Return (some v) _ => (c3 T N e).e sc v
    | _ => false) = true := h
  split at h'
  · exact d_retS ((hall e X sc c).1 _ h').1
  · cases h'
theorem ss_retN : SS Γ T G k N .retN := fun X sc c hf st h => by
  have h' : (match (generalizing := false) st with
    | .Return none _ => true
    | _ => false) = true := h
  split at h'
  · exact d_retN
  · cases h'
theorem ss_pass : SS Γ T G k N .pass := fun X sc c hf st h => by
  have h' : (match (generalizing := false) st with
    | .Pass _ => true
    | _ => false) = true := h
  split at h'
  · exact d_pass
  · cases h'
/-- a, b = x, y -/
theorem nms_two {ok : Str → Bool} {i j : Nat} {ts : List Expr} (h : nmsC N ok [i, j] ts = true) : ∃ x y px py, ts = [.Name x px, .Name y py] ∧ N[i]? = some x ∧ N[j]? = some y ∧ ok x = true ∧ ok y = true := by
  cases ts with
  | nil => cases h
  | cons t ts =>
    cases t <;> first | (cases h; done) | skip
    simp only [nmsC, Bool.and_eq_true] at h
    cases ts with
    | nil => cases h.2
    | cons t2 ts =>
      cases t2 <;> first | (cases h.2; done) | skip
      simp only [nmsC, Bool.and_eq_true] at h
      cases ts with
      | nil => exact ⟨_, _, _, _, rfl, nm_of h.1.1, nm_of h.2.1.1, h.1.2, h.2.1.2⟩
      | cons _ _ => cases h.2.2
theorem nms_three {ok : Str → Bool} {i j l : Nat} {ts : List Expr} (h : nmsC N ok [i, j, l] ts = true) : ∃ x y z px py pz, ts = [.Name x px, .Name y py, .Name z pz] ∧ N[i]? = some x ∧ N[j]? = some y ∧ N[l]? = some z ∧ ok x = true ∧ ok y = true ∧ ok z = true := by
  cases ts with
  | nil => cases h
  | cons t ts =>
    cases t <;> first | (cases h; done) | skip
    simp only [nmsC, Bool.and_eq_true] at h
    obtain ⟨x, y, px, py, rfl, h1, h2, h3, h4⟩ := nms_two h.2
    exact ⟨_, x, y, _, px, py, rfl, nm_of h.1.1, h1, h2, h.1.2, h3, h4⟩
theorem sw_names {sc : Scope} {env : PySem.Env} (hs : env.scope = sc) (hk : sc.kind = .function) {ts vs : List Expr} {n m : Nat} {p q : Pos} (h : swN sc ts vs = true) :
    swappedStores [.Tuple ts n p] (.Tuple vs m q) env = pure (some (swNames sc ts)) := by
  have hb : env.blockKind = .function := by unfold Env.blockKind; rw [hs, hk]; rfl
  have ky : ∀ y, (env.kindOf y == some .local) = lcl sc y := fun y => by
    have : env.kindOf y = sc.names.lookup y := by rw [← hs]; rfl
    rw [this]
    unfold lcl
    cases e : sc.names.lookup y with
    | none => rfl
    | some kd => cases kd <;> rfl
  unfold swN noSt at h
  simp only [Bool.and_eq_true, Bool.not_eq_true'] at h
  obtain ⟨⟨⟨⟨⟨⟨h1, h2⟩, h3⟩, h4⟩, h4'⟩, h5⟩, h6⟩ := h
  unfold swappedStores
  simp only [hb, ky]
  generalize hx : List.filterMap _ ts = names
  have hx' : names = swNames sc ts := hx.symm
  subst hx'
  have c1 : (!(ts.length == 2 || ts.length == 3) || vs.length != ts.length || ScopeKind.function != ScopeKind.function) = false := by
    rw [h1]
    simp only [bne, h2]
    rfl
  have c3 : ((swNames sc ts).length != ts.length || (swNames sc ts).eraseDups.length != (swNames sc ts).length) = false := by
    simp only [bne, h4, h4']
    rfl
  rw [if_neg (by rw [c1]; decide)]
  refine (if_neg fun h => absurd (h3.symm.trans h) (by decide)).trans ?_
  rw [if_neg (by rw [c3]; decide), if_neg (by rw [h5]; decide), if_neg (by rw [h6]; decide)]
theorem stores_none {sc : Scope} {env : PySem.Env} (hs : env.scope = sc) (hk : sc.kind = .function) {ts : List Expr} {v : Expr} {n : Nat} {p : Pos} (h : swZ sc ts v = true) : swappedStores [.Tuple ts n p] v env = pure none := by
  by_cases hv : isTup v = false
  · exact stores_tup hv
  · cases v <;> first | exact absurd rfl hv | skip
    rename_i vs m q
    have hb : env.blockKind = .function := by unfold Env.blockKind; rw [hs, hk]; rfl
    have ky : ∀ y, (env.kindOf y == some .local) = lcl sc y := fun y => by
      have : env.kindOf y = sc.names.lookup y := by rw [← hs]; rfl
      rw [this]
      unfold lcl
      cases e : sc.names.lookup y with
      | none => rfl
      | some kd => cases kd <;> rfl
    have h' : (!(ts.length == 2 || ts.length == 3) || vs.length != ts.length || (noSt vs && ((swNames sc ts).length != ts.length))) = true := h
    unfold swappedStores
    simp only [hb, ky]
    generalize hx : List.filterMap _ ts = names
    have hx' : names = swNames sc ts := hx.symm
    subst hx'
    by_cases c1 : (!(ts.length == 2 || ts.length == 3) || vs.length != ts.length) = true
    · rw [if_pos (by rw [c1]; rfl)]
    · have c1' : (!(ts.length == 2 || ts.length == 3) || vs.length != ts.length) = false := by simpa using c1
      rw [c1'] at h'
      have h2 : (noSt vs && ((swNames sc ts).length != ts.length)) = true := by simpa using h'
      unfold noSt at h2
      simp only [Bool.and_eq_true, Bool.not_eq_true'] at h2
      rw [if_neg (by rw [c1']; decide)]
      refine (if_neg fun h => absurd (h2.1.symm.trans h) (by decide)).trans ?_
      rw [if_pos (by rw [h2.2]; rfl)]
theorem ss_unp (is : List Nat) (e : E) (hall : ∀ e, SE Γ T G k N e) : SS Γ T G k N (.unp is e) := fun X sc c hf st h => by
  have h' : (match (generalizing := false) st with
    | .Assign [.Tuple ts _ _] v _ => decide (2 ≤ is.length) && nmsC N (okS sc) is ts && swZ sc ts v && (c3 T N e).e sc v
    | _ => false) = true := h
  split at h'
  · rename_i ts n p v q
    simp only [Bool.and_eq_true, decide_eq_true_eq] at h'
    obtain ⟨⟨⟨h1, h2⟩, h3⟩, h4⟩ := h'
    obtain ⟨a1, a2⟩ := asg_len (env := X.env) h2
    exact d_unpG c.hK (ps_asg ((hall e X sc c).1 v h4).1 (pg_TL c.calm (pgs_of c.hN c.nd (fun x hx => okS_of c hf hx) h2) a1 a2) sole_tup (stores_none c.hsc c.kind h3))
  · cases h'
theorem names_two {vs : List Expr} {sc : Scope} {x y : Str} {px py : Pos} (h : swN sc [.Name x px, .Name y py] vs = true) : swNames sc [.Name x px, .Name y py] = [x, y] := by
  unfold swN at h
  simp only [Bool.and_eq_true] at h
  have hl := beq_iff_eq.mp h.1.1.1.2
  unfold swNames at hl ⊢
  simp only [List.filterMap_cons, List.filterMap_nil] at hl ⊢
  split at hl <;> split at hl <;> simp_all
theorem names_three {vs : List Expr} {sc : Scope} {x y z : Str} {px py pz : Pos} (h : swN sc [.Name x px, .Name y py, .Name z pz] vs = true) : swNames sc [.Name x px, .Name y py, .Name z pz] = [x, y, z] := by
  unfold swN at h
  simp only [Bool.and_eq_true] at h
  have hl := beq_iff_eq.mp h.1.1.1.2
  unfold swNames at hl ⊢
  simp only [List.filterMap_cons, List.filterMap_nil] at hl ⊢
  split at hl <;> split at hl <;> split at hl <;> simp_all
theorem ss_par (is : List Nat) (es : Es) (hall : ∀ e, SE Γ T G k N e) (hes : ∀ e, SEs Γ T G k N e) : SS Γ T G k N (.par is es) := fun X sc c hf st h => by
  have h' : (match (generalizing := false) st with
    | .Assign [.Tuple ts _ _] (.Tuple vs _ _) _ => (match (generalizing := false) is with
      | [i, j] => decide (i ≠ j)
      | [i, j, l] => decide (i ≠ j) && decide (i ≠ l) && decide (j ≠ l)
      | _ => false) && nmsC N (lcl sc) is ts && allNS vs && d3 T N es sc vs && swN sc ts vs
    | _ => false) = true := h
  split at h'
  · rename_i ts n p vs m p2 q
    simp only [Bool.and_eq_true] at h'
    obtain ⟨⟨⟨⟨h1, h2⟩, h3⟩, h4⟩, h5⟩ := h'
    have ha := (hes es X sc c vs h4).1 h3
    have nd : X.N.Nodup := c.hN ▸ c.nd
    split at h1
    · rename_i i j
      have hij : i ≠ j := of_decide_eq_true h1
      obtain ⟨x, y, px, py, rfl, e1, e2, l1, l2⟩ := nms_two h2
      have hw := sw_names (n := n) (m := m) (p := p) (q := p2) c.hsc c.kind h5
      rw [names_two h5] at hw
      have hv : ∃ a b, vs = [a, b] := by
        unfold swN at h5
        simp only [Bool.and_eq_true] at h5
        have := beq_iff_eq.mp h5.1.1.1.1.1.2
        match vs, this with
        | [a, b], _ => exact ⟨a, b, rfl⟩
      obtain ⟨a, b, rfl⟩ := hv
      exact d_par2 (ps_par c.calm nd (by rw [c.hN]; exact e1) (by rw [c.hN]; exact e2) hij (by rw [c.hsc]; exact lcl_of l1) (by rw [c.hsc]; exact lcl_of l2) ha hw)
    · rename_i i j l
      simp only [Bool.and_eq_true, decide_eq_true_eq] at h1
      obtain ⟨x, y, z, px, py, pz, rfl, e1, e2, e3, l1, l2, l3⟩ := nms_three h2
      have hw := sw_names (n := n) (m := m) (p := p) (q := p2) c.hsc c.kind h5
      rw [names_three h5] at hw
      have hv : ∃ a b d, vs = [a, b, d] := by
        unfold swN at h5
        simp only [Bool.and_eq_true] at h5
        have := beq_iff_eq.mp h5.1.1.1.1.1.2
        match vs, this with
        | [a, b, d], _ => exact ⟨a, b, d, rfl⟩
      obtain ⟨a, b, d, rfl⟩ := hv
      exact d_par3 (ps_par3 c.calm nd (by rw [c.hN]; exact e1) (by rw [c.hN]; exact e2) (by rw [c.hN]; exact e3) h1.1.1 h1.1.2 h1.2 (by rw [c.hsc]; exact lcl_of l1) (by rw [c.hsc]; exact lcl_of l2) (by rw [c.hsc]; exact lcl_of l3) ha hw)
    · cases h1
  · cases h'
theorem sss_nil : SSs Γ T G k N .nil := fun X sc c hf st h => by
  cases st with
  | nil => exact d_snil
  | cons _ _ => cases h
theorem sss_cons (s : S) (r : Ss) (ih : SS Γ T G k N s) (ihr : SSs Γ T G k N r) : SSs Γ T G k N (.cons s r) := fun X sc c hf st h => by
  cases st with
  | nil => cases h
  | cons a l =>
    have h' : (cS T N s sc a && cSs T N r sc l) = true := h
    simp only [Bool.and_eq_true] at h'
    exact d_scons (ih X sc c hf a h'.1) (ihr X sc c hf l h'.2)
theorem ss_never : SS Γ T G k N .never := fun X sc c hf st h => d_never
mutual
theorem ss_all : ∀ s : S, SS Γ T G k N s
  | .set i e => ss_set i e se_all
  | .unp is e => ss_unp is e se_all
  | .par is es => ss_par is es se_all ses_all
  | .sti o i v => ss_sti o i v se_all
  | .sta c j o v => ss_sta c j o v se_all
  | .dm o ix i a b => ss_dm o ix i a b se_all
  | .expr e => ss_expr e se_all
  | .ite c a b => ss_ite c a b se_all (sss_all a) (sss_all b)
  | .for_ tg it b => ss_for tg it b se_all (sss_all b)
  | .forK tg i b => ss_forK tg i b se_all (sss_all b)
  | .ret e => ss_ret e se_all
  | .retN => ss_retN
  | .pass => ss_pass
  | .raise _ _ => fun X sc c hf st h => (by cases h)
  | .never => ss_never
theorem sss_all : ∀ s : Ss, SSs Γ T G k N s
  | .nil => sss_nil
  | .cons s r => sss_cons s r (ss_all s) (sss_all r)
end
end
end QS
end
section
set_option linter.all false
set_option maxRecDepth 100000
set_option autoImplicit false
namespace QS
open PySem PySem.Spec PyProof.Rows L2 QL QC
theorem look_zip_some : ∀ {ps : List Str} {us : List Value} {n : Str}, us.length = ps.length → n ∈ ps → ((ps.zip us).lookup n).isSome = true
  | [], _, _, _, h => by cases h
  | p :: ps, [], _, hl, _ => by simp at hl
  | p :: ps, u :: us, n, hl, h => by
    rw [List.zip_cons_cons, List.lookup_cons]
    cases e : (n == p) with
    | true => rfl
    | false =>
      have : n ∈ ps := by
        rcases List.mem_cons.mp h with z | z
        · subst z; simp at e
        · exact z
      exact look_zip_some (by simpa using hl) this
theorem fm_zip : ∀ {ps : List Str} {us : List Value}, us.length = ps.length → ps.Nodup → (ps.filterMap fun n => ((ps.zip us).lookup n).map (n, ·)) = ps.zip us := by
  have gen : ∀ (ps : List Str) (us : List Value) (l : List (Str × Value)), us.length = ps.length → ps.Nodup → (∀ n u, (n, u) ∈ ps.zip us → l.lookup n = some u) → (ps.filterMap fun n => (l.lookup n).map (n, ·)) = ps.zip us := by
    intro ps
    induction ps with
    | nil => intro us l _ _ _; rfl
    | cons p ps ih =>
      intro us l hl hn hk
      cases us with
      | nil => simp at hl
      | cons u us =>
        have h1 := hk p u (by simp)
        rw [List.filterMap_cons, h1]
        show (p, u) :: _ = (p, u) :: (ps.zip us)
        rw [ih us l (by simpa using hl) (List.nodup_cons.mp hn).2 fun n w h => hk n w (by rw [List.zip_cons_cons]; exact List.mem_cons_of_mem _ h)]
  intro ps us hl hn
  refine gen ps us _ hl hn ?_
  intro n u h
  have : ∀ (ps : List Str) (us : List Value), ps.Nodup → (n, u) ∈ ps.zip us → (ps.zip us).lookup n = some u := by
    intro ps
    induction ps with
    | nil => intro us _ h; simp at h
    | cons p ps ih =>
      intro us hn h
      cases us with
      | nil => simp at h
      | cons w us =>
        rw [List.zip_cons_cons] at h ⊢
        rw [List.lookup_cons]
        rcases List.mem_cons.mp h with e | h
        · cases e; simp
        · have : n ≠ p := fun z => (List.nodup_cons.mp hn).1 (z ▸ (List.of_mem_zip h).1)
          have hb : (n == p) = false := by simpa using this
          rw [hb]
          exact ih us (List.nodup_cons.mp hn).2 h
  exact this ps us hn h
theorem bind_plain {x qual : Str} {args : List Arg} {kd : List (Option Expr)} {df : List Expr} {body : List Stmt} {scope : Scope} {kV doc pm : Value} {an : Option Addr} {cdv ct : Value} {us : List Value} (hl : us.length = (args.map (·.arg)).length) (hn : (args.map (·.arg)).Nodup) :
    bindArgs (PySem.W.fnOf x qual ⟨[], args, none, [], kd, none, df⟩ body scope .none kV doc pm an cdv ct) ⟨us, []⟩ = pure ((args.map (·.arg)).zip us) := by
  have hm : (args.map (·.arg)).filter (fun n => (((args.map (·.arg)).zip us).lookup n).isNone) = [] := by
    rw [List.filter_eq_nil_iff]
    intro n hn'
    have := look_zip_some hl hn'
    cases e : ((args.map (·.arg)).zip us).lookup n with
    | none => rw [e] at this; cases this
    | some v => simp
  have hb := fm_zip hl hn
  have hlt : ¬ us.length > (args.map (·.arg)).length := by omega
  unfold bindArgs PySem.W.fnOf
  simp only [List.map_nil, List.nil_append, List.append_nil, List.forIn_nil, pure_bind, seqItems?, notAStandIn, Option.getD_none, List.drop_nil, List.zip_nil_right, List.length_nil, Nat.sub_zero, List.take_length, List.drop_length, hm, List.isEmpty_nil, hb, Option.isNone_none, Bool.and_true, decide_eq_true_eq, Bool.not_true, if_false]
  simp only [Bool.false_eq_true, if_false]
  first | rw [if_neg hlt] | skip
end QS
end
section
set_option linter.all false
set_option maxRecDepth 100000
set_option autoImplicit false
/-! QS19: all defs of a law; the law. -/
namespace QS
open PySem PySem.Spec PyProof.Rows L2 QL QC
structure Dfn where
  nm : Str
  d : He.DefD
  N : List Str
  id : Nat
  np : Nat
def scB (N ps : List Str) (sc : Scope) : Bool :=
  (match sc.kind with | .function => true | _ => false) && !sc.isCoroutine && !sc.isGenerator && decide N.Nodup && decide (N.take ps.length = ps) && (ps.all fun x => okS sc x) && (sc.names.all fun y => match y.2 with
    | .free => false
    | _ => true)
theorem scB_of {N ps : List Str} {sc : Scope} (h : scB N ps sc = true) : FnScope N ps sc := by
  unfold scB at h
  simp only [Bool.and_eq_true, Bool.not_eq_true', decide_eq_true_eq, List.all_eq_true] at h
  obtain ⟨⟨⟨⟨⟨⟨h1, h2⟩, h3⟩, h4⟩, h5⟩, h6⟩, h7⟩ := h
  refine ⟨?_, h2, h3, h4, h5, fun x hx => ?_, fun y hy e => ?_⟩
  · split at h1
    · assumption
    · cases h1
  · have := h6 x hx
    unfold okS at this
    simp only [Bool.or_eq_true] at this
    rcases this with h | h
    · exact .inl (lcl_of h)
    · exact .inr (cel_of h)
  · have := h7 y hy
    rw [e] at this
    cases this
def dOk (T : Tab) (Pt : Nat → Option Fn) (d : Dfn) : Bool := match Pt d.id with
  | some fn => decide (fn.ps = d.np) && decide (fn.ns = d.N.length) && decide (d.np ≤ d.N.length) && scB d.N (d.N.take d.np) d.d.scope && cSs T d.N fn.body d.d.scope d.d.body
  | none => false
/-- plain parameters -/
def plB (ps : List Str) : Arguments → Bool
  | ⟨[], args, none, [], _, none, _⟩ => decide (args.map (·.arg) = ps)
  | _ => false
theorem binds_plain {K : PySem.W.Frag} {x qual : Str} {params : Arguments} {body : List Stmt} {scope : Scope} {kws : List (Str × V)} {f : Addr} {fd : FuncData} {ps : List Str} (F : FunD K x qual params body scope [] kws f fd) (h : plB ps params = true) (nd : ps.Nodup) : Binds K fd ps [] := by
  refine F.bindsN fun kV doc pm an cdv ct us hl => ?_
  unfold plB at h
  split at h
  · have e := of_decide_eq_true h
    rw [← e] at hl nd ⊢
    exact bind_plain hl nd
  · cases h
theorem run_len {Pt : Nat → Option Fn} {f : Nat} {fn : Fn} (h : Pt f = some fn) : ∀ n ds m, run Pt n f ds m ≠ .bad → ds.length = fn.ps
  | 0, ds, m, e => absurd rfl e
  | n + 1, ds, m, e => by
    by_cases hl : ds.length = fn.ps
    · exact hl
    · refine absurd ?_ e
      show (match Pt f with
        | some fn => runF (run Pt n) fn ds
        | none => M.bad) m = .bad
      rw [h]
      show runF (run Pt n) fn ds m = .bad
      unfold runF
      rw [if_neg hl]
      rfl
theorem env_start {Γ : Inf} {s : Stt} {N : List Str} {vs : List V} {ds : List D} (r : RVs Γ s vs ds) : EnvOk Γ s (start N vs) (ds.map some ++ List.replicate (N.length - ds.length) none) := by
  have hl := r.length
  refine ⟨?_, fun i d e => ?_⟩
  · unfold L2.start
    simp [hl]
  · by_cases hi : i < ds.length
    · rw [List.getElem?_append_left (by simpa using hi)] at e
      rw [List.getElem?_map] at e
      cases q : ds[i]? with
      | none => rw [q] at e; cases e
      | some d' =>
        rw [q] at e
        have : d' = d := by simpa using e
        subst this
        obtain ⟨v, h1, h2⟩ := r.get q
        refine ⟨v, ?_, h2⟩
        unfold L2.start
        rw [List.getElem?_append_left (by simpa [hl] using hi), List.getElem?_map, h1]
        rfl
    · rw [List.getElem?_append_right (by simpa using Nat.le_of_not_lt hi)] at e
      rw [List.getElem?_replicate] at e
      split at e <;> simp at e
section
variable {P : Program} {w : World} {K : PySem.W.Frag} {mg : Str → Option Value} {base : Heap} {Γ : Inf} {T : Tab} {Pt : Nat → Option Fn} {L : List Dfn} {ad : Dfn → Addr} {fdF : Dfn → FuncData}
theorem fns_ok (hΓ : Γ.K = K) (hF : ∀ d ∈ L, FunD K d.d.name d.d.qual d.d.params d.d.body d.d.scope (d.d.dvs K) (d.d.kws K) (ad d) (fdF d)) (hB : ∀ d ∈ L, Binds K (fdF d) (d.N.take d.np) []) (hO : ∀ d ∈ L, dOk T Pt d = true)
    (hT : ∀ x f n, T.fn x = some (f, n) → ∃ d ∈ L, d.id = f ∧ d.np = n ∧ mg x = some (.ref (ad d))) (hfree : ∀ x, T.free x = true → mg x = none)
    (hglo : ∀ x d, T.glo x = some d → ∃ (v : V) (u : Value), mg x = some u ∧ RelV v u ∧ ∀ s, RV Γ s v d)
    (hcls : ∀ x c f n, T.cls x = some (c, f, n) → ∃ d ∈ L, d.id = f ∧ d.np = n ∧ mg x = some (.ref (Γ.clA c)) ∧ Mk K (Γ.clA c) (ad d))
    (hatt : ∀ c f j, T.att c f = some j → (∀ i, Γ.atN i = Γ.atN j → i = j) ∧ Cls K (Γ.clA c) ∧ ((NoAttr K (Γ.clA c) f ∧ Γ.atN j = f) ∨ ∃ (p ga : Addr) (fd : FuncData) (ps : List Str), PropOf K (Γ.clA c) f p ga ∧ (∀ k, FnOk P w K mg base CX0 (k + 1) ga fd ps (getSp (Γ.clA c) (Γ.atN j))) ∧ Binds K fd ps []))
    (hsta : ∀ c f j, T.sta c f = some j → (∀ i, Γ.atN i = Γ.atN j → i = j) ∧ Cls K (Γ.clA c) ∧ NoAttr K (Γ.clA c) f ∧ Γ.atN j = f) :
    ∀ n, ∀ d ∈ L, FnOk P w K mg base CX0 (2 * n + 1) (ad d) (fdF d) (d.N.take d.np) (spN Γ (run Pt n d.id) d.np) := by
  have hfn : ∀ d ∈ L, ∃ fn, Pt d.id = some fn ∧ fn.ps = d.np ∧ fn.ns = d.N.length ∧ d.np ≤ d.N.length ∧ FnScope d.N (d.N.take d.np) d.d.scope ∧ cSs T d.N fn.body d.d.scope d.d.body = true := fun d hd => by
    have h := hO d hd
    unfold dOk at h
    split at h
    · rename_i fn e
      simp only [Bool.and_eq_true, decide_eq_true_eq] at h
      obtain ⟨⟨⟨⟨h1, h2⟩, h3⟩, h4⟩, h5⟩ := h
      exact ⟨fn, e, h1, h2, h3, scB_of h4, h5⟩
    · cases h
  have hlen : ∀ d ∈ L, ∀ n vs H Q E, spN Γ (run Pt n d.id) d.np vs H Q E → vs.length = (d.N.take d.np).length := fun d hd n vs H Q E h => by
    obtain ⟨fn, _, _, _, h4, _⟩ := hfn d hd
    obtain ⟨s, ds, _, _, r, hl, _⟩ := h
    rw [r.length, hl, List.length_take, Nat.min_eq_left h4]
  intro n
  induction n with
  | zero =>
    intro d hd
    refine ⟨hlen d hd 0, fun A outer s H args us vs Q E hr he hb hv hs => ?_⟩
    obtain ⟨s, ds, _, _, _, _, h⟩ := hs
    exact h.elim
  | succ n ih =>
    intro d hd
    obtain ⟨fn, e1, e2, e3, e4, sc, hc⟩ := hfn d hd
    have key : FnOk P w K mg base CX0 (2 * n + 2 + 1) (ad d) (fdF d) (d.N.take d.np) (spN Γ (run Pt (n + 1) d.id) d.np) := by
      refine (hF d hd).ok sc (hlen d hd (n + 1)) fun cdv A outer s H vs Q E hr h => ⟨_, PSs.nox (sss_all (Γ := Γ) (T := T) (G := run Pt n) (k := 2 * n + 1) (N := d.N) fn.body _ d.d.scope ?_ (fun _ => rfl) _ hc), ?_⟩
      · exact {
          hK := hΓ.symm
          hN := rfl
          nd := sc.nd
          hsc := rfl
          kind := sc.kind
          calm := rfl
          room := hr
          po := .never
          fn := fun x f m e => by
            obtain ⟨d', hd', i1, i2, i3⟩ := hT x f m e
            subst i1 i2
            obtain ⟨fn', g1, g2, _⟩ := hfn d' hd'
            refine ⟨ad d', fdF d', _, ih d' hd', i3, (hF d' hd').kp, hB d' hd', fun ds m hne => ?_⟩
            rw [← g2]
            exact run_len g1 n ds m hne
          free := hfree
          glo := hglo
          cls := fun x c f m e => by
            obtain ⟨d', hd', i1, i2, i3, i4⟩ := hcls x c f m e
            subst i1 i2
            obtain ⟨fn', g1, g2, _⟩ := hfn d' hd'
            refine ⟨ad d', fdF d', _, i4, ih d' hd', i3, hB d' hd', fun ds m hne => ?_⟩
            rw [← g2]
            exact run_len g1 n ds m hne
          att := fun c f j e => by
            obtain ⟨i1, i2, i3⟩ := hatt c f j e
            refine ⟨i1, i2, i3.imp id fun ⟨p, ga, fd, ps, h1, h2, h3⟩ => ⟨p, ga, fd, ps, h1, h2 (2 * n), h3⟩⟩
          sta := hsta }
      · obtain ⟨s0, ds, rfl, so, r, hl, h⟩ := h
        refine ⟨_, s0, rfl, env_start (N := d.N) r, so, ?_⟩
        have h : Rs Γ WN s0 ((match Pt d.id with
          | some fn => runF (run Pt n) fn ds
          | none => M.bad) s0.μ) _ := h
        rw [e1] at h
        have h : Rs Γ WN s0 (runF (run Pt n) fn ds s0.μ) _ := h
        unfold runF at h
        rw [if_pos (by rw [hl, e2])] at h
        rw [← e3]
        refine h.bindM.imp fun fl s1 l1 o1 h1 => ?_
        cases fl with
        | nx ρ' => exact fun σ' _ => (show Rs Γ WN s1 (M.pure .non s1.μ) (KD Γ Q) from h1).pure o1 _ .non
        | rt dd => exact fun v rv => (show Rs Γ WN s1 (M.pure dd s1.μ) (KD Γ Q) from h1).pure o1 v rv
    exact key
/-- the law's promise from what it is worth -/
theorem law_sp {f : Nat} (H : Hp) (a : Addr) (ns : List Int) (hS : SqL Γ.K H a (ns.map V.int)) {n : Nat} {m : Mem} (h : run Pt n f [.scr ns] [] = .ok (.bl true) m) (E : XK) : spN Γ (run Pt n f) 1 [.ref a] H (fun v _ => v = .bl true) E := by
  refine ⟨⟨[], fun _ => 0, H, fun _ => False⟩, [.scr ns], rfl, ⟨fun n c e => by simp at e, fun n m c d e => by simp at e, fun n c e => by simp at e, fun b h => h.elim⟩, .cons (.scr ?_) .nil, rfl, ?_⟩
  · rcases hS with h | h
    · refine .inl ⟨?_, h⟩
      rintro (h | ⟨n, c, e, _⟩)
      · exact h
      · simp at e
    · exact .inr h
  · show Rs Γ WN _ (run Pt n f [.scr ns] []) _
    rw [h]
    intro s' _ _ _ v rv
    cases rv
    rfl
end
end QS
end
section
set_option linter.all false
set_option maxRecDepth 100000
set_option autoImplicit false
/-! QS20: what the head tells of a law. -/
namespace QS
open PySem PySem.Spec PyProof.Rows L2 QL QC
theorem forIn_same {α σ : Type} {f : α → σ → Sem (ForInStep σ)} : ∀ {l : List α} {s : σ}, (∀ x ∈ l, f x s = pure (.yield s)) → forIn l s f = pure s
  | [], s, _ => by rw [List.forIn_nil]
  | a :: l, s, h => by
    rw [List.forIn_cons, h a List.mem_cons_self, pure_bind]
    exact forIn_same fun x hx => h x (List.mem_cons_of_mem _ hx)
theorem bind_dfl {x qual : Str} {args : List Arg} {kd : List (Option Expr)} {df : List Expr} {body : List Stmt} {scope : Scope} {T : Addr} {kV doc pm : Value} {an : Option Addr} {cdv ct : Value} {us its : List Value} (hl : us.length = (args.map (·.arg)).length) (hn : (args.map (·.arg)).Nodup) :
    ∃ k, bindArgs (PySem.W.fnOf x qual ⟨[], args, none, [], kd, none, df⟩ body scope (.ref T) kV doc pm an cdv ct) ⟨us, []⟩ = seqItems? (.ref T) >>= k ∧ k (some its.toArray) = pure ((args.map (·.arg)).zip us) := by
  have hb := fm_zip hl hn
  have hlt : ¬ us.length > (args.map (·.arg)).length := by omega
  have hm : ∀ n, ((args.map (·.arg)).take n).filter (fun n => (((args.map (·.arg)).zip us).lookup n).isNone) = [] := by
    intro m
    rw [List.filter_eq_nil_iff]
    intro n hn'
    have := look_zip_some hl (List.mem_of_mem_take hn')
    cases e : ((args.map (·.arg)).zip us).lookup n with
    | none => rw [e] at this; cases this
    | some v => simp
  unfold bindArgs PySem.W.fnOf
  simp only [List.map_nil, List.nil_append, List.append_nil, List.forIn_nil, pure_bind]
  refine ⟨_, rfl, ?_⟩
  simp only [Option.getD_some, List.toList_toArray, List.length_nil, hm, List.isEmpty_nil, Option.isNone_none, Bool.and_true, decide_eq_true_eq, Bool.not_true, Bool.false_eq_true, if_false]
  rw [if_neg hlt, forIn_same (fun z hz => ?_), pure_bind, hb]
  have h1 := look_zip_some hl (List.mem_of_mem_drop (List.of_mem_zip hz).1)
  cases e : ((args.map (·.arg)).zip us).lookup z.1 with
  | none => rw [e] at h1; cases h1
  | some v => rfl
theorem binds_dfl {K : PySem.W.Frag} {x qual : Str} {params : Arguments} {body : List Stmt} {scope : Scope} {dvs : List V} {f : Addr} {fd : FuncData} {ps : List Str} (F : FunD K x qual params body scope dvs [] f fd) (hd : dvs ≠ []) (h : plB ps params = true) (nd : ps.Nodup) : Binds K fd ps [] := by
  obtain ⟨ds, hv, hb⟩ := F.binds1 (ps := ps) ps.length dvs.length hd (by omega) fun T kV doc pm an cdv ct us its hl hi => by
    unfold plB at h
    split at h
    · have e := of_decide_eq_true h
      rw [← e] at hl nd ⊢
      obtain ⟨k, h1, h2⟩ := bind_dfl (x := x) (qual := qual) (body := body) (scope := scope) (T := T) (kV := kV) (doc := doc) (pm := pm) (an := an) (cdv := cdv) (ct := ct) (its := its) hl nd
      refine ⟨k, h1, ?_⟩
      rw [h2, ← hi, List.drop_length, List.append_nil]
    · cases h
  rw [List.drop_length] at hv
  cases hv
  exact hb
/-! ### properties -/
def getterB (K : PySem.W.Frag) (g : Addr) (fld : Str) : Bool := match K.lookup g with
  | some ⟨_, _, .func fd, _⟩ => PySem.W.codeIn K fd.code fd.qualname && plB ["self"] fd.params && (match fd.body with
      | .stmts [.Return (some (.Attribute (.Name s _) f _)) _] => decide (s = "self") && decide (f = fld)
      | _ => false) && scB ["self"] ["self"] fd.scope && (fd.globals == mainGlobals) && fd.closure.isEmpty && (fd.builtins == builtinsNs) && (match fd.defaults with
      | .none => true
      | _ => false)
  | _ => false
def prB (K : PySem.W.Frag) (C f fld : Str) : Bool := match PySem.W.findIn K (.ref (He.ga K C)) f with
  | some (some (.ref p)) => decide (PySem.W.specialIn K (.ref p) "__get__" = some (some (.builtin "property.__get__"))) && decide (PySem.W.takesIn K (.ref p) = some true) && (match PySem.W.recIn K p "property" with
    | some (.ref g :: _) => getterB K g fld
    | _ => false)
  | _ => false
theorem prB_ok {P : Program} {w : World} {K : PySem.W.Frag} {mg : Str → Option Value} {base : Heap} {C f fld : Str} (h : prB K C f fld = true) (c : Cls K (He.ga K C)) (n : NoAttr K (He.ga K C) fld) :
    ∃ (p ga : Addr) (fd : FuncData) (ps : List Str), PropOf K (He.ga K C) f p ga ∧ (∀ k, FnOk P w K mg base CX0 (k + 1) ga fd ps (getSp (He.ga K C) fld)) ∧ Binds K fd ps [] := by
  unfold prB at h
  split at h
  · rename_i p hp
    simp only [Bool.and_eq_true, decide_eq_true_eq] at h
    obtain ⟨⟨h1, h2⟩, h3⟩ := h
    split at h3
    · rename_i g rest hr
      unfold getterB at h3
      split at h3
      · rename_i oc od fd osl hk
        obtain ⟨n1, n2, n3, n4, n5, n6, n7, n8, n9, n10, n11, n12, n13, n14, n15⟩ := fd
        simp only [Bool.and_eq_true, beq_iff_eq] at h3
        obtain ⟨⟨⟨⟨⟨⟨⟨k1, k2⟩, k3⟩, k4⟩, k5⟩, k6⟩, k7⟩, k8⟩ := h3
        have k6 : n7 = [] := by simpa using k6
        subst k5 k6 k7
        split at k8
        · split at k3
          · rename_i s p1 f' p2 p3 _
            simp only [Bool.and_eq_true, decide_eq_true_eq] at k3
            obtain ⟨rfl, rfl⟩ := k3
            refine ⟨p, g, _, ["self"], ⟨hp, h1, h2, rest, hr⟩, fun k => fn_getter (lk := hk) k1 (scB_of k4) rfl rfl c n, .all fun us hl => ?_⟩
            unfold plB at k2
            split at k2
            · have e := of_decide_eq_true k2
              rw [← e] at hl ⊢
              exact bind_plain hl (by rw [e]; decide)
            · cases k2
          · cases k3
        · cases k8
      · cases h3
    · cases h3
  · cases h
/-! ### the law's table -/
structure Spec where
  L : List Dfn
  consts : List (Str × D)
  frees : List Str
  cl : List Str
  an : List Str
  pr : List (Str × Str)
namespace Spec
variable (S : Spec)
def tab : Tab where
  fn x := match S.L.find? (fun d => d.nm == x && d.d.at_.2.isNone) with
    | some d => some (d.id, d.np)
    | none => none
  free x := S.frees.contains x
  glo x := S.consts.lookup x
  cls x := match S.cl.findIdx? (· == x) with
    | some c => (match S.L.find? (fun d => decide (d.d.at_ = (x, some ("__init__" : Str)))) with
      | some d => some (c, d.id, d.np)
      | none => none)
    | none => none
  att c f := if c < S.cl.length then S.an.findIdx? (· == ((S.pr.lookup f).getD f)) else none
  sta c f := if c < S.cl.length then S.an.findIdx? (· == f) else none
def fa : List He.Fa := (S.L.filter (fun d => d.d.at_.2.isNone)).map (fun d => .glo d.nm) ++ S.consts.filterMap (fun p => match p.2 with
  | .int i => some (.int p.1 i)
  | .str x => some (.str p.1 x)
  | _ => none) ++ S.frees.map .free ++ S.cl.flatMap (fun c => [.glo c, .cls c, .mkr c] ++ S.an.map (fun f => .noat c f))
def fn : List He.DefD := S.L.map (·.d)
def ex (K : PySem.W.Frag) : Bool := S.cl.all fun c => S.pr.all fun p => prB K c p.1 p.2
def atN (i : Nat) : Str := S.an.getD i "?"
def inf (K : PySem.W.Frag) : Inf := ⟨K, fun c => He.ga K (S.cl.getD c ""), S.atN⟩
/-- what is to be checked -/
def ok (Pt : Nat → Option Fn) : Bool :=
  (S.L.all fun d => dOk S.tab Pt d && decide (d.nm = d.d.at_.1 ∨ d.d.at_.2.isSome = true) && plB (d.N.take d.np) d.d.params && d.d.kwd.isEmpty) && (S.consts.all fun p => match p.2 with
    | .int _ => true
    | .str _ => true
    | _ => false) && decide S.an.Nodup && decide (("?" : Str) ∉ S.an) && (S.pr.all fun p => decide (p.2 ∈ S.an) && decide (p.1 ∉ S.an))
end Spec
variable {P : Program} {w : World} {K : PySem.W.Frag} {mg : Str → Option Value} {h base : Heap}
theorem fidx {l : List Str} {x : Str} {j : Nat} (h : l.findIdx? (· == x) = some j) : l[j]? = some x := by
  rw [List.findIdx?_eq_some_iff_getElem] at h
  obtain ⟨hj, h1, _⟩ := h
  have := beq_iff_eq.mp h1
  rw [List.getElem?_eq_getElem hj, this]
theorem law_facts (S : Spec) (Pt : Nat → Option Fn) (hS : S.ok Pt = true) (KX : K.In h) (G : h.Ns mainGlobals mg) (c : He.SaysD S.fa S.fn K) (hx : S.ex K = true) :
    ∃ fdF : Dfn → FuncData, (∀ d ∈ S.L, FunD K d.d.name d.d.qual d.d.params d.d.body d.d.scope (d.d.dvs K) (d.d.kws K) (He.fAd K d.d.at_) (fdF d)) ∧ ∀ base : Heap, ∀ n, ∀ d ∈ S.L, FnOk P w K mg base CX0 (2 * n + 1) (He.fAd K d.d.at_) (fdF d) (d.N.take d.np) (spN (S.inf K) (run Pt n d.id) d.np) := by
  unfold Spec.ok at hS
  simp only [Bool.and_eq_true, decide_eq_true_eq, List.all_eq_true] at hS
  obtain ⟨⟨⟨⟨h1, h2⟩, h3⟩, h4⟩, h5⟩ := hS
  have hF : ∀ d, ∃ fd, d ∈ S.L → FunD K d.d.name d.d.qual d.d.params d.d.body d.d.scope (d.d.dvs K) (d.d.kws K) (He.fAd K d.d.at_) fd := fun d => by
    by_cases hd : d ∈ S.L
    · obtain ⟨fd, hf⟩ := c.defs (d := d.d) (List.mem_map.mpr ⟨d, hd, rfl⟩)
      exact ⟨fd, fun _ => hf⟩
    · exact ⟨default, fun z => absurd z hd⟩
  refine ⟨fun d => Classical.choose (hF d), fun d hd => Classical.choose_spec (hF d) hd, fun base => ?_⟩
  have fnc : ∀ {f : He.Fa}, f ∈ S.fa → f.ok K = true := fun hf => c.facts hf
  have clf : ∀ cc, cc ∈ S.cl → ∀ f, f ∈ ([.glo cc, .cls cc, .mkr cc] ++ S.an.map (fun f => He.Fa.noat cc f) : List He.Fa) → f.ok K = true := fun cc hc f hf =>
    fnc (List.mem_append_right _ (List.mem_flatMap.mpr ⟨cc, hc, hf⟩))
  have clg : ∀ i, i < S.cl.length → S.cl.getD i "" ∈ S.cl := fun i hi => by
    rw [List.getD_eq_getElem?_getD, List.getElem?_eq_getElem hi]
    exact List.getElem_mem hi
  have inj : ∀ j f, S.an[j]? = some f → S.atN j = f ∧ ∀ i, S.atN i = S.atN j → i = j := fun j f hj => by
    have hjl := (List.getElem?_eq_some_iff.mp hj).1
    have e : S.atN j = f := by unfold Spec.atN; rw [List.getD_eq_getElem?_getD, hj]; rfl
    refine ⟨e, fun i hi => ?_⟩
    rw [e] at hi
    unfold Spec.atN at hi
    rw [List.getD_eq_getElem?_getD] at hi
    cases q : S.an[i]? with
    | none =>
      rw [q] at hi
      have hi : ("?" : Str) = f := hi
      rw [← hi] at hj
      exact absurd (List.mem_of_getElem? hj) h4
    | some g =>
      rw [q] at hi
      have hi : g = f := hi
      subst hi
      have hil := (List.getElem?_eq_some_iff.mp q).1
      exact (List.getElem?_inj hil h3).mp (q.trans hj.symm)
  have gat : ∀ d ∈ S.L, d.d.at_.2.isNone = true → mg d.nm = some (.ref (He.fAd K d.d.at_)) := fun d hd hn => by
    have hf := fnc (f := .glo d.nm) (by
      unfold Spec.fa
      simp only [List.mem_append, List.mem_map, List.mem_filter]
      exact .inl (.inl (.inl ⟨d, ⟨hd, hn⟩, rfl⟩)))
    have := He.glo_ok KX G hf
    rw [this]
    have hnm : d.nm = d.d.at_.1 := by
      have := (h1 d hd).1.1.2
      rcases this with h | h
      · exact h
      · cases q : d.d.at_.2 with
        | none => rw [q] at h; cases h
        | some m => rw [q] at hn; cases hn
    unfold He.fAd
    cases q : d.d.at_.2 with
    | none => rw [hnm]
    | some m => rw [q] at hn; cases hn
  refine fns_ok (Γ := S.inf K) (T := S.tab) (Pt := Pt) (L := S.L) (ad := fun d => He.fAd K d.d.at_) (fdF := fun d => Classical.choose (hF d)) rfl (fun d hd => Classical.choose_spec (hF d) hd) (fun d hd => ?_) (fun d hd => (h1 d hd).1.1.1) (fun x f n e => ?_) (fun x e => ?_) (fun x d e => ?_) (fun x cc f n e => ?_) (fun cc f j e => ?_) (fun cc f j e => ?_)
  · have hf := Classical.choose_spec (hF d) hd
    have hp := (h1 d hd).1.2
    have hk : d.d.kwd = [] := by simpa using (h1 d hd).2
    have nd : (d.N.take d.np).Nodup := by
      have := (h1 d hd).1.1.1
      unfold dOk at this
      split at this
      · simp only [Bool.and_eq_true] at this
        exact (scB_of this.1.2).nd.sublist (List.take_sublist _ _)
      · cases this
    have ek : d.d.kws K = [] := by unfold He.DefD.kws; rw [hk]; rfl
    generalize Classical.choose (hF d) = fd at hf ⊢
    by_cases hd0 : d.d.dvs K = []
    · rw [hd0] at hf
      exact binds_plain hf hp nd
    · rw [ek] at hf
      exact binds_dfl hf hd0 hp nd
  · have e : (match S.L.find? (fun d => d.nm == x && d.d.at_.2.isNone) with
      | some d => some (d.id, d.np)
      | none => none) = some (f, n) := e
    split at e
    · rename_i d hd
      cases e
      have hm := List.mem_of_find?_eq_some hd
      have hp := List.find?_some hd
      simp only [Bool.and_eq_true, beq_iff_eq] at hp
      obtain ⟨rfl, hp⟩ := hp
      exact ⟨d, hm, rfl, rfl, gat d hm hp⟩
    · cases e
  · have e : S.frees.contains x = true := e
    have hm : x ∈ S.frees := by simpa using e
    exact He.free_ok KX G (fnc (f := .free x) (by
      unfold Spec.fa
      simp only [List.mem_append, List.mem_map]
      exact .inl (.inr ⟨x, hm, rfl⟩)))
  · have e : S.consts.lookup x = some d := e
    have hm : (x, d) ∈ S.consts := by
      have : ∀ l : List (Str × D), l.lookup x = some d → (x, d) ∈ l := by
        intro l
        induction l with
        | nil => intro h; cases h
        | cons p l ih =>
          intro h
          rw [List.lookup_cons] at h
          cases q : (x == p.1) with
          | true =>
            rw [q] at h
            have := beq_iff_eq.mp q
            have h : p.2 = d := Option.some.inj h
            rw [this, ← h]
            exact List.mem_cons_self
          | false => rw [q] at h; exact List.mem_cons_of_mem _ (ih h)
      exact this _ e
    have hq := h2 (x, d) hm
    cases d with
    | int i =>
      obtain ⟨t, ht⟩ := He.int_ok KX G (fnc (f := .int x i) (by
        unfold Spec.fa
        simp only [List.mem_append, List.mem_filterMap]
        exact .inl (.inl (.inr ⟨(x, .int i), hm, rfl⟩))))
      exact ⟨.int i, _, ht, ⟨t, rfl⟩, fun s => .int i⟩
    | str z =>
      obtain ⟨t, ht⟩ := He.str_ok KX G (fnc (f := .str x z) (by
        unfold Spec.fa
        simp only [List.mem_append, List.mem_filterMap]
        exact .inl (.inl (.inr ⟨(x, .str z), hm, rfl⟩))))
      exact ⟨.str z, _, ht, ⟨t, rfl⟩, fun s => .str z⟩
    | _ => cases hq
  · have e : (match S.cl.findIdx? (· == x) with
    | some c => (match S.L.find? (fun d => decide (d.d.at_ = (x, some ("__init__" : Str)))) with
      | some d => some (c, d.id, d.np)
      | none => none)
    | none => none) = some (cc, f, n) := e
    split at e
    · rename_i c' hc'
      split at e
      · rename_i d hd
        cases e
        have hm := List.mem_of_find?_eq_some hd
        have hp : d.d.at_ = (x, some ("__init__" : Str)) := by simpa using List.find?_some hd
        have hcx := fidx hc'
        have hcm : x ∈ S.cl := List.mem_of_getElem? hcx
        have hcl : (S.inf K).clA cc = He.ga K x := by
          show He.ga K (S.cl.getD cc "") = _
          rw [List.getD_eq_getElem?_getD, hcx]
          rfl
        refine ⟨d, hm, rfl, rfl, ?_, ?_⟩
        · rw [hcl]
          exact He.glo_ok KX G (clf x hcm (.glo x) (by simp))
        · rw [hcl]
          have := He.mkr_ok (clf x hcm (.mkr x) (by simp))
          show Mk K (He.ga K x) (He.fAd K d.d.at_)
          rw [hp]
          exact this
      · cases e
    · cases e
  · have e : (if cc < S.cl.length then S.an.findIdx? (· == ((S.pr.lookup f).getD f)) else none) = some j := e
    split at e
    · rename_i hcc
      have hj := fidx e
      obtain ⟨e1, e2⟩ := inj j _ hj
      have hcm := clg cc hcc
      have hcls := He.cls_ok (clf _ hcm (.cls (S.cl.getD cc "")) (List.mem_append_left _ (List.mem_cons_of_mem _ List.mem_cons_self)))
      refine ⟨e2, hcls, ?_⟩
      have hna : NoAttr K (He.ga K (S.cl.getD cc "")) ((S.pr.lookup f).getD f) := He.noat_ok (clf _ hcm (.noat (S.cl.getD cc "") _) (List.mem_append_right _ (List.mem_map.mpr ⟨_, List.mem_of_getElem? hj, rfl⟩)))
      cases q : S.pr.lookup f with
      | none =>
        rw [q] at hna e1
        exact .inl ⟨hna, e1⟩
      | some g =>
        rw [q] at hna e1
        have hm : (f, g) ∈ S.pr := by
          have : ∀ l : List (Str × Str), l.lookup f = some g → (f, g) ∈ l := by
            intro l
            induction l with
            | nil => intro h; cases h
            | cons p l ih =>
              intro h
              rw [List.lookup_cons] at h
              cases q : (f == p.1) with
              | true =>
                rw [q] at h
                have := beq_iff_eq.mp q
                have h : p.2 = g := Option.some.inj h
                rw [this, ← h]
                exact List.mem_cons_self
              | false => rw [q] at h; exact List.mem_cons_of_mem _ (ih h)
          exact this _ q
        have hp : prB K (S.cl.getD cc "") f g = true := by
          have := List.all_eq_true.mp (List.all_eq_true.mp hx _ hcm) (f, g) hm
          exact this
        have e1 : S.atN j = g := e1
        show _ ∨ ∃ p ga fd ps, _
        rw [show (S.inf K).atN j = g from e1]
        exact .inr (prB_ok hp hcls hna)
    · cases e
  · have e : (if cc < S.cl.length then S.an.findIdx? (· == f) else none) = some j := e
    split at e
    · rename_i hcc
      have hj := fidx e
      obtain ⟨e1, e2⟩ := inj j _ hj
      have hcm := clg cc hcc
      exact ⟨e2, He.cls_ok (clf _ hcm (.cls (S.cl.getD cc "")) (List.mem_append_left _ (List.mem_cons_of_mem _ List.mem_cons_self))), He.noat_ok (clf _ hcm (.noat (S.cl.getD cc "") _) (List.mem_append_right _ (List.mem_map.mpr ⟨_, List.mem_of_getElem? hj, rfl⟩))), e1⟩
    · cases e
end QS
end
section
set_option linter.all false
set_option maxRecDepth 100000
set_option autoImplicit false
/-! QS21: the law, from what it is worth. -/
namespace QS
open PySem PySem.Spec PyProof.Rows L2 QL QC
theorem binds_at {K : PySem.W.Frag} {x qual : Str} {params : Arguments} {body : List Stmt} {scope : Scope} {kws : List (Str × V)} {f : Addr} {fd : FuncData} {ps : List Str} (F : FunD K x qual params body scope [] kws f fd) (h : plB ps params = true) (nd : ps.Nodup) (s : Shared) (us : List Value) (hl : us.length = ps.length) : BindsTo s fd ⟨us, []⟩ (ps.zip us) := by
  refine F.bindsA (fun kV doc pm an cdv ct us hl => ?_) s us hl
  unfold plB at h
  split at h
  · have e := of_decide_eq_true h
    rw [← e] at hl nd ⊢
    exact bind_plain hl nd
  · cases h
/-- the law's def, its table -/
structure LawOk (S : Spec) (Pt : Nat → Option Fn) (dl : Dfn) : Prop where
  ok : S.ok Pt = true
  mem : dl ∈ S.L
  nm : dl.nm = "law"
  at_ : dl.d.at_ = (("law" : Str), (none : Option Str))
  ps : dl.N.take dl.np = [("script" : Str)]
  np : dl.np = 1
  dfl : dl.d.dfl = []
theorem law_F {S : Spec} {Pt : Nat → Option Fn} {dl : Dfn} (A : LawOk S Pt dl) {n : Nat} (hlaw : ∀ ns : List Int, ns.length ≤ 63 → ∃ m, run Pt n dl.id [.scr ns] [] = .ok (.bl true) m) {P : Program} {x : Str} (hx : x = "law") (w : World) (mg : Str → Option Value) (fa : Addr) (h : Heap)
    (Y : (He.hookX 6 S.fa S.fn [] [] S.ex).says w h) (G : h.Ns mainGlobals mg) (hmg : mg x = some (.ref fa)) :
    ∃ (K : PySem.W.Frag) (fd : FuncData) (sp : Sp), K.In h ∧ (∀ (s : Shared) (u : Value), BindsTo s fd ⟨[u], []⟩ [("script", u)]) ∧
        (∀ (H : Hp) (a : Addr) (ns : List Int), ns.length ≤ 63 → Only H → SqL K H a (ns.map V.int) → sp [.ref a] H (fun v _ => v = .bl true) fun _ _ _ => False) ∧
        ∀ base : Heap, K.In base → base.Ns mainGlobals mg → FnOk P w K mg base CX0 (2 * n + 1) fa fd ["script"] sp := by
  obtain ⟨K, KX, c⟩ := Y
  subst hx
  obtain ⟨fdF, hFd, hF⟩ := law_facts (P := P) (w := w) S Pt A.ok KX G c.t.d c.more
  have hS := A.ok
  unfold Spec.ok at hS
  simp only [Bool.and_eq_true, decide_eq_true_eq, List.all_eq_true] at hS
  have h1 := hS.1.1.1.1 dl A.mem
  have hg := He.glo_ok KX G (c.t.d.facts (f := .glo "law") (by
    unfold Spec.fa
    simp only [List.mem_append, List.mem_map, List.mem_filter]
    exact .inl (.inl (.inl ⟨dl, ⟨A.mem, by rw [A.at_]; rfl⟩, by rw [A.nm]⟩))))
  have e : He.fAd K dl.d.at_ = fa := by
    rw [A.at_]
    show He.ga K "law" = fa
    rw [hg] at hmg
    cases hmg
    rfl
  have hf := hFd dl A.mem
  have hd0 : dl.d.dvs K = [] := by unfold He.DefD.dvs; rw [A.dfl]; rfl
  generalize hfd : fdF dl = fd at hf
  rw [hd0] at hf
  have hp := h1.1.2
  rw [A.ps] at hp
  refine ⟨K, fd, spN (S.inf K) (run Pt n dl.id) 1, KX, fun s u => binds_at hf hp (by decide) s [u] rfl, fun H a ns hl _ hq => ?_, fun base _ _ => ?_⟩
  · obtain ⟨m, hm⟩ := hlaw ns hl
    exact law_sp (Γ := S.inf K) H a ns hq hm _
  · have := hF base n dl A.mem
    rw [A.ps, e, hfd, A.np] at this
    exact this
end QS
end
section
set_option linter.all false
set_option maxRecDepth 100000
set_option autoImplicit false
/-! QS22: the hook, over a told list of places. -/
namespace QS
open PySem PySem.W L2
def obsY (as : List Addr) (fa : List He.Fa) (fn : List He.DefD) (ex : Frag → Bool) (g : Addr → Option Obj) : He.AlX := (He.obsT fa fn [] (He.frT g as), ex (He.frT g as))
def hookY (as : List Addr) (fa : List He.Fa) (fn : List He.DefD) (ex : Frag → Bool) : Hook where
  α := He.AlX
  obs s := obsY as fa fn ex s.heap.get?
  val w := He.valX fn [] w
  says w h := (He.hookX 6 fa fn [] [] ex).says w h
  of w s e := ⟨He.frT s.heap.get? as, He.frT_in, ⟨congrArg Prod.fst e, congrArg Prod.snd e, (fun p hp => by cases hp), (fun p hp => by cases hp), (fun p hp => by cases hp)⟩⟩
  keeps := (He.hookX 6 fa fn [] [] ex).keeps
theorem obsY_eq {as : List Addr} {fa : List He.Fa} {fn : List He.DefD} {ex : Frag → Bool} {g : Addr → Option Obj} {s : Shared} (h : ∀ a, g a = s.heap.get? a) : obsY as fa fn ex g = (hookY as fa fn ex).obs s := by
  rw [show g = s.heap.get? from funext h]
  rfl
end QS
end
section
set_option linter.all false
set_option maxRecDepth 100000
namespace QP
open PySem QL
/-- law script k -/
def f0 : Fn := ⟨1, 2, (.cons (.for_ [1] (.o1 .range (.o2 .max2 (.int 2) (.o2 .min2 (.o1 .len (.var 0)) (.int 3)))) (.cons (.ite (.not (.call 1 (.cons (.call 2 (.cons (.var 0) (.cons (.var 1) .nil))) .nil))) (.cons (.ret (.bl false)) .nil) .nil) .nil)) (.cons (.ret (.bl true)) .nil))⟩
/-- _law_right jar net stock page ways cuts best spot shown counts rest good fair cut lot at is_tight near turn most paper due -/
def f1 : Fn := ⟨1, 22, (.cons (.set 1 (.call 3 (.cons (.var 0) (.cons (.call 4 (.cons (.var 0) (.cons (.o2 .add (.int 1) (.call 5 (.cons (.var 0) (.cons (.int 3) .nil)))) .nil))) .nil)))) (.cons (.par [2, 3] (.cons (.call 6 (.cons (.var 0) (.cons (.o1 .len (.o2 .ix (.var 1) (.int 0))) (.cons (.int 6) .nil)))) (.cons (.call 7 (.cons (.var 1) .nil)) .nil))) (.cons (.par [4, 5] (.cons (.call 8 (.cons (.var 1) (.cons (.var 2) .nil))) (.cons (.call 9 (.cons (.var 1) .nil)) .nil))) (.cons (.unp [6, 7, 8] (.tup (.cons (.o1 .min (.comp [9, 10] [9, 10] (.var 4) (.bl true) (.o1 .sum (.o1 .list (.var 10))))) (.cons (.o1 .lrange (.o1 .len (.var 2))) (.cons (.int 0) .nil))))) (.cons (.set 11 (.comp [9, 10] [9, 10] (.var 4) (.o2 .eq (.o1 .sum (.o1 .list (.var 10))) (.var 6)) (.var 9))) (.cons (.set 12 (.call 10 (.cons (.var 1) (.cons (.o2 .ix (.var 11) (.call 5 (.cons (.var 0) (.cons (.o1 .len (.var 11)) .nil)))) .nil)))) (.cons (.for_ [13] (.var 5) (.cons (.set 14 (.call 11 (.cons (.var 0) (.cons (.comp [15] [15] (.o2 .ix (.var 13) (.int 0)) (.bl true) (.o2 .ix (.o2 .ix (.var 1) (.int 0)) (.var 15))) .nil)))) (.cons (.set 16 (.o2 .eq (.call 12 (.cons (.var 13) (.cons (.var 2) (.cons (.var 7) .nil)))) (.var 6))) (.cons (.set 8 (.o2 .add (.var 8) (.o1 .int (.var 16)))) (.cons (.ite (.o2 .ne (.o1 .repr (.call 13 (.cons (.tup (.cons (.str "over") (.cons (.var 3) (.cons (.var 2) (.cons (.var 6) .nil))))) (.cons (.tup (.cons (.var 12) (.cons (.var 14) .nil))) .nil)))) (.o1 .repr (.var 16))) (.cons (.ret (.bl false)) .nil) .nil) (.cons (.set 17 (.o2 .add (.var 6) (.o2 .ix (.lst (.cons (.int 1) (.cons (.int 2) (.cons (.o1 .neg (.int 1)) (.cons (.o1 .neg (.int 2)) .nil))))) (.call 5 (.cons (.var 0) (.cons (.int 4) .nil)))))) (.cons (.ite (.o2 .notB (.call 13 (.cons (.tup (.cons (.str "over") (.cons (.var 3) (.cons (.var 2) (.cons (.var 17) .nil))))) (.cons (.tup (.cons (.var 12) (.cons (.var 14) .nil))) .nil))) (.bl false)) (.cons (.ret (.bl false)) .nil) .nil) .nil))))))) (.cons (.for_ [18] (.o1 .range (.int 8)) (.cons (.unp [9, 10] (.o2 .ix (.var 4) (.call 5 (.cons (.var 0) (.cons (.o1 .len (.var 4)) .nil))))) (.cons (.par [19, 13] (.cons (.o1 .sum (.o1 .list (.var 10))) (.cons (.o2 .ix (.var 5) (.call 5 (.cons (.var 0) (.cons (.o1 .len (.var 5)) .nil)))) .nil))) (.cons (.par [14, 20] (.cons (.o1 .tuple (.comp [15] [15] (.o2 .ix (.var 13) (.int 0)) (.bl true) (.o2 .ix (.o2 .ix (.var 1) (.int 0)) (.var 15)))) (.cons (.call 10 (.cons (.var 1) (.cons (.var 9) .nil))) .nil))) (.cons (.set 21 (.and (.cons (.o2 .eq (.var 19) (.var 6)) (.cons (.o2 .eq (.call 12 (.cons (.var 13) (.cons (.var 2) (.cons (.var 7) .nil)))) (.var 6)) .nil)))) (.cons (.ite (.o2 .ne (.o1 .repr (.call 13 (.cons (.tup (.cons (.str "over") (.cons (.var 3) (.cons (.var 2) (.cons (.var 19) .nil))))) (.cons (.tup (.cons (.var 20) (.cons (.var 14) .nil))) .nil)))) (.o1 .repr (.var 21))) (.cons (.ret (.bl false)) .nil) .nil) (.cons (.ite (.o2 .ne (.o1 .repr (.call 13 (.cons (.tup (.cons (.str "over") (.cons (.var 3) (.cons (.var 2) (.cons (.var 6) .nil))))) (.cons (.tup (.cons (.var 20) (.cons (.var 14) .nil))) .nil)))) (.o1 .repr (.var 21))) (.cons (.ret (.bl false)) .nil) .nil) .nil))))))) (.cons (.ret (.o2 .gt (.var 8) (.int 0))) .nil)))))))))⟩
/-- _law_new_jar script k cell state each -/
def f2 : Fn := ⟨2, 5, (.cons (.set 2 (.ite (.o2 .lt (.var 1) (.o1 .len (.var 0))) (.o1 .int (.o2 .ix (.var 0) (.var 1))) (.int 0))) (.cons (.set 3 (.o2 .add (.int 7177) (.o2 .mul (.int 104729) (.var 1)))) (.cons (.for_ [4] (.o2 .slT (.var 0) (.int 5)) (.cons (.set 3 (.o2 .mod (.o1 .int (.o2 .add (.o2 .add (.o2 .mul (.var 3) (.int 51749)) (.o2 .mod (.o1 .int (.var 4)) (.int 2147483629))) (.int 43))) (.int 2147483587))) .nil)) (.cons (.set 3 (.o2 .mod (.o1 .int (.o2 .add (.o2 .add (.o2 .mul (.var 3) (.int 70139)) (.o2 .mod (.o1 .int (.var 2)) (.int 1999999943))) (.int 17))) (.int 2147483587))) (.cons (.ret (.fresh (.lst (.cons (.var 3) (.cons (.ite (.o2 .ge (.o1 .abs (.var 2)) (.o2 .pow (.int 10) (.int 18))) (.o1 .abs (.var 2)) (.int 0)) (.cons (.int 0) .nil)))))) .nil)))))⟩
/-- _law_new_net jar words links share at later link place -/
def f3 : Fn := ⟨2, 8, (.cons (.par [2, 3] (.cons (.lst .nil) (.cons (.o2 .add (.int 1) (.call 5 (.cons (.var 0) (.cons (.int 4) .nil)))) .nil))) (.cons (.for_ [4] (.o1 .range (.o1 .len (.var 1))) (.cons (.for_ [5] (.o2 .range2 (.var 4) (.o1 .len (.var 1))) (.cons (.ite (.o2 .lt (.call 5 (.cons (.var 0) (.cons (.int 5) .nil))) (.var 3)) (.cons (.par [6, 7] (.cons (.tup (.cons (.o2 .ix (.var 1) (.var 4)) (.cons (.o2 .ix (.var 1) (.var 5)) .nil))) (.cons (.call 5 (.cons (.var 0) (.cons (.o2 .add (.o1 .len (.var 2)) (.int 1)) .nil))) .nil))) (.cons (.ite (.o2 .eq (.call 5 (.cons (.var 0) (.cons (.int 2) .nil))) (.int 0)) (.cons (.set 6 (.tup (.cons (.o2 .ix (.var 1) (.var 5)) (.cons (.o2 .ix (.var 1) (.var 4)) .nil)))) .nil) .nil) (.cons (.set 2 (.o2 .add (.o2 .add (.o2 .slT (.var 2) (.var 7)) (.lst (.cons (.var 6) .nil))) (.o2 .slF (.var 2) (.var 7)))) .nil))) .nil) .nil)) .nil)) (.cons (.ret (.lst (.cons (.o1 .tuple (.var 1)) (.cons (.o1 .tuple (.var 2)) .nil)))) .nil)))⟩
/-- _law_new_words jar size signs found spare at menu turn word size_here more each -/
def f4 : Fn := ⟨2, 12, (.cons (.unp [2, 3] (.tup (.cons (.str "abcdefghijklmnopqrstuvwxyz0123456789") (.cons (.fresh (.lst .nil)) .nil)))) (.cons (.set 4 (.comp [5] [5] (.o1 .range (.o2 .add (.var 1) (.int 1))) (.bl true) (.o2 .add (.str "u") (.o1 .str (.var 5))))) (.cons (.set 6 (.lst (.cons (.str "kinds") (.cons (.str "tie") (.cons (.str "over") (.cons (.str "left") (.cons (.str "meet") (.cons (.str "always") (.cons (.str "least") (.cons (.str "without") .nil)))))))))) (.cons (.for_ [7] (.o1 .range (.var 1)) (.cons (.set 8 (.o2 .ix (.var 2) (.call 5 (.cons (.var 0) (.cons (.int 26) .nil))))) (.cons (.set 9 (.o2 .ix (.lst (.cons (.int 1) (.cons (.int 1) (.cons (.o2 .add (.int 1) (.call 5 (.cons (.var 0) (.cons (.int 8) .nil)))) (.cons (.o2 .add (.int 1) (.call 5 (.cons (.var 0) (.cons (.int 2) .nil)))) .nil))))) (.call 5 (.cons (.var 0) (.cons (.int 4) .nil))))) (.cons (.for_ [10] (.o1 .range (.o2 .sub (.var 9) (.int 1))) (.cons (.set 8 (.o2 .add (.var 8) (.o2 .ix (.var 2) (.call 5 (.cons (.var 0) (.cons (.int 36) .nil)))))) .nil)) (.cons (.ite (.o2 .eq (.call 5 (.cons (.var 0) (.cons (.int 6) .nil))) (.int 0)) (.cons (.set 8 (.o2 .ix (.var 6) (.call 5 (.cons (.var 0) (.cons (.int 8) .nil))))) .nil) .nil) (.cons (.ite (.o2 .isIn (.var 8) (.var 3)) (.cons (.set 8 (.o2 .ix (.comp [11] [11] (.var 4) (.o2 .notIn (.var 11) (.var 3)) (.var 11)) (.int 0))) .nil) .nil) (.cons (.expr (.o2 .append (.var 3) (.var 8))) .nil))))))) (.cons (.ret (.o1 .freeze (.var 3))) .nil)))))⟩
/-- _law_draw jar below digit -/
def f5 : Fn := ⟨2, 3, (.cons (.ite (.o2 .gt (.o2 .ix (.var 0) (.int 1)) (.int 0)) (.cons (.dm (.var 0) (.int 1) 2 (.o2 .ix (.var 0) (.int 1)) (.var 1)) (.cons (.ret (.var 2)) .nil)) .nil) (.cons (.sti (.var 0) (.int 2) (.o2 .add (.o2 .ix (.var 0) (.int 2)) (.int 1))) (.cons (.sti (.var 0) (.int 0) (.o2 .mod (.o1 .int (.o2 .add (.o2 .add (.o2 .mul (.o2 .ix (.var 0) (.int 0)) (.int 40459)) (.o2 .mul (.o2 .mul (.o2 .ix (.var 0) (.int 2)) (.o2 .ix (.var 0) (.int 2))) (.int 29))) (.int 1013))) (.int 2147483587))) (.cons (.ret (.o2 .mod (.o1 .int (.o2 .fdiv (.o2 .ix (.var 0) (.int 0)) (.int 89))) (.var 1))) .nil))))⟩
/-- _law_new_few jar size most row turn at -/
def f6 : Fn := ⟨3, 6, (.cons (.set 3 (.fresh (.comp [4] [4] (.o1 .range (.var 1)) (.bl true) (.int 0)))) (.cons (.for_ [4] (.o1 .range (.ite (.o2 .eq (.call 5 (.cons (.var 0) (.cons (.int 4) .nil))) (.int 0)) (.call 5 (.cons (.var 0) (.cons (.o2 .add (.var 2) (.int 1)) .nil))) (.o2 .sub (.var 2) (.call 5 (.cons (.var 0) (.cons (.int 3) .nil)))))) (.cons (.set 5 (.call 5 (.cons (.var 0) (.cons (.var 1) .nil)))) (.cons (.sti (.var 3) (.var 5) (.o2 .add (.o2 .ix (.var 3) (.var 5)) (.int 1))) .nil))) (.cons (.ret (.o1 .tuple (.var 3))) .nil)))⟩
/-- _law_text net one two -/
def f7 : Fn := ⟨1, 3, (.cons (.ret (.o2 .join (.str "\n") (.o2 .add (.lst (.cons (.o2 .join (.str " ") (.o2 .add (.lst (.cons (.str "kinds") .nil)) (.o1 .list (.o2 .ix (.var 0) (.int 0))))) .nil)) (.comp [1, 2] [1, 2] (.o2 .ix (.var 0) (.int 1)) (.bl true) (.o2 .add (.o2 .add (.o2 .add (.str "tie ") (.var 1)) (.str " ")) (.var 2)))))) .nil)⟩
/-- _law_all_ways net stock found link later counts rest times -/
def f8 : Fn := ⟨2, 8, (.cons (.set 2 (.lst (.cons (.lst (.cons (.tup .nil) (.cons (.var 1) .nil))) .nil))) (.cons (.for_ [3] (.call 50 (.cons (.var 0) .nil)) (.cons (.set 4 (.fresh (.lst .nil))) (.cons (.for_ [5, 6] (.var 2) (.cons (.for_ [7] (.o1 .range (.o2 .add (.call 51 (.cons (.var 6) (.cons (.var 3) .nil))) (.int 1))) (.cons (.expr (.o2 .append (.var 4) (.lst (.cons (.o2 .add (.var 5) (.tup (.cons (.var 7) .nil))) (.cons (.call 52 (.cons (.var 6) (.cons (.var 3) (.cons (.var 7) .nil)))) .nil))))) .nil)) .nil)) (.cons (.set 2 (.o1 .list (.var 4))) .nil)))) (.cons (.ret (.var 2)) .nil)))⟩
/-- _law_all_cuts net size links lots at lot -/
def f9 : Fn := ⟨1, 6, (.cons (.unp [1, 2, 3] (.tup (.cons (.o1 .len (.o2 .ix (.var 0) (.int 0))) (.cons (.call 50 (.cons (.var 0) .nil)) (.cons (.lst (.cons (.lst .nil) .nil)) .nil))))) (.cons (.for_ [4] (.o1 .range (.var 1)) (.cons (.set 3 (.o2 .add (.var 3) (.comp [5] [5] (.var 3) (.bl true) (.o2 .add (.var 5) (.lst (.cons (.var 4) .nil)))))) .nil)) (.cons (.ret (.comp [5] [5] (.var 3) (.bl true) (.call 53 (.cons (.var 1) (.cons (.var 2) (.cons (.var 5) .nil)))))) .nil)))⟩
/-- _law_as_paper net counts rows at row -/
def f10 : Fn := ⟨2, 5, (.cons (.set 2 (.comp [3] [3] (.o1 .range (.o1 .len (.var 1))) (.bl true) (.tup (.cons (.o2 .ix (.o2 .ix (.o2 .ix (.var 0) (.int 1)) (.var 3)) (.int 0)) (.cons (.o2 .ix (.o2 .ix (.o2 .ix (.var 0) (.int 1)) (.var 3)) (.int 1)) (.cons (.o2 .ix (.var 1) (.var 3)) .nil)))))) (.cons (.ret (.o1 .tuple (.comp [4] [4] (.var 2) (.o2 .gt (.o2 .ix (.var 4) (.int 2)) (.int 0)) (.var 4)))) .nil))⟩
/-- _law_turned jar row found each place -/
def f11 : Fn := ⟨2, 5, (.cons (.set 2 (.tup .nil)) (.cons (.for_ [3] (.var 1) (.cons (.set 4 (.call 5 (.cons (.var 0) (.cons (.o2 .add (.o1 .len (.var 2)) (.int 1)) .nil)))) (.cons (.set 2 (.o2 .add (.o2 .add (.o2 .slT (.var 2) (.var 4)) (.tup (.cons (.var 3) .nil))) (.o2 .slF (.var 2) (.var 4)))) .nil))) (.cons (.ret (.var 2)) .nil)))⟩
/-- _law_worth_of cut stock some lone at lumps lump odd -/
def f12 : Fn := ⟨3, 8, (.cons (.set 3 (.comp [4] [4] (.o2 .ix (.var 0) (.int 1)) (.o2 .isIn (.var 4) (.var 2)) (.var 4))) (.cons (.set 5 (.comp [6] [6] (.o2 .ix (.var 0) (.int 2)) (.o1 .all (.comp [4] [4] (.var 6) (.bl true) (.o2 .isIn (.var 4) (.var 2)))) (.var 6))) (.cons (.set 7 (.comp [6] [6] (.var 5) (.o2 .eq (.o2 .mod (.o1 .int (.call 49 (.cons (.var 1) (.cons (.var 6) .nil)))) (.int 2)) (.int 1)) (.var 6))) (.cons (.ret (.o2 .sub (.o2 .add (.call 49 (.cons (.var 1) (.cons (.var 3) .nil))) (.o1 .len (.var 7))) (.call 49 (.cons (.var 1) (.cons (.o2 .ix (.var 0) (.int 0)) .nil))))) .nil))))⟩
/-- accepts claim certificate found rule -/
def f13 : Fn := ⟨2, 4, (.cons (.ite (.or (.cons (.not (.isi .tuple (.var 0))) (.cons (.o2 .lt (.o1 .len (.var 0)) (.int 4)) .nil))) (.cons (.ret (.bl false)) .nil) .nil) (.cons (.set 2 (.call 14 (.cons (.o2 .ix (.var 0) (.int 1)) .nil))) (.cons (.set 3 (.ite (.o1 .isN (.var 2)) .non (.make 0 15 (.cons (.o2 .ix (.var 2) (.int 0)) (.cons (.o2 .ix (.var 2) (.int 1)) .nil))))) (.cons (.ite (.or (.cons (.o1 .isN (.var 3)) (.cons (.not (.call 16 (.cons (.var 3) (.cons (.o2 .ix (.var 0) (.int 2)) .nil)))) .nil))) (.cons (.ret (.bl false)) .nil) .nil) (.cons (.ite (.o2 .eq (.o2 .ix (.var 0) (.int 0)) (.str "over")) (.cons (.ret (.and (.cons (.o2 .eq (.o1 .len (.var 0)) (.int 4)) (.cons (.call 17 (.cons (.var 3) (.cons (.o2 .ix (.var 0) (.int 2)) (.cons (.var 0) (.cons (.var 1) .nil))))) .nil)))) .nil) .nil) (.cons (.ite (.o2 .eq (.o2 .ix (.var 0) (.int 0)) (.str "least")) (.cons (.ret (.and (.cons (.o2 .eq (.o1 .len (.var 0)) (.int 5)) (.cons (.call 17 (.cons (.var 3) (.cons (.o2 .ix (.var 0) (.int 2)) (.cons (.var 0) (.cons (.var 1) .nil))))) .nil)))) .nil) .nil) (.cons (.ret (.and (.cons (.o2 .eq (.o2 .ix (.var 0) (.int 0)) (.str "without")) (.cons (.o2 .eq (.o1 .len (.var 0)) (.int 6)) (.cons (.call 18 (.cons (.var 3) (.cons (.o2 .ix (.var 0) (.int 2)) (.cons (.o2 .slF (.var 0) (.int 3)) (.cons (.var 1) .nil))))) .nil))))) .nil)))))))⟩
/-- read_rule text lines words kinds ties line -/
def f14 : Fn := ⟨1, 6, (.cons (.ite (.not (.isi .str (.var 0))) (.cons (.ret .non) .nil) .nil) (.cons (.set 1 (.o2 .split (.var 0) (.str "\n"))) (.cons (.set 2 (.o2 .split (.o2 .ix (.var 1) (.int 0)) (.str " "))) (.cons (.par [3, 4] (.cons (.o1 .tuple (.o2 .slF (.var 2) (.int 1))) (.cons (.o1 .tuple (.comp [5] [5] (.o2 .slF (.var 1) (.int 1)) (.bl true) (.call 44 (.cons (.var 5) .nil)))) .nil))) (.cons (.ite (.or (.cons (.o2 .ne (.o2 .ix (.var 2) (.int 0)) (.str "kinds")) (.cons (.o2 .eq (.o1 .len (.var 3)) (.int 0)) (.cons (.o1 .notN (.call 30 (.cons (.var 3) .nil))) .nil)))) (.cons (.ret .non) .nil) .nil) (.cons (.ret (.ite (.o1 .notN (.call 27 (.cons (.var 4) (.cons (.var 3) .nil)))) .non (.tup (.cons (.var 3) (.cons (.var 4) .nil))))) .nil))))))⟩
/-- Rule.__init__ self kinds ties one two -/
def f15 : Fn := ⟨3, 5, (.cons (.expr (.call 19 (.cons (.var 1) .nil))) (.cons (.expr (.call 20 (.cons (.var 2) (.cons (.var 1) .nil)))) (.cons (.sta 0 0 (.var 0) (.var 1)) (.cons (.sta 0 1 (.var 0) (.var 2)) (.cons (.sta 0 2 (.var 0) (.o1 .tuple (.comp [3, 4] [3, 4] (.var 2) (.bl true) (.tup (.cons (.call 21 (.cons (.var 1) (.cons (.var 3) .nil))) (.cons (.call 21 (.cons (.var 1) (.cons (.var 4) .nil))) .nil)))))) (.cons (.sta 0 3 (.var 0) (.call 22 (.cons (.o1 .len (.var 1)) (.cons (.attr 0 2 (.var 0)) .nil)))) .nil))))))⟩
/-- is_right_size rule value number -/
def f16 : Fn := ⟨2, 3, (.cons (.ite (.or (.cons (.not (.isi .tuple (.var 1))) (.cons (.o2 .ne (.o1 .len (.var 1)) (.o1 .len (.attr 0 0 (.var 0)))) .nil))) (.cons (.ret (.bl false)) .nil) .nil) (.cons (.ret (.o1 .all (.comp [2] [2] (.var 1) (.bl true) (.call 48 (.cons (.var 2) (.cons (.int 0) (.cons (.glo "MOST_THINGS" (.int (1000000000000000000000000000000))) .nil))))))) .nil))⟩
/-- paired_shown rule numbers claim certificate rest -/
def f17 : Fn := ⟨4, 5, (.cons (.ite (.or (.cons (.not (.isi .tuple (.var 3))) (.cons (.o2 .ne (.o1 .len (.var 3)) (.int 2)) .nil))) (.cons (.ret (.bl false)) .nil) .nil) (.cons (.set 4 (.call 35 (.cons (.var 0) (.cons (.var 1) (.cons (.o2 .ix (.var 3) (.int 0)) .nil))))) (.cons (.ite (.o1 .isN (.var 4)) (.cons (.ret (.bl false)) .nil) .nil) (.cons (.ite (.o2 .eq (.o2 .ix (.var 2) (.int 0)) (.str "over")) (.cons (.ret (.and (.cons (.call 32 (.cons (.o2 .ix (.var 2) (.int 3)) .nil)) (.cons (.call 45 (.cons (.var 0) (.cons (.var 1) (.cons (.o2 .ix (.var 2) (.int 3)) (.cons (.var 4) (.cons (.o2 .ix (.var 3) (.int 1)) .nil)))))) .nil)))) .nil) .nil) (.cons (.ret (.call 46 (.cons (.var 0) (.cons (.var 1) (.cons (.o2 .slF (.var 2) (.int 3)) (.cons (.var 4) (.cons (.o2 .ix (.var 3) (.int 1)) .nil))))))) .nil)))))⟩
/-- without_shown rule numbers claim certificate kind other many tie rest others pair cut -/
def f18 : Fn := ⟨4, 12, (.cons (.unp [4, 5, 6] (.var 2)) (.cons (.ite (.or (.cons (.not (.call 32 (.cons (.var 6) .nil))) (.cons (.o2 .notIn (.var 4) (.attr 0 0 (.var 0))) (.cons (.o2 .notIn (.var 5) (.attr 0 0 (.var 0))) (.cons (.not (.call 29 (.cons (.attr 0 1 (.var 0)) (.cons (.tup (.cons (.var 4) (.cons (.var 5) .nil))) .nil)))) .nil))))) (.cons (.ret (.bl false)) .nil) .nil) (.cons (.set 7 (.tup (.cons (.o2 .index (.attr 0 0 (.var 0)) (.var 4)) (.cons (.o2 .index (.attr 0 0 (.var 0)) (.var 5)) .nil)))) (.cons (.ite (.o2 .gt (.var 6) (.call 33 (.cons (.var 1) (.cons (.var 7) .nil)))) (.cons (.ret (.o2 .eq (.var 3) (.tup .nil))) .nil) .nil) (.cons (.ite (.or (.cons (.not (.isi .tuple (.var 3))) (.cons (.o2 .ne (.o1 .len (.var 3)) (.int 2)) (.cons (.not (.call 34 (.cons (.var 0) (.cons (.o2 .ix (.var 3) (.int 1)) .nil)))) .nil)))) (.cons (.ret (.bl false)) .nil) .nil) (.cons (.set 8 (.call 35 (.cons (.var 0) (.cons (.var 1) (.cons (.o2 .ix (.var 3) (.int 0)) .nil))))) (.cons (.set 9 (.o1 .tuple (.comp [10] [10] (.attr 0 2 (.var 0)) (.o2 .notIn (.var 10) (.tup (.cons (.var 7) (.cons (.tup (.cons (.o2 .ix (.var 7) (.int 1)) (.cons (.o2 .ix (.var 7) (.int 0)) .nil))) .nil)))) (.var 10)))) (.cons (.set 11 (.call 24 (.cons (.o1 .len (.attr 0 0 (.var 0))) (.cons (.var 9) (.cons (.call 36 (.cons (.var 0) (.cons (.o2 .ix (.var 3) (.int 1)) .nil))) .nil))))) (.cons (.ret (.and (.cons (.o1 .notN (.var 8)) (.cons (.o2 .gt (.call 37 (.cons (.var 11) (.cons (.call 38 (.cons (.var 1) (.cons (.var 7) (.cons (.o1 .neg (.var 6)) .nil)))) .nil))) (.o1 .sum (.o1 .list (.var 8)))) .nil)))) .nil)))))))))⟩
/-- check_new_kinds kinds wrong -/
def f19 : Fn := ⟨1, 2, (.cons (.ite (.or (.cons (.not (.isi .tuple (.var 0))) (.cons (.o2 .eq (.o1 .len (.var 0)) (.int 0)) .nil))) (.cons .never .nil) .nil) (.cons (.set 1 (.call 30 (.cons (.var 0) .nil))) (.cons (.ite (.o1 .notN (.var 1)) (.cons .never .nil) .nil) .nil)))⟩
/-- check_ties ties kinds wrong -/
def f20 : Fn := ⟨2, 3, (.cons (.ite (.not (.isi .tuple (.var 0))) (.cons .never .nil) .nil) (.cons (.set 2 (.call 27 (.cons (.var 0) (.cons (.var 1) .nil)))) (.cons (.ite (.o1 .notN (.var 2)) (.cons .never .nil) .nil) .nil)))⟩
/-- place_of kinds kind at known -/
def f21 : Fn := ⟨2, 4, (.cons (.ret (.o2 .ix (.comp [2, 3] [2, 3] (.o1 .enum (.var 0)) (.o2 .eq (.var 3) (.var 1)) (.var 2)) (.int 0))) .nil)⟩
/-- cuts_of many ties chosen -/
def f22 : Fn := ⟨2, 3, (.cons (.ret (.o1 .tuple (.comp [2] [2] (.call 23 (.cons (.var 0) .nil)) (.bl true) (.call 24 (.cons (.var 0) (.cons (.var 1) (.cons (.var 2) .nil))))))) .nil)⟩
/-- subsets many found at row -/
def f23 : Fn := ⟨1, 4, (.cons (.set 1 (.lst (.cons (.tup .nil) .nil))) (.cons (.for_ [2] (.o1 .range (.var 0)) (.cons (.set 1 (.o2 .add (.var 1) (.comp [3] [3] (.var 1) (.bl true) (.o2 .add (.var 3) (.tup (.cons (.var 2) .nil)))))) .nil)) (.cons (.ret (.var 1)) .nil)))⟩
/-- cut_of many ties chosen near lone at lumps lump -/
def f24 : Fn := ⟨3, 8, (.cons (.set 3 (.call 25 (.cons (.var 0) (.cons (.var 1) (.cons (.var 2) .nil))))) (.cons (.set 4 (.o1 .tuple (.comp [5] [5] (.o1 .keys (.var 3)) (.o2 .eq (.o2 .ixD (.var 3) (.var 5)) (.lst .nil)) (.var 5)))) (.cons (.set 6 (.lst .nil)) (.cons (.forK [5] 3 (.cons (.ite (.and (.cons (.o2 .notIn (.var 5) (.var 4)) (.cons (.not (.o1 .any (.comp [7] [7] (.var 6) (.bl true) (.o2 .isIn (.var 5) (.var 7))))) .nil))) (.cons (.set 6 (.o2 .add (.var 6) (.lst (.cons (.call 26 (.cons (.var 3) (.cons (.var 5) .nil))) .nil)))) .nil) .nil) .nil)) (.cons (.ret (.tup (.cons (.var 2) (.cons (.var 4) (.cons (.o1 .tuple (.var 6)) .nil))))) .nil)))))⟩
/-- near_outside many ties chosen both one two at -/
def f25 : Fn := ⟨3, 7, (.cons (.set 3 (.comp [4, 5] [4, 5] (.var 1) (.and (.cons (.o2 .notIn (.var 4) (.var 2)) (.cons (.o2 .notIn (.var 5) (.var 2)) .nil))) (.tup (.cons (.var 4) (.cons (.var 5) .nil))))) (.cons (.set 3 (.o2 .add (.var 3) (.comp [4, 5] [4, 5] (.var 3) (.bl true) (.tup (.cons (.var 5) (.cons (.var 4) .nil)))))) (.cons (.ret (.dcomp [6] [6] (.o1 .range (.var 0)) (.o2 .notIn (.var 6) (.var 2)) (.var 6) (.comp [4, 5] [4, 5] (.var 3) (.o2 .eq (.var 4) (.var 6)) (.var 5)))) .nil)))⟩
/-- lump_around near start found turn one two -/
def f26 : Fn := ⟨2, 6, (.cons (.set 2 (.lst (.cons (.var 1) .nil))) (.cons (.for_ [3] (.o1 .range (.o1 .lenD (.var 0))) (.cons (.set 2 (.o1 .sset (.o2 .add (.var 2) (.comp2 [4, 5] [4] (.var 2) [5] [5] (.o2 .ixD (.var 0) (.var 4)) (.bl true) (.var 5))))) .nil)) (.cons (.ret (.o1 .tuple (.var 2))) .nil)))⟩
/-- wrong_tie ties kinds at tie -/
def f27 : Fn := ⟨2, 4, (.cons (.for_ [2, 3] (.o1 .enum (.var 0)) (.cons (.ite (.or (.cons (.not (.call 28 (.cons (.var 3) (.cons (.var 1) .nil)))) (.cons (.call 29 (.cons (.o2 .slT (.var 0) (.var 2)) (.cons (.var 3) .nil))) .nil))) (.cons (.ret (.var 2)) .nil) .nil) .nil)) (.cons (.ret .non) .nil))⟩
/-- is_tie value kinds -/
def f28 : Fn := ⟨2, 2, (.cons (.ret (.and (.cons (.isi .tuple (.var 0)) (.cons (.o2 .eq (.o1 .len (.var 0)) (.int 2)) (.cons (.o2 .isIn (.o2 .ix (.var 0) (.int 0)) (.var 1)) (.cons (.o2 .isIn (.o2 .ix (.var 0) (.int 1)) (.var 1)) .nil)))))) .nil)⟩
/-- is_told ties tie -/
def f29 : Fn := ⟨2, 2, (.cons (.ret (.or (.cons (.o2 .isIn (.var 1) (.var 0)) (.cons (.o2 .isIn (.tup (.cons (.o2 .ix (.var 1) (.int 1)) (.cons (.o2 .ix (.var 1) (.int 0)) .nil))) (.var 0)) .nil)))) .nil)⟩
/-- wrong_kind kinds at kind -/
def f30 : Fn := ⟨1, 3, (.cons (.for_ [1, 2] (.o1 .enum (.var 0)) (.cons (.ite (.or (.cons (.not (.call 31 (.cons (.var 2) .nil))) (.cons (.o2 .isIn (.var 2) (.o2 .slT (.var 0) (.var 1))) (.cons (.o2 .ge (.var 1) (.glo "MOST_KINDS" (.int (6)))) .nil)))) (.cons (.ret (.var 1)) .nil) .nil) .nil)) (.cons (.ret .non) .nil))⟩
/-- is_name value sign -/
def f31 : Fn := ⟨1, 2, (.cons (.ite (.or (.cons (.not (.isi .str (.var 0))) (.cons (.not (.chain .le .le (.int 1) (.o1 .len (.var 0)) (.glo "LONGEST_NAME" (.int (8))))) .nil))) (.cons (.ret (.bl false)) .nil) .nil) (.cons (.ret (.and (.cons (.o2 .isIn (.o2 .ix (.var 0) (.int 0)) (.glo "LETTERS" (.str "abcdefghijklmnopqrstuvwxyz"))) (.cons (.o1 .all (.comp [1] [1] (.o1 .chars (.var 0)) (.bl true) (.or (.cons (.o2 .isIn (.var 1) (.glo "LETTERS" (.str "abcdefghijklmnopqrstuvwxyz"))) (.cons (.o2 .isIn (.var 1) (.glo "DIGITS" (.str "0123456789"))) .nil))))) .nil)))) .nil))⟩
/-- is_count value -/
def f32 : Fn := ⟨1, 1, (.cons (.ret (.and (.cons (.call 43 (.cons (.var 0) .nil)) (.cons (.o2 .ge (.var 0) (.int 0)) .nil)))) .nil)⟩
/-- room_for numbers tie one two -/
def f33 : Fn := ⟨2, 4, (.cons (.unp [2, 3] (.var 1)) (.cons (.ret (.ite (.o2 .eq (.var 2) (.var 3)) (.o2 .fdiv (.o2 .ix (.var 0) (.var 2)) (.int 2)) (.o2 .min2 (.o2 .ix (.var 0) (.var 2)) (.o2 .ix (.var 0) (.var 3))))) .nil))⟩
/-- is_some rule value kind at -/
def f34 : Fn := ⟨2, 4, (.cons (.ite (.or (.cons (.not (.isi .tuple (.var 1))) (.cons (.not (.o1 .all (.comp [2] [2] (.var 1) (.bl true) (.o2 .isIn (.var 2) (.attr 0 0 (.var 0)))))) .nil))) (.cons (.ret (.bl false)) .nil) .nil) (.cons (.ret (.o1 .all (.comp [3, 2] [3, 2] (.o1 .enum (.var 1)) (.bl true) (.o2 .notIn (.var 2) (.o2 .slT (.var 1) (.var 3)))))) .nil))⟩
/-- rest_behind rule numbers value row told tie places counts at rest -/
def f35 : Fn := ⟨3, 10, (.cons (.ite (.or (.cons (.not (.isi .tuple (.var 2))) (.cons (.not (.o1 .all (.comp [3] [3] (.var 2) (.bl true) (.call 41 (.cons (.var 3) .nil))))) .nil))) (.cons (.ret .non) .nil) .nil) (.cons (.set 4 (.comp [3] [3] (.var 2) (.bl true) (.tup (.cons (.o2 .ix (.var 3) (.int 0)) (.cons (.o2 .ix (.var 3) (.int 1)) .nil))))) (.cons (.ite (.o2 .ne (.var 4) (.comp [5] [5] (.attr 0 1 (.var 0)) (.o2 .isIn (.var 5) (.var 4)) (.var 5))) (.cons (.ret .non) .nil) .nil) (.cons (.set 6 (.comp [5] [5] (.var 4) (.bl true) (.o2 .index (.attr 0 1 (.var 0)) (.var 5)))) (.cons (.set 7 (.fresh (.comp [5] [5] (.attr 0 1 (.var 0)) (.bl true) (.int 0)))) (.cons (.for_ [8, 3] (.o2 .zip (.var 6) (.var 2)) (.cons (.sti (.var 7) (.var 8) (.o2 .ix (.var 3) (.int 2))) .nil)) (.cons (.set 9 (.call 42 (.cons (.var 0) (.cons (.var 1) (.cons (.o1 .freeze (.var 7)) .nil))))) (.cons (.ret (.ite (.o2 .ge (.o1 .min (.var 9)) (.int 0)) (.var 9) .non)) .nil))))))))⟩
/-- set_of rule value kind -/
def f36 : Fn := ⟨2, 3, (.cons (.ret (.o1 .tuple (.o1 .sorted (.comp [2] [2] (.var 1) (.bl true) (.o2 .index (.attr 0 0 (.var 0)) (.var 2)))))) .nil)⟩
/-- value_of cut numbers -/
def f37 : Fn := ⟨2, 2, (.cons (.ret (.o2 .sub (.o2 .add (.call 39 (.cons (.var 1) (.cons (.o2 .ix (.var 0) (.int 1)) .nil))) (.o1 .len (.call 40 (.cons (.var 0) (.cons (.var 1) .nil))))) (.call 39 (.cons (.var 1) (.cons (.o2 .ix (.var 0) (.int 0)) .nil))))) .nil)⟩
/-- moved numbers kinds times at number -/
def f38 : Fn := ⟨3, 5, (.cons (.ret (.o1 .tuple (.comp [3, 4] [3, 4] (.o1 .enum (.var 0)) (.bl true) (.o2 .add (.var 4) (.o2 .mul (.var 2) (.o2 .count (.var 1) (.var 3))))))) .nil)⟩
/-- things_in numbers chosen at -/
def f39 : Fn := ⟨2, 3, (.cons (.ret (.o1 .sum (.comp [2] [2] (.var 1) (.bl true) (.o2 .ix (.var 0) (.var 2))))) .nil)⟩
/-- odd_lumps cut numbers lump -/
def f40 : Fn := ⟨2, 3, (.cons (.ret (.comp [2] [2] (.o2 .ix (.var 0) (.int 2)) (.o2 .eq (.o2 .mod (.call 39 (.cons (.var 1) (.cons (.var 2) .nil))) (.int 2)) (.int 1)) (.var 2))) .nil)⟩
/-- is_row value -/
def f41 : Fn := ⟨1, 1, (.cons (.ret (.and (.cons (.isi .tuple (.var 0)) (.cons (.o2 .eq (.o1 .len (.var 0)) (.int 3)) (.cons (.call 43 (.cons (.o2 .ix (.var 0) (.int 2)) .nil)) (.cons (.o2 .ge (.o2 .ix (.var 0) (.int 2)) (.int 1)) .nil)))))) .nil)⟩
/-- without_pairs rule numbers counts tie count -/
def f42 : Fn := ⟨3, 5, (.cons (.for_ [3, 4] (.o2 .zip (.attr 0 2 (.var 0)) (.var 2)) (.cons (.set 1 (.call 38 (.cons (.var 1) (.cons (.var 3) (.cons (.o1 .neg (.var 4)) .nil))))) .nil)) (.cons (.ret (.var 1)) .nil))⟩
/-- is_integer value -/
def f43 : Fn := ⟨1, 1, (.cons (.ret (.and (.cons (.isi .int (.var 0)) (.cons (.not (.isi .bool (.var 0))) .nil)))) .nil)⟩
/-- read_tie line words -/
def f44 : Fn := ⟨1, 2, (.cons (.set 1 (.o2 .split (.var 0) (.str " "))) (.cons (.ret (.ite (.and (.cons (.o2 .eq (.o1 .len (.var 1)) (.int 3)) (.cons (.o2 .eq (.o2 .ix (.var 1) (.int 0)) (.str "tie")) .nil))) (.tup (.cons (.o2 .ix (.var 1) (.int 1)) (.cons (.o2 .ix (.var 1) (.int 2)) .nil))) .non)) .nil))⟩
/-- over_shown rule numbers many rest border -/
def f45 : Fn := ⟨5, 5, (.cons (.ite (.or (.cons (.o2 .ne (.o1 .sum (.o1 .list (.var 3))) (.var 2)) (.cons (.not (.call 34 (.cons (.var 0) (.cons (.var 4) .nil)))) .nil))) (.cons (.ret (.bl false)) .nil) .nil) (.cons (.ret (.o2 .eq (.call 37 (.cons (.call 24 (.cons (.o1 .len (.attr 0 0 (.var 0))) (.cons (.attr 0 2 (.var 0)) (.cons (.call 36 (.cons (.var 0) (.cons (.var 4) .nil))) .nil)))) (.cons (.var 1) .nil))) (.var 2))) .nil))⟩
/-- least_shown rule numbers claim rest border kinds many some -/
def f46 : Fn := ⟨5, 8, (.cons (.unp [5, 6] (.var 2)) (.cons (.ite (.or (.cons (.not (.call 34 (.cons (.var 0) (.cons (.var 5) .nil)))) (.cons (.not (.call 32 (.cons (.var 6) .nil))) .nil))) (.cons (.ret (.bl false)) .nil) .nil) (.cons (.set 7 (.call 36 (.cons (.var 0) (.cons (.var 5) .nil)))) (.cons (.ite (.o2 .ne (.call 39 (.cons (.var 3) (.cons (.var 7) .nil))) (.var 6)) (.cons (.ret (.bl false)) .nil) .nil) (.cons (.ite (.o1 .isN (.var 4)) (.cons (.ret (.o2 .eq (.var 6) (.int 0))) .nil) .nil) (.cons (.ite (.not (.call 34 (.cons (.var 0) (.cons (.var 4) .nil)))) (.cons (.ret (.bl false)) .nil) .nil) (.cons (.ret (.o2 .eq (.call 47 (.cons (.call 24 (.cons (.o1 .len (.attr 0 0 (.var 0))) (.cons (.attr 0 2 (.var 0)) (.cons (.call 36 (.cons (.var 0) (.cons (.var 4) .nil))) .nil)))) (.cons (.var 1) (.cons (.var 7) .nil)))) (.var 6))) .nil)))))))⟩
/-- value_for cut numbers some lone at lumps lump -/
def f47 : Fn := ⟨3, 7, (.cons (.set 3 (.comp [4] [4] (.o2 .ix (.var 0) (.int 1)) (.o2 .isIn (.var 4) (.var 2)) (.var 4))) (.cons (.set 5 (.comp [6] [6] (.call 40 (.cons (.var 0) (.cons (.var 1) .nil))) (.o1 .all (.comp [4] [4] (.var 6) (.bl true) (.o2 .isIn (.var 4) (.var 2)))) (.var 6))) (.cons (.ret (.o2 .sub (.o2 .add (.call 39 (.cons (.var 1) (.cons (.var 3) .nil))) (.o1 .len (.var 5))) (.call 39 (.cons (.var 1) (.cons (.o2 .ix (.var 0) (.int 0)) .nil))))) .nil)))⟩
/-- is_within value least most -/
def f48 : Fn := ⟨3, 3, (.cons (.ret (.and (.cons (.call 43 (.cons (.var 0) .nil)) (.cons (.chain .le .le (.var 1) (.var 0) (.var 2)) .nil)))) .nil)⟩
/-- _law_sum stock places at -/
def f49 : Fn := ⟨2, 3, (.cons (.ret (.o1 .sum (.comp [2] [2] (.var 1) (.bl true) (.o2 .ix (.var 0) (.var 2))))) .nil)⟩
/-- _law_link_list net one two -/
def f50 : Fn := ⟨1, 3, (.cons (.ret (.comp [1, 2] [1, 2] (.o2 .ix (.var 0) (.int 1)) (.bl true) (.tup (.cons (.o2 .index (.o2 .ix (.var 0) (.int 0)) (.var 1)) (.cons (.o2 .index (.o2 .ix (.var 0) (.int 0)) (.var 2)) .nil))))) .nil)⟩
/-- _law_room_for stock link one two -/
def f51 : Fn := ⟨2, 4, (.cons (.unp [2, 3] (.var 1)) (.cons (.ret (.ite (.o2 .eq (.var 2) (.var 3)) (.o2 .fdiv (.o2 .ix (.var 0) (.var 2)) (.int 2)) (.o2 .min2 (.o2 .ix (.var 0) (.var 2)) (.o2 .ix (.var 0) (.var 3))))) .nil))⟩
/-- _law_took stock link times row at -/
def f52 : Fn := ⟨3, 5, (.cons (.set 3 (.fresh (.o1 .list (.var 0)))) (.cons (.for_ [4] (.var 1) (.cons (.sti (.var 3) (.var 4) (.o2 .sub (.o2 .ix (.var 3) (.var 4)) (.var 2))) .nil)) (.cons (.ret (.o1 .tuple (.var 3))) .nil)))⟩
/-- _law_cut_by size links chosen inner link outer at lone lumps one two first lump last -/
def f53 : Fn := ⟨3, 14, (.cons (.set 3 (.comp [4] [4] (.var 1) (.and (.cons (.o2 .notIn (.o2 .ix (.var 4) (.int 0)) (.var 2)) (.cons (.o2 .notIn (.o2 .ix (.var 4) (.int 1)) (.var 2)) .nil))) (.var 4))) (.cons (.set 5 (.comp [6] [6] (.o1 .range (.var 0)) (.o2 .notIn (.var 6) (.var 2)) (.var 6))) (.cons (.set 7 (.comp [6] [6] (.var 5) (.not (.o1 .any (.comp [4] [4] (.var 3) (.bl true) (.o2 .isIn (.var 6) (.var 4))))) (.var 6))) (.cons (.set 8 (.comp [6] [6] (.var 5) (.o2 .notIn (.var 6) (.var 7)) (.lst (.cons (.var 6) .nil)))) (.cons (.for_ [9, 10] (.var 3) (.cons (.set 11 (.o2 .ix (.comp [12] [12] (.var 8) (.o2 .isIn (.var 9) (.var 12)) (.var 12)) (.int 0))) (.cons (.set 13 (.o2 .ix (.comp [12] [12] (.var 8) (.o2 .isIn (.var 10) (.var 12)) (.var 12)) (.int 0))) (.cons (.ite (.o2 .ne (.var 11) (.var 13)) (.cons (.set 8 (.o2 .add (.comp [12] [12] (.var 8) (.and (.cons (.o2 .ne (.var 12) (.var 11)) (.cons (.o2 .ne (.var 12) (.var 13)) .nil))) (.var 12)) (.lst (.cons (.o2 .add (.var 11) (.var 13)) .nil)))) .nil) .nil) .nil)))) (.cons (.ret (.lst (.cons (.var 2) (.cons (.var 7) (.cons (.var 8) .nil))))) .nil))))))⟩
/-- law script k -/
def f54 : Fn := ⟨1, 2, (.cons (.for_ [1] (.o1 .range (.o2 .max2 (.int 2) (.o2 .min2 (.o1 .len (.var 0)) (.int 3)))) (.cons (.ite (.not (.call 55 (.cons (.call 2 (.cons (.var 0) (.cons (.var 1) .nil))) .nil))) (.cons (.ret (.bl false)) .nil) .nil) .nil)) (.cons (.ret (.bl true)) .nil))⟩
/-- _law_right jar net stock page ways turn some lot word low counts rest good paper near said least found -/
def f55 : Fn := ⟨1, 18, (.cons (.set 1 (.call 3 (.cons (.var 0) (.cons (.call 4 (.cons (.var 0) (.cons (.o2 .add (.int 1) (.call 5 (.cons (.var 0) (.cons (.int 3) .nil)))) .nil))) .nil)))) (.cons (.par [2, 3] (.cons (.call 6 (.cons (.var 0) (.cons (.o1 .len (.o2 .ix (.var 1) (.int 0))) (.cons (.int 6) .nil)))) (.cons (.call 7 (.cons (.var 1) .nil)) .nil))) (.cons (.set 4 (.call 8 (.cons (.var 1) (.cons (.var 2) .nil)))) (.cons (.for_ [5] (.o1 .range (.int 3)) (.cons (.set 6 (.call 56 (.cons (.var 0) (.cons (.var 1) .nil)))) (.cons (.set 7 (.comp [8] [8] (.var 6) (.bl true) (.o2 .index (.o2 .ix (.var 1) (.int 0)) (.var 8)))) (.cons (.set 9 (.o1 .min (.comp [10, 11] [10, 11] (.var 4) (.bl true) (.call 49 (.cons (.var 11) (.cons (.var 7) .nil)))))) (.cons (.set 12 (.comp [10, 11] [10, 11] (.var 4) (.o2 .eq (.call 49 (.cons (.var 11) (.cons (.var 7) .nil))) (.var 9)) (.var 10))) (.cons (.set 13 (.call 10 (.cons (.var 1) (.cons (.o2 .ix (.var 12) (.call 5 (.cons (.var 0) (.cons (.o1 .len (.var 12)) .nil)))) .nil)))) (.cons (.ite (.o2 .lt (.call 57 (.cons (.var 0) (.cons (.var 1) (.cons (.var 2) (.cons (.tup (.cons (.str "least") (.cons (.var 3) (.cons (.var 2) (.cons (.var 6) (.cons (.var 9) .nil)))))) (.cons (.var 13) .nil)))))) (.int 1)) (.cons (.ret (.bl false)) .nil) .nil) (.cons (.set 14 (.ite (.o2 .eq (.call 5 (.cons (.var 0) (.cons (.int 2) .nil))) (.int 0)) (.o2 .add (.var 9) (.int 1)) (.o2 .max2 (.int 0) (.o2 .sub (.var 9) (.int 1))))) (.cons (.set 15 (.tup (.cons (.str "least") (.cons (.var 3) (.cons (.var 2) (.cons (.var 6) (.cons (.var 14) .nil))))))) (.cons (.ite (.and (.cons (.o2 .ne (.var 14) (.var 9)) (.cons (.o2 .ne (.call 57 (.cons (.var 0) (.cons (.var 1) (.cons (.var 2) (.cons (.var 15) (.cons (.var 13) .nil)))))) (.int 0)) .nil))) (.cons (.ret (.bl false)) .nil) .nil) (.cons (.unp [10, 11] (.o2 .ix (.var 4) (.call 5 (.cons (.var 0) (.cons (.o1 .len (.var 4)) .nil))))) (.cons (.set 16 (.call 49 (.cons (.var 11) (.cons (.var 7) .nil)))) (.cons (.set 17 (.call 57 (.cons (.var 0) (.cons (.var 1) (.cons (.var 2) (.cons (.tup (.cons (.str "least") (.cons (.var 3) (.cons (.var 2) (.cons (.var 6) (.cons (.var 16) .nil)))))) (.cons (.call 10 (.cons (.var 1) (.cons (.var 10) .nil))) .nil))))))) (.cons (.ite (.or (.cons (.o2 .lt (.var 17) (.int 0)) (.cons (.o2 .ne (.o2 .gt (.var 17) (.int 0)) (.o2 .eq (.var 16) (.var 9))) .nil))) (.cons (.ret (.bl false)) .nil) .nil) .nil)))))))))))))) (.cons (.ret (.bl true)) .nil)))))⟩
/-- _law_pick_some jar net word -/
def f56 : Fn := ⟨2, 3, (.cons (.ret (.call 11 (.cons (.var 0) (.cons (.comp [2] [2] (.o2 .ix (.var 1) (.int 0)) (.o2 .eq (.call 5 (.cons (.var 0) (.cons (.int 2) .nil))) (.int 0)) (.var 2)) .nil)))) .nil)⟩
/-- _law_shown jar net stock said paper lot found cut chosen at due -/
def f57 : Fn := ⟨5, 11, (.cons (.par [5, 6] (.cons (.call 58 (.cons (.var 1) (.cons (.o2 .ix (.var 3) (.int 3)) .nil))) (.cons (.int 0) .nil))) (.cons (.for_ [7] (.call 9 (.cons (.var 1) .nil)) (.cons (.set 8 (.call 11 (.cons (.var 0) (.cons (.comp [9] [9] (.o2 .ix (.var 7) (.int 0)) (.bl true) (.o2 .ix (.o2 .ix (.var 1) (.int 0)) (.var 9))) .nil)))) (.cons (.set 10 (.and (.cons (.o2 .eq (.call 49 (.cons (.call 59 (.cons (.var 1) (.cons (.var 2) (.cons (.var 4) .nil)))) (.cons (.var 5) .nil))) (.o2 .ix (.var 3) (.int 4))) (.cons (.o2 .eq (.call 12 (.cons (.var 7) (.cons (.var 2) (.cons (.var 5) .nil)))) (.o2 .ix (.var 3) (.int 4))) .nil)))) (.cons (.ite (.o2 .ne (.o1 .repr (.call 13 (.cons (.var 3) (.cons (.tup (.cons (.var 4) (.cons (.var 8) .nil))) .nil)))) (.o1 .repr (.var 10))) (.cons (.ret (.o1 .neg (.int 1))) .nil) .nil) (.cons (.set 6 (.o2 .add (.var 6) (.o1 .int (.var 10)))) .nil))))) (.cons (.set 10 (.and (.cons (.o2 .eq (.call 49 (.cons (.call 59 (.cons (.var 1) (.cons (.var 2) (.cons (.var 4) .nil)))) (.cons (.var 5) .nil))) (.o2 .ix (.var 3) (.int 4))) (.cons (.o2 .eq (.o2 .ix (.var 3) (.int 4)) (.int 0)) .nil)))) (.cons (.ite (.o2 .ne (.o1 .repr (.call 13 (.cons (.var 3) (.cons (.tup (.cons (.var 4) (.cons .non .nil))) .nil)))) (.o1 .repr (.var 10))) (.cons (.ret (.o1 .neg (.int 1))) .nil) .nil) (.cons (.ret (.o2 .add (.var 6) (.o1 .int (.var 10)))) .nil)))))⟩
/-- _law_places net paper found each -/
def f58 : Fn := ⟨2, 4, (.cons (.ite (.not (.isi .tuple (.var 1))) (.cons (.ret .non) .nil) .nil) (.cons (.set 2 (.fresh (.lst .nil))) (.cons (.for_ [3] (.var 1) (.cons (.ite (.or (.cons (.o2 .notIn (.var 3) (.o2 .ix (.var 0) (.int 0))) (.cons (.o2 .isIn (.o2 .index (.o2 .ix (.var 0) (.int 0)) (.var 3)) (.var 2)) .nil))) (.cons (.ret .non) .nil) .nil) (.cons (.expr (.o2 .append (.var 2) (.o2 .index (.o2 .ix (.var 0) (.int 0)) (.var 3)))) .nil))) (.cons (.ret (.o1 .freeze (.var 2))) .nil))))⟩
/-- _law_behind net stock paper rest last links row at -/
def f59 : Fn := ⟨3, 8, (.cons (.ite (.not (.isi .tuple (.var 2))) (.cons (.ret .non) .nil) .nil) (.cons (.par [3, 4, 5] (.cons (.var 1) (.cons (.o1 .neg (.int 1)) (.cons (.call 50 (.cons (.var 0) .nil)) .nil)))) (.cons (.for_ [6] (.var 2) (.cons (.ite (.or (.cons (.not (.isi .tuple (.var 6))) (.cons (.o2 .ne (.o1 .len (.var 6)) (.int 3)) (.cons (.o2 .notIn (.o2 .slT (.var 6) (.int 2)) (.o2 .ix (.var 0) (.int 1))) .nil)))) (.cons (.ret .non) .nil) .nil) (.cons (.set 7 (.o2 .index (.o2 .ix (.var 0) (.int 1)) (.o2 .slT (.var 6) (.int 2)))) (.cons (.ite (.or (.cons (.o2 .le (.var 7) (.var 4)) (.cons (.not (.call 60 (.cons (.o2 .ix (.var 6) (.int 2)) (.cons (.int 1) (.cons (.o2 .pow (.int 10) (.int 30)) .nil))))) .nil))) (.cons (.ret .non) .nil) .nil) (.cons (.par [3, 4] (.cons (.call 52 (.cons (.var 3) (.cons (.o2 .ix (.var 5) (.var 7)) (.cons (.o2 .ix (.var 6) (.int 2)) .nil)))) (.cons (.var 7) .nil))) .nil))))) (.cons (.ret (.ite (.o2 .ge (.o1 .min (.var 3)) (.int 0)) (.var 3) .non)) .nil))))⟩
/-- _law_whole thing least most -/
def f60 : Fn := ⟨3, 3, (.cons (.ret (.and (.cons (.isi .int (.var 0)) (.cons (.not (.isi .bool (.var 0))) (.cons (.chain .le .le (.var 1) (.var 0) (.var 2)) .nil))))) .nil)⟩
/-- law script k -/
def f61 : Fn := ⟨1, 2, (.cons (.for_ [1] (.o1 .range (.o2 .max2 (.int 2) (.o2 .min2 (.o1 .len (.var 0)) (.int 3)))) (.cons (.ite (.not (.call 62 (.cons (.call 2 (.cons (.var 0) (.cons (.var 1) .nil))) .nil))) (.cons (.ret (.bl false)) .nil) .nil) .nil)) (.cons (.ret (.bl true)) .nil))⟩
/-- _law_right jar names net stock pair page ways link at tie best cuts counts rest good fair drawn times said shown is_less cut chosen spot worth -/
def f62 : Fn := ⟨1, 25, (.cons (.set 1 (.call 4 (.cons (.var 0) (.cons (.o2 .add (.int 1) (.call 5 (.cons (.var 0) (.cons (.int 3) .nil)))) .nil)))) (.cons (.unp [2, 3] (.tup (.cons (.call 3 (.cons (.var 0) (.cons (.var 1) .nil))) (.cons (.call 6 (.cons (.var 0) (.cons (.o1 .len (.var 1)) (.cons (.int 6) .nil)))) .nil)))) (.cons (.ite (.o2 .eq (.o1 .len (.o2 .ix (.var 2) (.int 1))) (.int 0)) (.cons (.set 2 (.lst (.cons (.o2 .ix (.var 2) (.int 0)) (.cons (.tup (.cons (.tup (.cons (.o2 .ix (.var 1) (.o1 .neg (.int 1))) (.cons (.o2 .ix (.var 1) (.int 0)) .nil))) .nil)) .nil)))) .nil) .nil) (.cons (.unp [4, 5, 6] (.tup (.cons (.call 63 (.cons (.var 0) (.cons (.var 2) .nil))) (.cons (.call 7 (.cons (.var 2) .nil)) (.cons (.call 8 (.cons (.var 2) (.cons (.var 3) .nil))) .nil))))) (.cons (.set 7 (.tup (.cons (.o2 .index (.o2 .ix (.var 2) (.int 0)) (.o2 .ix (.var 4) (.int 0))) (.cons (.o2 .index (.o2 .ix (.var 2) (.int 0)) (.o2 .ix (.var 4) (.int 1))) .nil)))) (.cons (.set 8 (.o2 .index (.comp [9] [9] (.o2 .ix (.var 2) (.int 1)) (.bl true) (.o2 .isIn (.var 4) (.lst (.cons (.var 9) (.cons (.tup (.cons (.o2 .ix (.var 9) (.int 1)) (.cons (.o2 .ix (.var 9) (.int 0)) .nil))) .nil))))) (.bl true))) (.cons (.unp [10, 11] (.tup (.cons (.o1 .min (.comp [12, 13] [12, 13] (.var 6) (.bl true) (.o1 .sum (.o1 .list (.var 13))))) (.cons (.call 9 (.cons (.call 64 (.cons (.var 2) (.cons (.var 7) .nil))) .nil)) .nil)))) (.cons (.set 14 (.comp [12, 13] [12, 13] (.var 6) (.o2 .eq (.o1 .sum (.o1 .list (.var 13))) (.var 10)) (.var 12))) (.cons (.par [15, 16] (.cons (.call 10 (.cons (.var 2) (.cons (.o2 .ix (.var 14) (.call 5 (.cons (.var 0) (.cons (.o1 .len (.var 14)) .nil)))) .nil))) (.cons (.o2 .ix (.var 6) (.call 5 (.cons (.var 0) (.cons (.o1 .len (.var 6)) .nil)))) .nil))) (.cons (.for_ [17] (.o1 .range (.o2 .add (.call 51 (.cons (.var 3) (.cons (.var 7) .nil))) (.int 3))) (.cons (.par [18, 19] (.cons (.tup (.cons (.str "without") (.cons (.var 5) (.cons (.var 3) (.cons (.o2 .ix (.var 4) (.int 0)) (.cons (.o2 .ix (.var 4) (.int 1)) (.cons (.var 17) .nil))))))) (.cons (.int 0) .nil))) (.cons (.set 20 (.o2 .gt (.var 17) (.call 51 (.cons (.var 3) (.cons (.var 7) .nil))))) (.cons (.ite (.o2 .ne (.o1 .repr (.call 13 (.cons (.var 18) (.cons (.tup .nil) .nil)))) (.o1 .repr (.var 20))) (.cons (.ret (.bl false)) .nil) .nil) (.cons (.for_ [21] (.ite (.not (.var 20)) (.var 11) (.lst .nil)) (.cons (.set 22 (.call 11 (.cons (.var 0) (.cons (.comp [23] [23] (.o2 .ix (.var 21) (.int 0)) (.bl true) (.o2 .ix (.o2 .ix (.var 2) (.int 0)) (.var 23))) .nil)))) (.cons (.set 24 (.call 12 (.cons (.var 21) (.cons (.call 52 (.cons (.var 3) (.cons (.var 7) (.cons (.var 17) .nil)))) (.cons (.o1 .lrange (.o1 .len (.var 3))) .nil))))) (.cons (.ite (.o2 .ne (.o1 .repr (.call 13 (.cons (.var 18) (.cons (.tup (.cons (.var 15) (.cons (.var 22) .nil))) .nil)))) (.o1 .repr (.o2 .gt (.var 24) (.var 10)))) (.cons (.ret (.bl false)) .nil) .nil) (.cons (.ite (.o2 .ne (.o1 .repr (.call 13 (.cons (.var 18) (.cons (.tup (.cons (.call 10 (.cons (.var 2) (.cons (.o2 .ix (.var 16) (.int 0)) .nil))) (.cons (.var 22) .nil))) .nil)))) (.o1 .repr (.o2 .gt (.var 24) (.o1 .sum (.o1 .list (.o2 .ix (.var 16) (.int 1))))))) (.cons (.ret (.bl false)) .nil) .nil) (.cons (.set 19 (.o2 .add (.var 19) (.o1 .int (.o2 .gt (.var 24) (.var 10))))) .nil)))))) (.cons (.ite (.o2 .eq (.or (.cons (.o2 .gt (.var 19) (.int 0)) (.cons (.var 20) .nil))) (.o2 .isIn (.var 17) (.comp [12] [12] (.var 14) (.bl true) (.o2 .ix (.var 12) (.var 8))))) (.cons (.ret (.bl false)) .nil) .nil) .nil)))))) (.cons (.ret (.bl true)) .nil)))))))))))⟩
/-- _law_pick_tie jar net one two -/
def f63 : Fn := ⟨2, 4, (.cons (.unp [2, 3] (.o2 .ix (.o2 .ix (.var 1) (.int 1)) (.call 5 (.cons (.var 0) (.cons (.o1 .len (.o2 .ix (.var 1) (.int 1))) .nil))))) (.cons (.ret (.ite (.o2 .eq (.call 5 (.cons (.var 0) (.cons (.int 2) .nil))) (.int 0)) (.tup (.cons (.var 2) (.cons (.var 3) .nil))) (.tup (.cons (.var 3) (.cons (.var 2) .nil))))) .nil))⟩
/-- _law_without_tie net link links kept at -/
def f64 : Fn := ⟨2, 5, (.cons (.set 2 (.call 50 (.cons (.var 0) .nil))) (.cons (.set 3 (.comp [4] [4] (.o1 .range (.o1 .len (.var 2))) (.o2 .notIn (.o2 .ix (.var 2) (.var 4)) (.lst (.cons (.var 1) (.cons (.tup (.cons (.o2 .ix (.var 1) (.int 1)) (.cons (.o2 .ix (.var 1) (.int 0)) .nil))) .nil)))) (.var 4))) (.cons (.ret (.lst (.cons (.o2 .ix (.var 0) (.int 0)) (.cons (.o1 .tuple (.comp [4] [4] (.var 3) (.bl true) (.o2 .ix (.o2 .ix (.var 0) (.int 1)) (.var 4)))) .nil)))) .nil)))⟩
def PT : Nat → Option Fn
  | 0 => some f0
  | 1 => some f1
  | 2 => some f2
  | 3 => some f3
  | 4 => some f4
  | 5 => some f5
  | 6 => some f6
  | 7 => some f7
  | 8 => some f8
  | 9 => some f9
  | 10 => some f10
  | 11 => some f11
  | 12 => some f12
  | 13 => some f13
  | 14 => some f14
  | 15 => some f15
  | 16 => some f16
  | 17 => some f17
  | 18 => some f18
  | 19 => some f19
  | 20 => some f20
  | 21 => some f21
  | 22 => some f22
  | 23 => some f23
  | 24 => some f24
  | 25 => some f25
  | 26 => some f26
  | 27 => some f27
  | 28 => some f28
  | 29 => some f29
  | 30 => some f30
  | 31 => some f31
  | 32 => some f32
  | 33 => some f33
  | 34 => some f34
  | 35 => some f35
  | 36 => some f36
  | 37 => some f37
  | 38 => some f38
  | 39 => some f39
  | 40 => some f40
  | 41 => some f41
  | 42 => some f42
  | 43 => some f43
  | 44 => some f44
  | 45 => some f45
  | 46 => some f46
  | 47 => some f47
  | 48 => some f48
  | 49 => some f49
  | 50 => some f50
  | 51 => some f51
  | 52 => some f52
  | 53 => some f53
  | 54 => some f54
  | 55 => some f55
  | 56 => some f56
  | 57 => some f57
  | 58 => some f58
  | 59 => some f59
  | 60 => some f60
  | 61 => some f61
  | 62 => some f62
  | 63 => some f63
  | 64 => some f64
  | _ => none
end QP
end
section
set_option linter.all false
set_option autoImplicit false
/-! QM: pairings of kinds: Gallai's lemma, Tutte and Berge. -/
namespace QM
/-- f 0 + .. + f (m - 1) -/
def sm : Nat → (Nat → Nat) → Nat
  | 0, _ => 0
  | m + 1, f => sm m f + f m
theorem sm_le {f g : Nat → Nat} : ∀ {m : Nat}, (∀ i, i < m → f i ≤ g i) → sm m f ≤ sm m g
  | 0, _ => Nat.le_refl _
  | m + 1, h => Nat.add_le_add (sm_le fun i hi => h i (Nat.lt_succ_of_lt hi)) (h m (Nat.lt_succ_self m))
theorem sm_eq {f g : Nat → Nat} {m : Nat} (h : ∀ i, i < m → f i = g i) : sm m f = sm m g :=
  Nat.le_antisymm (sm_le fun i hi => Nat.le_of_eq (h i hi)) (sm_le fun i hi => Nat.le_of_eq (h i hi).symm)
theorem sm_add {f g : Nat → Nat} : ∀ {m : Nat}, sm m (fun i => f i + g i) = sm m f + sm m g
  | 0 => rfl
  | m + 1 => by simp only [sm]; rw [sm_add (m := m)]; omega
theorem sm_zero {m : Nat} : sm m (fun _ => 0) = 0 := by
  induction m with
  | zero => rfl
  | succ m ih => simp only [sm]; omega
/-- a strict place -/
theorem sm_gap {f g : Nat → Nat} {c : Nat} : ∀ {m e : Nat}, e < m → (∀ i, i < m → f i ≤ g i) → f e + c ≤ g e → sm m f + c ≤ sm m g
  | 0, _, h, _, _ => absurd h (Nat.not_lt_zero _)
  | m + 1, e, h, hl, hc => by
    by_cases he : e = m
    · subst he
      have := sm_le (m := e) fun i hi => hl i (Nat.lt_succ_of_lt hi)
      simp only [sm]
      omega
    · have := sm_gap (m := m) (e := e) (by omega) (fun i hi => hl i (Nat.lt_succ_of_lt hi)) hc
      have h2 := hl m (Nat.lt_succ_self m)
      simp only [sm]
      omega
theorem sm_get {f : Nat → Nat} {m e : Nat} (h : e < m) : f e ≤ sm m f := by
  induction m with
  | zero => omega
  | succ m ih =>
    simp only [sm]
    by_cases he : e = m
    · subst he; omega
    · have := ih (by omega); omega
theorem sm_comm (f : Nat → Nat → Nat) (q : Nat) : ∀ m : Nat, sm q (fun k => sm m (fun i => f i k)) = sm m (fun i => sm q (fun k => f i k))
  | 0 => by simp only [sm]; exact sm_zero
  | m + 1 => by
    simp only [sm]
    rw [sm_add (f := fun k => sm m fun i => f i k) (g := fun k => f m k), sm_comm f q m]
def upd (f : Nat → Nat) (e v : Nat) : Nat → Nat := fun i => if i = e then v else f i
theorem sm_ind (v : Nat) {a q : Nat} (h : a < q) : sm q (fun k => if a = k then v else 0) = v := by
  induction q with
  | zero => omega
  | succ q ih =>
    simp only [sm]
    by_cases he : a = q
    · subst he
      have : sm a (fun k => if a = k then v else 0) = 0 := (sm_eq (g := fun _ => 0) fun i hi => if_neg (by omega)).trans sm_zero
      rw [this, if_pos rfl]
      omega
    · rw [ih (by omega), if_neg he]
      rfl
theorem sm_upd {f : Nat → Nat} {e v : Nat} : ∀ {m : Nat}, e < m → sm m (upd f e v) + f e = sm m f + v
  | 0, h => absurd h (Nat.not_lt_zero _)
  | m + 1, h => by
    simp only [sm]
    by_cases he : e = m
    · subst he
      have : sm e (upd f e v) = sm e f := sm_eq fun i hi => if_neg (by omega)
      rw [this]
      unfold upd
      rw [if_pos rfl]
      omega
    · have := sm_upd (f := f) (v := v) (m := m) (e := e) (by omega)
      have h2 : upd f e v m = f m := if_neg (fun z => he z.symm)
      omega
/-- ties: i-th between the kinds ta i and tb i -/
structure Net where
  m : Nat
  ta : Nat → Nat
  tb : Nat → Nat
  q : Nat
  hq : ∀ i, i < m → ta i < q ∧ tb i < q
variable (T : Net)
def inc (i k : Nat) : Nat := (if T.ta i = k then 1 else 0) + (if T.tb i = k then 1 else 0)
def use (x : Nat → Nat) (k : Nat) : Nat := sm T.m (fun i => x i * inc T i k)
def Feas (n x : Nat → Nat) : Prop := ∀ k, use T x k ≤ n k
def tot (x : Nat → Nat) : Nat := sm T.m x
def Best (n x : Nat → Nat) : Prop := Feas T n x ∧ ∀ y, Feas T n y → tot T y ≤ tot T x
def Edge (a b : Nat) : Prop := ∃ e, e < T.m ∧ ((T.ta e = a ∧ T.tb e = b) ∨ (T.ta e = b ∧ T.tb e = a))
variable {T}
theorem inc_q {i : Nat} (h : i < T.m) : sm T.q (fun k => inc T i k) = 2 := by
  unfold inc
  rw [sm_add, sm_ind 1 (T.hq i h).1, sm_ind 1 (T.hq i h).2]
theorem use_sum (x : Nat → Nat) : sm T.q (use T x) = 2 * tot T x := by
  unfold use tot
  rw [sm_comm (fun i k => x i * inc T i k) T.q T.m]
  have : ∀ i, i < T.m → sm T.q (fun k => x i * inc T i k) = 2 * x i := fun i hi => by
    have mul : ∀ (c : Nat) (g : Nat → Nat) (q : Nat), sm q (fun k => c * g k) = c * sm q g := by
      intro c g q
      induction q with
      | zero => rfl
      | succ q ih => simp only [sm]; rw [ih, Nat.mul_add]
    rw [mul, inc_q hi, Nat.mul_comm]
  rw [sm_eq this]
  have mul : ∀ (g : Nat → Nat) (m : Nat), sm m (fun k => 2 * g k) = 2 * sm m g := by
    intro g m
    induction m with
    | zero => rfl
    | succ q ih => simp only [sm]; rw [ih, Nat.mul_add]
  exact mul x T.m
theorem use_up {x : Nat → Nat} {e k : Nat} (h : e < T.m) : use T (upd x e (x e + 1)) k = use T x k + inc T e k := by
  have e1 : use T (upd x e (x e + 1)) k = sm T.m (upd (fun i => x i * inc T i k) e ((x e + 1) * inc T e k)) := sm_eq fun i hi => by
    unfold upd
    by_cases hie : i = e
    · subst hie; simp
    · simp [hie]
  have := sm_upd (f := fun i => x i * inc T i k) (v := (x e + 1) * inc T e k) h
  rw [e1]
  unfold use
  have h3 : (x e + 1) * inc T e k = x e * inc T e k + inc T e k := by rw [Nat.add_mul, Nat.one_mul]
  omega
theorem use_down {x : Nat → Nat} {e k : Nat} (h : e < T.m) (hx : 1 ≤ x e) : use T (upd x e (x e - 1)) k + inc T e k = use T x k := by
  have := use_up (T := T) (x := upd x e (x e - 1)) (k := k) h
  have e1 : upd x e (x e - 1) e + 1 = x e := by unfold upd; rw [if_pos rfl]; omega
  rw [e1] at this
  have e2 : upd (upd x e (x e - 1)) e (x e) = x := by
    funext i
    unfold upd
    by_cases hi : i = e
    · subst hi; simp
    · simp [hi]
  rw [e2] at this
  omega
theorem tot_up {x : Nat → Nat} {e : Nat} (h : e < T.m) : tot T (upd x e (x e + 1)) = tot T x + 1 := by
  have := sm_upd (f := x) (v := x e + 1) h
  unfold tot
  omega
theorem tot_down {x : Nat → Nat} {e : Nat} (h : e < T.m) (hx : 1 ≤ x e) : tot T (upd x e (x e - 1)) + 1 = tot T x := by
  have := sm_upd (f := x) (v := x e - 1) h
  unfold tot
  omega
theorem inc_ends {e a b : Nat} (h : (T.ta e = a ∧ T.tb e = b) ∨ (T.ta e = b ∧ T.tb e = a)) (k : Nat) : inc T e k = (if a = k then 1 else 0) + (if b = k then 1 else 0) := by
  unfold inc
  rcases h with ⟨rfl, rfl⟩ | ⟨rfl, rfl⟩
  · rfl
  · exact Nat.add_comm _ _
def rest (T : Net) (n x : Nat → Nat) (k : Nat) : Nat := n k - use T x k
/-- one more pair -/
theorem no_more {n x : Nat → Nat} {a b : Nat} (hb : Best T n x) (he : Edge T a b) (h : if a = b then 2 ≤ rest T n x a else 1 ≤ rest T n x a ∧ 1 ≤ rest T n x b) : False := by
  obtain ⟨e, hm, he⟩ := he
  have hf : Feas T n (upd x e (x e + 1)) := fun k => by
    rw [use_up hm, inc_ends he]
    have h1 := hb.1 k
    unfold rest at h
    by_cases hab : a = b
    · subst hab
      rw [if_pos rfl] at h
      by_cases hk : a = k
      · subst hk; simp; omega
      · simp [hk]; exact h1
    · rw [if_neg hab] at h
      by_cases hk : a = k
      · subst hk
        have : ¬ b = a := fun z => hab z.symm
        simp [this]
        omega
      · by_cases hk2 : b = k
        · subst hk2; simp [hk]; omega
        · simp [hk, hk2]; exact h1
  have := hb.2 _ hf
  rw [tot_up hm] at this
  omega
def dist (T : Net) (x y : Nat → Nat) : Nat := sm T.m (fun i => (x i - y i) + (y i - x i))
/-- towards x: one more of e, one less of f -/
theorem swap_dist {x y : Nat → Nat} {e f : Nat} (he : e < T.m) (hf : f < T.m) (h1 : y e < x e) (h2 : x f < y f) : dist T x (upd (upd y e (y e + 1)) f (y f - 1)) < dist T x y := by
  have hef : e ≠ f := fun z => by subst z; omega
  unfold dist
  have := sm_gap (f := fun i => (x i - upd (upd y e (y e + 1)) f (y f - 1) i) + (upd (upd y e (y e + 1)) f (y f - 1) i - x i)) (g := fun i => (x i - y i) + (y i - x i)) (c := 1) (m := T.m) (e := e) he (fun i hi => by
    unfold upd
    by_cases hif : i = f
    · subst hif; simp; omega
    · by_cases hie : i = e
      · subst hie; simp [hif]; omega
      · simp [hif, hie]) (by
    unfold upd
    simp [hef]
    omega)
  omega
theorem swap_use {y : Nat → Nat} {e f k : Nat} (he : e < T.m) (hf : f < T.m) (hef : e ≠ f) (h2 : 1 ≤ y f) : use T (upd (upd y e (y e + 1)) f (y f - 1)) k + inc T f k = use T y k + inc T e k := by
  have h3 : upd y e (y e + 1) f = y f := if_neg (fun z => hef z.symm)
  have := use_down (T := T) (x := upd y e (y e + 1)) (e := f) (k := k) hf (by rw [h3]; exact h2)
  rw [h3, use_up he] at this
  exact this
theorem swap_tot {y : Nat → Nat} {e f : Nat} (he : e < T.m) (hf : f < T.m) (hef : e ≠ f) (h2 : 1 ≤ y f) : tot T (upd (upd y e (y e + 1)) f (y f - 1)) = tot T y := by
  have h3 : upd y e (y e + 1) f = y f := if_neg (fun z => hef z.symm)
  have := tot_down (T := T) (x := upd y e (y e + 1)) (e := f) hf (by rw [h3]; exact h2)
  rw [h3, tot_up he] at this
  omega
/-- more is used of c by x: some tie of c has more pairs -/
theorem more_tie {x y : Nat → Nat} {c : Nat} (h : use T y c < use T x c) : ∃ e, e < T.m ∧ y e < x e ∧ 1 ≤ inc T e c := by
  refine Classical.byContradiction fun hn => ?_
  have : use T x c ≤ use T y c := sm_le fun i hi => by
    by_cases hx : y i < x i
    · have : inc T i c = 0 := by
        refine Classical.byContradiction fun z => hn ⟨i, hi, hx, by omega⟩
      rw [this]
      simp
    · exact Nat.mul_le_mul_right _ (by omega)
  omega
/-- .. where x has one more of e, too -/
theorem less_tie {x y : Nat → Nat} {d e : Nat} (he : e < T.m) (hx : y e < x e) (h : use T x d < use T y d + inc T e d) : ∃ f, f < T.m ∧ x f < y f ∧ 1 ≤ inc T f d := by
  refine Classical.byContradiction fun hn => ?_
  have := sm_gap (f := fun i => y i * inc T i d) (g := fun i => x i * inc T i d) (c := inc T e d) (m := T.m) (e := e) he (fun i hi => by
    by_cases hx : x i < y i
    · have : inc T i d = 0 := by
        refine Classical.byContradiction fun z => hn ⟨i, hi, hx, by omega⟩
      simp [this]
    · exact Nat.mul_le_mul_right _ (by omega)) (by
    have : y e * inc T e d + inc T e d = (y e + 1) * inc T e d := by rw [Nat.add_mul, Nat.one_mul]
    rw [this]
    exact Nat.mul_le_mul_right _ hx)
  unfold use at h
  omega
/-- the exchange: y comes nearer to x, and still leaves a thing of t -/
theorem exchange {n x y : Nat → Nat} {c t : Nat} (hx : Best T n x) (hy : Best T n y) (hc : rest T n x c < rest T n y c) (ht : 1 ≤ rest T n y t) (hct : c = t → 2 ≤ rest T n y t) :
    ∃ y', Best T n y' ∧ 1 ≤ rest T n y' t ∧ dist T x y' < dist T x y := by
  have fx := hx.1 c
  have fy := hy.1 c
  unfold rest at hc ht hct
  obtain ⟨e, he, hxe, hinc⟩ := more_tie (T := T) (x := x) (y := y) (c := c) (by omega)
  -- the other end
  have hd : ∃ d, (T.ta e = c ∧ T.tb e = d) ∨ (T.ta e = d ∧ T.tb e = c) := by
    unfold inc at hinc
    by_cases h1 : T.ta e = c
    · exact ⟨_, .inl ⟨h1, rfl⟩⟩
    · by_cases h2 : T.tb e = c
      · exact ⟨_, .inr ⟨rfl, h2⟩⟩
      · rw [if_neg h1, if_neg h2] at hinc; omega
  obtain ⟨d, hd⟩ := hd
  have he' : Edge T c d := ⟨e, he, hd⟩
  have finish : ∀ f, f < T.m → x f < y f → (∀ k, use T (upd (upd y e (y e + 1)) f (y f - 1)) k ≤ n k) → use T (upd (upd y e (y e + 1)) f (y f - 1)) t + 1 ≤ n t → ∃ y', Best T n y' ∧ 1 ≤ rest T n y' t ∧ dist T x y' < dist T x y := fun f hf hxf hfe ht' => by
    have hef : e ≠ f := fun z => by subst z; omega
    refine ⟨_, ⟨hfe, fun z hz => ?_⟩, ?_, swap_dist he hf hxe hxf⟩
    · rw [swap_tot he hf hef (by omega)]
      exact hy.2 z hz
    · unfold rest; omega
  by_cases hcd : c = d
  · subst hcd
    have h1 : ¬ 2 ≤ n c - use T y c := fun z => no_more hy he' (by rw [if_pos rfl]; exact z)
    have hct' : c ≠ t := fun z => by have := hct z; subst z; omega
    have hic : inc T e c = 2 := by rw [inc_ends hd]; simp
    obtain ⟨f, hf, hxf, hif⟩ := less_tie (T := T) (x := x) (y := y) (d := c) he hxe (by rw [hic]; omega)
    have hef : e ≠ f := fun z => by subst z; omega
    refine finish f hf hxf (fun k => ?_) ?_
    · have h3 := swap_use (T := T) (y := y) (k := k) he hf hef (by omega)
      have h4 := hy.1 k
      by_cases hk : c = k
      · subst hk; rw [hic] at h3; omega
      · rw [inc_ends hd] at h3; simp [hk] at h3; omega
    · have h3 := swap_use (T := T) (y := y) (k := t) he hf hef (by omega)
      rw [inc_ends hd] at h3; simp [hct'] at h3; omega
  · have h1 : ¬ 1 ≤ n d - use T y d := fun z => no_more hy he' (by rw [if_neg hcd]; exact ⟨by unfold rest; omega, z⟩)
    have hid : inc T e d = 1 := by rw [inc_ends hd]; simp [hcd]
    have hic : inc T e c = 1 := by rw [inc_ends hd]; simp [show ¬ d = c from fun z => hcd z.symm]
    have hxd := hx.1 d
    have hyd := hy.1 d
    obtain ⟨f, hf, hxf, hif⟩ := less_tie (T := T) (x := x) (y := y) (d := d) he hxe (by rw [hid]; omega)
    have hef : e ≠ f := fun z => by subst z; omega
    have hdt : d ≠ t := fun z => by subst z; omega
    refine finish f hf hxf (fun k => ?_) ?_
    · have h3 := swap_use (T := T) (y := y) (k := k) he hf hef (by omega)
      have h4 := hy.1 k
      by_cases hk : d = k
      · subst hk; rw [hid] at h3; omega
      · by_cases hk2 : c = k
        · subst hk2; rw [hic] at h3; omega
        · rw [inc_ends hd] at h3; simp [hk, hk2] at h3; omega
    · have h3 := swap_use (T := T) (y := y) (k := t) he hf hef (by omega)
      by_cases hk2 : c = t
      · have := hct hk2
        subst hk2; rw [hic] at h3; omega
      · rw [inc_ends hd] at h3; simp [hdt, hk2] at h3; omega
/-! ### Gallai's lemma -/
/-- a walk of l + 1 ties, all within: over kinds of which there are things -/
def Wk (T : Net) (n : Nat → Nat) : Nat → Nat → Nat → Prop
  | 0, a, b => Edge T a b
  | l + 1, a, b => ∃ t, Edge T a t ∧ 1 ≤ n t ∧ t < T.q ∧ Wk T n l t b
def two (T : Net) (n x : Nat → Nat) (a b : Nat) : Prop := if a = b then 2 ≤ rest T n x a else 1 ≤ rest T n x a ∧ 1 ≤ rest T n x b
theorem rest_sum {n x : Nat → Nat} (h : Feas T n x) : sm T.q (rest T n x) + 2 * tot T x = sm T.q n := by
  rw [← use_sum, ← sm_add]
  exact sm_eq fun k _ => by unfold rest; have := h k; omega
theorem edge_q {a b : Nat} (h : Edge T a b) : a < T.q ∧ b < T.q := by
  obtain ⟨e, he, h⟩ := h
  have := T.hq e he
  rcases h with ⟨rfl, rfl⟩ | ⟨rfl, rfl⟩
  · exact this
  · exact ⟨this.2, this.1⟩
/-- two things that x leaves, y none: y leaves more elsewhere -/
theorem surplus {n x y : Nat → Nat} {a b t : Nat} (hx : Feas T n x) (hy : Feas T n y) (he : tot T x = tot T y) (haq : a < T.q) (hbq : b < T.q) (h2 : two T n x a b) (ya : rest T n y a = 0) (yb : rest T n y b = 0) (xt : rest T n x t = 0) (yt : rest T n y t ≤ 1) :
    ∃ c, c ≠ t ∧ rest T n x c < rest T n y c := by
  refine Classical.byContradiction fun hn => ?_
  have hle : ∀ c, c ≠ t → rest T n y c ≤ rest T n x c := fun c hc => Nat.le_of_not_lt fun z => hn ⟨c, hc, z⟩
  have sx := rest_sum hx
  have sy := rest_sum hy
  -- y's rests, t left out
  have hta : a ≠ t := fun z => by
    subst z
    unfold two at h2
    split at h2 <;> omega
  have htb : b ≠ t := fun z => by
    subst z
    unfold two at h2
    split at h2
    · rename_i e; subst e; omega
    · omega
  have key : sm T.q (fun k => if t = k then 0 else rest T n y k) + 2 ≤ sm T.q (rest T n x) := by
    by_cases hab : a = b
    · subst hab
      unfold two at h2
      rw [if_pos rfl] at h2
      exact sm_gap haq (fun k _ => by
        by_cases hk : t = k
        · rw [if_pos hk]; exact Nat.zero_le _
        · rw [if_neg hk]; exact hle k fun z => hk z.symm) (by rw [if_neg (fun z => hta z.symm)]; omega)
    · unfold two at h2
      rw [if_neg hab] at h2
      have h1 : sm T.q (fun k => if t = k then 0 else rest T n y k) + 1 ≤ sm T.q (fun k => if a = k then 0 else rest T n x k) := by
        refine sm_gap hbq (fun k _ => ?_) ?_
        · by_cases hk : t = k
          · rw [if_pos hk]; exact Nat.zero_le _
          · rw [if_neg hk]
            by_cases hk2 : a = k
            · subst hk2; rw [if_pos rfl]; omega
            · rw [if_neg hk2]; exact hle k fun z => hk z.symm
        · rw [if_neg (fun z => htb z.symm), if_neg hab]; omega
      have h3 : sm T.q (fun k => if a = k then 0 else rest T n x k) + 1 ≤ sm T.q (rest T n x) := by
        refine sm_gap haq (fun k _ => ?_) ?_
        · by_cases hk : a = k
          · rw [if_pos hk]; exact Nat.zero_le _
          · rw [if_neg hk]; exact Nat.le_refl _
        · rw [if_pos rfl]; omega
      omega
  have h4 : sm T.q (rest T n y) ≤ sm T.q (fun k => if t = k then 0 else rest T n y k) + 1 := by
    have : sm T.q (rest T n y) ≤ sm T.q (fun k => (if t = k then 0 else rest T n y k) + (if t = k then 1 else 0)) := sm_le fun k _ => by
      by_cases hk : t = k
      · subst hk; simp; exact yt
      · simp [hk]
    rw [sm_add] at this
    have h5 : sm T.q (fun k => if t = k then 1 else 0) ≤ 1 := by
      by_cases hq : t < T.q
      · rw [sm_ind 1 hq]; exact Nat.le_refl _
      · have : sm T.q (fun k => if t = k then 1 else 0) = 0 := (sm_eq (g := fun _ => 0) fun i hi => if_neg (by omega)).trans sm_zero
        omega
    omega
  omega
theorem best_tot {n x y : Nat → Nat} (hx : Best T n x) (hy : Best T n y) : tot T x = tot T y := Nat.le_antisymm (hy.2 x hx.1) (hx.2 y hy.1)
theorem gallai {n : Nat → Nat} (H : ∀ k, k < T.q → 1 ≤ n k → ∃ y, Best T n y ∧ 1 ≤ rest T n y k) : ∀ (l a b : Nat) (x : Nat → Nat), Wk T n l a b → a < T.q → b < T.q → Best T n x → two T n x a b → False
  | 0, a, b, x, w, _, _, hx, h2 => no_more hx w (by unfold two at h2; exact h2)
  | l + 1, a, b, x, w, haq, hbq, hx, h2 => by
    obtain ⟨t, e, ht, htq, w⟩ := w
    by_cases hta : t = a
    · subst hta
      exact gallai H l t b x w haq hbq hx h2
    · have hat : ¬ a = t := fun z => hta z.symm
      by_cases htb : t = b
      · subst htb
        exact no_more hx e (by rw [if_neg hat]; unfold two at h2; rw [if_neg hat] at h2; exact h2)
      · have xa : 1 ≤ rest T n x a := by unfold two at h2; split at h2 <;> omega
        have xt : rest T n x t = 0 := by
          refine Nat.eq_zero_of_not_pos fun z => no_more hx e ?_
          rw [if_neg hat]
          exact ⟨xa, z⟩
        obtain ⟨y, hy, yt⟩ := H t htq ht
        -- the nearest one
        have go : ∀ (N : Nat) (y : Nat → Nat), dist T x y ≤ N → Best T n y → 1 ≤ rest T n y t → False := by
          intro N
          induction N with
          | zero =>
            intro y hd hy yt
            have ya : rest T n y a = 0 := Nat.eq_zero_of_not_pos fun z => no_more hy e (by rw [if_neg hat]; exact ⟨z, yt⟩)
            have yb : rest T n y b = 0 := Nat.eq_zero_of_not_pos fun z => gallai H l t b y w htq hbq hy (by unfold two; rw [if_neg htb]; exact ⟨yt, z⟩)
            by_cases h2t : 2 ≤ rest T n y t
            · obtain ⟨y', _, _, h3⟩ := exchange (c := t) hx hy (by omega) yt (fun _ => h2t)
              omega
            · obtain ⟨c, hc, hc2⟩ := surplus hx.1 hy.1 (best_tot hx hy) haq hbq h2 ya yb xt (by omega)
              obtain ⟨y', _, _, h3⟩ := exchange (c := c) hx hy hc2 yt (fun z => absurd z hc)
              omega
          | succ N ih =>
            intro y hd hy yt
            have ya : rest T n y a = 0 := Nat.eq_zero_of_not_pos fun z => no_more hy e (by rw [if_neg hat]; exact ⟨z, yt⟩)
            have yb : rest T n y b = 0 := Nat.eq_zero_of_not_pos fun z => gallai H l t b y w htq hbq hy (by unfold two; rw [if_neg htb]; exact ⟨yt, z⟩)
            by_cases h2t : 2 ≤ rest T n y t
            · obtain ⟨y', h4, h5, h3⟩ := exchange (c := t) hx hy (by omega) yt (fun _ => h2t)
              exact ih y' (by omega) h4 h5
            · obtain ⟨c, hc, hc2⟩ := surplus hx.1 hy.1 (best_tot hx hy) haq hbq h2 ya yb xt (by omega)
              obtain ⟨y', h4, h5, h3⟩ := exchange (c := c) hx hy hc2 yt (fun z => absurd z hc)
              exact ih y' (by omega) h4 h5
        exact go _ y (Nat.le_refl _) hy yt
/-! ### there is a best pairing -/
theorem tot_le {n x : Nat → Nat} (h : Feas T n x) : 2 * tot T x ≤ sm T.q n := by
  have := rest_sum h
  omega
theorem best_ex (T : Net) (n : Nat → Nat) : ∃ x, Best T n x := by
  have f0 : Feas T n (fun _ => 0) := fun k => by
    have : use T (fun _ => 0) k = 0 := (sm_eq (g := fun _ => 0) fun i _ => Nat.zero_mul _).trans sm_zero
    omega
  have go : ∀ (N : Nat) (x : Nat → Nat), Feas T n x → sm T.q n - 2 * tot T x ≤ N → ∃ x, Best T n x := by
    intro N
    induction N with
    | zero =>
      intro x hx hN
      refine ⟨x, hx, fun y hy => ?_⟩
      have := tot_le hx
      have := tot_le hy
      omega
    | succ N ih =>
      intro x hx hN
      by_cases h : ∃ y, Feas T n y ∧ tot T x < tot T y
      · obtain ⟨y, hy, hlt⟩ := h
        have := tot_le hx
        have := tot_le hy
        exact ih y hy (by omega)
      · exact ⟨x, hx, fun y hy => Nat.le_of_not_lt fun z => h ⟨y, hy, z⟩⟩
  exact go _ _ f0 (Nat.le_refl _)
/-! ### Tutte and Berge -/
def lsum (f : Nat → Nat) : List Nat → Nat
  | [] => 0
  | a :: r => f a + lsum f r
/-- the kinds of the lists, each below q in just one place -/
structure CutOk (T : Net) (U lone : List Nat) (lumps : List (List Nat)) : Prop where
  nd : (U ++ (lone ++ lumps.flatten)).Nodup
  all : ∀ k, k < T.q ↔ k ∈ U ++ (lone ++ lumps.flatten)
  lon : ∀ a b, a ∈ lone → Edge T a b → b ∈ U
  tog : ∀ L, L ∈ lumps → ∀ a b, a ∈ L → Edge T a b → b ∉ U → b ∈ L
  con : ∀ L, L ∈ lumps → ∀ n : Nat → Nat, (∀ k, k ∈ L → 1 ≤ n k) → ∀ a b, a ∈ L → b ∈ L → ∃ l, Wk T n l a b
def odds (n : Nat → Nat) : List (List Nat) → Nat
  | [] => 0
  | L :: r => lsum n L % 2 + odds n r
def value (n : Nat → Nat) (U lone : List Nat) (lumps : List (List Nat)) : Int := (lsum n lone : Int) + (odds n lumps : Int) - (lsum n U : Int)
theorem lsum_add {f g : Nat → Nat} : ∀ l : List Nat, lsum (fun k => f k + g k) l = lsum f l + lsum g l
  | [] => rfl
  | a :: r => by simp only [lsum]; rw [lsum_add r]; omega
theorem lsum_append {f : Nat → Nat} : ∀ l r : List Nat, lsum f (l ++ r) = lsum f l + lsum f r
  | [], r => by simp [lsum]
  | a :: l, r => by simp only [List.cons_append, lsum]; rw [lsum_append l r]; omega
theorem lsum_eq {f g : Nat → Nat} : ∀ {l : List Nat}, (∀ k, k ∈ l → f k = g k) → lsum f l = lsum g l
  | [], _ => rfl
  | a :: r, h => by simp only [lsum]; rw [h a List.mem_cons_self, lsum_eq fun k hk => h k (List.mem_cons_of_mem _ hk)]
theorem lsum_le {f g : Nat → Nat} : ∀ {l : List Nat}, (∀ k, k ∈ l → f k ≤ g k) → lsum f l ≤ lsum g l
  | [], _ => Nat.le_refl _
  | a :: r, h => Nat.add_le_add (h a List.mem_cons_self) (lsum_le fun k hk => h k (List.mem_cons_of_mem _ hk))
theorem lsum_ind {a v : Nat} : ∀ {l : List Nat}, l.Nodup → lsum (fun k => if a = k then v else 0) l = if a ∈ l then v else 0
  | [], _ => rfl
  | b :: r, h => by
    obtain ⟨h1, h2⟩ := List.nodup_cons.mp h
    simp only [lsum]
    rw [lsum_ind h2]
    by_cases hb : a = b
    · subst hb
      simp [h1]
    · have : (a ∈ b :: r) ↔ a ∈ r := by simp [hb]
      simp only [this, hb, if_false]
      omega
/-- a sum over all kinds, by a list of them -/
theorem sm_lsum {f : Nat → Nat} : ∀ {q : Nat} {l : List Nat}, l.Nodup → (∀ k, k < q ↔ k ∈ l) → sm q f = lsum f l := by
  intro q l nd h
  have p : l.Perm (List.range q) := (List.perm_ext_iff_of_nodup nd List.nodup_range).mpr fun k => by rw [← h k, List.mem_range]
  have e1 : ∀ {l l' : List Nat}, l.Perm l' → lsum f l = lsum f l' := by
    intro l l' p
    induction p with
    | nil => rfl
    | cons a _ ih => simp only [lsum]; rw [ih]
    | swap a b l => simp only [lsum]; omega
    | trans _ _ h1 h2 => exact h1.trans h2
  rw [e1 p]
  clear p h nd
  induction q with
  | zero => rfl
  | succ q ih => rw [List.range_succ, lsum_append, ← ih]; simp [sm, lsum]
theorem lsum_flat {f : Nat → Nat} : ∀ ls : List (List Nat), lsum f ls.flatten = (ls.map (lsum f)).sum
  | [] => rfl
  | l :: r => by rw [List.flatten_cons, lsum_append, lsum_flat r]; rfl
/-- one thing more of a kind makes the value less by one at most -/
theorem value_step {n : Nat → Nat} {k : Nat} {U lone : List Nat} {lumps : List (List Nat)} (nd : (U ++ (lone ++ lumps.flatten)).Nodup) : value n U lone lumps - 1 ≤ value (upd n k (n k + 1)) U lone lumps := by
  have eU : ∀ l : List Nat, l.Nodup → lsum (upd n k (n k + 1)) l = lsum n l + if k ∈ l then 1 else 0 := fun l hl => by
    rw [← lsum_ind hl, ← lsum_add]
    refine lsum_eq fun j _ => ?_
    unfold upd
    by_cases h : j = k
    · subst h; simp
    · simp [h, show ¬ k = j from fun z => h z.symm]
  have hU : U.Nodup := (List.nodup_append.mp nd).1
  have h2 := (List.nodup_append.mp nd).2.1
  have hl : lone.Nodup := (List.nodup_append.mp h2).1
  have hf : lumps.flatten.Nodup := (List.nodup_append.mp h2).2.1
  have d1 : k ∈ U → k ∉ lone ∧ k ∉ lumps.flatten := fun h => by
    have := (List.nodup_append.mp nd).2.2 k h
    exact ⟨fun z => this k (List.mem_append_left _ z) rfl, fun z => this k (List.mem_append_right _ z) rfl⟩
  have d2 : k ∈ lone → k ∉ lumps.flatten := fun h z => (List.nodup_append.mp h2).2.2 k h k z rfl
  have od : ∀ ls : List (List Nat), ls.flatten.Nodup → (k ∉ ls.flatten → odds (upd n k (n k + 1)) ls = odds n ls) ∧ odds n ls ≤ odds (upd n k (n k + 1)) ls + 1 := by
    intro ls
    induction ls with
    | nil => intro _; exact ⟨fun _ => rfl, Nat.le_succ _⟩
    | cons L r ih =>
      intro hn
      rw [List.flatten_cons] at hn
      obtain ⟨h3, h4, h5⟩ := List.nodup_append.mp hn
      obtain ⟨i1, i2⟩ := ih h4
      simp only [odds]
      rw [eU L h3]
      refine ⟨fun hk => ?_, ?_⟩
      · rw [List.flatten_cons, List.mem_append, not_or] at hk
        rw [if_neg hk.1, i1 hk.2]
        rfl
      · by_cases hk : k ∈ L
        · have hr : k ∉ r.flatten := fun z => h5 k hk k z rfl
          rw [if_pos hk, i1 hr]
          omega
        · rw [if_neg hk]
          have : (lsum n L + 0) = lsum n L := rfl
          rw [this]
          omega
  obtain ⟨o1, o2⟩ := od lumps hf
  unfold value
  rw [eU U hU, eU lone hl]
  by_cases hkU : k ∈ U
  · obtain ⟨h3, h4⟩ := d1 hkU
    rw [if_pos hkU, if_neg h3, o1 h4]
    omega
  · rw [if_neg hkU]
    by_cases hkl : k ∈ lone
    · rw [if_pos hkl, o1 (d2 hkl)]
      omega
    · rw [if_neg hkl]
      omega
theorem lsum_zero : ∀ l : List Nat, lsum (fun _ => 0) l = 0
  | [] => rfl
  | a :: r => by simp only [lsum]; rw [lsum_zero r]
theorem lsum_mul (c : Nat) (g : Nat → Nat) : ∀ l : List Nat, lsum (fun k => c * g k) l = c * lsum g l
  | [] => rfl
  | a :: r => by simp only [lsum]; rw [lsum_mul c g r, Nat.mul_add]
theorem use_even {T : Net} {x : Nat → Nat} {L : List Nat} (nd : L.Nodup) (h : ∀ i, i < T.m → 1 ≤ x i → (T.ta i ∈ L ↔ T.tb i ∈ L)) : lsum (use T x) L % 2 = 0 := by
  have gen : ∀ m, m ≤ T.m → lsum (fun k => sm m (fun i => x i * inc T i k)) L % 2 = 0 := by
    intro m
    induction m with
    | zero => intro _; show lsum (fun _ => 0) L % 2 = 0; rw [lsum_zero]
    | succ m ih =>
      intro hm
      simp only [sm]
      rw [lsum_add (f := fun k => sm m fun i => x i * inc T i k) (g := fun k => x m * inc T m k)]
      have i1 := ih (by omega)
      have e2 := lsum_mul (x m) (inc T m) L
      have e3 : lsum (inc T m) L = (if T.ta m ∈ L then 1 else 0) + (if T.tb m ∈ L then 1 else 0) := by
        unfold inc
        rw [lsum_add, lsum_ind nd, lsum_ind nd]
      rw [e2, e3]
      by_cases hx : 1 ≤ x m
      · have := h m (by omega) hx
        by_cases ha : T.ta m ∈ L
        · rw [if_pos ha, if_pos (this.mp ha)]; omega
        · rw [if_neg ha, if_neg (fun z => ha (this.mpr z))]; simpa using i1
      · have : x m = 0 := by omega
        rw [this]; simpa using i1
  exact gen T.m (Nat.le_refl _)
theorem use_pos {T : Net} {x : Nat → Nat} {i : Nat} (h : i < T.m) (hx : 1 ≤ x i) : 1 ≤ use T x (T.ta i) ∧ 1 ≤ use T x (T.tb i) := by
  have g : ∀ k, x i * inc T i k ≤ use T x k := fun k => sm_get (f := fun i => x i * inc T i k) h
  refine ⟨Nat.le_trans ?_ (g (T.ta i)), Nat.le_trans ?_ (g (T.tb i))⟩
  · have : 1 ≤ inc T i (T.ta i) := by unfold inc; rw [if_pos rfl]; omega
    exact Nat.mul_le_mul hx this
  · have : 1 ≤ inc T i (T.tb i) := by unfold inc; rw [if_pos (show T.tb i = T.tb i from rfl)]; omega
    exact Nat.mul_le_mul hx this
theorem case2 (T : Net) (n : Nat → Nat) (H : ∀ k, k < T.q → 1 ≤ n k → ∃ y, Best T n y ∧ 1 ≤ rest T n y k) : ∃ U : Nat → Bool, ∀ (Ul lone : List Nat) (lumps : List (List Nat)), (∀ k, k < T.q → (k ∈ Ul ↔ U k = true)) → CutOk T Ul lone lumps →
    ∀ x, Best T n x → ((sm T.q n : Int) - 2 * (tot T x : Int)) ≤ value n Ul lone lumps := by
  refine ⟨fun k => decide (n k = 0), fun Ul lone lumps hUl cut x hx => ?_⟩
  have hz : ∀ k, k < T.q → (k ∈ Ul ↔ n k = 0) := fun k hk => by rw [hUl k hk]; simp
  have hmem : ∀ {k}, k ∈ Ul ++ (lone ++ lumps.flatten) → k < T.q := fun h => (cut.all _).mpr h
  have nd := cut.nd
  have h2 := (List.nodup_append.mp nd).2.1
  have hUn : lsum n Ul = 0 := by
    rw [lsum_eq (g := fun _ => 0) fun k hk => (hz k (hmem (List.mem_append_left _ hk))).mp hk]
    clear hUl cut nd h2 hz hmem
    induction Ul with
    | nil => rfl
    | cons a r ih => simp only [lsum]; omega
  have hUr : lsum (rest T n x) Ul ≤ lsum n Ul := lsum_le fun k _ => Nat.sub_le _ _
  have hLr : lsum (rest T n x) lone ≤ lsum n lone := lsum_le fun k _ => Nat.sub_le _ _
  have pos : ∀ i, i < T.m → 1 ≤ x i → T.ta i ∉ Ul ∧ T.tb i ∉ Ul := fun i hi hxi => by
    obtain ⟨p1, p2⟩ := use_pos hi hxi
    have q := T.hq i hi
    have f1 := hx.1 (T.ta i)
    have f2 := hx.1 (T.tb i)
    exact ⟨fun z => by have := (hz _ q.1).mp z; omega, fun z => by have := (hz _ q.2).mp z; omega⟩
  have hlump : ∀ ls : List (List Nat), (∀ L, L ∈ ls → L ∈ lumps) → ls.flatten.Nodup → lsum (rest T n x) ls.flatten ≤ odds n ls := by
    intro ls
    induction ls with
    | nil => intro _ _; exact Nat.le_refl _
    | cons L r ih =>
      intro hin hn
      rw [List.flatten_cons] at hn
      obtain ⟨h3, h4, h5⟩ := List.nodup_append.mp hn
      have i1 := ih (fun L h => hin L (List.mem_cons_of_mem _ h)) h4
      have hL := hin L List.mem_cons_self
      rw [List.flatten_cons, lsum_append]
      simp only [odds]
      have inL : ∀ k, k ∈ L → k < T.q ∧ 1 ≤ n k := fun k hk => by
        have m1 : k ∈ lumps.flatten := List.mem_flatten.mpr ⟨L, hL, hk⟩
        have hq := hmem (List.mem_append_right _ (List.mem_append_right _ m1))
        refine ⟨hq, Nat.pos_of_ne_zero fun z => ?_⟩
        have := (hz k hq).mpr z
        exact (List.nodup_append.mp nd).2.2 k this k (List.mem_append_right _ m1) rfl
      -- its rest and its things are odd together
      have par : lsum (rest T n x) L % 2 = lsum n L % 2 := by
        have e : lsum (rest T n x) L + lsum (use T x) L = lsum n L := by
          rw [← lsum_add]
          exact lsum_eq fun k _ => by unfold rest; have := hx.1 k; omega
        have := use_even (T := T) (x := x) h3 fun i hi hxi => by
          obtain ⟨p1, p2⟩ := pos i hi hxi
          exact ⟨fun z => cut.tog L hL _ _ z ⟨i, hi, .inl ⟨rfl, rfl⟩⟩ p2, fun z => cut.tog L hL _ _ z ⟨i, hi, .inr ⟨rfl, rfl⟩⟩ p1⟩
        omega
      -- at most one is left
      have one : lsum (rest T n x) L ≤ 1 := by
        refine Nat.le_of_not_lt fun h => ?_
        have pick : ∀ l : List Nat, l.Nodup → 2 ≤ lsum (rest T n x) l → ∃ a b, a ∈ l ∧ b ∈ l ∧ two T n x a b := by
          intro l
          induction l with
          | nil => intro _ h; simp only [lsum] at h; omega
          | cons a r ih =>
            intro hn h
            obtain ⟨n1, n2⟩ := List.nodup_cons.mp hn
            simp only [lsum] at h
            by_cases c2 : 2 ≤ rest T n x a
            · exact ⟨a, a, List.mem_cons_self, List.mem_cons_self, by unfold two; rw [if_pos rfl]; exact c2⟩
            · by_cases c1 : 1 ≤ rest T n x a
              · have : ∃ b, b ∈ r ∧ 1 ≤ rest T n x b := by
                  refine Classical.byContradiction fun z => ?_
                  have : lsum (rest T n x) r = 0 := by
                    have h0 : ∀ b, b ∈ r → rest T n x b = 0 := fun b hb => Nat.eq_zero_of_not_pos fun v => z ⟨b, hb, v⟩
                    rw [lsum_eq (g := fun _ => 0) h0]
                    clear h0 z h n1 n2 hn ih
                    induction r with
                    | nil => rfl
                    | cons a r ih => simp only [lsum]; omega
                  omega
                obtain ⟨b, hb, hb1⟩ := this
                have hab : ¬ a = b := fun z => n1 (z ▸ hb)
                exact ⟨a, b, List.mem_cons_self, List.mem_cons_of_mem _ hb, by unfold two; rw [if_neg hab]; exact ⟨c1, hb1⟩⟩
              · obtain ⟨a', b', h1, h2, h3⟩ := ih n2 (by omega)
                exact ⟨a', b', List.mem_cons_of_mem _ h1, List.mem_cons_of_mem _ h2, h3⟩
        obtain ⟨a, b, ha, hb, h2⟩ := pick L h3 h
        obtain ⟨l, w⟩ := cut.con L hL n (fun k hk => (inL k hk).2) a b ha hb
        exact gallai H l a b x w (inL a ha).1 (inL b hb).1 hx h2
      omega
  have hf := hlump lumps (fun _ h => h) (List.nodup_append.mp h2).2.1
  have total := rest_sum hx.1
  rw [sm_lsum (f := rest T n x) nd cut.all, lsum_append, lsum_append] at total
  unfold value
  rw [hUn]
  omega
/-- TUTTE AND BERGE for kinds: some set of kinds shows what the best pairings leave -/
theorem tutte_berge (T : Net) : ∀ (N : Nat) (n : Nat → Nat), sm T.q n = N → ∃ U : Nat → Bool, ∀ (Ul lone : List Nat) (lumps : List (List Nat)), (∀ k, k < T.q → (k ∈ Ul ↔ U k = true)) → CutOk T Ul lone lumps →
    ∀ x, Best T n x → ((sm T.q n : Int) - 2 * (tot T x : Int)) ≤ value n Ul lone lumps
  | 0, n, hN => case2 T n fun k hk hn => by
    have := sm_get (f := n) hk
    omega
  | N + 1, n, hN => by
    by_cases H : ∀ k, k < T.q → 1 ≤ n k → ∃ y, Best T n y ∧ 1 ≤ rest T n y k
    · exact case2 T n H
    · have H' : ∃ k, k < T.q ∧ 1 ≤ n k ∧ ∀ y, Best T n y → rest T n y k = 0 := Classical.byContradiction fun z => H fun k hk hn => Classical.byContradiction fun w => z ⟨k, hk, hn, fun y hy => Nat.eq_zero_of_not_pos fun v => w ⟨y, hy, v⟩⟩
      obtain ⟨k, hk, hn, hr⟩ := H'
      have e1 : sm T.q (upd n k (n k - 1)) + n k = sm T.q n + (n k - 1) := sm_upd hk
      obtain ⟨U, hU⟩ := tutte_berge T N (upd n k (n k - 1)) (by omega)
      refine ⟨U, fun Ul lone lumps hUl cut x hx => ?_⟩
      obtain ⟨y, hy⟩ := best_ex T (upd n k (n k - 1))
      have h1 := hU Ul lone lumps hUl cut y hy
      -- y is a pairing of n that leaves a thing of k
      have fy : Feas T n y := fun j => by
        have := hy.1 j
        unfold upd at this
        by_cases hj : j = k
        · subst hj; rw [if_pos rfl] at this; omega
        · rw [if_neg hj] at this; exact this
      have hyk : 1 ≤ rest T n y k := by
        have := hy.1 k
        unfold upd at this
        rw [if_pos rfl] at this
        unfold rest
        omega
      have hlt : tot T y + 1 ≤ tot T x := by
        have := hx.2 y fy
        refine Nat.lt_of_le_of_ne this fun z => ?_
        have hby : Best T n y := ⟨fy, fun w hw => by rw [z]; exact hx.2 w hw⟩
        have := hr y hby
        omega
      have h2 := value_step (n := upd n k (n k - 1)) (k := k) cut.nd
      have e2 : upd (upd n k (n k - 1)) k (upd n k (n k - 1) k + 1) = n := by
        funext j
        unfold upd
        by_cases hj : j = k
        · subst hj; simp; omega
        · simp [hj]
      rw [e2] at h2
      omega
/-! ### no pairing leaves less than a set shows -/
def cnt (T : Net) (L : List Nat) (i : Nat) : Nat := (if T.ta i ∈ L then 1 else 0) + (if T.tb i ∈ L then 1 else 0)
theorem use_cnt {T : Net} {x : Nat → Nat} {L : List Nat} (nd : L.Nodup) : lsum (use T x) L = sm T.m (fun i => x i * cnt T L i) := by
  have gen : ∀ m, lsum (fun k => sm m (fun i => x i * inc T i k)) L = sm m (fun i => x i * cnt T L i) := by
    intro m
    induction m with
    | zero => show lsum (fun _ => 0) L = 0; rw [lsum_zero]
    | succ m ih =>
      simp only [sm]
      rw [lsum_add (f := fun k => sm m fun i => x i * inc T i k) (g := fun k => x m * inc T m k), ih, lsum_mul (x m) (inc T m) L]
      have e3 : lsum (inc T m) L = cnt T L m := by
        unfold inc cnt
        rw [lsum_add, lsum_ind nd, lsum_ind nd]
      rw [e3]
  exact gen T.m
def cntO (T : Net) : List (List Nat) → Nat → Nat
  | [], _ => 0
  | L :: r, i => cnt T L i % 2 + cntO T r i
theorem cntO_zero {T : Net} {i : Nat} : ∀ {ls : List (List Nat)}, (∀ L, L ∈ ls → cnt T L i % 2 = 0) → cntO T ls i = 0
  | [], _ => rfl
  | L :: r, h => by simp only [cntO]; rw [h L List.mem_cons_self, cntO_zero fun M hM => h M (List.mem_cons_of_mem _ hM)]
theorem cntO_one {T : Net} {i : Nat} : ∀ {ls : List (List Nat)}, ls.flatten.Nodup → (∀ L, L ∈ ls → cnt T L i % 2 = 1 → ∀ M, M ∈ ls → M ≠ L → cnt T M i % 2 = 0) → (∀ L, L ∈ ls → cnt T L i ≤ 2) → cntO T ls i ≤ 1 := by
  intro ls
  induction ls with
  | nil => intro _ _ _; exact Nat.zero_le _
  | cons L r ih =>
    intro hn h h2
    rw [List.flatten_cons] at hn
    obtain ⟨n1, n2, n3⟩ := List.nodup_append.mp hn
    simp only [cntO]
    by_cases hL : cnt T L i % 2 = 1
    · have : cntO T r i = 0 := cntO_zero fun M hM => by
        by_cases e : M = L
        · -- the same list twice: it is empty
          subst e
          cases M with
          | nil => simp [cnt] at hL
          | cons a M => exact absurd rfl (n3 a List.mem_cons_self a (List.mem_flatten.mpr ⟨_, hM, List.mem_cons_self⟩))
        · exact h L List.mem_cons_self hL M (List.mem_cons_of_mem _ hM) e
      omega
    · have := ih n2 (fun M hM h1 M' hM' => h M (List.mem_cons_of_mem _ hM) h1 M' (List.mem_cons_of_mem _ hM')) (fun M hM => h2 M (List.mem_cons_of_mem _ hM))
      omega
theorem sm_mod {x g : Nat → Nat} : ∀ {m : Nat}, sm m (fun i => x i * g i) % 2 ≤ sm m (fun i => x i * (g i % 2))
  | 0 => Nat.le_refl _
  | m + 1 => by
    simp only [sm]
    have ih := sm_mod (x := x) (g := g) (m := m)
    have : (x m * g m) % 2 ≤ x m * (g m % 2) := by
      rcases Nat.mod_two_eq_zero_or_one (g m) with h | h
      · rw [Nat.mul_mod, h]; simp
      · rw [h, Nat.mul_mod, h, Nat.mul_one, Nat.mul_one]
        have := Nat.mod_le (x m) 2
        omega
    omega
theorem weak {T : Net} {n x : Nat → Nat} {Ul lone : List Nat} {lumps : List (List Nat)} (cut : CutOk T Ul lone lumps) (hx : Feas T n x) : value n Ul lone lumps ≤ (sm T.q n : Int) - 2 * (tot T x : Int) := by
  have nd := cut.nd
  have hU : Ul.Nodup := (List.nodup_append.mp nd).1
  have h2 := (List.nodup_append.mp nd).2.1
  have hl : lone.Nodup := (List.nodup_append.mp h2).1
  have hf : lumps.flatten.Nodup := (List.nodup_append.mp h2).2.1
  have dU : ∀ k, k ∈ Ul → k ∉ lone ∧ k ∉ lumps.flatten := fun k h => by
    have := (List.nodup_append.mp nd).2.2 k h
    exact ⟨fun z => this k (List.mem_append_left _ z) rfl, fun z => this k (List.mem_append_right _ z) rfl⟩
  have dl : ∀ k, k ∈ lone → k ∉ lumps.flatten := fun k h z => (List.nodup_append.mp h2).2.2 k h k z rfl
  have two' : ∀ L i, cnt T L i ≤ 2 := fun L i => by unfold cnt; split <;> split <;> omega
  have rl : ∀ L : List Nat, lsum (rest T n x) L + lsum (use T x) L = lsum n L := fun L => by
    rw [← lsum_add]
    exact lsum_eq fun k _ => by unfold rest; have := hx k; omega
  -- by ties
  have tie : ∀ i, i < T.m → cnt T lone i + cntO T lumps i ≤ cnt T Ul i := fun i hi => by
    have q := T.hq i hi
    have ea : Edge T (T.ta i) (T.tb i) := ⟨i, hi, .inl ⟨rfl, rfl⟩⟩
    have eb : Edge T (T.tb i) (T.ta i) := ⟨i, hi, .inr ⟨rfl, rfl⟩⟩
    have where_ : ∀ k, k < T.q → k ∈ Ul ∨ k ∈ lone ∨ ∃ L, L ∈ lumps ∧ k ∈ L := fun k hk => by
      have := (cut.all k).mp hk
      rw [List.mem_append, List.mem_append, List.mem_flatten] at this
      exact this
    have in_one : ∀ k L M, L ∈ lumps → M ∈ lumps → k ∈ L → k ∈ M → L = M := by
      have : ∀ ls : List (List Nat), ls.flatten.Nodup → ∀ k L M, L ∈ ls → M ∈ ls → k ∈ L → k ∈ M → L = M := by
        intro ls
        induction ls with
        | nil => intro _ k L M h; cases h
        | cons A r ih =>
          intro hn k L M hL hM kL kM
          rw [List.flatten_cons] at hn
          obtain ⟨n1, n2, n3⟩ := List.nodup_append.mp hn
          rcases List.mem_cons.mp hL with e1 | hL' <;> rcases List.mem_cons.mp hM with e2 | hM'
          · rw [e1, e2]
          · subst e1; exact absurd rfl (n3 k kL k (List.mem_flatten.mpr ⟨M, hM', kM⟩))
          · subst e2; exact absurd rfl (n3 k kM k (List.mem_flatten.mpr ⟨L, hL', kL⟩))
          · exact ih n2 k L M hL' hM' kL kM
      exact this lumps hf
    have odd_U : ∀ L, L ∈ lumps → cnt T L i % 2 = 1 → (T.ta i ∈ L ∧ T.tb i ∈ Ul) ∨ (T.tb i ∈ L ∧ T.ta i ∈ Ul) := fun L hL ho => by
      unfold cnt at ho
      by_cases h1 : T.ta i ∈ L <;> by_cases h3 : T.tb i ∈ L
      · rw [if_pos h1, if_pos h3] at ho; omega
      · exact .inl ⟨h1, Classical.byContradiction fun z => h3 (cut.tog L hL _ _ h1 ea z)⟩
      · exact .inr ⟨h3, Classical.byContradiction fun z => h1 (cut.tog L hL _ _ h3 eb z)⟩
      · rw [if_neg h1, if_neg h3] at ho; omega
    by_cases a1 : T.ta i ∈ lone
    · have hbU := cut.lon _ _ a1 ea
      have hb := dU _ hbU
      have ha : T.ta i ∉ Ul := fun z => (dU _ z).1 a1
      have c0 : cntO T lumps i = 0 := cntO_zero fun L hL => by
        unfold cnt
        rw [if_neg fun z => dl _ a1 (List.mem_flatten.mpr ⟨L, hL, z⟩), if_neg fun z => hb.2 (List.mem_flatten.mpr ⟨L, hL, z⟩)]
      rw [c0]
      unfold cnt
      rw [if_pos a1, if_neg hb.1, if_neg ha, if_pos hbU]
      omega
    · by_cases b1 : T.tb i ∈ lone
      · have haU := cut.lon _ _ b1 eb
        have ha := dU _ haU
        have hb : T.tb i ∉ Ul := fun z => (dU _ z).1 b1
        have c0 : cntO T lumps i = 0 := cntO_zero fun L hL => by
          unfold cnt
          rw [if_neg fun z => ha.2 (List.mem_flatten.mpr ⟨L, hL, z⟩), if_neg fun z => dl _ b1 (List.mem_flatten.mpr ⟨L, hL, z⟩)]
        rw [c0]
        unfold cnt
        rw [if_neg a1, if_pos b1, if_pos haU, if_neg hb]
        omega
      · have cl : cnt T lone i = 0 := by unfold cnt; rw [if_neg a1, if_neg b1]
        rw [cl]
        by_cases hz : ∀ L, L ∈ lumps → cnt T L i % 2 = 0
        · rw [cntO_zero hz]; omega
        · have : ∃ L, L ∈ lumps ∧ cnt T L i % 2 = 1 := Classical.byContradiction fun z => hz fun L hL => by
            refine Classical.byContradiction fun w => z ⟨L, hL, by omega⟩
          obtain ⟨L, hL, ho⟩ := this
          have c1 : cntO T lumps i ≤ 1 := cntO_one hf (fun L hL h1 M hM hne => by
            refine Classical.byContradiction fun w => ?_
            have ho2 : cnt T M i % 2 = 1 := by omega
            rcases odd_U L hL h1 with ⟨p1, p2⟩ | ⟨p1, p2⟩ <;> rcases odd_U M hM ho2 with ⟨p3, p4⟩ | ⟨p3, p4⟩
            · exact hne (in_one _ _ _ hM hL p3 p1)
            · exact (dU _ p4).2 (List.mem_flatten.mpr ⟨L, hL, p1⟩)
            · exact (dU _ p4).2 (List.mem_flatten.mpr ⟨L, hL, p1⟩)
            · exact hne (in_one _ _ _ hM hL p3 p1)) fun L _ => two' L i
          have : 1 ≤ cnt T Ul i := by
            unfold cnt
            rcases odd_U L hL ho with ⟨_, p2⟩ | ⟨_, p2⟩
            · rw [if_pos p2]; omega
            · rw [if_pos p2]; omega
          omega
  -- the lumps
  have hod : ∀ ls : List (List Nat), ls.flatten.Nodup → odds n ls ≤ lsum (rest T n x) ls.flatten + sm T.m (fun i => x i * cntO T ls i) := by
    intro ls
    induction ls with
    | nil => intro _; exact Nat.zero_le _
    | cons L r ih =>
      intro hn
      rw [List.flatten_cons] at hn
      obtain ⟨n1, n2, n3⟩ := List.nodup_append.mp hn
      have i1 := ih n2
      rw [List.flatten_cons, lsum_append]
      simp only [odds]
      have e1 : sm T.m (fun i => x i * cntO T (L :: r) i) = sm T.m (fun i => x i * (cnt T L i % 2)) + sm T.m (fun i => x i * cntO T r i) := by
        rw [← sm_add]
        exact sm_eq fun i _ => by simp only [cntO]; rw [Nat.mul_add]
      rw [e1]
      have e2 := rl L
      have e3 := use_cnt (T := T) (x := x) n1
      have e4 := sm_mod (x := x) (g := cnt T L) (m := T.m)
      have : lsum n L % 2 ≤ lsum (rest T n x) L + sm T.m (fun i => x i * cnt T L i) % 2 := by omega
      omega
  have h3 := hod lumps hf
  have h4 := rl lone
  have h5 := use_cnt (T := T) (x := x) hl
  have h6 := use_cnt (T := T) (x := x) hU
  have h7 : sm T.m (fun i => x i * cnt T lone i) + sm T.m (fun i => x i * cntO T lumps i) ≤ sm T.m (fun i => x i * cnt T Ul i) := by
    rw [← sm_add]
    exact sm_le fun i hi => by rw [← Nat.mul_add]; exact Nat.mul_le_mul_left _ (tie i hi)
  have h8 : lsum (use T x) Ul ≤ lsum n Ul := lsum_le fun k _ => hx k
  have total := rest_sum hx
  rw [sm_lsum (f := rest T n x) nd cut.all, lsum_append, lsum_append] at total
  unfold value
  omega
end QM
end
section
set_option linter.all false
set_option autoImplicit false
/-! QMu: two partitions into the same classes have as many odd ones. -/
namespace QM
theorem lsum_perm {f : Nat → Nat} {l l' : List Nat} (p : l.Perm l') : lsum f l = lsum f l' := by
  induction p with
  | nil => rfl
  | cons a _ ih => simp only [lsum]; rw [ih]
  | swap a b l => simp only [lsum]; omega
  | trans _ _ h1 h2 => exact h1.trans h2
theorem odds_erase {n : Nat → Nat} {M : List Nat} : ∀ {B : List (List Nat)}, M ∈ B → odds n B = lsum n M % 2 + odds n (B.erase M)
  | [], h => by cases h
  | A :: r, h => by
    by_cases e : A = M
    · subst e; rw [List.erase_cons_head]; rfl
    · rw [List.erase_cons_tail (by simpa using e)]
      simp only [odds]
      rw [odds_erase ((List.mem_cons.mp h).resolve_left fun z => e z.symm)]
      omega
theorem odds_unique (n : Nat → Nat) : ∀ (A B : List (List Nat)), A.flatten.Nodup → B.flatten.Nodup → (∀ L, L ∈ A → L ≠ [] → ∃ M, M ∈ B ∧ ∀ k, k ∈ L ↔ k ∈ M) → (∀ M, M ∈ B → M ≠ [] → ∃ L, L ∈ A ∧ ∀ k, k ∈ M ↔ k ∈ L) → odds n A = odds n B
  | [], B, _, hB, _, h2 => by
    have : ∀ B : List (List Nat), (∀ M, M ∈ B → M = []) → odds n B = 0 := by
      intro B
      induction B with
      | nil => intro _; rfl
      | cons M r ih =>
        intro h
        simp only [odds]
        rw [h M List.mem_cons_self, ih fun M hM => h M (List.mem_cons_of_mem _ hM)]
        rfl
    rw [this B fun M hM => Classical.byContradiction fun z => by
      obtain ⟨L, hL, _⟩ := h2 M hM z
      cases hL]
    rfl
  | L :: A, B, hA, hB, h1, h2 => by
    rw [List.flatten_cons] at hA
    obtain ⟨a1, a2, a3⟩ := List.nodup_append.mp hA
    by_cases hL : L = []
    · subst hL
      have := odds_unique n A B a2 hB (fun L hL => h1 L (List.mem_cons_of_mem _ hL)) fun M hM hne => by
        obtain ⟨L, hL, hk⟩ := h2 M hM hne
        rcases List.mem_cons.mp hL with e | hL
        · subst e
          obtain ⟨x, hx⟩ := List.exists_mem_of_ne_nil _ hne
          have := (hk x).mp hx
          cases this
        · exact ⟨L, hL, hk⟩
      simp only [odds, lsum]
      omega
    · obtain ⟨M, hM, hk⟩ := h1 L List.mem_cons_self hL
      have pB : B.Perm (M :: B.erase M) := List.perm_cons_erase hM
      have hB' : (M :: B.erase M).flatten.Nodup := (pB.flatten.nodup_iff).mp hB
      rw [List.flatten_cons] at hB'
      obtain ⟨b1, b2, b3⟩ := List.nodup_append.mp hB'
      have hLM : lsum n L = lsum n M := lsum_perm ((List.perm_ext_iff_of_nodup a1 b1).mpr hk)
      obtain ⟨x, hx⟩ := List.exists_mem_of_ne_nil _ hL
      have := odds_unique n A (B.erase M) a2 b2 (fun L' hL' hne => by
        obtain ⟨M', hM', hk'⟩ := h1 L' (List.mem_cons_of_mem _ hL') hne
        refine ⟨M', ?_, hk'⟩
        rcases List.mem_cons.mp (pB.mem_iff.mp hM') with e | h
        · subst e
          obtain ⟨y, hy⟩ := List.exists_mem_of_ne_nil _ hne
          exact absurd rfl (a3 y ((hk y).mpr ((hk' y).mp hy)) y (List.mem_flatten.mpr ⟨L', hL', hy⟩))
        · exact h) (fun M' hM' hne => by
        obtain ⟨L', hL', hk'⟩ := h2 M' (List.mem_of_mem_erase hM') hne
        rcases List.mem_cons.mp hL' with e | h
        · subst e
          obtain ⟨y, hy⟩ := List.exists_mem_of_ne_nil _ hne
          exact absurd rfl (b3 y ((hk y).mp ((hk' y).mp hy)) y (List.mem_flatten.mpr ⟨M', hM', hy⟩))
        · exact ⟨L', h, hk'⟩)
      rw [odds_erase hM, ← this, ← hLM]
      rfl
theorem walk_in {T : Net} {U M : List Nat} {n : Nat → Nat} (tog : ∀ a b, a ∈ M → Edge T a b → b ∉ U → b ∈ M) (hn : ∀ k, 1 ≤ n k → k ∉ U) : ∀ (l a b : Nat), Wk T n l a b → a ∈ M → b ∉ U → b ∈ M
  | 0, a, b, w, ha, hb => tog a b ha w hb
  | l + 1, a, b, ⟨t, e, ht, _, w⟩, ha, hb => walk_in tog hn l t b w (tog a t ha e (hn t ht)) hb
/-- a class of one cut is one of the other -/
theorem class_in {T : Net} {U1 U2 o1 o2 : List Nat} {A B : List (List Nat)} (c1 : CutOk T U1 o1 A) (c2 : CutOk T U2 o2 B) (hU : ∀ k, k ∈ U1 ↔ k ∈ U2) {L : List Nat} (hL : L ∈ A) (hne : L ≠ []) : ∃ M, M ∈ B ∧ ∀ k, k ∈ L → k ∈ M := by
  obtain ⟨a, ha⟩ := List.exists_mem_of_ne_nil _ hne
  have inL : ∀ k, k ∈ L → k ∈ A.flatten := fun k hk => List.mem_flatten.mpr ⟨L, hL, hk⟩
  have nU : ∀ k, k ∈ L → k ∉ U2 := fun k hk z => (List.nodup_append.mp c1.nd).2.2 k ((hU k).mpr z) k (List.mem_append_right _ (inL k hk)) rfl
  let n : Nat → Nat := fun k => if k ∈ L then 1 else 0
  have hn1 : ∀ k, k ∈ L → 1 ≤ n k := fun k hk => by show 1 ≤ (if k ∈ L then 1 else 0); rw [if_pos hk]; exact Nat.le_refl _
  have hn2 : ∀ k, 1 ≤ n k → k ∈ L := fun k hk => Classical.byContradiction fun z => by
    have hk : 1 ≤ (if k ∈ L then 1 else 0) := hk
    rw [if_neg z] at hk
    omega
  -- a has a tie to a kind outside U
  have tie : ∃ t, Edge T a t ∧ t ∈ L := by
    obtain ⟨l, w⟩ := c1.con L hL n hn1 a a ha ha
    cases l with
    | zero => exact ⟨a, w, ha⟩
    | succ l => obtain ⟨t, e, ht, _, _⟩ := w; exact ⟨t, e, hn2 t ht⟩
  obtain ⟨t, e, ht⟩ := tie
  have haq : a < T.q := (c1.all a).mpr (List.mem_append_right _ (List.mem_append_right _ (inL a ha)))
  have ha2 := (c2.all a).mp haq
  rw [List.mem_append, List.mem_append, List.mem_flatten] at ha2
  rcases ha2 with h | h | ⟨M, hM, haM⟩
  · exact absurd h (nU a ha)
  · exact absurd (c2.lon a t h e) (nU t ht)
  · refine ⟨M, hM, fun k hk => ?_⟩
    obtain ⟨l, w⟩ := c1.con L hL n hn1 a k ha hk
    exact walk_in (c2.tog M hM) (fun j hj => nU j (hn2 j hj)) l a k w haM (nU k hk)
theorem class_same {T : Net} {U1 U2 o1 o2 : List Nat} {A B : List (List Nat)} (c1 : CutOk T U1 o1 A) (c2 : CutOk T U2 o2 B) (hU : ∀ k, k ∈ U1 ↔ k ∈ U2) {L : List Nat} (hL : L ∈ A) (hne : L ≠ []) : ∃ M, M ∈ B ∧ ∀ k, k ∈ L ↔ k ∈ M := by
  obtain ⟨M, hM, h1⟩ := class_in c1 c2 hU hL hne
  obtain ⟨a, ha⟩ := List.exists_mem_of_ne_nil _ hne
  have hMne : M ≠ [] := fun z => by have := h1 a ha; rw [z] at this; cases this
  obtain ⟨L', hL', h2⟩ := class_in c2 c1 (fun k => (hU k).symm) hM hMne
  have hLL : L' = L := by
    have nd := (List.nodup_append.mp (List.nodup_append.mp c1.nd).2.1).2.1
    have : ∀ ls : List (List Nat), ls.flatten.Nodup → ∀ k L M, L ∈ ls → M ∈ ls → k ∈ L → k ∈ M → L = M := by
      intro ls
      induction ls with
      | nil => intro _ k L M h; cases h
      | cons A r ih =>
        intro hn k L M hL hM kL kM
        rw [List.flatten_cons] at hn
        obtain ⟨n1, n2, n3⟩ := List.nodup_append.mp hn
        rcases List.mem_cons.mp hL with e1 | hL' <;> rcases List.mem_cons.mp hM with e2 | hM'
        · rw [e1, e2]
        · subst e1; exact absurd rfl (n3 k kL k (List.mem_flatten.mpr ⟨M, hM', kM⟩))
        · subst e2; exact absurd rfl (n3 k kM k (List.mem_flatten.mpr ⟨L, hL', kL⟩))
        · exact ih n2 k L M hL' hM' kL kM
    exact this A nd a L' L hL' hL (h2 a (h1 a ha)) ha
  exact ⟨M, hM, fun k => ⟨h1 k, fun hk => hLL ▸ h2 k hk⟩⟩
theorem lone_in {T : Net} {U1 U2 o1 o2 : List Nat} {A B : List (List Nat)} (c1 : CutOk T U1 o1 A) (c2 : CutOk T U2 o2 B) (hU : ∀ k, k ∈ U1 ↔ k ∈ U2) {k : Nat} (h : k ∈ o1) : k ∈ o2 := by
  have hq : k < T.q := (c1.all k).mpr (List.mem_append_right _ (List.mem_append_left _ h))
  have h2 := (c2.all k).mp hq
  rw [List.mem_append, List.mem_append, List.mem_flatten] at h2
  rcases h2 with h2 | h2 | ⟨M, hM, hk⟩
  · exact absurd rfl ((List.nodup_append.mp c1.nd).2.2 k ((hU k).mpr h2) k (List.mem_append_left _ h))
  · exact h2
  · obtain ⟨L, hL, hs⟩ := class_same c2 c1 (fun k => (hU k).symm) hM (fun z => by rw [z] at hk; cases hk)
    exact absurd rfl ((List.nodup_append.mp (List.nodup_append.mp c1.nd).2.1).2.2 k h k (List.mem_flatten.mpr ⟨L, hL, (hs k).mp hk⟩))
theorem value_unique {T : Net} {U1 U2 o1 o2 : List Nat} {A B : List (List Nat)} (c1 : CutOk T U1 o1 A) (c2 : CutOk T U2 o2 B) (hU : ∀ k, k ∈ U1 ↔ k ∈ U2) (n : Nat → Nat) : value n U1 o1 A = value n U2 o2 B := by
  have n1 := List.nodup_append.mp c1.nd
  have n2 := List.nodup_append.mp c2.nd
  have m1 := List.nodup_append.mp n1.2.1
  have m2 := List.nodup_append.mp n2.2.1
  have e1 : lsum n U1 = lsum n U2 := lsum_perm ((List.perm_ext_iff_of_nodup n1.1 n2.1).mpr hU)
  have e2 : lsum n o1 = lsum n o2 := lsum_perm ((List.perm_ext_iff_of_nodup m1.1 m2.1).mpr fun k => ⟨lone_in c1 c2 hU, lone_in c2 c1 fun k => (hU k).symm⟩)
  have e3 : odds n A = odds n B := odds_unique n A B m1.2.1 m2.2.1 (fun L hL hne => class_same c1 c2 hU hL hne) fun M hM hne => class_same c2 c1 (fun k => (hU k).symm) hM hne
  unfold value
  rw [e1, e2, e3]
end QM
end
section
set_option linter.all false
set_option maxRecDepth 100000
set_option autoImplicit false
/-! QV: what the texts are worth: rules. -/
namespace QV
open PySem QL QP
section
variable {α β γ : Type}
theorem bind_pure (a : α) (f : α → M β) : M.bind (M.pure a) f = f a := rfl
theorem bind_bad (f : α → M β) : M.bind M.bad f = M.bad := rfl
theorem bind_assoc (x : M α) (f : α → M β) (g : β → M γ) : M.bind (M.bind x f) g = M.bind x fun a => M.bind (f a) g := by
  funext m
  unfold M.bind
  cases x m <;> rfl
theorem bind_ret (x : M α) : M.bind x M.pure = x := by
  funext m
  unfold M.bind
  cases x m <;> rfl
theorem ofO_some (a : α) : ofO (some a) = M.pure a := rfl
theorem ofO_none : ofO (none : Option α) = M.bad := rfl
theorem nox_pure (a : α) : nox (M.pure a) = M.pure a := rfl
end
theorem run_s {P : Nat → Option Fn} {n f : Nat} {fn : Fn} {ds : List D} (h : P f = some fn) : run P (n + 1) f ds = runF (run P n) fn ds := by
  show (match P f with
    | some fn => runF (run P n) fn ds
    | none => M.bad) = _
  rw [h]
theorem getM_zero (d : D) (ρ : QL.Env) : getM (some d :: ρ) 0 = M.pure d := rfl
theorem getM_succ (x : Option D) (ρ : QL.Env) (i : Nat) : getM (x :: ρ) (i + 1) = getM ρ i := rfl
theorem truth_bl (b : Bool) : truth (.bl b) = M.pure b := rfl
theorem items_tup (l : List D) : itemsOf (.tup l) = M.pure l := rfl
theorem items_lst (l : List D) : itemsOf (.lst l) = M.pure l := rfl
theorem lim_ok {l : List D} (h : l.length ≤ LIM) : lim l = M.pure ⟨⟩ := if_pos h
theorem tupO_ok {l : List D} (h : l.length ≤ LIM) : tupO l = some (.tup l) := if_pos h
theorem lstO_ok {l : List D} (h : l.length ≤ LIM) : lstO l = some (.lst l) := if_pos h
/-- what stands for a list's items -/
theorem compL_pure {f : D → M (Option D)} {l : List D} {g : D → Option D} (h : ∀ d ∈ l, f d = M.pure (g d)) : compL f l = M.pure (l.filterMap g) := by
  induction l with
  | nil => rfl
  | cons d r ih =>
    show M.bind (f d) _ = _
    rw [h d List.mem_cons_self, bind_pure, ih fun x hx => h x (List.mem_cons_of_mem _ hx), bind_pure, List.filterMap_cons]
    cases g d <;> rfl
theorem compL_map {α : Type} {c : α → D} {f : D → M (Option D)} {xs : List α} {g : α → D} (h : ∀ x ∈ xs, f (c x) = M.pure (some (g x))) : compL f (xs.map c) = M.pure (xs.map g) := by
  induction xs with
  | nil => rfl
  | cons d r ih =>
    show M.bind (f (c d)) _ = _
    rw [h d List.mem_cons_self, bind_pure, ih fun x hx => h x (List.mem_cons_of_mem _ hx), bind_pure]
    rfl
theorem compL_filter {α : Type} {c : α → D} {f : D → M (Option D)} {xs : List α} {p : α → Bool} {g : α → D} (h : ∀ x ∈ xs, f (c x) = M.pure (if p x = true then some (g x) else none)) : compL f (xs.map c) = M.pure ((xs.filter p).map g) := by
  induction xs with
  | nil => rfl
  | cons d r ih =>
    show M.bind (f (c d)) _ = _
    rw [h d List.mem_cons_self, bind_pure, ih fun x hx => h x (List.mem_cons_of_mem _ hx), bind_pure, List.filter_cons]
    by_cases hp : p d = true
    · rw [if_pos hp, if_pos hp]; rfl
    · rw [if_neg hp, if_neg hp]
theorem intsO_map (ns : List Int) : intsO (ns.map .int) = some ns := by
  induction ns with
  | nil => rfl
  | cons n r ih => show (intsO (r.map .int)).map (n :: ·) = _; rw [ih]; rfl
theorem boolsO_map (ns : List Bool) : boolsO (ns.map .bl) = some ns := by
  induction ns with
  | nil => rfl
  | cons n r ih => show (boolsO (r.map .bl)).map (n :: ·) = _; rw [ih]; rfl
theorem strsO_map (ns : List Str) : strsO (ns.map .str) = some ns := by
  induction ns with
  | nil => rfl
  | cons n r ih => show (strsO (r.map .str)).map (n :: ·) = _; rw [ih]; rfl
theorem m1_sum (ns : List Int) : doM1 .sum (.lst (ns.map .int)) = M.pure (.int ns.sum) := by
  funext m
  show ofO ((intsO (ns.map .int)).map fun ns => D.int ns.sum) m = _
  rw [intsO_map]
  rfl
theorem m1_all (ns : List Bool) : doM1 .all (.lst (ns.map .bl)) = M.pure (.bl (ns.all id)) := by
  funext m
  show ofO ((boolsO (ns.map .bl)).map fun ns => D.bl (ns.all id)) m = _
  rw [boolsO_map]
  rfl
theorem m1_any (ns : List Bool) : doM1 .any (.lst (ns.map .bl)) = M.pure (.bl (ns.any id)) := by
  funext m
  show ofO ((boolsO (ns.map .bl)).map fun ns => D.bl (ns.any id)) m = _
  rw [boolsO_map]
  rfl
theorem m1_tuple (l : List D) : doM1 .tuple (.lst l) = M.pure (.tup l) := rfl
theorem m1_tupleT (l : List D) : doM1 .tuple (.tup l) = M.pure (.tup l) := rfl
theorem m1_list (l : List D) : doM1 .list (.tup l) = M.pure (.lst l) := rfl
theorem m1_listL (l : List D) : doM1 .list (.lst l) = M.pure (.lst l) := rfl
theorem m1_len (l : List D) : doM1 .len (.lst l) = M.pure (.int l.length) := rfl
theorem m1_lenT (l : List D) : doM1 .len (.tup l) = M.pure (.int l.length) := rfl
theorem m1_neg (i : Int) : doM1 .neg (.int i) = M.pure (.int (-i)) := rfl
theorem m1_isN (d : D) : doM1 .isN d = M.pure (.bl (isNon d)) := by cases d <;> rfl
theorem m1_notN (d : D) : doM1 .notN d = M.pure (.bl (!isNon d)) := by cases d <;> rfl
theorem m1_int (i : Int) : doM1 .int (.int i) = M.pure (.int i) := rfl
theorem m1_intB (b : Bool) : doM1 .int (.bl b) = M.pure (.int (if b then 1 else 0)) := rfl
theorem m2_add (i j : Int) : doM2 .add (.int i) (.int j) = M.pure (.int (i + j)) := rfl
theorem m2_sub (i j : Int) : doM2 .sub (.int i) (.int j) = M.pure (.int (i - j)) := rfl
theorem m2_lt (i j : Int) : doM2 .lt (.int i) (.int j) = M.pure (.bl (decide (i < j))) := rfl
theorem m2_le (i j : Int) : doM2 .le (.int i) (.int j) = M.pure (.bl (decide (i ≤ j))) := rfl
theorem m2_gt (i j : Int) : doM2 .gt (.int i) (.int j) = M.pure (.bl (decide (j < i))) := rfl
theorem m2_ge (i j : Int) : doM2 .ge (.int i) (.int j) = M.pure (.bl (decide (j ≤ i))) := rfl
theorem m2_eqI (i j : Int) : doM2 .eq (.int i) (.int j) = M.pure (.bl (decide (i = j))) := by
  funext m
  show ofO ((eqD (.int i) (.int j)).map D.bl) m = _
  have : eqD (.int i) (.int j) = some (decide (i = j)) := by
    show some (PyData.eqv (.int i) (.int j)) = _
    simp only [PyData.eqv]
    exact congrArg some (by rw [Bool.beq_eq_decide_eq])
  rw [this]
  rfl
theorem m2_neI (i j : Int) : doM2 .ne (.int i) (.int j) = M.pure (.bl (!decide (i = j))) := by
  funext m
  show ofO ((eqD (.int i) (.int j)).map fun c => D.bl (!c)) m = _
  have : eqD (.int i) (.int j) = some (decide (i = j)) := by
    show some (PyData.eqv (.int i) (.int j)) = _
    simp only [PyData.eqv]
    exact congrArg some (by rw [Bool.beq_eq_decide_eq])
  rw [this]
  rfl
theorem m2_mod {i j : Int} (h : 0 < j) : doM2 .mod (.int i) (.int j) = M.pure (.int (i % j)) := by
  funext m
  show ofO (if 0 < j then some (D.int (i % j)) else none) m = _
  rw [if_pos h]
  rfl
theorem atI_nat {l : List D} {k : Nat} {d : D} (h : l[k]? = some d) : atI l (k : Int) = some d := by
  have hk := (List.getElem?_eq_some_iff.mp h).1
  unfold atI ixN
  rw [if_pos (by omega), if_pos (by omega)]
  show l[((k : Int)).toNat]? = _
  rw [Int.toNat_natCast]
  exact h
theorem m2_ixT {l : List D} {k : Nat} {d : D} (h : l[k]? = some d) : doM2 .ix (.tup l) (.int (k : Int)) = M.pure d := by
  funext m
  show ofO (atI l k) m = _
  rw [atI_nat h]
  rfl
theorem m2_ixL {l : List D} {k : Nat} {d : D} (h : l[k]? = some d) : doM2 .ix (.lst l) (.int (k : Int)) = M.pure d := by
  funext m
  show ofO (atI l k) m = _
  rw [atI_nat h]
  rfl
def plainO : O2 → Bool
  | .index => false | .count => false | .join => false | .split => false | .append => false
  | _ => true
theorem recv_ok {o : O2} (h : plainO o = true) (d : D) : recvM o d = M.pure ⟨⟩ := by
  funext m
  cases o <;> first | rfl | cases h
/-- a place, as data -/
def nI (k : Nat) : D := .int (k : Int)
/-- what stands for the numbers xs -/
def tI (xs : List Int) : D := .tup (xs.map .int)
theorem ix_tI {xs : List Int} {k : Nat} (h : k < xs.length) : doM2 .ix (tI xs) (nI k) = M.pure (.int (xs.getD k 0)) :=
  m2_ixT (by rw [List.getElem?_map, List.getElem?_eq_getElem h, List.getD_eq_getElem?_getD, List.getElem?_eq_getElem h]; rfl)
theorem things_in (n : Nat) (xs : List Int) (ch : List Nat) (h : ∀ k ∈ ch, k < xs.length) (hl : ch.length ≤ LIM) : run PT (n + 1) 39 [tI xs, .tup (ch.map nI)] = M.pure (.int (ch.map fun k => xs.getD k 0).sum) := by
  rw [run_s (fn := f39) rfl]
  simp only [runF, f39, exs, ex, ev, evT, evI, evs, t3, s3, tr, bind_pure, bind_assoc, List.length_cons, List.length_nil, if_true, List.map_cons, List.map_nil, List.cons_append, List.nil_append, Nat.reduceAdd, Nat.reduceSub, List.replicate, getM_zero, getM_succ, items_tup]
  rw [lim_ok (by simpa using hl), bind_pure, compL_map (g := fun k => .int (xs.getD k 0))]
  · simp only [nox_pure, bind_pure]
    rw [show (List.map (fun k => D.int (xs.getD k 0)) ch) = ((ch.map fun k => xs.getD k 0).map .int) by simp, m1_sum]
    rfl
  · intro k hk
    simp only [compF, setT, wipeE, List.set, ofO_some, bind_pure, truth_bl, if_true, getM_zero, getM_succ, recv_ok (o := .ix) rfl, ix_tI (h k hk)]
end QV
end
section
set_option linter.all false
set_option maxRecDepth 100000
set_option autoImplicit false
/-! QW: equality of data. -/
namespace QV
open PySem QL
open Classical
mutual
/-- data of whole numbers, texts, None, tuples and lists (no bool) -/
def nb : D → Bool
  | .non => true
  | .int _ => true
  | .str x => PyData.strOk x
  | .tup l => nbs l
  | .lst l => nbs l
  | _ => false
def nbs : List D → Bool
  | [] => true
  | d :: r => nb d && nbs r
end
mutual
def dpt : D → Nat
  | .tup l => dpts l + 1
  | .lst l => dpts l + 1
  | _ => 0
def dpts : List D → Nat
  | [] => 0
  | d :: r => max (dpt d) (dpts r)
end
mutual
def pd : D → PyData
  | .non => .none
  | .int i => .int i
  | .str x => .str x
  | .tup l => .tuple (pds l)
  | .lst l => .list (pds l)
  | _ => .none
def pds : List D → List PyData
  | [] => []
  | d :: r => pd d :: pds r
end
mutual
theorem toP_pd : ∀ d, nb d = true → toP d = some (pd d)
  | .non, _ => rfl
  | .int _, _ => rfl
  | .str _, _ => rfl
  | .tup l, h => by show (toPs l).map PyData.tuple = _; rw [toPs_pd l h]; rfl
  | .lst l, h => by show (toPs l).map PyData.list = _; rw [toPs_pd l h]; rfl
  | .bl _, h => by cases h
  | .dct _ _, h => by cases h
  | .ins _ _ _, h => by cases h
  | .ref _, h => by cases h
  | .scr _, h => by cases h
theorem toPs_pd : ∀ l, nbs l = true → toPs l = some (pds l)
  | [], _ => rfl
  | d :: r, h => by
    have h' : (nb d && nbs r) = true := h
    simp only [Bool.and_eq_true] at h'
    show (match toP d, toPs r with
      | some p, some q => some (p :: q)
      | _, _ => none) = _
    rw [toP_pd d h'.1, toPs_pd r h'.2]
    rfl
end
mutual
theorem can_pd : ∀ d, nb d = true → (pd d).canLay0 = true
  | .non, _ => rfl
  | .int _, _ => rfl
  | .str x, h => h
  | .tup l, h => cans_pd l h
  | .lst l, h => cans_pd l h
  | .bl _, h => by cases h
  | .dct _ _, h => by cases h
  | .ins _ _ _, h => by cases h
  | .ref _, h => by cases h
  | .scr _, h => by cases h
theorem cans_pd : ∀ l, nbs l = true → PyData.canLayAll0 (pds l) = true
  | [], _ => rfl
  | d :: r, h => by
    have h' : (nb d && nbs r) = true := h
    simp only [Bool.and_eq_true] at h'
    show ((pd d).canLay0 && PyData.canLayAll0 (pds r)) = true
    rw [can_pd d h'.1, cans_pd r h'.2]
    rfl
end
mutual
theorem depth_pd : ∀ d, nb d = true → (pd d).depth = dpt d
  | .non, _ => rfl
  | .int _, _ => rfl
  | .str x, h => rfl
  | .tup l, h => by show PyData.depthAll (pds l) + 1 = dpts l + 1; rw [depths_pd l h]
  | .lst l, h => by show PyData.depthAll (pds l) + 1 = dpts l + 1; rw [depths_pd l h]
  | .bl _, h => by cases h
  | .dct _ _, h => by cases h
  | .ins _ _ _, h => by cases h
  | .ref _, h => by cases h
  | .scr _, h => by cases h
theorem depths_pd : ∀ l, nbs l = true → PyData.depthAll (pds l) = dpts l
  | [], _ => rfl
  | d :: r, h => by
    have h' : (nb d && nbs r) = true := h
    simp only [Bool.and_eq_true] at h'
    show max (pd d).depth (PyData.depthAll (pds r)) = max (dpt d) (dpts r)
    rw [depth_pd d h'.1, depths_pd r h'.2]
end
theorem shp_pd {d : D} (h : nb d = true) (hd : dpt d ≤ 64) : shp d = some (pd d) := by
  unfold shp
  rw [toP_pd d h]
  have : PySem.SeqAt.shaped (pd d) = true := by
    unfold PySem.SeqAt.shaped
    rw [can_pd d h, depth_pd d h, decide_eq_true hd]
    rfl
  show (if PySem.SeqAt.shaped (pd d) = true then some (pd d) else none) = _
  rw [if_pos this]
mutual
theorem eqv_pd : ∀ a b, nb a = true → nb b = true → PyData.eqv (pd a) (pd b) = decide (a = b)
  | .non, b, _, hb => by cases b <;> first | (cases hb; done) | simp [pd, PyData.eqv]
  | .int i, b, _, hb => by
    cases b <;> first | (cases hb; done) | skip
    all_goals simp only [pd, PyData.eqv]
    all_goals simp
    exact Bool.beq_eq_decide_eq _ _
  | .str x, b, _, hb => by
    cases b <;> first | (cases hb; done) | skip
    all_goals simp only [pd, PyData.eqv]
    all_goals simp
    exact Bool.beq_eq_decide_eq _ _
  | .tup l, b, ha, hb => by
    cases b <;> first | (cases hb; done) | skip
    case tup k =>
      show PyData.eqvAll (pds l) (pds k) = _
      rw [eqvs_pd l k ha hb]
      simp
    all_goals simp [pd, PyData.eqv]
  | .lst l, b, ha, hb => by
    cases b <;> first | (cases hb; done) | skip
    case lst k =>
      show PyData.eqvAll (pds l) (pds k) = _
      rw [eqvs_pd l k ha hb]
      simp
    all_goals simp [pd, PyData.eqv]
  | .bl _, _, h, _ => by cases h
  | .dct _ _, _, h, _ => by cases h
  | .ins _ _ _, _, h, _ => by cases h
  | .ref _, _, h, _ => by cases h
  | .scr _, _, h, _ => by cases h
theorem eqvs_pd : ∀ l k, nbs l = true → nbs k = true → PyData.eqvAll (pds l) (pds k) = decide (l = k)
  | [], [], _, _ => by simp [pds, PyData.eqvAll]
  | [], _ :: _, _, _ => by simp [pds, PyData.eqvAll]
  | _ :: _, [], _, _ => by simp [pds, PyData.eqvAll]
  | a :: l, b :: k, ha, hb => by
    have ha' : (nb a && nbs l) = true := ha
    have hb' : (nb b && nbs k) = true := hb
    simp only [Bool.and_eq_true] at ha' hb'
    show (PyData.eqv (pd a) (pd b) && PyData.eqvAll (pds l) (pds k)) = _
    rw [eqv_pd a b ha'.1 hb'.1, eqvs_pd l k ha'.2 hb'.2]
    simp
end
theorem eqD_is {a b : D} (ha : nb a = true) (hb : nb b = true) (da : dpt a ≤ 64) (db : dpt b ≤ 64) : eqD a b = some (decide (a = b)) := by
  unfold eqD
  rw [shp_pd ha da, shp_pd hb db]
  show some (PyData.eqv (pd a) (pd b)) = _
  rw [eqv_pd a b ha hb]
theorem m2_eq {a b : D} (ha : nb a = true) (hb : nb b = true) (da : dpt a ≤ 64) (db : dpt b ≤ 64) : doM2 .eq a b = M.pure (.bl (decide (a = b))) := by
  funext m
  show ofO ((eqD a b).map D.bl) m = _
  rw [eqD_is ha hb da db]
  rfl
theorem m2_ne {a b : D} (ha : nb a = true) (hb : nb b = true) (da : dpt a ≤ 64) (db : dpt b ≤ 64) : doM2 .ne a b = M.pure (.bl (!decide (a = b))) := by
  funext m
  show ofO ((eqD a b).map fun c => D.bl (!c)) m = _
  rw [eqD_is ha hb da db]
  rfl
theorem any_pd {a : D} (ha : nb a = true) : ∀ {l : List D}, nbs l = true → ((pds l).any fun z => PyData.eqv z (pd a)) = decide (a ∈ l)
  | [], _ => by simp [pds]
  | b :: l, h => by
    have h' : (nb b && nbs l) = true := h
    simp only [Bool.and_eq_true] at h'
    show (PyData.eqv (pd b) (pd a) || (pds l).any fun z => PyData.eqv z (pd a)) = _
    rw [eqv_pd b a h'.1 ha, any_pd ha h'.2]
    by_cases e : b = a
    · subst e; simp
    · have e2 : ¬ a = b := fun z => e z.symm
      simp [e, e2]
theorem inD_is {a : D} {l : List D} (ha : nb a = true) (hl : nbs l = true) (da : dpt a ≤ 64) (dl : dpts l ≤ 63) : inD a l = some (decide (a ∈ l)) := by
  unfold inD
  rw [shp_pd ha da, shp_pd (d := .lst l) hl (by show dpts l + 1 ≤ 64; omega)]
  show some ((pds l).any fun z => PyData.eqv z (pd a)) = _
  rw [any_pd ha hl]
theorem m2_inT {a : D} {l : List D} (ha : nb a = true) (hs : ∀ x, a ≠ .str x ∨ True) (hl : nbs l = true) (da : dpt a ≤ 64) (dl : dpts l ≤ 63) : doM2 .isIn a (.tup l) = M.pure (.bl (decide (a ∈ l))) := by
  funext m
  have : do2 .isIn a (.tup l) m = (inD a l).map D.bl := by cases a <;> rfl
  show ofO (do2 .isIn a (.tup l) m) m = _
  rw [this, inD_is ha hl da dl]
  rfl
theorem m2_inL {a : D} {l : List D} (ha : nb a = true) (hl : nbs l = true) (da : dpt a ≤ 64) (dl : dpts l ≤ 63) : doM2 .isIn a (.lst l) = M.pure (.bl (decide (a ∈ l))) := by
  funext m
  have : do2 .isIn a (.lst l) m = (inD a l).map D.bl := by cases a <;> rfl
  show ofO (do2 .isIn a (.lst l) m) m = _
  rw [this, inD_is ha hl da dl]
  rfl
theorem m2_notInT {a : D} {l : List D} (ha : nb a = true) (hl : nbs l = true) (da : dpt a ≤ 64) (dl : dpts l ≤ 63) : doM2 .notIn a (.tup l) = M.pure (.bl (!decide (a ∈ l))) := by
  funext m
  have : do2 .notIn a (.tup l) m = (inD a l).map fun c => D.bl (!c) := by cases a <;> rfl
  show ofO (do2 .notIn a (.tup l) m) m = _
  rw [this, inD_is ha hl da dl]
  rfl
theorem m2_notInL {a : D} {l : List D} (ha : nb a = true) (hl : nbs l = true) (da : dpt a ≤ 64) (dl : dpts l ≤ 63) : doM2 .notIn a (.lst l) = M.pure (.bl (!decide (a ∈ l))) := by
  funext m
  have : do2 .notIn a (.lst l) m = (inD a l).map fun c => D.bl (!c) := by cases a <;> rfl
  show ofO (do2 .notIn a (.lst l) m) m = _
  rw [this, inD_is ha hl da dl]
  rfl
end QV
end
section
set_option linter.all false
set_option maxRecDepth 100000
set_option autoImplicit false
/-! QD: the nets: what lies around a set of kinds. -/
namespace QV
open PySem QL QP
theorem nI_inj {a b : Nat} : nI a = nI b ↔ a = b := by
  unfold nI
  refine ⟨fun h => ?_, fun h => by rw [h]⟩
  injection h with h
  omega
theorem nI_mem {a : Nat} {l : List Nat} : nI a ∈ l.map nI ↔ a ∈ l := by
  simp only [List.mem_map, nI_inj, exists_eq_right]
theorem nbs_nI : ∀ l : List Nat, nbs (l.map nI) = true
  | [] => rfl
  | a :: r => by show (nb (nI a) && nbs (r.map nI)) = true; rw [nbs_nI r]; rfl
theorem dpts_nI : ∀ l : List Nat, dpts (l.map nI) = 0
  | [] => rfl
  | a :: r => by show max (dpt (nI a)) (dpts (r.map nI)) = 0; rw [dpts_nI r]; rfl
theorem in_nT (a : Nat) (l : List Nat) : doM2 .isIn (nI a) (.tup (l.map nI)) = M.pure (.bl (decide (a ∈ l))) := by
  rw [m2_inT rfl (fun _ => .inr trivial) (nbs_nI l) (by show (0 : Nat) ≤ 64; omega) (by rw [dpts_nI]; omega)]
  simp only [nI_mem]
theorem in_nL (a : Nat) (l : List Nat) : doM2 .isIn (nI a) (.lst (l.map nI)) = M.pure (.bl (decide (a ∈ l))) := by
  rw [m2_inL rfl (nbs_nI l) (by show (0 : Nat) ≤ 64; omega) (by rw [dpts_nI]; omega)]
  simp only [nI_mem]
theorem notIn_nT (a : Nat) (l : List Nat) : doM2 .notIn (nI a) (.tup (l.map nI)) = M.pure (.bl (!decide (a ∈ l))) := by
  rw [m2_notInT rfl (nbs_nI l) (by show (0 : Nat) ≤ 64; omega) (by rw [dpts_nI]; omega)]
  simp only [nI_mem]
theorem notIn_nL (a : Nat) (l : List Nat) : doM2 .notIn (nI a) (.lst (l.map nI)) = M.pure (.bl (!decide (a ∈ l))) := by
  rw [m2_notInL rfl (nbs_nI l) (by show (0 : Nat) ≤ 64; omega) (by rw [dpts_nI]; omega)]
  simp only [nI_mem]
theorem eq_nI (a b : Nat) : doM2 .eq (nI a) (nI b) = M.pure (.bl (decide (a = b))) := by
  unfold nI
  rw [m2_eqI]
  by_cases h : a = b
  · subst h; simp
  · have : ¬ (a : Int) = (b : Int) := by omega
    simp [h, this]
/-- a pair of places -/
def pD (p : Nat × Nat) : D := .tup [nI p.1, nI p.2]
/-- the ties outside U, both ways -/
def bothL (T : List (Nat × Nat)) (U : List Nat) : List (Nat × Nat) :=
  T.filter (fun p => !decide (p.1 ∈ U) && !decide (p.2 ∈ U)) ++ (T.filter (fun p => !decide (p.1 ∈ U) && !decide (p.2 ∈ U))).map fun p => (p.2, p.1)
def nearL (T : List (Nat × Nat)) (U : List Nat) (a : Nat) : List Nat := ((bothL T U).filter fun p => decide (p.1 = a)).map (·.2)
def keysL (q : Nat) (U : List Nat) : List Nat := (List.range q).filter fun a => !decide (a ∈ U)
def nearD (q : Nat) (T : List (Nat × Nat)) (U : List Nat) : D := .dct ((keysL q U).map fun (a : Nat) => (a : Int)) ((keysL q U).map fun a => .lst ((nearL T U a).map nI))
theorem m2_addL {l k : List D} (h : (l ++ k).length ≤ LIM) : doM2 .add (.lst l) (.lst k) = M.pure (.lst (l ++ k)) := by
  funext m
  show ofO (lstO (l ++ k)) m = _
  rw [lstO_ok h]
  rfl
theorem recvNI (d : D) : recvM .notIn d = M.pure ⟨⟩ := recv_ok rfl d
theorem recvI (d : D) : recvM .isIn d = M.pure ⟨⟩ := recv_ok rfl d
theorem recvE (d : D) : recvM .eq d = M.pure ⟨⟩ := recv_ok rfl d
theorem recvA (d : D) : recvM .add d = M.pure ⟨⟩ := recv_ok rfl d
theorem recvX (d : D) : recvM .ix d = M.pure ⟨⟩ := recv_ok rfl d
theorem tup2 (a b : D) : tupO [a, b] = some (.tup [a, b]) := rfl
theorem rangeM_nat {q : Nat} (h : q ≤ 1000000000) : rangeM 0 (q : Int) = M.pure ((List.range q).map nI) := by
  unfold rangeM
  rw [if_pos (by omega)]
  congr 1
  unfold rangeL
  rw [show ((q : Int) - 0).toNat = q by omega]
  exact List.map_congr_left fun k _ => by unfold nI; simp
theorem compD_filter {f : D → M (Option (D × D))} {p : Nat → Bool} {g : Nat → D} : ∀ {xs : List Nat} {ks : List Int} {vs : List D}, (∀ x ∈ xs, f (nI x) = M.pure (if p x = true then some (nI x, g x) else none)) → xs.Nodup → (∀ x ∈ xs, (x : Int) ∉ ks) →
    compD f (xs.map nI) ks vs = M.pure (ks ++ (xs.filter p).map (fun (a : Nat) => (a : Int)), vs ++ (xs.filter p).map g)
  | [], ks, vs, _, _, _ => by simp [compD]
  | x :: xs, ks, vs, h, nd, hk => by
    obtain ⟨n1, n2⟩ := List.nodup_cons.mp nd
    have h0 := h x List.mem_cons_self
    have hr := fun y hy => h y (List.mem_cons_of_mem x hy)
    show M.bind (f (nI x)) _ = _
    rw [h0, bind_pure, List.filter_cons]
    by_cases hp : p x = true
    · rw [if_pos hp, if_pos hp]
      show (if (x : Int) ∈ ks then M.bad else compD f (xs.map nI) (ks ++ [(x : Int)]) (vs ++ [g x])) = _
      rw [if_neg (hk x List.mem_cons_self), compD_filter hr n2 fun y hy => ?_]
      · simp
      · rw [List.mem_append, not_or]
        refine ⟨hk y (List.mem_cons_of_mem _ hy), ?_⟩
        intro z
        have : (y : Int) = (x : Int) := by simpa using z
        have : y = x := by omega
        exact n1 (this ▸ hy)
    · rw [if_neg hp, if_neg hp]
      show compD f (xs.map nI) ks vs = _
      exact compD_filter hr n2 fun y hy => hk y (List.mem_cons_of_mem _ hy)
theorem near_outside (n q : Nat) (T : List (Nat × Nat)) (U : List Nat) (hT : T.length * 2 ≤ LIM) (hq : q ≤ 1000) :
    run PT (n + 1) 25 [nI q, .tup (T.map pD), .tup (U.map nI)] = M.pure (nearD q T U) := by
  have hlim : 1000 ≤ LIM := by decide
  rw [run_s (fn := f25) rfl]
  simp only [f25, runF, exs, ex, ev, evT, evI, evs, evAnd, evOr, evAndT, evOrT, t3, s3, tr, bind_pure, bind_assoc, List.length_cons, List.length_nil, if_true, List.map_cons, List.map_nil, List.cons_append, List.nil_append, Nat.reduceAdd, Nat.reduceSub, List.replicate, getM_zero, getM_succ, items_tup, items_lst, List.set, ofO_some, compF, compF2, setT, setU, setAll, wipeE, truth_bl, nox_pure]
  rw [lim_ok (by simp; omega), bind_pure, compL_filter (c := pD) (p := fun p => !decide (p.1 ∈ U) && !decide (p.2 ∈ U)) (g := pD)]
  rotate_left
  · intro x hx
    simp only [pD, runF, exs, ex, ev, evT, evI, evs, evAnd, evOr, evAndT, evOrT, t3, s3, tr, bind_pure, bind_assoc, List.length_cons, List.length_nil, if_true, List.map_cons, List.map_nil, List.cons_append, List.nil_append, Nat.reduceAdd, Nat.reduceSub, List.replicate, getM_zero, getM_succ, items_tup, items_lst, List.set, ofO_some, compF, compF2, setT, setU, setAll, wipeE, truth_bl, nox_pure, recvNI, notIn_nT, tup2]
    cases decide (x.1 ∈ U) <;> cases decide (x.2 ∈ U) <;> rfl
  generalize hB : T.filter (fun p => !decide (p.1 ∈ U) && !decide (p.2 ∈ U)) = B
  have hBl : B.length ≤ T.length := by rw [← hB]; exact List.length_filter_le _ _
  simp only [runF, exs, ex, ev, evT, evI, evs, evAnd, evOr, evAndT, evOrT, t3, s3, tr, bind_pure, bind_assoc, List.length_cons, List.length_nil, if_true, List.map_cons, List.map_nil, List.cons_append, List.nil_append, Nat.reduceAdd, Nat.reduceSub, List.replicate, getM_zero, getM_succ, items_tup, items_lst, List.set, ofO_some, compF, compF2, setT, setU, setAll, wipeE, truth_bl, nox_pure, recvA]
  rw [lim_ok (by simp; omega), bind_pure, compL_map (c := pD) (g := fun p => pD (p.2, p.1))]
  rotate_left
  · intro x hx
    simp only [pD, runF, exs, ex, ev, evT, evI, evs, evAnd, evOr, evAndT, evOrT, t3, s3, tr, bind_pure, bind_assoc, List.length_cons, List.length_nil, if_true, List.map_cons, List.map_nil, List.cons_append, List.nil_append, Nat.reduceAdd, Nat.reduceSub, List.replicate, getM_zero, getM_succ, items_tup, items_lst, List.set, ofO_some, compF, compF2, setT, setU, setAll, wipeE, truth_bl, nox_pure, tup2]
  have hboth : B.map pD ++ B.map (fun p => pD (p.2, p.1)) = (bothL T U).map pD := by
    unfold bothL
    rw [hB, List.map_append, List.map_map]
    rfl
  rw [nox_pure, bind_pure, m2_addL (by simp; omega), bind_pure, hboth]
  have hbl : (bothL T U).length ≤ LIM := by unfold bothL; rw [hB]; simp; omega
  show M.bind (rangeM 0 (q : Int)) _ = _
  rw [rangeM_nat (by omega), bind_pure, lim_ok (by simp; omega), bind_pure, compD_filter (p := fun a => !decide (a ∈ U)) (g := fun a => .lst ((nearL T U a).map nI))]
  · rfl
  · intro x hx
    simp only [runF, exs, ex, ev, evT, evI, evs, evAnd, evOr, evAndT, evOrT, t3, s3, tr, bind_pure, bind_assoc, List.length_cons, List.length_nil, if_true, List.map_cons, List.map_nil, List.cons_append, List.nil_append, Nat.reduceAdd, Nat.reduceSub, List.replicate, getM_zero, getM_succ, items_tup, items_lst, List.set, ofO_some, compF, compF2, setT, setU, setAll, wipeE, truth_bl, nox_pure, recvNI, notIn_nT]
    cases hU : decide (x ∈ U) with
    | true => rfl
    | false =>
      simp only [Bool.not_false, if_true]
      rw [lim_ok (by simpa using hbl), bind_pure, compL_filter (c := pD) (p := fun p => decide (p.1 = x)) (g := fun p => nI p.2)]
      · simp only [runF, exs, ex, ev, evT, evI, evs, evAnd, evOr, evAndT, evOrT, t3, s3, tr, bind_pure, bind_assoc, List.length_cons, List.length_nil, if_true, List.map_cons, List.map_nil, List.cons_append, List.nil_append, Nat.reduceAdd, Nat.reduceSub, List.replicate, getM_zero, getM_succ, items_tup, items_lst, List.set, ofO_some, compF, compF2, setT, setU, setAll, wipeE, truth_bl, nox_pure]
        unfold nearL
        rw [List.map_map]
        rfl
      · intro p hp
        simp only [pD, runF, exs, ex, ev, evT, evI, evs, evAnd, evOr, evAndT, evOrT, t3, s3, tr, bind_pure, bind_assoc, List.length_cons, List.length_nil, if_true, List.map_cons, List.map_nil, List.cons_append, List.nil_append, Nat.reduceAdd, Nat.reduceSub, List.replicate, getM_zero, getM_succ, items_tup, items_lst, List.set, ofO_some, compF, compF2, setT, setU, setAll, wipeE, truth_bl, nox_pure, recvE, eq_nI]
        cases decide (p.1 = x) <;> rfl
  · exact List.nodup_range
  · intro x _ z
    cases z
/-! ### lumps -/
theorem ixD_near {q : Nat} {T : List (Nat × Nat)} {U : List Nat} {a : Nat} (h : a ∈ keysL q U) : doM2 .ixD (nearD q T U) (nI a) = M.pure (.lst ((nearL T U a).map nI)) := by
  have look : ∀ l : List Nat, a ∈ l → lookD (a : Int) (l.map fun (a : Nat) => (a : Int)) (l.map fun a => D.lst ((nearL T U a).map nI)) = some (.lst ((nearL T U a).map nI)) := by
    intro l
    induction l with
    | nil => intro h; cases h
    | cons b r ih =>
      intro h
      show (if (b : Int) = (a : Int) then _ else _) = _
      by_cases hb : b = a
      · subst hb; rw [if_pos rfl]
      · rw [if_neg (by omega)]
        exact ih ((List.mem_cons.mp h).resolve_left fun z => hb z.symm)
  funext m
  show ofO (lookD (a : Int) _ _) m = _
  rw [look _ h]
  rfl
theorem recvDx (d : D) : recvM .ixD d = M.pure ⟨⟩ := recv_ok rfl d
theorem lenD_near (q : Nat) (T : List (Nat × Nat)) (U : List Nat) : doM1 .lenD (nearD q T U) = M.pure (nI (keysL q U).length) := by
  funext m
  show ofO (some (D.int (((keysL q U).map fun (a : Nat) => (a : Int)).length : Nat))) m = _
  rw [List.length_map]
  rfl
theorem keys_near (q : Nat) (T : List (Nat × Nat)) (U : List Nat) : keysM (nearD q T U) = M.pure ((keysL q U).map nI) := by
  show M.pure (((keysL q U).map fun (a : Nat) => (a : Int)).map D.int) = _
  rw [List.map_map]
  rfl
/-- a list of places in order, each once -/
def insN (i : Nat) : List Nat → List Nat
  | [] => [i]
  | a :: r => if i ≤ a then i :: a :: r else a :: insN i r
def srtN : List Nat → List Nat
  | [] => []
  | a :: r => insN a (srtN r)
def ddN : List Nat → List Nat
  | [] => []
  | a :: r => if a ∈ r then ddN r else a :: ddN r
abbrev cI (a : Nat) : Int := (a : Int)
theorem insN_I (i : Nat) : ∀ l : List Nat, insertI (cI i) (l.map cI) = (insN i l).map cI
  | [] => rfl
  | a :: r => by
    show (if cI i ≤ cI a then _ else _) = (if i ≤ a then i :: a :: r else a :: insN i r).map cI
    by_cases h : i ≤ a
    · rw [if_pos (by unfold cI; omega), if_pos h]; rfl
    · rw [if_neg (by unfold cI; omega), if_neg h, insN_I i r]; rfl
theorem srtN_I : ∀ l : List Nat, sortI (l.map cI) = (srtN l).map cI
  | [] => rfl
  | a :: r => by show insertI (cI a) (sortI (r.map cI)) = _; rw [srtN_I r, insN_I]; rfl
theorem mem_cI {a : Nat} {l : List Nat} : cI a ∈ l.map cI ↔ a ∈ l := by
  simp only [List.mem_map]
  refine ⟨fun ⟨b, hb, e⟩ => ?_, fun h => ⟨a, h, rfl⟩⟩
  have : b = a := by unfold cI at e; omega
  exact this ▸ hb
theorem ddN_I : ∀ l : List Nat, dedup (l.map cI) = (ddN l).map cI
  | [] => rfl
  | a :: r => by
    show (if cI a ∈ r.map cI then dedup (r.map cI) else cI a :: dedup (r.map cI)) = (if a ∈ r then ddN r else a :: ddN r).map cI
    rw [ddN_I r]
    by_cases h : a ∈ r
    · rw [if_pos (mem_cI.mpr h), if_pos h]
    · rw [if_neg (fun z => h (mem_cI.mp z)), if_neg h]; rfl
theorem m1_sset {l : List Nat} (h : l.length < 64) : doM1 .sset (.lst (l.map nI)) = M.pure (.lst ((srtN (ddN l)).map nI)) := by
  have e : intsO (l.map nI) = some (l.map cI) := by
    have := intsO_map (l.map cI)
    rw [List.map_map] at this
    exact this
  funext m
  show ofO (match intsO (l.map nI) with
    | some ns => if ns.length < 64 then some (D.lst ((sortI (dedup ns)).map .int)) else none
    | none => none) m = _
  rw [e]
  show ofO (if (l.map cI).length < 64 then some (D.lst ((sortI (dedup (l.map cI))).map .int)) else none) m = _
  rw [if_pos (by simpa using h), ddN_I, srtN_I, List.map_map]
  rfl
theorem mem_insN {i k : Nat} : ∀ {l : List Nat}, k ∈ insN i l ↔ k = i ∨ k ∈ l
  | [] => by simp [insN]
  | a :: r => by
    unfold insN
    split
    · simp
    · simp only [List.mem_cons, mem_insN (l := r)]
      constructor
      · rintro (h | h | h)
        · exact .inr (.inl h)
        · exact .inl h
        · exact .inr (.inr h)
      · rintro (h | h | h)
        · exact .inr (.inl h)
        · exact .inl h
        · exact .inr (.inr h)
theorem mem_srtN {k : Nat} : ∀ {l : List Nat}, k ∈ srtN l ↔ k ∈ l
  | [] => Iff.rfl
  | a :: r => by unfold srtN; rw [mem_insN, mem_srtN (l := r), List.mem_cons]
theorem mem_ddN {k : Nat} : ∀ {l : List Nat}, k ∈ ddN l ↔ k ∈ l
  | [] => Iff.rfl
  | a :: r => by
    unfold ddN
    split
    · rename_i h
      rw [mem_ddN (l := r), List.mem_cons]
      exact ⟨.inr, fun z => z.elim (fun e => e ▸ h) id⟩
    · rw [List.mem_cons, List.mem_cons, mem_ddN (l := r)]
theorem nd_ddN : ∀ l : List Nat, (ddN l).Nodup
  | [] => List.nodup_nil
  | a :: r => by
    unfold ddN
    split
    · exact nd_ddN r
    · rename_i h
      exact List.nodup_cons.mpr ⟨fun z => h (mem_ddN.mp z), nd_ddN r⟩
theorem nd_insN {i : Nat} : ∀ {l : List Nat}, i ∉ l → l.Nodup → (insN i l).Nodup
  | [], _, _ => by simp [insN]
  | a :: r, h, nd => by
    obtain ⟨n1, n2⟩ := List.nodup_cons.mp nd
    unfold insN
    split
    · exact List.nodup_cons.mpr ⟨h, nd⟩
    · refine List.nodup_cons.mpr ⟨fun z => ?_, nd_insN (fun z => h (List.mem_cons_of_mem _ z)) n2⟩
      rcases mem_insN.mp z with e | e
      · exact h (e ▸ List.mem_cons_self)
      · exact n1 e
theorem nd_srtN : ∀ {l : List Nat}, l.Nodup → (srtN l).Nodup
  | [], _ => List.nodup_nil
  | a :: r, h => by
    obtain ⟨n1, n2⟩ := List.nodup_cons.mp h
    exact nd_insN (fun z => n1 (mem_srtN.mp z)) (nd_srtN n2)
/-! ### what a lump reaches -/
def stepL (T : List (Nat × Nat)) (U : List Nat) (found : List Nat) : List Nat := srtN (ddN (found ++ found.flatMap (nearL T U)))
def reachL (T : List (Nat × Nat)) (U : List Nat) : Nat → List Nat → List Nat
  | 0, l => l
  | k + 1, l => reachL T U k (stepL T U l)
theorem compA_map {f : D → M (Option D)} {g : Nat → D} : ∀ {l : List Nat} {acc : List D}, (∀ x ∈ l, f (nI x) = M.pure (some (g x))) → acc.length + l.length ≤ LIM → compA f (l.map nI) acc = M.pure (acc ++ l.map g)
  | [], acc, _, _ => by simp [compA]
  | x :: l, acc, h, hz => by
    show M.bind (f (nI x)) _ = _
    rw [h x List.mem_cons_self, bind_pure]
    simp only [List.length_cons] at hz
    show (if acc.length < LIM then compA f (l.map nI) (acc ++ [g x]) else M.bad) = _
    rw [if_pos (by omega), compA_map (fun y hy => h y (List.mem_cons_of_mem _ hy)) (by simp; omega)]
    simp
theorem compLL_flat {f : D → List D → M (List D)} {g : Nat → List D} (B : Nat) : ∀ {l : List Nat} {acc : List D}, (∀ x acc, x ∈ l → acc.length + (g x).length ≤ B → f (nI x) acc = M.pure (acc ++ g x)) → acc.length + (l.flatMap g).length ≤ B → compLL f (l.map nI) acc = M.pure (acc ++ l.flatMap g)
  | [], acc, _, _ => by simp [compLL]
  | x :: l, acc, h, hz => by
    rw [List.flatMap_cons, List.length_append] at hz
    show M.bind (f (nI x) acc) _ = _
    rw [h x acc List.mem_cons_self (by omega), bind_pure, compLL_flat B (fun y acc hy => h y acc (List.mem_cons_of_mem _ hy)) (by rw [List.length_append]; omega)]
    rw [List.flatMap_cons, List.append_assoc]
theorem near_len (T : List (Nat × Nat)) (U : List Nat) : ∀ {l : List Nat}, l.Nodup → (l.flatMap (nearL T U)).length ≤ (bothL T U).length := by
  have gen : ∀ (B : List (Nat × Nat)) (l : List Nat), l.Nodup → (l.flatMap fun a => (B.filter fun p => decide (p.1 = a)).map (·.2)).length ≤ B.length := by
    intro B
    induction B with
    | nil =>
      intro l _
      have : ∀ l : List Nat, (l.flatMap fun a => (([] : List (Nat × Nat)).filter fun p => decide (p.1 = a)).map (·.2)) = [] := by
        intro l
        induction l with
        | nil => rfl
        | cons a r ih => rw [List.flatMap_cons, ih]; rfl
      rw [this l]
      exact Nat.zero_le _
    | cons p B ih =>
      intro l nd
      have e : ∀ l : List Nat, l.Nodup → (l.flatMap fun a => ((p :: B).filter fun p => decide (p.1 = a)).map (·.2)).length = (l.flatMap fun a => (B.filter fun p => decide (p.1 = a)).map (·.2)).length + (if p.1 ∈ l then 1 else 0) := by
        intro l
        induction l with
        | nil => intro _; rfl
        | cons a r ih2 =>
          intro nd
          obtain ⟨n1, n2⟩ := List.nodup_cons.mp nd
          rw [List.flatMap_cons, List.flatMap_cons, List.length_append, List.length_append, ih2 n2, List.filter_cons]
          by_cases h : p.1 = a
          · have : p.1 ∉ r := fun z => n1 (h ▸ z)
            simp [h, n1]
            omega
          · have h2 : ¬ (p.1 = a) := h
            simp [h, List.mem_cons]
            omega
      rw [e l nd]
      have := ih l nd
      rw [List.length_cons]
      split <;> omega
  exact fun {l} nd => gen (bothL T U) l nd
theorem stepL_nd {T : List (Nat × Nat)} {U found : List Nat} : (stepL T U found).Nodup := nd_srtN (nd_ddN _)
theorem stepL_mem {T : List (Nat × Nat)} {U found : List Nat} {k : Nat} : k ∈ stepL T U found ↔ k ∈ found ∨ ∃ a ∈ found, k ∈ nearL T U a := by
  unfold stepL
  rw [mem_srtN, mem_ddN, List.mem_append, List.mem_flatMap]
theorem near_mem {T : List (Nat × Nat)} {U : List Nat} {a k : Nat} : k ∈ nearL T U a ↔ a ∉ U ∧ k ∉ U ∧ ((a, k) ∈ T ∨ (k, a) ∈ T) := by
  unfold nearL bothL
  simp only [List.mem_map, List.mem_filter, List.mem_append, Bool.and_eq_true, Bool.not_eq_true', decide_eq_false_iff_not, decide_eq_true_eq]
  constructor
  · rintro ⟨p, ⟨h, rfl⟩, rfl⟩
    rcases h with ⟨h1, h2, h3⟩ | ⟨r, ⟨h1, h2, h3⟩, rfl⟩
    · exact ⟨h2, h3, .inl h1⟩
    · exact ⟨h3, h2, .inr h1⟩
  · rintro ⟨h1, h2, h | h⟩
    · exact ⟨(a, k), ⟨.inl ⟨h, h1, h2⟩, rfl⟩, rfl⟩
    · exact ⟨(a, k), ⟨.inr ⟨(k, a), ⟨h, h2, h1⟩, rfl⟩, rfl⟩, rfl⟩
theorem near_keys {q : Nat} {T : List (Nat × Nat)} {U : List Nat} (hq : ∀ p ∈ T, p.1 < q ∧ p.2 < q) {a k : Nat} (h : k ∈ nearL T U a) : k ∈ keysL q U := by
  obtain ⟨h1, h2, h3⟩ := near_mem.mp h
  unfold keysL
  simp only [List.mem_filter, List.mem_range, Bool.not_eq_true', decide_eq_false_iff_not]
  refine ⟨?_, h2⟩
  rcases h3 with h3 | h3
  · exact (hq _ h3).2
  · exact (hq _ h3).1
theorem nodup_le : ∀ {q : Nat} {l : List Nat}, l.Nodup → (∀ k ∈ l, k < q) → l.length ≤ q
  | 0, [], _, _ => Nat.le_refl _
  | 0, a :: r, _, h => absurd (h a List.mem_cons_self) (Nat.not_lt_zero _)
  | q + 1, l, nd, h => by
    by_cases hq : q ∈ l
    · have e := List.length_erase_of_mem hq
      have := nodup_le (q := q) (l := l.erase q) (nd.erase q) fun k hk => by
        have h1 := h k (List.mem_of_mem_erase hk)
        have h2 : k ≠ q := fun z => by
          subst z
          exact (nd.mem_erase_iff.mp hk).1 rfl
        omega
      omega
    · have := nodup_le (q := q) (l := l) nd fun k hk => by
        have h1 := h k hk
        have h2 : k ≠ q := fun z => hq (z ▸ hk)
        omega
      omega
theorem setN : ∀ (a b c d e f : Option D) (v : Option D), [a, b, c, d, e, f].set 2 v = [a, b, v, d, e, f] := fun _ _ _ _ _ _ _ => rfl
/-- one round -/
theorem lump_turn {n q : Nat} {T : List (Nat × Nat)} {U : List Nat} {found : List Nat} (hq : ∀ p ∈ T, p.1 < q ∧ p.2 < q) (hs : q + 2 * T.length < 64) (nd : found.Nodup) (hk : ∀ k ∈ found, k ∈ keysL q U) (st : D) (t w x : Option D) :
    evT (run PT n) (.bl true) [] = M.pure true ∧
    ev (run PT n) (.o1 .sset (.o2 .add (.var 2) (.comp2 [4, 5] [4] (.var 2) [5] [5] (.o2 .ixD (.var 0) (.var 4)) (.bl true) (.var 5)))) [some (nearD q T U), some st, some (.lst (found.map nI)), t, w, x] = M.pure (.lst ((stepL T U found).map nI)) := by
  refine ⟨rfl, ?_⟩
  have hfl : found.length ≤ q := nodup_le nd fun k h => by
    have := hk k h
    unfold keysL at this
    simp only [List.mem_filter, List.mem_range] at this
    exact this.1
  have hnl := near_len T U nd
  have hbl : (bothL T U).length ≤ 2 * T.length := by
    unfold bothL
    have := List.length_filter_le (fun p : Nat × Nat => !decide (p.1 ∈ U) && !decide (p.2 ∈ U)) T
    simp
    omega
  have hlim : (64 : Nat) ≤ LIM := by decide
  simp only [runF, exs, ex, ev, evT, evI, evs, evAnd, evOr, evAndT, evOrT, t3, s3, tr, bind_pure, bind_assoc, List.length_cons, List.length_nil, if_true, List.map_cons, List.map_nil, List.cons_append, List.nil_append, Nat.reduceAdd, Nat.reduceSub, List.replicate, getM_zero, getM_succ, items_tup, items_lst, List.set, ofO_some, compF, compF2, setT, setU, setAll, wipeE, truth_bl, nox_pure, recvA]
  rw [compLL_flat 64 (g := fun a => (nearL T U a).map nI)]
  · simp only [runF, exs, ex, ev, evT, evI, evs, evAnd, evOr, evAndT, evOrT, t3, s3, tr, bind_pure, bind_assoc, List.length_cons, List.length_nil, if_true, List.map_cons, List.map_nil, List.cons_append, List.nil_append, Nat.reduceAdd, Nat.reduceSub, List.replicate, getM_zero, getM_succ, items_tup, items_lst, List.set, ofO_some, compF, compF2, setT, setU, setAll, wipeE, truth_bl, nox_pure]
    have e : (found.flatMap fun a => (nearL T U a).map nI) = (found.flatMap (nearL T U)).map nI := by rw [List.map_flatMap]
    rw [e, m2_addL (by rw [List.length_append, List.length_map, List.length_map]; omega), bind_pure, ← List.map_append, m1_sset (by rw [List.length_append]; omega)]
    rfl
  · intro a acc ha hz
    simp only [runF, exs, ex, ev, evT, evI, evs, evAnd, evOr, evAndT, evOrT, t3, s3, tr, bind_pure, bind_assoc, List.length_cons, List.length_nil, if_true, List.map_cons, List.map_nil, List.cons_append, List.nil_append, Nat.reduceAdd, Nat.reduceSub, List.replicate, getM_zero, getM_succ, items_tup, items_lst, List.set, ofO_some, compF, compF2, setT, setU, setAll, wipeE, truth_bl, nox_pure, recvDx, ixD_near (hk a ha)]
    rw [compA_map (g := nI)]
    · intro y hy
      simp only [runF, exs, ex, ev, evT, evI, evs, evAnd, evOr, evAndT, evOrT, t3, s3, tr, bind_pure, bind_assoc, List.length_cons, List.length_nil, if_true, List.map_cons, List.map_nil, List.cons_append, List.nil_append, Nat.reduceAdd, Nat.reduceSub, List.replicate, getM_zero, getM_succ, items_tup, items_lst, List.set, ofO_some, compF, compF2, setT, setU, setAll, wipeE, truth_bl, nox_pure]
    · simp at hz ⊢
      omega
  · have e : (found.flatMap fun a => (nearL T U a).map nI) = (found.flatMap (nearL T U)).map nI := by rw [List.map_flatMap]
    rw [e]
    simp only [List.length_nil, List.length_map]
    omega
theorem reach_keys {q : Nat} {T : List (Nat × Nat)} {U : List Nat} (hq : ∀ p ∈ T, p.1 < q ∧ p.2 < q) {found : List Nat} (hk : ∀ k ∈ found, k ∈ keysL q U) : ∀ k ∈ stepL T U found, k ∈ keysL q U := fun k h => by
  rcases stepL_mem.mp h with h | ⟨a, _, h⟩
  · exact hk k h
  · exact near_keys hq h
theorem lump_loop {n q : Nat} {T : List (Nat × Nat)} {U : List Nat} (hq : ∀ p ∈ T, p.1 < q ∧ p.2 < q) (hs : q + 2 * T.length < 64) (st : D) {f : D → QL.Env → M Flw}
    (hf : ∀ x ρ, f x ρ = M.bind (ofO (setT [3] x ρ)) fun ρ1 => exs (run PT n) (.cons (.set 2 (.o1 .sset (.o2 .add (.var 2) (.comp2 [4, 5] [4] (.var 2) [5] [5] (.o2 .ixD (.var 0) (.var 4)) (.bl true) (.var 5))))) .nil) ρ1) :
    ∀ (l : List Nat) (found : List Nat) (t : Option D), found.Nodup → (∀ k ∈ found, k ∈ keysL q U) → ∃ t', forL f (l.map nI) [some (nearD q T U), some st, some (.lst (found.map nI)), t, none, none] = M.pure (.nx [some (nearD q T U), some st, some (.lst ((reachL T U l.length found).map nI)), t', none, none])
  | [], found, t, _, _ => ⟨t, rfl⟩
  | x :: l, found, t, nd, hk => by
    obtain ⟨t', h⟩ := lump_loop hq hs st hf l (stepL T U found) (some (nI x)) stepL_nd (reach_keys hq hk)
    refine ⟨t', ?_⟩
    have h1 := (lump_turn (n := n) hq hs nd hk st (some (nI x)) none none).2
    show M.bind (f (nI x) _) _ = _
    rw [hf]
    have h2 : exs (run PT n) (.cons (.set 2 (.o1 .sset (.o2 .add (.var 2) (.comp2 [4, 5] [4] (.var 2) [5] [5] (.o2 .ixD (.var 0) (.var 4)) (.bl true) (.var 5))))) .nil) [some (nearD q T U), some st, some (.lst (found.map nI)), some (nI x), none, none] =
        M.pure (.nx [some (nearD q T U), some st, some (.lst ((stepL T U found).map nI)), some (nI x), none, none]) := by
      show M.bind (M.bind (ev (run PT n) _ _) _) _ = _
      rw [h1]
      rfl
    show M.bind (exs (run PT n) _ [some (nearD q T U), some st, some (.lst (found.map nI)), some (nI x), none, none]) _ = _
    rw [h2, bind_pure]
    exact h
theorem lump_around (n q : Nat) (T : List (Nat × Nat)) (U : List Nat) (a : Nat) (hq : ∀ p ∈ T, p.1 < q ∧ p.2 < q) (hs : q + 2 * T.length < 64) (ha : a ∈ keysL q U) :
    run PT (n + 1) 26 [nearD q T U, nI a] = M.pure (.tup ((reachL T U (keysL q U).length [a]).map nI)) := by
  have hlim : (64 : Nat) ≤ LIM := by decide
  have hkl : (keysL q U).length ≤ q := by unfold keysL; have := List.length_filter_le (fun a => !decide (a ∈ U)) (List.range q); simpa using this
  rw [run_s (fn := f26) rfl]
  obtain ⟨t', h⟩ := lump_loop (n := n) (U := U) hq hs (nI a) (f := fun x ρ => M.bind (ofO (setT [3] x ρ)) fun ρ1 => exs (run PT n) (.cons (.set 2 (.o1 .sset (.o2 .add (.var 2) (.comp2 [4, 5] [4] (.var 2) [5] [5] (.o2 .ixD (.var 0) (.var 4)) (.bl true) (.var 5))))) .nil) ρ1) (fun _ _ => rfl) (List.range (keysL q U).length) [a] none (by simp) (fun k hk => by
    have : k = a := by simpa using hk
    exact this ▸ ha)
  have hI : evI (run PT n) (.o1 .range (.o1 .lenD (.var 0))) [some (nearD q T U), some (nI a), some (.lst ([a].map nI)), none, none, none] = M.pure ((List.range (keysL q U).length).map nI) := by
    simp only [runF, exs, ex, ev, evT, evI, evs, evAnd, evOr, evAndT, evOrT, t3, s3, tr, bind_pure, bind_assoc, List.length_cons, List.length_nil, if_true, List.map_cons, List.map_nil, List.cons_append, List.nil_append, Nat.reduceAdd, Nat.reduceSub, List.replicate, getM_zero, getM_succ, items_tup, items_lst, List.set, ofO_some, compF, compF2, setT, setU, setAll, wipeE, truth_bl, nox_pure, lenD_near]
    exact rangeM_nat (by omega)
  have hfor : ex (run PT n) (.for_ [3] (.o1 .range (.o1 .lenD (.var 0))) (.cons (.set 2 (.o1 .sset (.o2 .add (.var 2) (.comp2 [4, 5] [4] (.var 2) [5] [5] (.o2 .ixD (.var 0) (.var 4)) (.bl true) (.var 5))))) .nil)) [some (nearD q T U), some (nI a), some (.lst ([a].map nI)), none, none, none] =
      M.pure (.nx [some (nearD q T U), some (nI a), some (.lst ((reachL T U (keysL q U).length [a]).map nI)), t', none, none]) := by
    show M.bind (evI (run PT n) _ _) _ = _
    rw [hI, bind_pure]
    rw [List.length_range] at h
    exact h
  have hb : exs (run PT n) f26.body [some (nearD q T U), some (nI a), none, none, none, none] = M.pure (.rt (.tup ((reachL T U (keysL q U).length [a]).map nI))) := by
    show M.bind (ex (run PT n) (.set 2 (.lst (.cons (.var 1) .nil))) _) _ = _
    rw [show ex (run PT n) (.set 2 (.lst (.cons (.var 1) .nil))) [some (nearD q T U), some (nI a), none, none, none, none] = M.pure (.nx [some (nearD q T U), some (nI a), some (.lst ([a].map nI)), none, none, none]) from rfl, bind_pure]
    show M.bind (ex (run PT n) (.for_ _ _ _) _) _ = _
    rw [hfor, bind_pure]
    rfl
  show M.bind (exs (run PT n) f26.body _) _ = _
  exact (congrArg (fun z => M.bind z _) hb).trans rfl
/-! ### a set's cut -/
def tD (L : List Nat) : D := .tup (L.map nI)
def loneL (q : Nat) (T : List (Nat × Nat)) (U : List Nat) : List Nat := (keysL q U).filter fun a => (nearL T U a).isEmpty
def lumpStep (q : Nat) (T : List (Nat × Nat)) (U : List Nat) (ls : List (List Nat)) (a : Nat) : List (List Nat) :=
  if (!decide (a ∈ loneL q T U) && !(ls.any fun L => decide (a ∈ L))) = true then ls ++ [reachL T U (keysL q U).length [a]] else ls
def lumpsL (q : Nat) (T : List (Nat × Nat)) (U : List Nat) : List (List Nat) := (keysL q U).foldl (lumpStep q T U) []
theorem any_in (a : Nat) (ls : List (List Nat)) : doM1 .any (.lst (ls.map fun L => D.bl (decide (a ∈ L)))) = M.pure (.bl (ls.any fun L => decide (a ∈ L))) := by
  have := m1_any (ls.map fun L => decide (a ∈ L))
  rw [List.map_map] at this
  rw [show (ls.map fun L => D.bl (decide (a ∈ L))) = ls.map (D.bl ∘ fun L => decide (a ∈ L)) from rfl, this]
  congr 2
  rw [List.any_map]
  rfl
theorem eq_nil (l : List Nat) : doM2 .eq (.lst (l.map nI)) (.lst []) = M.pure (.bl l.isEmpty) := by
  rw [m2_eq (a := .lst (l.map nI)) (b := .lst []) (nbs_nI l) rfl (by show dpts (l.map nI) + 1 ≤ 64; rw [dpts_nI]; omega) (by decide)]
  cases l with
  | nil => simp
  | cons a r => simp
theorem lumps_loop {n q : Nat} {T : List (Nat × Nat)} {U : List Nat} (hq : ∀ p ∈ T, p.1 < q ∧ p.2 < q) (hs : q + 2 * T.length < 64) (d0 d1 d2 : D) {f : D → QL.Env → M Flw}
    (hf : ∀ x ρ, f x ρ = M.bind (ofO (setT [5] x ρ)) fun ρ1 => exs (run PT (n + 1)) (.cons (.ite (.and (.cons (.o2 .notIn (.var 5) (.var 4)) (.cons (.not (.o1 .any (.comp [7] [7] (.var 6) (.bl true) (.o2 .isIn (.var 5) (.var 7))))) .nil))) (.cons (.set 6 (.o2 .add (.var 6) (.lst (.cons (.call 26 (.cons (.var 3) (.cons (.var 5) .nil))) .nil)))) .nil) .nil) .nil) ρ1) :
    ∀ (l : List Nat) (ls : List (List Nat)) (t : Option D), (∀ a ∈ l, a ∈ keysL q U) → ls.length + l.length ≤ 1000 → ∃ t', forL f (l.map nI) [some d0, some d1, some d2, some (nearD q T U), some (.tup ((loneL q T U).map nI)), t, some (.lst (ls.map tD)), none] =
      M.pure (.nx [some d0, some d1, some d2, some (nearD q T U), some (.tup ((loneL q T U).map nI)), t', some (.lst ((l.foldl (lumpStep q T U) ls).map tD)), none])
  | [], ls, t, _, _ => ⟨t, rfl⟩
  | a :: l, ls, t, hk, hz => by
    have hlim : (1000 : Nat) ≤ LIM := by decide
    simp only [List.length_cons] at hz
    have hstep : (lumpStep q T U ls a).length + l.length ≤ 1000 := by
      unfold lumpStep
      split
      · simp; omega
      · omega
    obtain ⟨t', h⟩ := lumps_loop hq hs d0 d1 d2 hf l (lumpStep q T U ls a) (some (nI a)) (fun b hb => hk b (List.mem_cons_of_mem _ hb)) hstep
    refine ⟨t', ?_⟩
    have hlu := lump_around n q T U a hq hs (hk a List.mem_cons_self)
    show M.bind (f (nI a) _) _ = _
    rw [hf]
    have h2 : exs (run PT (n + 1)) (.cons (.ite (.and (.cons (.o2 .notIn (.var 5) (.var 4)) (.cons (.not (.o1 .any (.comp [7] [7] (.var 6) (.bl true) (.o2 .isIn (.var 5) (.var 7))))) .nil))) (.cons (.set 6 (.o2 .add (.var 6) (.lst (.cons (.call 26 (.cons (.var 3) (.cons (.var 5) .nil))) .nil)))) .nil) .nil) .nil)
        [some d0, some d1, some d2, some (nearD q T U), some (.tup ((loneL q T U).map nI)), some (nI a), some (.lst (ls.map tD)), none] =
        M.pure (.nx [some d0, some d1, some d2, some (nearD q T U), some (.tup ((loneL q T U).map nI)), some (nI a), some (.lst ((lumpStep q T U ls a).map tD)), none]) := by
      simp only [runF, exs, ex, ev, evT, evI, evs, evAnd, evOr, evAndT, evOrT, t3, s3, tr, bind_pure, bind_assoc, List.length_cons, List.length_nil, if_true, List.map_cons, List.map_nil, List.cons_append, List.nil_append, Nat.reduceAdd, Nat.reduceSub, List.replicate, getM_zero, getM_succ, items_tup, items_lst, List.set, ofO_some, compF, compF2, setT, setU, setAll, wipeE, truth_bl, nox_pure, recvNI, notIn_nT]
      unfold lumpStep
      cases hl : decide (a ∈ loneL q T U) with
      | true => rfl
      | false =>
        simp only [Bool.not_false, if_true, runF, exs, ex, ev, evT, evI, evs, evAnd, evOr, evAndT, evOrT, t3, s3, tr, bind_pure, bind_assoc, List.length_cons, List.length_nil, if_true, List.map_cons, List.map_nil, List.cons_append, List.nil_append, Nat.reduceAdd, Nat.reduceSub, List.replicate, getM_zero, getM_succ, items_tup, items_lst, List.set, ofO_some, compF, compF2, setT, setU, setAll, wipeE, truth_bl, nox_pure]
        rw [lim_ok (by simp; omega), bind_pure, compL_map (c := tD) (g := fun L => D.bl (decide (a ∈ L)))]
        · simp only [runF, exs, ex, ev, evT, evI, evs, evAnd, evOr, evAndT, evOrT, t3, s3, tr, bind_pure, bind_assoc, List.length_cons, List.length_nil, if_true, List.map_cons, List.map_nil, List.cons_append, List.nil_append, Nat.reduceAdd, Nat.reduceSub, List.replicate, getM_zero, getM_succ, items_tup, items_lst, List.set, ofO_some, compF, compF2, setT, setU, setAll, wipeE, truth_bl, nox_pure, any_in]
          cases hany : (ls.any fun L => decide (a ∈ L)) with
          | true => rfl
          | false =>
            simp only [Bool.not_false, if_true, runF, exs, ex, ev, evT, evI, evs, evAnd, evOr, evAndT, evOrT, t3, s3, tr, bind_pure, bind_assoc, List.length_cons, List.length_nil, if_true, List.map_cons, List.map_nil, List.cons_append, List.nil_append, Nat.reduceAdd, Nat.reduceSub, List.replicate, getM_zero, getM_succ, items_tup, items_lst, List.set, ofO_some, compF, compF2, setT, setU, setAll, wipeE, truth_bl, nox_pure, recvA, hlu]
            rw [lstO_ok (by simp [LIM]), ofO_some, bind_pure, m2_addL (by simp; omega), bind_pure]
            simp [tD]
        · intro L hL
          simp only [tD, runF, exs, ex, ev, evT, evI, evs, evAnd, evOr, evAndT, evOrT, t3, s3, tr, bind_pure, bind_assoc, List.length_cons, List.length_nil, if_true, List.map_cons, List.map_nil, List.cons_append, List.nil_append, Nat.reduceAdd, Nat.reduceSub, List.replicate, getM_zero, getM_succ, items_tup, items_lst, List.set, ofO_some, compF, compF2, setT, setU, setAll, wipeE, truth_bl, nox_pure, recvI, in_nT]
    show M.bind (exs (run PT (n + 1)) _ [some d0, some d1, some d2, some (nearD q T U), some (.tup ((loneL q T U).map nI)), some (nI a), some (.lst (ls.map tD)), none]) _ = _
    rw [h2, bind_pure]
    exact h
def cutD (q : Nat) (T : List (Nat × Nat)) (U : List Nat) : D := .tup [tD U, tD (loneL q T U), .tup ((lumpsL q T U).map tD)]
theorem keysL_len (q : Nat) (U : List Nat) : (keysL q U).length ≤ q := by
  unfold keysL
  have := List.length_filter_le (fun a => !decide (a ∈ U)) (List.range q)
  simpa using this
theorem cut_of (n q : Nat) (T : List (Nat × Nat)) (U : List Nat) (hq : ∀ p ∈ T, p.1 < q ∧ p.2 < q) (hs : q + 2 * T.length < 64) : run PT (n + 2) 24 [nI q, .tup (T.map pD), tD U] = M.pure (cutD q T U) := by
  have hlim : (1000 : Nat) ≤ LIM := by decide
  have hkl := keysL_len q U
  have hn := near_outside n q T U (by omega) (by omega)
  obtain ⟨t', h⟩ := lumps_loop (n := n) (U := U) hq hs (nI q) (.tup (T.map pD)) (tD U) (f := fun x ρ => M.bind (ofO (setT [5] x ρ)) fun ρ1 => exs (run PT (n + 1)) (.cons (.ite (.and (.cons (.o2 .notIn (.var 5) (.var 4)) (.cons (.not (.o1 .any (.comp [7] [7] (.var 6) (.bl true) (.o2 .isIn (.var 5) (.var 7))))) .nil))) (.cons (.set 6 (.o2 .add (.var 6) (.lst (.cons (.call 26 (.cons (.var 3) (.cons (.var 5) .nil))) .nil)))) .nil) .nil) .nil) ρ1)
    (fun _ _ => rfl) (keysL q U) [] none (fun _ h => h) (by simp; omega)
  rw [run_s (fn := f24) rfl]
  have e1 : ex (run PT (n + 1)) (.set 3 (.call 25 (.cons (.var 0) (.cons (.var 1) (.cons (.var 2) .nil))))) [some (nI q), some (.tup (T.map pD)), some (tD U), none, none, none, none, none] = M.pure (.nx [some (nI q), some (.tup (T.map pD)), some (tD U), some (nearD q T U), none, none, none, none]) := by
    simp only [runF, exs, ex, ev, evT, evI, evs, evAnd, evOr, evAndT, evOrT, t3, s3, tr, bind_pure, bind_assoc, List.length_cons, List.length_nil, if_true, List.map_cons, List.map_nil, List.cons_append, List.nil_append, Nat.reduceAdd, Nat.reduceSub, List.replicate, getM_zero, getM_succ, items_tup, items_lst, List.set, ofO_some, compF, compF2, setT, setU, setAll, wipeE, truth_bl, nox_pure]
    rw [show run PT (n + 1) 25 [nI q, D.tup (List.map pD T), tD U] = _ from hn]
    rfl
  have e2 : ex (run PT (n + 1)) (.set 4 (.o1 .tuple (.comp [5] [5] (.o1 .keys (.var 3)) (.o2 .eq (.o2 .ixD (.var 3) (.var 5)) (.lst .nil)) (.var 5)))) [some (nI q), some (.tup (T.map pD)), some (tD U), some (nearD q T U), none, none, none, none] = M.pure (.nx [some (nI q), some (.tup (T.map pD)), some (tD U), some (nearD q T U), some (.tup ((loneL q T U).map nI)), none, none, none]) := by
    simp only [runF, exs, ex, ev, evT, evI, evs, evAnd, evOr, evAndT, evOrT, t3, s3, tr, bind_pure, bind_assoc, List.length_cons, List.length_nil, if_true, List.map_cons, List.map_nil, List.cons_append, List.nil_append, Nat.reduceAdd, Nat.reduceSub, List.replicate, getM_zero, getM_succ, items_tup, items_lst, List.set, ofO_some, compF, compF2, setT, setU, setAll, wipeE, truth_bl, nox_pure, keys_near]
    rw [lim_ok (by simp; omega), bind_pure, compL_filter (c := nI) (p := fun a => (nearL T U a).isEmpty) (g := nI)]
    · simp only [runF, exs, ex, ev, evT, evI, evs, evAnd, evOr, evAndT, evOrT, t3, s3, tr, bind_pure, bind_assoc, List.length_cons, List.length_nil, if_true, List.map_cons, List.map_nil, List.cons_append, List.nil_append, Nat.reduceAdd, Nat.reduceSub, List.replicate, getM_zero, getM_succ, items_tup, items_lst, List.set, ofO_some, compF, compF2, setT, setU, setAll, wipeE, truth_bl, nox_pure, m1_tuple]
      rfl
    · intro a ha
      simp only [runF, exs, ex, ev, evT, evI, evs, evAnd, evOr, evAndT, evOrT, t3, s3, tr, bind_pure, bind_assoc, List.length_cons, List.length_nil, if_true, List.map_cons, List.map_nil, List.cons_append, List.nil_append, Nat.reduceAdd, Nat.reduceSub, List.replicate, getM_zero, getM_succ, items_tup, items_lst, List.set, ofO_some, compF, compF2, setT, setU, setAll, wipeE, truth_bl, nox_pure, recvE, recvDx, ixD_near ha]
      rw [lstO_ok (by simp), ofO_some, bind_pure, eq_nil]
      simp only [runF, exs, ex, ev, evT, evI, evs, evAnd, evOr, evAndT, evOrT, t3, s3, tr, bind_pure, bind_assoc, List.length_cons, List.length_nil, if_true, List.map_cons, List.map_nil, List.cons_append, List.nil_append, Nat.reduceAdd, Nat.reduceSub, List.replicate, getM_zero, getM_succ, items_tup, items_lst, List.set, ofO_some, compF, compF2, setT, setU, setAll, wipeE, truth_bl, nox_pure]
      cases (nearL T U a).isEmpty <;> rfl
  have e3 : ex (run PT (n + 1)) (.set 6 (.lst .nil)) [some (nI q), some (.tup (T.map pD)), some (tD U), some (nearD q T U), some (.tup ((loneL q T U).map nI)), none, none, none] = M.pure (.nx [some (nI q), some (.tup (T.map pD)), some (tD U), some (nearD q T U), some (.tup ((loneL q T U).map nI)), none, some (.lst (([] : List (List Nat)).map tD)), none]) := by
    simp only [runF, exs, ex, ev, evT, evI, evs, evAnd, evOr, evAndT, evOrT, t3, s3, tr, bind_pure, bind_assoc, List.length_cons, List.length_nil, if_true, List.map_cons, List.map_nil, List.cons_append, List.nil_append, Nat.reduceAdd, Nat.reduceSub, List.replicate, getM_zero, getM_succ, items_tup, items_lst, List.set, ofO_some, compF, compF2, setT, setU, setAll, wipeE, truth_bl, nox_pure]
    rw [lstO_ok (by simp), ofO_some, bind_pure]
  have e4 : ex (run PT (n + 1)) (.forK [5] 3 (.cons (.ite (.and (.cons (.o2 .notIn (.var 5) (.var 4)) (.cons (.not (.o1 .any (.comp [7] [7] (.var 6) (.bl true) (.o2 .isIn (.var 5) (.var 7))))) .nil))) (.cons (.set 6 (.o2 .add (.var 6) (.lst (.cons (.call 26 (.cons (.var 3) (.cons (.var 5) .nil))) .nil)))) .nil) .nil) .nil))
      [some (nI q), some (.tup (T.map pD)), some (tD U), some (nearD q T U), some (.tup ((loneL q T U).map nI)), none, some (.lst (([] : List (List Nat)).map tD)), none] =
      M.pure (.nx [some (nI q), some (.tup (T.map pD)), some (tD U), some (nearD q T U), some (.tup ((loneL q T U).map nI)), t', some (.lst ((lumpsL q T U).map tD)), none]) := by
    show nox (M.bind (M.bind (M.pure (nearD q T U)) keysM) _) = _
    rw [bind_pure, keys_near, bind_pure]
    exact (congrArg nox h).trans rfl
  have e5 : ex (run PT (n + 1)) (.ret (.tup (.cons (.var 2) (.cons (.var 4) (.cons (.o1 .tuple (.var 6)) .nil))))) [some (nI q), some (.tup (T.map pD)), some (tD U), some (nearD q T U), some (.tup ((loneL q T U).map nI)), t', some (.lst ((lumpsL q T U).map tD)), none] = M.pure (.rt (cutD q T U)) := by
    simp only [runF, exs, ex, ev, evT, evI, evs, evAnd, evOr, evAndT, evOrT, t3, s3, tr, bind_pure, bind_assoc, List.length_cons, List.length_nil, if_true, List.map_cons, List.map_nil, List.cons_append, List.nil_append, Nat.reduceAdd, Nat.reduceSub, List.replicate, getM_zero, getM_succ, items_tup, items_lst, List.set, ofO_some, compF, compF2, setT, setU, setAll, wipeE, truth_bl, nox_pure, m1_tuple]
    rfl
  have hb : exs (run PT (n + 1)) f24.body [some (nI q), some (.tup (T.map pD)), some (tD U), none, none, none, none, none] = M.pure (.rt (cutD q T U)) := by
    show M.bind (ex (run PT (n + 1)) _ _) _ = _
    rw [e1, bind_pure]
    show M.bind (ex (run PT (n + 1)) _ _) _ = _
    rw [e2, bind_pure]
    show M.bind (ex (run PT (n + 1)) _ _) _ = _
    rw [e3, bind_pure]
    show M.bind (ex (run PT (n + 1)) _ _) _ = _
    rw [e4, bind_pure]
    show M.bind (ex (run PT (n + 1)) _ _) _ = _
    rw [e5, bind_pure]
  show M.bind (exs (run PT (n + 1)) f24.body _) _ = _
  exact (congrArg (fun z => M.bind z _) hb).trans rfl
end QV
end
section
set_option linter.all false
set_option maxRecDepth 100000
set_option autoImplicit false
/-! QE: the program's cut of a set of kinds is one in the sense of QM. -/
namespace QV
open PySem QL QP
/-- a walk of ties outside U, of any length -/
inductive Con (T : List (Nat × Nat)) (U : List Nat) : Nat → Nat → Prop
  | nil (a : Nat) : Con T U a a
  | cons {a b c : Nat} : b ∈ nearL T U a → Con T U b c → Con T U a c
theorem Con.snoc {T : List (Nat × Nat)} {U : List Nat} {a b c : Nat} (h : Con T U a b) (hc : c ∈ nearL T U b) : Con T U a c := by
  induction h with
  | nil a => exact .cons hc (.nil _)
  | cons h1 _ ih => exact .cons h1 (ih hc)
theorem Con.trans {T : List (Nat × Nat)} {U : List Nat} {a b c : Nat} (h : Con T U a b) (h2 : Con T U b c) : Con T U a c := by
  induction h with
  | nil a => exact h2
  | cons h1 _ ih => exact .cons h1 (ih h2)
theorem near_symm {T : List (Nat × Nat)} {U : List Nat} {a b : Nat} (h : b ∈ nearL T U a) : a ∈ nearL T U b := by
  obtain ⟨h1, h2, h3⟩ := near_mem.mp h
  exact near_mem.mpr ⟨h2, h1, h3.symm⟩
theorem Con.symm {T : List (Nat × Nat)} {U : List Nat} {a b : Nat} (h : Con T U a b) : Con T U b a := by
  induction h with
  | nil a => exact .nil a
  | cons h1 _ ih => exact ih.snoc (near_symm h1)
/-- what is reached lies in the lump -/
theorem reach_con {T : List (Nat × Nat)} {U : List Nat} {a : Nat} : ∀ (k : Nat) (l : List Nat), (∀ b ∈ l, Con T U a b) → ∀ b ∈ reachL T U k l, Con T U a b
  | 0, l, h, b, hb => h b hb
  | k + 1, l, h, b, hb => reach_con k (stepL T U l) (fun c hc => by
    rcases stepL_mem.mp hc with hc | ⟨d, hd, hc⟩
    · exact h c hc
    · exact (h d hd).snoc hc) b hb
theorem step_sub {T : List (Nat × Nat)} {U l : List Nat} {b : Nat} (h : b ∈ l) : b ∈ stepL T U l := stepL_mem.mpr (.inl h)
theorem reach_sub {T : List (Nat × Nat)} {U : List Nat} : ∀ (k : Nat) (l : List Nat), ∀ b ∈ l, b ∈ reachL T U k l
  | 0, _, _, h => h
  | k + 1, l, b, h => reach_sub k _ b (step_sub h)
def ClosedL (T : List (Nat × Nat)) (U l : List Nat) : Prop := ∀ a ∈ l, ∀ b ∈ nearL T U a, b ∈ l
theorem closed_step {T : List (Nat × Nat)} {U l : List Nat} (h : ClosedL T U l) : ∀ b, b ∈ stepL T U l ↔ b ∈ l := fun b => by
  rw [stepL_mem]
  exact ⟨fun z => z.elim id fun ⟨a, ha, hb⟩ => h a ha b hb, .inl⟩
theorem closed_reach {T : List (Nat × Nat)} {U : List Nat} : ∀ (k : Nat) (l : List Nat), ClosedL T U l → ClosedL T U (reachL T U k l)
  | 0, _, h => h
  | k + 1, l, h => closed_reach k _ fun a ha b hb => (closed_step h b).mpr (h a ((closed_step h a).mp ha) b hb)
/-- so many rounds are enough -/
theorem reach_closed {q : Nat} {T : List (Nat × Nat)} {U : List Nat} (hq : ∀ p ∈ T, p.1 < q ∧ p.2 < q) : ∀ (k : Nat) (l : List Nat), l.Nodup → (∀ b ∈ l, b ∈ keysL q U) → (keysL q U).length ≤ l.length + k → ClosedL T U (reachL T U k l)
  | 0, l, nd, hk, hl => by
    have nk : (keysL q U).Nodup := (List.nodup_range).filter _
    -- all keys are there
    intro a ha b hb
    have hbk := near_keys hq hb
    refine Classical.byContradiction fun z => ?_
    have : ((b :: l : List Nat)).length ≤ (keysL q U).length := by
      have nd' : (b :: l).Nodup := List.nodup_cons.mpr ⟨z, nd⟩
      have hs : ∀ c ∈ b :: l, c ∈ keysL q U := fun c hc => (List.mem_cons.mp hc).elim (fun e => e ▸ hbk) (hk c)
      exact sub_len nd' hs
    simp only [List.length_cons] at this
    omega
  | k + 1, l, nd, hk, hl => by
    by_cases hc : ClosedL T U l
    · exact closed_reach (k + 1) l hc
    · refine reach_closed hq k (stepL T U l) stepL_nd (reach_keys hq hk) ?_
      have : ∃ b, b ∈ stepL T U l ∧ b ∉ l := Classical.byContradiction fun z => hc fun a ha b hb => Classical.byContradiction fun w => z ⟨b, stepL_mem.mpr (.inr ⟨a, ha, hb⟩), w⟩
      obtain ⟨b, hb, hbl⟩ := this
      have h1 : (b :: l : List Nat).length ≤ (stepL T U l).length := sub_len (List.nodup_cons.mpr ⟨hbl, nd⟩) fun c hc => (List.mem_cons.mp hc).elim (fun e => e ▸ hb) fun h => step_sub h
      simp only [List.length_cons] at h1
      omega
where sub_len : ∀ {l m : List Nat}, l.Nodup → (∀ c ∈ l, c ∈ m) → l.length ≤ m.length
  | [], _, _, _ => Nat.zero_le _
  | a :: l, m, nd, h => by
    obtain ⟨n1, n2⟩ := List.nodup_cons.mp nd
    have ha := h a List.mem_cons_self
    have e := List.length_erase_of_mem ha
    have := sub_len (l := l) (m := m.erase a) n2 fun c hc => (List.mem_erase_of_ne (fun z => n1 (by rw [← z]; exact hc))).mpr (h c (List.mem_cons_of_mem _ hc))
    have hp : 0 < m.length := List.length_pos_of_mem ha
    simp only [List.length_cons]
    omega
theorem closed_con {T : List (Nat × Nat)} {U l : List Nat} (hc : ClosedL T U l) {a b : Nat} (ha : a ∈ l) (h : Con T U a b) : b ∈ l := by
  induction h with
  | nil a => exact ha
  | cons h1 _ ih => exact ih (hc _ ha _ h1)
theorem reach_iff {q : Nat} {T : List (Nat × Nat)} {U : List Nat} (hq : ∀ p ∈ T, p.1 < q ∧ p.2 < q) {a b : Nat} (ha : a ∈ keysL q U) : b ∈ reachL T U (keysL q U).length [a] ↔ Con T U a b := by
  have hc := reach_closed hq (U := U) (keysL q U).length [a] (by simp) (fun c hc => by
    have : c = a := by simpa using hc
    exact this ▸ ha) (by simp)
  refine ⟨reach_con _ _ (fun c hc => by
    have : c = a := by simpa using hc
    subst this
    exact .nil _) b, fun h => ?_⟩
  have h0 : a ∈ reachL T U (keysL q U).length [a] := reach_sub _ _ a (by simp)
  exact closed_con hc h0 h
/-! ### the lumps -/
theorem keys_mem {q : Nat} {U : List Nat} {a : Nat} : a ∈ keysL q U ↔ a < q ∧ a ∉ U := by
  unfold keysL
  simp only [List.mem_filter, List.mem_range, Bool.not_eq_true', decide_eq_false_iff_not]
theorem lone_mem {q : Nat} {T : List (Nat × Nat)} {U : List Nat} {a : Nat} : a ∈ loneL q T U ↔ a ∈ keysL q U ∧ nearL T U a = [] := by
  unfold loneL
  simp only [List.mem_filter, List.isEmpty_iff]
theorem con_keys {q : Nat} {T : List (Nat × Nat)} {U : List Nat} (hq : ∀ p ∈ T, p.1 < q ∧ p.2 < q) {a b : Nat} (ha : a ∈ keysL q U) (h : Con T U a b) : b ∈ keysL q U := by
  induction h with
  | nil a => exact ha
  | cons h1 _ ih => exact ih (near_keys hq h1)
/-- what stands behind some keys: each lump is a whole class, the lumps apart, all keys that are no lone ones in them -/
structure LumpsOk (q : Nat) (T : List (Nat × Nat)) (U : List Nat) (seen : List Nat) (ls : List (List Nat)) : Prop where
  cls : ∀ L ∈ ls, ∃ a, a ∈ keysL q U ∧ nearL T U a ≠ [] ∧ ∀ b, b ∈ L ↔ Con T U a b
  ndL : ∀ L ∈ ls, L.Nodup
  nd : ls.flatten.Nodup
  all : ∀ a ∈ seen, a ∉ loneL q T U → ∃ L ∈ ls, a ∈ L
theorem reach_nd {T : List (Nat × Nat)} {U : List Nat} : ∀ (k : Nat) (l : List Nat), l.Nodup → (reachL T U k l).Nodup
  | 0, _, h => h
  | k + 1, l, _ => reach_nd k _ stepL_nd
theorem lumps_ok {q : Nat} {T : List (Nat × Nat)} {U : List Nat} (hq : ∀ p ∈ T, p.1 < q ∧ p.2 < q) : ∀ (l seen : List Nat) (ls : List (List Nat)), (∀ a ∈ l, a ∈ keysL q U) → LumpsOk q T U seen ls → LumpsOk q T U (seen ++ l) (l.foldl (lumpStep q T U) ls)
  | [], seen, ls, _, h => by rw [List.append_nil]; exact h
  | a :: l, seen, ls, hk, h => by
    have ha := hk a List.mem_cons_self
    have hs : LumpsOk q T U (seen ++ [a]) (lumpStep q T U ls a) := by
      unfold lumpStep
      split
      · rename_i hc
        simp only [Bool.and_eq_true, Bool.not_eq_true', decide_eq_false_iff_not, List.any_eq_false, decide_eq_true_eq] at hc
        obtain ⟨h1, h2⟩ := hc
        have hne : nearL T U a ≠ [] := fun z => h1 (lone_mem.mpr ⟨ha, z⟩)
        have hr : ∀ b, b ∈ reachL T U (keysL q U).length [a] ↔ Con T U a b := fun b => reach_iff hq ha
        have hnd := reach_nd (T := T) (U := U) (keysL q U).length [a] (by simp)
        refine ⟨fun L hL => ?_, fun L hL => ?_, ?_, fun b hb hbl => ?_⟩
        · rcases List.mem_append.mp hL with hL | hL
          · exact h.cls L hL
          · have : L = reachL T U (keysL q U).length [a] := by simpa using hL
            subst this
            exact ⟨a, ha, hne, hr⟩
        · rcases List.mem_append.mp hL with hL | hL
          · exact h.ndL L hL
          · have : L = reachL T U (keysL q U).length [a] := by simpa using hL
            subst this
            exact hnd
        · rw [List.flatten_append]
          refine List.nodup_append.mpr ⟨h.nd, by simpa using hnd, fun b hb c hc e => ?_⟩
          subst e
          obtain ⟨L, hL, hbL⟩ := List.mem_flatten.mp hb
          obtain ⟨d, _, _, hd⟩ := h.cls L hL
          have hc : b ∈ reachL T U (keysL q U).length [a] := by simpa using hc
          have := (hd a).mpr (((hd b).mp hbL).trans ((hr b).mp hc).symm)
          exact h2 L hL this
        · rcases List.mem_append.mp hb with hb | hb
          · obtain ⟨L, hL, hm⟩ := h.all b hb hbl
            exact ⟨L, List.mem_append_left _ hL, hm⟩
          · have : b = a := by simpa using hb
            subst this
            exact ⟨_, List.mem_append_right _ List.mem_cons_self, (hr b).mpr (.nil b)⟩
      · rename_i hc
        refine ⟨h.cls, h.ndL, h.nd, fun b hb hbl => ?_⟩
        rcases List.mem_append.mp hb with hb | hb
        · exact h.all b hb hbl
        · have : b = a := by simpa using hb
          subst this
          refine Classical.byContradiction fun z => hc ?_
          simp only [Bool.and_eq_true, Bool.not_eq_true', decide_eq_false_iff_not, List.any_eq_false, decide_eq_true_eq]
          exact ⟨hbl, fun L hL hm => z ⟨L, hL, hm⟩⟩
    have := lumps_ok hq l (seen ++ [a]) (lumpStep q T U ls a) (fun b hb => hk b (List.mem_cons_of_mem _ hb)) hs
    rw [List.append_assoc] at this
    exact this
/-! ### a cut in the sense of QM -/
def netOf (q : Nat) (T : List (Nat × Nat)) (hq : ∀ p ∈ T, p.1 < q ∧ p.2 < q) : QM.Net where
  m := T.length
  ta i := (T.getD i (0, 0)).1
  tb i := (T.getD i (0, 0)).2
  q := q
  hq i hi := by
    rw [List.getD_eq_getElem?_getD, List.getElem?_eq_getElem hi]
    exact hq _ (List.getElem_mem hi)
theorem edge_iff {q : Nat} {T : List (Nat × Nat)} {hq : ∀ p ∈ T, p.1 < q ∧ p.2 < q} {a b : Nat} : QM.Edge (netOf q T hq) a b ↔ (a, b) ∈ T ∨ (b, a) ∈ T := by
  constructor
  · rintro ⟨e, he, h⟩
    have he : e < T.length := he
    have hm := List.getElem_mem he
    have ea : (netOf q T hq).ta e = T[e].1 := by show (T.getD e (0, 0)).1 = _; rw [List.getD_eq_getElem?_getD, List.getElem?_eq_getElem he]; rfl
    have eb : (netOf q T hq).tb e = T[e].2 := by show (T.getD e (0, 0)).2 = _; rw [List.getD_eq_getElem?_getD, List.getElem?_eq_getElem he]; rfl
    rw [ea, eb] at h
    rcases h with ⟨rfl, rfl⟩ | ⟨rfl, rfl⟩
    · exact .inl hm
    · exact .inr hm
  · intro h
    have go : ∀ p ∈ T, ∃ e, e < T.length ∧ (netOf q T hq).ta e = p.1 ∧ (netOf q T hq).tb e = p.2 := fun p hp => by
      obtain ⟨e, he, hp⟩ := List.mem_iff_getElem.mp hp
      refine ⟨e, he, ?_, ?_⟩
      · show (T.getD e (0, 0)).1 = _; rw [List.getD_eq_getElem?_getD, List.getElem?_eq_getElem he, ← hp]; rfl
      · show (T.getD e (0, 0)).2 = _; rw [List.getD_eq_getElem?_getD, List.getElem?_eq_getElem he, ← hp]; rfl
    rcases h with h | h
    · obtain ⟨e, he, h1, h2⟩ := go _ h
      exact ⟨e, he, .inl ⟨h1, h2⟩⟩
    · obtain ⟨e, he, h1, h2⟩ := go _ h
      exact ⟨e, he, .inr ⟨h1, h2⟩⟩
theorem near_edge {q : Nat} {T : List (Nat × Nat)} {U : List Nat} {hq : ∀ p ∈ T, p.1 < q ∧ p.2 < q} {a b : Nat} (h : b ∈ nearL T U a) : QM.Edge (netOf q T hq) a b := edge_iff.mpr (near_mem.mp h).2.2
theorem con_walk {q : Nat} {T : List (Nat × Nat)} {U : List Nat} {hq : ∀ p ∈ T, p.1 < q ∧ p.2 < q} {n : Nat → Nat} {a b : Nat} (h : Con T U a b) : (∀ c, Con T U a c → 1 ≤ n c) → ∀ a0, a ∈ nearL T U a0 → ∃ l, QM.Wk (netOf q T hq) n l a0 b := by
  induction h with
  | nil a => exact fun _ a0 h0 => ⟨0, near_edge h0⟩
  | @cons a b c h1 h2 ih =>
    intro hn a0 h0
    obtain ⟨l, w⟩ := ih (fun d hd => hn d (.cons h1 hd)) a h1
    exact ⟨l + 1, a, near_edge h0, hn a (.nil a), (keys_mem.mp (near_keys hq h0)).1, w⟩
theorem con_near {T : List (Nat × Nat)} {U : List Nat} {a b : Nat} (h : Con T U a b) (hn : nearL T U a ≠ []) : nearL T U b ≠ [] := by
  induction h with
  | nil a => exact hn
  | cons h1 _ ih =>
    refine ih fun z => ?_
    have := near_symm h1
    rw [z] at this
    cases this
theorem prog_cut {q : Nat} {T : List (Nat × Nat)} {U : List Nat} (hq : ∀ p ∈ T, p.1 < q ∧ p.2 < q) (hU : U.Nodup) (hUq : ∀ k ∈ U, k < q) : QM.CutOk (netOf q T hq) U (loneL q T U) (lumpsL q T U) := by
  have L0 : LumpsOk q T U [] [] := ⟨(fun _ h => (by cases h)), (fun _ h => (by cases h)), List.nodup_nil, (fun _ h => (by cases h))⟩
  have Lk := lumps_ok hq (keysL q U) [] [] (fun _ h => h) L0
  rw [List.nil_append] at Lk
  have Lk : LumpsOk q T U (keysL q U) (lumpsL q T U) := Lk
  have nk : (keysL q U).Nodup := (List.nodup_range).filter _
  have lumpk : ∀ L ∈ lumpsL q T U, ∀ b ∈ L, b ∈ keysL q U ∧ nearL T U b ≠ [] := fun L hL b hb => by
    obtain ⟨a, ha, hne, hc⟩ := Lk.cls L hL
    have := (hc b).mp hb
    exact ⟨con_keys hq ha this, con_near this hne⟩
  have flatk : ∀ b ∈ (lumpsL q T U).flatten, b ∈ keysL q U ∧ nearL T U b ≠ [] := fun b hb => by
    obtain ⟨L, hL, h⟩ := List.mem_flatten.mp hb
    exact lumpk L hL b h
  refine ⟨?_, fun k => ?_, fun a b ha he => ?_, fun L hL a b ha he hb => ?_, fun L hL n hn a b ha hb => ?_⟩
  · refine List.nodup_append.mpr ⟨hU, List.nodup_append.mpr ⟨nk.filter _, Lk.nd, fun a ha b hb e => ?_⟩, fun a ha b hb e => ?_⟩
    · subst e
      exact (flatk a hb).2 (lone_mem.mp ha).2
    · subst e
      rcases List.mem_append.mp hb with hb | hb
      · exact (keys_mem.mp (lone_mem.mp hb).1).2 ha
      · exact (keys_mem.mp (flatk a hb).1).2 ha
  · show k < q ↔ _
    rw [List.mem_append, List.mem_append]
    constructor
    · intro hk
      by_cases h1 : k ∈ U
      · exact .inl h1
      · have hkk : k ∈ keysL q U := keys_mem.mpr ⟨hk, h1⟩
        by_cases h2 : k ∈ loneL q T U
        · exact .inr (.inl h2)
        · obtain ⟨L, hL, hm⟩ := Lk.all k hkk h2
          exact .inr (.inr (List.mem_flatten.mpr ⟨L, hL, hm⟩))
    · rintro (h | h | h)
      · exact hUq k h
      · exact (keys_mem.mp (lone_mem.mp h).1).1
      · exact (keys_mem.mp (flatk k h).1).1
  · refine Classical.byContradiction fun hb => ?_
    have h1 := lone_mem.mp ha
    have : b ∈ nearL T U a := near_mem.mpr ⟨(keys_mem.mp h1.1).2, hb, edge_iff.mp he⟩
    rw [h1.2] at this
    cases this
  · obtain ⟨c, hc, hne, hcl⟩ := Lk.cls L hL
    have hak := (lumpk L hL a ha).1
    exact (hcl b).mpr (((hcl a).mp ha).snoc (near_mem.mpr ⟨(keys_mem.mp hak).2, hb, edge_iff.mp he⟩))
  · obtain ⟨c, hc, hne, hcl⟩ := Lk.cls L hL
    have hab : Con T U a b := ((hcl a).mp ha).symm.trans ((hcl b).mp hb)
    have hna := (lumpk L hL a ha).2
    obtain ⟨d, hd⟩ := List.exists_mem_of_ne_nil _ hna
    have hcd : ∀ x, Con T U d x → 1 ≤ n x := fun x hx => hn x ((hcl x).mpr (((hcl a).mp ha).trans (.cons hd hx)))
    exact con_walk ((Con.cons (near_symm hd) hab) : Con T U d b) hcd a hd
end QV
end
section
set_option linter.all false
set_option maxRecDepth 100000
set_option autoImplicit false
/-! QF: values of cuts. -/
namespace QV
open PySem QL QP
def thI (xs : List Int) (L : List Nat) : Int := (L.map fun k => xs.getD k 0).sum
theorem things (n : Nat) (xs : List Int) (L : List Nat) (h : ∀ k ∈ L, k < xs.length) (hl : L.length ≤ LIM) : run PT (n + 1) 39 [tI xs, tD L] = M.pure (.int (thI xs L)) := things_in n xs L h hl
def oddI (xs : List Int) (ls : List (List Nat)) : List (List Nat) := ls.filter fun L => decide (thI xs L % 2 = 1)
def valI (xs : List Int) (U lone : List Nat) (ls : List (List Nat)) : Int := thI xs lone + (oddI xs ls).length - thI xs U
theorem ix0 (a b c : D) : doM2 .ix (.tup [a, b, c]) (.int 0) = M.pure a := m2_ixT (k := 0) rfl
theorem ix1 (a b c : D) : doM2 .ix (.tup [a, b, c]) (.int 1) = M.pure b := m2_ixT (k := 1) rfl
theorem ix2 (a b c : D) : doM2 .ix (.tup [a, b, c]) (.int 2) = M.pure c := m2_ixT (k := 2) rfl
theorem recvM' (d : D) : recvM .mod d = M.pure ⟨⟩ := recv_ok rfl d
theorem recvS (d : D) : recvM .sub d = M.pure ⟨⟩ := recv_ok rfl d
theorem odd_lumps (n : Nat) (xs : List Int) (a b : D) (ls : List (List Nat)) (h : ∀ L ∈ ls, (∀ k ∈ L, k < xs.length) ∧ L.length ≤ LIM) (hl : ls.length ≤ LIM) :
    run PT (n + 2) 40 [.tup [a, b, .tup (ls.map tD)], tI xs] = M.pure (.lst ((oddI xs ls).map tD)) := by
  rw [run_s (fn := f40) rfl]
  simp only [f40, runF, exs, ex, ev, evT, evI, evs, evAnd, evOr, evAndT, evOrT, t3, s3, tr, bind_pure, bind_assoc, List.length_cons, List.length_nil, if_true, List.map_cons, List.map_nil, List.cons_append, List.nil_append, Nat.reduceAdd, Nat.reduceSub, List.replicate, getM_zero, getM_succ, items_tup, items_lst, List.set, ofO_some, compF, compF2, setT, setU, setAll, wipeE, truth_bl, nox_pure, recvX, ix2]
  rw [lim_ok (by simpa using hl), bind_pure, compL_filter (c := tD) (p := fun L => decide (thI xs L % 2 = 1)) (g := tD)]
  · simp only [runF, exs, ex, ev, evT, evI, evs, evAnd, evOr, evAndT, evOrT, t3, s3, tr, bind_pure, bind_assoc, List.length_cons, List.length_nil, if_true, List.map_cons, List.map_nil, List.cons_append, List.nil_append, Nat.reduceAdd, Nat.reduceSub, List.replicate, getM_zero, getM_succ, items_tup, items_lst, List.set, ofO_some, compF, compF2, setT, setU, setAll, wipeE, truth_bl, nox_pure]
    rfl
  · intro L hL
    simp only [runF, exs, ex, ev, evT, evI, evs, evAnd, evOr, evAndT, evOrT, t3, s3, tr, bind_pure, bind_assoc, List.length_cons, List.length_nil, if_true, List.map_cons, List.map_nil, List.cons_append, List.nil_append, Nat.reduceAdd, Nat.reduceSub, List.replicate, getM_zero, getM_succ, items_tup, items_lst, List.set, ofO_some, compF, compF2, setT, setU, setAll, wipeE, truth_bl, nox_pure, recvE, recvM', things n xs L (h L hL).1 (h L hL).2, m2_mod (show (0 : Int) < 2 by omega), m2_eqI]
    cases decide (thI xs L % 2 = 1) <;> rfl
theorem value_of (n : Nat) (xs : List Int) (U lone : List Nat) (ls : List (List Nat)) (h : ∀ L ∈ ls, (∀ k ∈ L, k < xs.length) ∧ L.length ≤ LIM) (hl : ls.length ≤ LIM)
    (hU : (∀ k ∈ U, k < xs.length) ∧ U.length ≤ LIM) (ho : (∀ k ∈ lone, k < xs.length) ∧ lone.length ≤ LIM) :
    run PT (n + 3) 37 [.tup [tD U, tD lone, .tup (ls.map tD)], tI xs] = M.pure (.int (valI xs U lone ls)) := by
  rw [run_s (fn := f37) rfl]
  simp only [f37, runF, exs, ex, ev, evT, evI, evs, evAnd, evOr, evAndT, evOrT, t3, s3, tr, bind_pure, bind_assoc, List.length_cons, List.length_nil, if_true, List.map_cons, List.map_nil, List.cons_append, List.nil_append, Nat.reduceAdd, Nat.reduceSub, List.replicate, getM_zero, getM_succ, items_tup, items_lst, List.set, ofO_some, compF, compF2, setT, setU, setAll, wipeE, truth_bl, nox_pure, recvX, recvS, recvA, ix0, ix1, things (n + 1) xs lone ho.1 ho.2, things (n + 1) xs U hU.1 hU.2, odd_lumps n xs _ _ ls h hl, m1_len, m2_add, m2_sub]
  unfold valI
  simp
theorem thI_nat (ns : List Nat) : ∀ L : List Nat, thI (ns.map cI) L = ((QM.lsum (fun k => ns.getD k 0) L : Nat) : Int)
  | [] => rfl
  | a :: r => by
    show (ns.map cI).getD a 0 + thI (ns.map cI) r = _
    rw [thI_nat ns r]
    have : (ns.map cI).getD a 0 = ((ns.getD a 0 : Nat) : Int) := by
      rw [List.getD_eq_getElem?_getD, List.getD_eq_getElem?_getD, List.getElem?_map]
      cases ns[a]? <;> rfl
    rw [this]
    simp only [QM.lsum]
    omega
theorem oddI_nat (ns : List Nat) : ∀ ls : List (List Nat), (oddI (ns.map cI) ls).length = QM.odds (fun k => ns.getD k 0) ls
  | [] => rfl
  | L :: r => by
    unfold oddI
    rw [List.filter_cons]
    have ih := oddI_nat ns r
    unfold oddI at ih
    simp only [QM.odds]
    rw [thI_nat]
    by_cases h : QM.lsum (fun k => ns.getD k 0) L % 2 = 1
    · rw [if_pos (decide_eq_true (by omega)), List.length_cons, ih]; omega
    · rw [if_neg (by rw [decide_eq_true_eq]; omega), ih]; omega
theorem valI_nat (ns : List Nat) (U lone : List Nat) (ls : List (List Nat)) : valI (ns.map cI) U lone ls = QM.value (fun k => ns.getD k 0) U lone ls := by
  unfold valI QM.value
  rw [thI_nat, thI_nat, oddI_nat]
end QV
end
section
set_option linter.all false
set_option maxRecDepth 100000
set_option autoImplicit false
/-! QG: all sets of kinds. -/
namespace QV
open PySem QL QP
def subStep (ls : List (List Nat)) (a : Nat) : List (List Nat) := ls ++ ls.map (· ++ [a])
def subL (q : Nat) : List (List Nat) := (List.range q).foldl subStep [[]]
theorem m2_addT {l k : List D} (h : (l ++ k).length ≤ LIM) : doM2 .add (.tup l) (.tup k) = M.pure (.tup (l ++ k)) := by
  funext m
  show ofO (tupO (l ++ k)) m = _
  rw [tupO_ok h]
  rfl
theorem sub_loop {n : Nat} (d0 : D) {f : D → QL.Env → M Flw}
    (hf : ∀ x ρ, f x ρ = M.bind (ofO (setT [2] x ρ)) fun ρ1 => exs (run PT n) (.cons (.set 1 (.o2 .add (.var 1) (.comp [3] [3] (.var 1) (.bl true) (.o2 .add (.var 3) (.tup (.cons (.var 2) .nil)))))) .nil) ρ1) :
    ∀ (l : List Nat) (ls : List (List Nat)) (t : Option D), l.length ≤ 10 → ls.length * 2 ^ l.length ≤ 1024 → (∀ L ∈ ls, L.length + l.length ≤ 100) → ∃ t', forL f (l.map nI) [some d0, some (.lst (ls.map tD)), t, none] = M.pure (.nx [some d0, some (.lst ((l.foldl subStep ls).map tD)), t', none])
  | [], ls, t, _, _, _ => ⟨t, rfl⟩
  | a :: l, ls, t, h1, h2, h3 => by
    have hlim : (10000 : Nat) ≤ LIM := by decide
    simp only [List.length_cons] at h1 h2 h3
    have hp : 1 ≤ 2 ^ l.length := Nat.one_le_two_pow
    have hz : ls.length * 2 ≤ 1024 := by
      have : ls.length * 2 ≤ ls.length * 2 ^ (l.length + 1) := Nat.mul_le_mul_left _ (by rw [Nat.pow_succ]; omega)
      omega
    obtain ⟨t', h⟩ := sub_loop (n := n) d0 hf l (subStep ls a) (some (nI a)) (by omega) (by
      unfold subStep
      rw [List.length_append, List.length_map]
      rw [Nat.pow_succ] at h2
      have : (ls.length + ls.length) * 2 ^ l.length = ls.length * (2 ^ l.length * 2) := by rw [← Nat.two_mul, Nat.mul_comm 2, Nat.mul_assoc, Nat.mul_comm 2]
      omega) (fun L hL => by
      unfold subStep at hL
      rcases List.mem_append.mp hL with hL | hL
      · have := h3 L hL; omega
      · obtain ⟨M, hM, rfl⟩ := List.mem_map.mp hL
        have := h3 M hM
        rw [List.length_append, List.length_singleton]
        omega)
    refine ⟨t', ?_⟩
    show M.bind (f (nI a) _) _ = _
    rw [hf]
    have e : exs (run PT n) (.cons (.set 1 (.o2 .add (.var 1) (.comp [3] [3] (.var 1) (.bl true) (.o2 .add (.var 3) (.tup (.cons (.var 2) .nil)))))) .nil) [some d0, some (.lst (ls.map tD)), some (nI a), none] = M.pure (.nx [some d0, some (.lst ((subStep ls a).map tD)), some (nI a), none]) := by
      simp only [runF, exs, ex, ev, evT, evI, evs, evAnd, evOr, evAndT, evOrT, t3, s3, tr, bind_pure, bind_assoc, List.length_cons, List.length_nil, if_true, List.map_cons, List.map_nil, List.cons_append, List.nil_append, Nat.reduceAdd, Nat.reduceSub, List.replicate, getM_zero, getM_succ, items_tup, items_lst, List.set, ofO_some, compF, compF2, setT, setU, setAll, wipeE, truth_bl, nox_pure, recvA]
      rw [lim_ok (by rw [List.length_map]; omega), bind_pure, compL_map (c := tD) (g := fun L => tD (L ++ [a]))]
      · simp only [runF, exs, ex, ev, evT, evI, evs, evAnd, evOr, evAndT, evOrT, t3, s3, tr, bind_pure, bind_assoc, List.length_cons, List.length_nil, if_true, List.map_cons, List.map_nil, List.cons_append, List.nil_append, Nat.reduceAdd, Nat.reduceSub, List.replicate, getM_zero, getM_succ, items_tup, items_lst, List.set, ofO_some, compF, compF2, setT, setU, setAll, wipeE, truth_bl, nox_pure]
        rw [m2_addL (by rw [List.length_append, List.length_map, List.length_map]; omega), bind_pure]
        unfold subStep
        rw [List.map_append, List.map_map]
        rfl
      · intro L hL
        have := h3 L hL
        simp only [tD, runF, exs, ex, ev, evT, evI, evs, evAnd, evOr, evAndT, evOrT, t3, s3, tr, bind_pure, bind_assoc, List.length_cons, List.length_nil, if_true, List.map_cons, List.map_nil, List.cons_append, List.nil_append, Nat.reduceAdd, Nat.reduceSub, List.replicate, getM_zero, getM_succ, items_tup, items_lst, List.set, ofO_some, compF, compF2, setT, setU, setAll, wipeE, truth_bl, nox_pure, recvA]
        rw [tupO_ok (by simp [LIM]), ofO_some, bind_pure, m2_addT (by rw [List.length_append, List.length_map, List.length_singleton]; omega), bind_pure]
        rw [List.map_append]
        rfl
    show M.bind (exs (run PT n) _ [some d0, some (.lst (ls.map tD)), some (nI a), none]) _ = _
    rw [e, bind_pure]
    exact h
theorem subsets (n q : Nat) (hq : q ≤ 10) : run PT (n + 1) 23 [nI q] = M.pure (.lst ((subL q).map tD)) := by
  rw [run_s (fn := f23) rfl]
  obtain ⟨t', h⟩ := sub_loop (n := n) (nI q) (f := fun x ρ => M.bind (ofO (setT [2] x ρ)) fun ρ1 => exs (run PT n) (.cons (.set 1 (.o2 .add (.var 1) (.comp [3] [3] (.var 1) (.bl true) (.o2 .add (.var 3) (.tup (.cons (.var 2) .nil)))))) .nil) ρ1) (fun _ _ => rfl) (List.range q) [[]] none (by simpa using hq)
    (by
      rw [List.length_range]
      have : 2 ^ q ≤ 2 ^ 10 := Nat.pow_le_pow_right (by omega) hq
      simp
      omega) (fun L hL => by
      have : L = [] := by simpa using hL
      subst this
      simp
      omega)
  have hb : exs (run PT n) f23.body [some (nI q), none, none, none] = M.pure (.rt (.lst ((subL q).map tD))) := by
    show M.bind (ex (run PT n) (.set 1 (.lst (.cons (.tup .nil) .nil))) _) _ = _
    rw [show ex (run PT n) (.set 1 (.lst (.cons (.tup .nil) .nil))) [some (nI q), none, none, none] = M.pure (.nx [some (nI q), some (.lst (([[]] : List (List Nat)).map tD)), none, none]) from rfl, bind_pure]
    show M.bind (ex (run PT n) (.for_ _ _ _) _) _ = _
    have e : ex (run PT n) (.for_ [2] (.o1 .range (.var 0)) (.cons (.set 1 (.o2 .add (.var 1) (.comp [3] [3] (.var 1) (.bl true) (.o2 .add (.var 3) (.tup (.cons (.var 2) .nil)))))) .nil)) [some (nI q), some (.lst (([[]] : List (List Nat)).map tD)), none, none] = M.pure (.nx [some (nI q), some (.lst ((subL q).map tD)), t', none]) := by
      show M.bind (evI (run PT n) _ _) _ = _
      rw [show evI (run PT n) (.o1 .range (.var 0)) [some (nI q), some (.lst (([[]] : List (List Nat)).map tD)), none, none] = M.pure ((List.range q).map nI) from (rangeM_nat (by omega)), bind_pure]
      exact h
    rw [e, bind_pure]
    rfl
  show M.bind (exs (run PT n) f23.body _) _ = _
  exact (congrArg (fun z => M.bind z _) hb).trans rfl
theorem cuts_of (n q : Nat) (T : List (Nat × Nat)) (h10 : q ≤ 10) (hq : ∀ p ∈ T, p.1 < q ∧ p.2 < q) (hs : q + 2 * T.length < 64) (hl : (subL q).length ≤ LIM) : run PT (n + 3) 22 [nI q, .tup (T.map pD)] = M.pure (.tup ((subL q).map (cutD q T))) := by
  rw [run_s (fn := f22) rfl]
  simp only [f22, runF, exs, ex, ev, evT, evI, evs, evAnd, evOr, evAndT, evOrT, t3, s3, tr, bind_pure, bind_assoc, List.length_cons, List.length_nil, if_true, List.map_cons, List.map_nil, List.cons_append, List.nil_append, Nat.reduceAdd, Nat.reduceSub, List.replicate, getM_zero, getM_succ, items_tup, items_lst, List.set, ofO_some, compF, compF2, setT, setU, setAll, wipeE, truth_bl, nox_pure, subsets (n + 1) q h10]
  rw [lim_ok (by simpa using hl), bind_pure, compL_map (c := tD) (g := cutD q T)]
  · simp only [runF, exs, ex, ev, evT, evI, evs, evAnd, evOr, evAndT, evOrT, t3, s3, tr, bind_pure, bind_assoc, List.length_cons, List.length_nil, if_true, List.map_cons, List.map_nil, List.cons_append, List.nil_append, Nat.reduceAdd, Nat.reduceSub, List.replicate, getM_zero, getM_succ, items_tup, items_lst, List.set, ofO_some, compF, compF2, setT, setU, setAll, wipeE, truth_bl, nox_pure, m1_tuple]
  · intro U hU
    simp only [runF, exs, ex, ev, evT, evI, evs, evAnd, evOr, evAndT, evOrT, t3, s3, tr, bind_pure, bind_assoc, List.length_cons, List.length_nil, if_true, List.map_cons, List.map_nil, List.cons_append, List.nil_append, Nat.reduceAdd, Nat.reduceSub, List.replicate, getM_zero, getM_succ, items_tup, items_lst, List.set, ofO_some, compF, compF2, setT, setU, setAll, wipeE, truth_bl, nox_pure, cut_of n q T U hq hs]
end QV
end
section
set_option linter.all false
set_option maxRecDepth 100000
set_option autoImplicit false
/-! QH: the law's own cuts. -/
namespace QV
open PySem QL QP
def lD (L : List Nat) : D := .lst (L.map nI)
theorem law_sum (n : Nat) (xs : List Int) (L : List Nat) (h : ∀ k ∈ L, k < xs.length) (hl : L.length ≤ LIM) : run PT (n + 1) 49 [tI xs, lD L] = M.pure (.int (thI xs L)) := by
  rw [run_s (fn := f49) rfl]
  simp only [f49, lD, runF, exs, ex, ev, evT, evI, evs, evAnd, evOr, evAndT, evOrT, t3, s3, tr, bind_pure, bind_assoc, List.length_cons, List.length_nil, if_true, List.map_cons, List.map_nil, List.cons_append, List.nil_append, Nat.reduceAdd, Nat.reduceSub, List.replicate, getM_zero, getM_succ, items_tup, items_lst, List.set, ofO_some, compF, compF2, setT, setU, setAll, wipeE, truth_bl, nox_pure]
  rw [lim_ok (by simpa using hl), bind_pure, compL_map (g := fun k => .int (xs.getD k 0))]
  · simp only [nox_pure, bind_pure]
    rw [show (List.map (fun k => D.int (xs.getD k 0)) L) = ((L.map fun k => xs.getD k 0).map .int) by simp, m1_sum]
    rfl
  · intro k hk
    simp only [runF, exs, ex, ev, evT, evI, evs, evAnd, evOr, evAndT, evOrT, t3, s3, tr, bind_pure, bind_assoc, List.length_cons, List.length_nil, if_true, List.map_cons, List.map_nil, List.cons_append, List.nil_append, Nat.reduceAdd, Nat.reduceSub, List.replicate, getM_zero, getM_succ, items_tup, items_lst, List.set, ofO_some, compF, compF2, setT, setU, setAll, wipeE, truth_bl, nox_pure, recvX, ix_tI (h k hk)]
theorem all_in (L all : List Nat) : doM1 .all (.lst (L.map fun k => D.bl (decide (k ∈ all)))) = M.pure (.bl (L.all fun k => decide (k ∈ all))) := by
  have := m1_all (L.map fun k => decide (k ∈ all))
  rw [List.map_map] at this
  rw [show (L.map fun k => D.bl (decide (k ∈ all))) = L.map (D.bl ∘ fun k => decide (k ∈ all)) from rfl, this]
  congr 2
  rw [List.all_map]
  rfl
theorem ixL0 (a b c : D) : doM2 .ix (.lst [a, b, c]) (.int 0) = M.pure a := m2_ixL (k := 0) rfl
theorem ixL1 (a b c : D) : doM2 .ix (.lst [a, b, c]) (.int 1) = M.pure b := m2_ixL (k := 1) rfl
theorem ixL2 (a b c : D) : doM2 .ix (.lst [a, b, c]) (.int 2) = M.pure c := m2_ixL (k := 2) rfl
/-- the worth of a cut for all kinds -/
theorem law_worth (n : Nat) (xs : List Int) (U lone all : List Nat) (ls : List (List Nat)) (h : ∀ L ∈ ls, (∀ k ∈ L, k < xs.length ∧ k ∈ all) ∧ L.length ≤ LIM) (hl : ls.length ≤ LIM)
    (hU : (∀ k ∈ U, k < xs.length) ∧ U.length ≤ LIM) (ho : (∀ k ∈ lone, k < xs.length ∧ k ∈ all) ∧ lone.length ≤ LIM) :
    run PT (n + 2) 12 [.lst [lD U, lD lone, .lst (ls.map lD)], tI xs, lD all] = M.pure (.int (valI xs U lone ls)) := by
  rw [run_s (fn := f12) rfl]
  simp only [f12, runF, exs, ex, ev, evT, evI, evs, evAnd, evOr, evAndT, evOrT, t3, s3, tr, bind_pure, bind_assoc, List.length_cons, List.length_nil, if_true, List.map_cons, List.map_nil, List.cons_append, List.nil_append, Nat.reduceAdd, Nat.reduceSub, List.replicate, getM_zero, getM_succ, items_tup, items_lst, List.set, ofO_some, compF, compF2, setT, setU, setAll, wipeE, truth_bl, nox_pure, recvX, recvS, recvA, ixL0, ixL1, ixL2, lD]
  rw [lim_ok (by rw [List.length_map]; exact ho.2), bind_pure, compL_map (g := nI)]
  rotate_left
  · intro k hk
    simp only [runF, exs, ex, ev, evT, evI, evs, evAnd, evOr, evAndT, evOrT, t3, s3, tr, bind_pure, bind_assoc, List.length_cons, List.length_nil, if_true, List.map_cons, List.map_nil, List.cons_append, List.nil_append, Nat.reduceAdd, Nat.reduceSub, List.replicate, getM_zero, getM_succ, items_tup, items_lst, List.set, ofO_some, compF, compF2, setT, setU, setAll, wipeE, truth_bl, nox_pure, recvI, in_nL, decide_eq_true (ho.1 k hk).2]
  simp only [runF, exs, ex, ev, evT, evI, evs, evAnd, evOr, evAndT, evOrT, t3, s3, tr, bind_pure, bind_assoc, List.length_cons, List.length_nil, if_true, List.map_cons, List.map_nil, List.cons_append, List.nil_append, Nat.reduceAdd, Nat.reduceSub, List.replicate, getM_zero, getM_succ, items_tup, items_lst, List.set, ofO_some, compF, compF2, setT, setU, setAll, wipeE, truth_bl, nox_pure]
  rw [lim_ok (by rw [List.length_map]; exact hl), bind_pure, compL_map (c := lD) (g := lD)]
  rotate_left
  · intro L hL
    simp only [lD, runF, exs, ex, ev, evT, evI, evs, evAnd, evOr, evAndT, evOrT, t3, s3, tr, bind_pure, bind_assoc, List.length_cons, List.length_nil, if_true, List.map_cons, List.map_nil, List.cons_append, List.nil_append, Nat.reduceAdd, Nat.reduceSub, List.replicate, getM_zero, getM_succ, items_tup, items_lst, List.set, ofO_some, compF, compF2, setT, setU, setAll, wipeE, truth_bl, nox_pure]
    rw [lim_ok (by rw [List.length_map]; exact (h L hL).2), bind_pure, compL_map (g := fun k => D.bl (decide (k ∈ all)))]
    · simp only [runF, exs, ex, ev, evT, evI, evs, evAnd, evOr, evAndT, evOrT, t3, s3, tr, bind_pure, bind_assoc, List.length_cons, List.length_nil, if_true, List.map_cons, List.map_nil, List.cons_append, List.nil_append, Nat.reduceAdd, Nat.reduceSub, List.replicate, getM_zero, getM_succ, items_tup, items_lst, List.set, ofO_some, compF, compF2, setT, setU, setAll, wipeE, truth_bl, nox_pure, all_in]
      rw [show (L.all fun k => decide (k ∈ all)) = true from List.all_eq_true.mpr fun k hk => decide_eq_true ((h L hL).1 k hk).2]
      rfl
    · intro k hk
      simp only [runF, exs, ex, ev, evT, evI, evs, evAnd, evOr, evAndT, evOrT, t3, s3, tr, bind_pure, bind_assoc, List.length_cons, List.length_nil, if_true, List.map_cons, List.map_nil, List.cons_append, List.nil_append, Nat.reduceAdd, Nat.reduceSub, List.replicate, getM_zero, getM_succ, items_tup, items_lst, List.set, ofO_some, compF, compF2, setT, setU, setAll, wipeE, truth_bl, nox_pure, recvI, in_nL]
  simp only [runF, exs, ex, ev, evT, evI, evs, evAnd, evOr, evAndT, evOrT, t3, s3, tr, bind_pure, bind_assoc, List.length_cons, List.length_nil, if_true, List.map_cons, List.map_nil, List.cons_append, List.nil_append, Nat.reduceAdd, Nat.reduceSub, List.replicate, getM_zero, getM_succ, items_tup, items_lst, List.set, ofO_some, compF, compF2, setT, setU, setAll, wipeE, truth_bl, nox_pure]
  rw [lim_ok (by rw [List.length_map]; exact hl), bind_pure, compL_filter (c := lD) (p := fun L => decide (thI xs L % 2 = 1)) (g := lD)]
  rotate_left
  · intro L hL
    have e := law_sum n xs L (fun k hk => ((h L hL).1 k hk).1) (h L hL).2
    simp only [lD] at e
    simp only [lD, runF, exs, ex, ev, evT, evI, evs, evAnd, evOr, evAndT, evOrT, t3, s3, tr, bind_pure, bind_assoc, List.length_cons, List.length_nil, if_true, List.map_cons, List.map_nil, List.cons_append, List.nil_append, Nat.reduceAdd, Nat.reduceSub, List.replicate, getM_zero, getM_succ, items_tup, items_lst, List.set, ofO_some, compF, compF2, setT, setU, setAll, wipeE, truth_bl, nox_pure, recvE, recvM', e, m1_int, m2_mod (show (0 : Int) < 2 by omega), m2_eqI]
    cases decide (thI xs L % 2 = 1) <;> rfl
  have e1 := law_sum n xs lone (fun k hk => (ho.1 k hk).1) ho.2
  have e2 := law_sum n xs U hU.1 hU.2
  simp only [lD] at e1 e2
  simp only [runF, exs, ex, ev, evT, evI, evs, evAnd, evOr, evAndT, evOrT, t3, s3, tr, bind_pure, bind_assoc, List.length_cons, List.length_nil, if_true, List.map_cons, List.map_nil, List.cons_append, List.nil_append, Nat.reduceAdd, Nat.reduceSub, List.replicate, getM_zero, getM_succ, items_tup, items_lst, List.set, ofO_some, compF, compF2, setT, setU, setAll, wipeE, truth_bl, nox_pure, e1, e2, m1_len, m2_add, m2_sub]
  unfold valI oddI
  simp
end QV
end
section
set_option linter.all false
set_option maxRecDepth 100000
set_option autoImplicit false
/-! QI: what is done to the memory; draws. -/
namespace QV
open PySem QL QP
section
variable {α β : Type}
/-- x ends well, with Q -/
def Ok (x : M α) (m : Mem) (Q : α → Mem → Prop) : Prop := ∃ a m', x m = .ok a m' ∧ Q a m'
theorem Ok.bind {x : M α} {f : α → M β} {m : Mem} {Q : β → Mem → Prop} (h : Ok x m fun a m' => Ok (f a) m' Q) : Ok (M.bind x f) m Q := by
  obtain ⟨a, m1, h1, b, m2, h2, hQ⟩ := h
  exact ⟨b, m2, by show (x m).bind f = _; rw [h1]; exact h2, hQ⟩
theorem Ok.pure {a : α} {m : Mem} {Q : α → Mem → Prop} (h : Q a m) : Ok (M.pure a) m Q := ⟨a, m, rfl, h⟩
theorem Ok.mono {x : M α} {m : Mem} {Q R : α → Mem → Prop} (h : Ok x m Q) (hQ : ∀ a m', Q a m' → R a m') : Ok x m R := by
  obtain ⟨a, m1, h1, h2⟩ := h
  exact ⟨a, m1, h1, hQ _ _ h2⟩
theorem Ok.seq {x : M α} {f : α → M β} {m : Mem} {Q : α → Mem → Prop} {R : β → Mem → Prop} (h : Ok x m Q) (hQ : ∀ a m', Q a m' → Ok (f a) m' R) : Ok (M.bind x f) m R := Ok.bind (h.mono hQ)
theorem Ok.nox {x : M α} {m : Mem} {Q : α → Mem → Prop} (h : Ok x m Q) : Ok (nox x) m Q := by
  obtain ⟨a, m1, h1, h2⟩ := h
  refine ⟨a, m1, ?_, h2⟩
  show (match x m with
    | .ex _ _ _ => Res.bad
    | r => r) = _
  rw [h1]
/-- a loop, by what stands behind the items that were walked -/
theorem Ok.forL {c : α → D} {f : D → QL.Env → M Flw} {xs : List α} {ρ : QL.Env} {m : Mem} {Q : Flw → Mem → Prop} (Inv : List α → QL.Env → Mem → Prop) (h0 : Inv [] ρ m)
    (hs : ∀ pre x post ρ m, xs = pre ++ x :: post → Inv pre ρ m → Ok (f (c x) ρ) m fun fl m' => ∃ ρ', fl = .nx ρ' ∧ Inv (pre ++ [x]) ρ' m')
    (hk : ∀ ρ m, Inv xs ρ m → Q (.nx ρ) m) : Ok (forL f (xs.map c) ρ) m Q := by
  have gen : ∀ (post pre : List α) (ρ : QL.Env) (m : Mem), xs = pre ++ post → Inv pre ρ m → Ok (QL.forL f (post.map c) ρ) m Q := by
    intro post
    induction post with
    | nil =>
      intro pre ρ m e h
      rw [List.append_nil] at e
      exact Ok.pure (hk ρ m (e ▸ h))
    | cons x post ih =>
      intro pre ρ m e h
      refine Ok.seq (hs pre x post ρ m e h) ?_
      rintro fl m' ⟨ρ', rfl, h'⟩
      exact ih (pre ++ [x]) ρ' m' (by rw [e]; simp) h'
  exact gen xs [] ρ m rfl h0
/-- a comprehension of what is done item by item -/
theorem Ok.compL {c : α → D} {f : D → M (Option D)} {xs : List α} {m : Mem} {Q : List D → Mem → Prop} (Inv : List α → List D → Mem → Prop) (h0 : Inv [] [] m)
    (hs : ∀ pre x post acc m, xs = pre ++ x :: post → Inv pre acc m → Ok (f (c x)) m fun o m' => Inv (pre ++ [x]) (acc ++ o.toList) m')
    (hk : ∀ l m, Inv xs l m → Q l m) : Ok (compL f (xs.map c)) m Q := by
  have gen : ∀ (post pre : List α) (acc : List D) (m : Mem) (Q : List D → Mem → Prop), xs = pre ++ post → Inv pre acc m → (∀ l m, Inv xs (acc ++ l) m → Q l m) → Ok (QL.compL f (post.map c)) m Q := by
    intro post
    induction post with
    | nil =>
      intro pre acc m Q e h hk
      rw [List.append_nil] at e
      exact Ok.pure (hk [] m (by rw [List.append_nil]; exact e ▸ h))
    | cons x post ih =>
      intro pre acc m Q e h hk
      refine Ok.seq (hs pre x post acc m e h) fun o m' h' => ?_
      refine Ok.seq (Q := fun l m => Inv xs (acc ++ (o.toList ++ l)) m) (ih (pre ++ [x]) (acc ++ o.toList) m' _ (by rw [e]; simp) h' fun l m h => by rw [List.append_assoc] at h; exact h) fun l m h => Ok.pure ?_
      cases o with
      | none => exact hk l m h
      | some y => exact hk (y :: l) m h
  exact gen xs [] [] m Q rfl h0 fun l m h => hk l m (by simpa using h)
end
/-- all but the j-th cell is as it was -/
def Fr (j : Nat) (m m' : Mem) : Prop := m.length ≤ m'.length ∧ ∀ i, i < m.length → i ≠ j → m'[i]? = m[i]?
theorem Fr.refl (j : Nat) (m : Mem) : Fr j m m := ⟨Nat.le_refl _, fun _ _ _ => rfl⟩
theorem Fr.trans {j : Nat} {m m1 m2 : Mem} (h : Fr j m m1) (h2 : Fr j m1 m2) : Fr j m m2 :=
  ⟨Nat.le_trans h.1 h2.1, fun i hi hj => by rw [h2.2 i (Nat.lt_of_lt_of_le hi h.1) hj]; exact h.2 i hi hj⟩
theorem Fr.set (j : Nat) (m : Mem) (c : Cell) : Fr j m (m.set j c) := ⟨by simp, fun i _ hj => List.getElem?_set_ne fun z => hj z.symm⟩
theorem Fr.app (j : Nat) (m e : Mem) : Fr j m (m ++ e) := ⟨by simp, fun i hi _ => List.getElem?_append_left hi⟩
/-- no cell but the new ones is another one -/
def Ext (m m' : Mem) : Prop := m.length ≤ m'.length ∧ ∀ i, i < m.length → m'[i]? = m[i]?
theorem Ext.refl (m : Mem) : Ext m m := ⟨Nat.le_refl _, fun _ _ => rfl⟩
theorem Ext.trans {m m1 m2 : Mem} (h : Ext m m1) (h2 : Ext m1 m2) : Ext m m2 := ⟨Nat.le_trans h.1 h2.1, fun i hi => by rw [h2.2 i (Nat.lt_of_lt_of_le hi h.1)]; exact h.2 i hi⟩
theorem Ext.app (m e : Mem) : Ext m (m ++ e) := ⟨by simp, fun i hi => List.getElem?_append_left hi⟩
theorem Ext.fr {m m' : Mem} (h : Ext m m') (j : Nat) : Fr j m m' := ⟨h.1, fun i hi _ => h.2 i hi⟩
theorem Ext.at_ {m m' : Mem} (h : Ext m m') {i : Nat} {c : Cell} (hc : m[i]? = some c) : m'[i]? = some c := by
  rw [h.2 i (List.getElem?_eq_some_iff.mp hc).1]; exact hc
theorem Fr.at_ {j : Nat} {m m' : Mem} (h : Fr j m m') {i : Nat} {c : Cell} (hj : i ≠ j) (hc : m[i]? = some c) : m'[i]? = some c := by
  rw [h.2 i (List.getElem?_eq_some_iff.mp hc).1 hj]; exact hc
/-- what was made since, is of no account -/
theorem Fr.ext {j : Nat} {m m1 m2 : Mem} (h : Ext m m1) (hj : m.length ≤ j) (h2 : Fr j m1 m2) : Ext m m2 := ⟨Nat.le_trans h.1 h2.1, fun i hi => by
  rw [h2.2 i (Nat.lt_of_lt_of_le hi h.1) (by omega)]; exact h.2 i hi⟩
theorem Fr.fr2 {j k : Nat} {m m1 m2 : Mem} (h : Fr j m m1) (hk : m.length ≤ k) (h2 : Fr k m1 m2) : Fr j m m2 := ⟨Nat.le_trans h.1 h2.1, fun i hi hj => by
  rw [h2.2 i (Nat.lt_of_lt_of_le hi h.1) (by omega)]; exact h.2 i hi hj⟩
/-- a jar, from which was drawn at most K times -/
def Jar (j K : Nat) (m : Mem) : Prop := ∃ a b c : Int, m[j]? = some (.lst [.int a, .int b, .int c]) ∧ 0 ≤ a ∧ a < 2147483587 ∧ 0 ≤ b ∧ 0 ≤ c ∧ c ≤ K
theorem Jar.mono {j K K' : Nat} {m : Mem} (h : Jar j K m) (hK : K ≤ K') : Jar j K' m := by
  obtain ⟨a, b, c, h1, h2, h3, h4, h5, h6⟩ := h
  exact ⟨a, b, c, h1, h2, h3, h4, h5, by omega⟩
theorem Jar.ext {j K : Nat} {m m' : Mem} (h : Jar j K m) (he : Ext m m') : Jar j K m' := by
  obtain ⟨a, b, c, h1, h2⟩ := h
  exact ⟨a, b, c, he.at_ h1, h2⟩
theorem Jar.fr {j k K : Nat} {m m' : Mem} (h : Jar j K m) (hk : j ≠ k) (he : Fr k m m') : Jar j K m' := by
  obtain ⟨a, b, c, h1, h2⟩ := h
  exact ⟨a, b, c, he.at_ hk h1, h2⟩
theorem Jar.lt {j K : Nat} {m : Mem} (h : Jar j K m) : j < m.length := by
  obtain ⟨a, b, c, h1, h2⟩ := h
  exact (List.getElem?_eq_some_iff.mp h1).1
/-! rules for cells -/
theorem seq_ref {m : Mem} {j : Nat} {l : List D} (h : m[j]? = some (.lst l)) : seqOf m (.ref j) = some l := by
  show (match m[j]? with
      | some (.lst l) => some l
      | _ => none) = _
  rw [h]
theorem ok_ixR {m : Mem} {j : Nat} {l : List D} {k : Int} {d : D} {Q : D → Mem → Prop} (h : m[j]? = some (.lst l)) (hk : l[k.toNat]? = some d) (h0 : 0 ≤ k) (hQ : Q d m) : Ok (doM2 .ix (.ref j) (.int k)) m Q := by
  refine ⟨d, m, ?_, hQ⟩
  show ofO (match seqOf m (.ref j) with
    | some l => atI l k
    | none => none) m = _
  rw [seq_ref h]
  show ofO (atI l k) m = _
  have e := atI_nat hk
  rw [Int.toNat_of_nonneg h0] at e
  rw [e]
  rfl
theorem ok_sti {m : Mem} {j : Nat} {l : List D} {k : Int} {d : D} {Q : PUnit → Mem → Prop} (h : m[j]? = some (.lst l)) (h0 : 0 ≤ k) (hk : k.toNat < l.length) (hQ : Q ⟨⟩ (m.set j (.lst (l.set k.toNat d)))) : Ok (stiM (.ref j) (.int k) d) m Q := by
  refine ⟨⟨⟩, _, ?_, hQ⟩
  show (match m[j]? with
    | some (.lst l) => if 0 ≤ k ∧ k.toNat < l.length then Res.ok PUnit.unit (m.set j (.lst (l.set k.toNat d))) else .bad
    | _ => .bad) = _
  rw [h]
  exact if_pos ⟨h0, hk⟩
theorem ok_append {m : Mem} {j : Nat} {l : List D} {d : D} {Q : D → Mem → Prop} (h : m[j]? = some (.lst l)) (hk : l.length < LIM) (hQ : Q .non (m.set j (.lst (l ++ [d])))) : Ok (doM2 .append (.ref j) d) m Q := by
  refine ⟨.non, _, ?_, hQ⟩
  show (match m[j]? with
    | some (.lst l) => if l.length < LIM then Res.ok D.non (m.set j (.lst (l ++ [d]))) else .bad
    | _ => .bad) = _
  rw [h]
  exact if_pos hk
theorem ok_recvAp {m : Mem} {j : Nat} {l : List D} {Q : PUnit → Mem → Prop} (h : m[j]? = some (.lst l)) (hQ : Q ⟨⟩ m) : Ok (recvM .append (.ref j)) m Q := by
  refine ⟨⟨⟩, m, ?_, hQ⟩
  show (if (match m[j]? with
    | some (.lst _) => true
    | _ => false) = true then Res.ok PUnit.unit m else .bad) = _
  rw [h]
  rfl
theorem ok_new {m : Mem} {c : Cell} {Q : D → Mem → Prop} (hQ : Q (.ref m.length) (m ++ [c])) : Ok (newM c) m Q := ⟨_, _, rfl, hQ⟩
theorem ok_freeze {m : Mem} {j : Nat} {l : List D} {Q : D → Mem → Prop} (h : m[j]? = some (.lst l)) (hQ : Q (.lst l) (m.set j .dead)) : Ok (doM1 .freeze (.ref j)) m Q := by
  refine ⟨.lst l, _, ?_, hQ⟩
  show (match m[j]? with
    | some (.lst l) => Res.ok (D.lst l) (m.set j .dead)
    | some (.ins c ks vs) => .ok (D.ins c ks vs) (m.set j .dead)
    | _ => .bad) = _
  rw [h]
theorem ok_m1R {m : Mem} {o : O1} {j : Nat} {l : List D} {d : D} {Q : D → Mem → Prop} (h : m[j]? = some (.lst l)) (hd : ∀ e : D, do1 o (.ref j) m = some e → True) (ho : o = .tuple ∧ d = .tup l ∨ o = .list ∧ d = .lst l) (hQ : Q d m) : Ok (doM1 o (.ref j)) m Q := by
  refine ⟨d, m, ?_, hQ⟩
  have e := seq_ref h
  rcases ho with ⟨rfl, rfl⟩ | ⟨rfl, rfl⟩
  · show ofO ((seqOf m (.ref j)).map D.tup) m = _
    rw [e]; rfl
  · show ofO ((seqOf m (.ref j)).map D.lst) m = _
    rw [e]; rfl
theorem m2_mul {i j : Int} (h : i.natAbs < BIG ∧ j.natAbs < BIG) : doM2 .mul (.int i) (.int j) = M.pure (.int (i * j)) := by
  funext m
  show ofO (if i.natAbs < BIG ∧ j.natAbs < BIG then some (D.int (i * j)) else none) m = _
  rw [if_pos h]; rfl
theorem m2_fdiv {i j : Int} (h : 0 < j ∧ j.natAbs < BIG) : doM2 .fdiv (.int i) (.int j) = M.pure (.int (i / j)) := by
  funext m
  show ofO (if 0 < j ∧ j.natAbs < BIG then some (D.int (i / j)) else none) m = _
  rw [if_pos h]; rfl
theorem recvG (d : D) : recvM .gt d = M.pure ⟨⟩ := recv_ok rfl d
theorem recvGe (d : D) : recvM .ge d = M.pure ⟨⟩ := recv_ok rfl d
theorem recvL (d : D) : recvM .lt d = M.pure ⟨⟩ := recv_ok rfl d
theorem recvLe (d : D) : recvM .le d = M.pure ⟨⟩ := recv_ok rfl d
theorem recvNe (d : D) : recvM .ne d = M.pure ⟨⟩ := recv_ok rfl d
theorem recvMul (d : D) : recvM .mul d = M.pure ⟨⟩ := recv_ok rfl d
theorem recvFd (d : D) : recvM .fdiv d = M.pure ⟨⟩ := recv_ok rfl d
theorem recvSlT (d : D) : recvM .slT d = M.pure ⟨⟩ := recv_ok rfl d
theorem recvSlF (d : D) : recvM .slF d = M.pure ⟨⟩ := recv_ok rfl d
theorem recvNB (d : D) : recvM .notB d = M.pure ⟨⟩ := recv_ok rfl d
theorem recvIB (d : D) : recvM .isB d = M.pure ⟨⟩ := recv_ok rfl d
theorem recvMn (d : D) : recvM .min2 d = M.pure ⟨⟩ := recv_ok rfl d
theorem recvMx (d : D) : recvM .max2 d = M.pure ⟨⟩ := recv_ok rfl d
theorem recvAp1 (j : Nat) (d : D) : recvM .ix d = M.pure ⟨⟩ := recv_ok rfl d
theorem ix_nL {l : List D} {k : Nat} {d : D} (h : l[k]? = some d) : doM2 .ix (.lst l) (nI k) = M.pure d := m2_ixL h
theorem ix_nT {l : List D} {k : Nat} {d : D} (h : l[k]? = some d) : doM2 .ix (.tup l) (nI k) = M.pure d := m2_ixT h
theorem ixL_0 (a : D) (l : List D) : doM2 .ix (.lst (a :: l)) (.int 0) = M.pure a := m2_ixL (k := 0) rfl
theorem ixL_1 (a b : D) (l : List D) : doM2 .ix (.lst (a :: b :: l)) (.int 1) = M.pure b := m2_ixL (k := 1) rfl
theorem ixL_2 (a b c : D) (l : List D) : doM2 .ix (.lst (a :: b :: c :: l)) (.int 2) = M.pure c := m2_ixL (k := 2) rfl
theorem ixT_0 (a : D) (l : List D) : doM2 .ix (.tup (a :: l)) (.int 0) = M.pure a := m2_ixT (k := 0) rfl
theorem ixT_1 (a b : D) (l : List D) : doM2 .ix (.tup (a :: b :: l)) (.int 1) = M.pure b := m2_ixT (k := 1) rfl
theorem ixT_2 (a b c : D) (l : List D) : doM2 .ix (.tup (a :: b :: c :: l)) (.int 2) = M.pure c := m2_ixT (k := 2) rfl
theorem ixT_3 (a b c d : D) (l : List D) : doM2 .ix (.tup (a :: b :: c :: d :: l)) (.int 3) = M.pure d := m2_ixT (k := 3) rfl
/-- a draw -/
theorem draw {n j K : Nat} {m : Mem} {i : Int} (hJ : Jar j K m) (hK : K ≤ 10 ^ 20) (h0 : 0 < i) (hi : i < 1073741824) :
    Ok (run PT (n + 1) 5 [.ref j, .int i]) m fun d m' => ∃ r : Nat, d = nI r ∧ (r : Int) < i ∧ (∃ c, m' = m.set j c) ∧ Jar j (K + 1) m' := by
  obtain ⟨a, b, c, hc, ha0, ha1, hb0, hc0, hcK⟩ := hJ
  have hj : j < m.length := (List.getElem?_eq_some_iff.mp hc).1
  have hget : ∀ z : Cell, (m.set j z)[j]? = some z := fun z => by rw [List.getElem?_set_self hj]
  rw [run_s (fn := f5) rfl]
  try simp -implicitDefEqProofs only [runF, exs, ex, ev, evT, evI, evs, evAnd, evOr, evAndT, evOrT, QL.t3, QL.s3, QL.tr, bind_pure, bind_assoc, List.length_cons, List.length_nil, if_true, List.map_cons, List.map_nil, List.cons_append, List.nil_append, Nat.reduceAdd, Nat.reduceSub, List.replicate, getM_zero, getM_succ, items_tup, items_lst, List.set, ofO_some, compF, compF2, setT, setU, setAll, wipeE, truth_bl, nox_pure, f5, recvX, recvG, recvA, recvMul, recvM', recvFd]
  refine Ok.bind (ok_ixR (k := 1) hc rfl (by omega) ?_)
  try simp -implicitDefEqProofs only [runF, exs, ex, ev, evT, evI, evs, evAnd, evOr, evAndT, evOrT, QL.t3, QL.s3, QL.tr, bind_pure, bind_assoc, List.length_cons, List.length_nil, if_true, List.map_cons, List.map_nil, List.cons_append, List.nil_append, Nat.reduceAdd, Nat.reduceSub, List.replicate, getM_zero, getM_succ, items_tup, items_lst, List.set, ofO_some, compF, compF2, setT, setU, setAll, wipeE, truth_bl, nox_pure, m2_gt]
  by_cases hb : 0 < b
  · try simp -implicitDefEqProofs only [runF, exs, ex, ev, evT, evI, evs, evAnd, evOr, evAndT, evOrT, QL.t3, QL.s3, QL.tr, bind_pure, bind_assoc, List.length_cons, List.length_nil, if_true, List.map_cons, List.map_nil, List.cons_append, List.nil_append, Nat.reduceAdd, Nat.reduceSub, List.replicate, getM_zero, getM_succ, items_tup, items_lst, List.set, ofO_some, compF, compF2, setT, setU, setAll, wipeE, truth_bl, nox_pure, decide_eq_true hb]
    refine Ok.bind (ok_ixR (k := 1) hc rfl (by omega) ?_)
    have e : do2 .divmod (.int b) (.int i) [] = some (.tup [.int (b / i), .int (b % i)]) := by
      show (if 0 < i ∧ i < 1073741824 then some (D.tup [.int (b / i), .int (b % i)]) else none) = _
      rw [if_pos ⟨h0, hi⟩]
    try simp -implicitDefEqProofs only [runF, exs, ex, ev, evT, evI, evs, evAnd, evOr, evAndT, evOrT, QL.t3, QL.s3, QL.tr, bind_pure, bind_assoc, List.length_cons, List.length_nil, if_true, List.map_cons, List.map_nil, List.cons_append, List.nil_append, Nat.reduceAdd, Nat.reduceSub, List.replicate, getM_zero, getM_succ, items_tup, items_lst, List.set, ofO_some, compF, compF2, setT, setU, setAll, wipeE, truth_bl, nox_pure, e]
    refine Ok.bind (ok_sti (k := 1) hc (by omega) (by simp) ?_)
    have hm : 0 ≤ b % i := Int.emod_nonneg _ (by omega)
    refine Ok.pure ⟨(b % i).toNat, ?_, ?_, ⟨_, rfl⟩, a, b / i, c, hget _, ha0, ha1, Int.ediv_nonneg hb0 (by omega), hc0, by omega⟩
    · unfold nI; rw [Int.toNat_of_nonneg hm]
    · rw [Int.toNat_of_nonneg hm]; exact Int.emod_lt_of_pos _ h0
  · try simp -implicitDefEqProofs only [runF, exs, ex, ev, evT, evI, evs, evAnd, evOr, evAndT, evOrT, QL.t3, QL.s3, QL.tr, bind_pure, bind_assoc, List.length_cons, List.length_nil, if_true, List.map_cons, List.map_nil, List.cons_append, List.nil_append, Nat.reduceAdd, Nat.reduceSub, List.replicate, getM_zero, getM_succ, items_tup, items_lst, List.set, ofO_some, compF, compF2, setT, setU, setAll, wipeE, truth_bl, nox_pure, decide_eq_false hb, Bool.false_eq_true, if_false]
    refine Ok.bind (ok_ixR (k := 2) hc rfl (by omega) ?_)
    try simp -implicitDefEqProofs only [runF, exs, ex, ev, evT, evI, evs, evAnd, evOr, evAndT, evOrT, QL.t3, QL.s3, QL.tr, bind_pure, bind_assoc, List.length_cons, List.length_nil, if_true, List.map_cons, List.map_nil, List.cons_append, List.nil_append, Nat.reduceAdd, Nat.reduceSub, List.replicate, getM_zero, getM_succ, items_tup, items_lst, List.set, ofO_some, compF, compF2, setT, setU, setAll, wipeE, truth_bl, nox_pure, m2_add]
    refine Ok.bind (ok_sti (k := 2) hc (by omega) (by simp) ?_)
    have hc1 := hget (.lst ([D.int a, D.int b, D.int c].set (2 : Int).toNat (D.int (c + 1))))
    refine Ok.bind (ok_ixR (k := 0) hc1 rfl (by omega) ?_)
    have hB : ∀ x : Int, 0 ≤ x → x ≤ 10 ^ 30 → x.natAbs < BIG := fun x h1 h2 => by
      have : (10 ^ 30 : Nat) < BIG := by decide
      have h3 : (x.natAbs : Int) ≤ 10 ^ 30 := by omega
      have h4 : x.natAbs ≤ 10 ^ 30 := by exact_mod_cast h3
      omega
    rw [m2_mul ⟨hB a ha0 (by omega), by decide⟩, bind_pure]
    refine Ok.bind (ok_ixR (k := 2) hc1 rfl (by omega) ?_)
    refine Ok.bind (ok_ixR (k := 2) hc1 rfl (by omega) ?_)
    have hcc : c + 1 ≤ 10 ^ 21 := by omega
    rw [m2_mul ⟨hB _ (by omega) (by omega), hB _ (by omega) (by omega)⟩, bind_pure]
    have hcm : (c + 1) * (c + 1) ≤ 10 ^ 21 * 10 ^ 21 := Int.mul_le_mul hcc hcc (by omega) (by omega)
    have hcn : 0 ≤ (c + 1) * (c + 1) := Int.mul_nonneg (by omega) (by omega)
    rw [m2_mul ⟨by
      have : (10 ^ 42 : Nat) < BIG := by decide
      have h3 : (((c + 1) * (c + 1)).natAbs : Int) ≤ 10 ^ 42 := by omega
      have h4 : ((c + 1) * (c + 1)).natAbs ≤ 10 ^ 42 := by exact_mod_cast h3
      omega, by decide⟩, bind_pure]
    try simp -implicitDefEqProofs only [runF, exs, ex, ev, evT, evI, evs, evAnd, evOr, evAndT, evOrT, QL.t3, QL.s3, QL.tr, bind_pure, bind_assoc, List.length_cons, List.length_nil, if_true, List.map_cons, List.map_nil, List.cons_append, List.nil_append, Nat.reduceAdd, Nat.reduceSub, List.replicate, getM_zero, getM_succ, items_tup, items_lst, List.set, ofO_some, compF, compF2, setT, setU, setAll, wipeE, truth_bl, nox_pure, m2_add, m1_int, m2_mod (show (0 : Int) < 2147483587 by omega)]
    refine Ok.bind (ok_sti (k := 0) hc1 (by omega) (by simp) ?_)
    generalize hv : (a * 40459 + (c + 1) * (c + 1) * 29 + 1013) % 2147483587 = v
    have hv0 : 0 ≤ v := by rw [← hv]; exact Int.emod_nonneg _ (by omega)
    have hv1 : v < 2147483587 := by rw [← hv]; exact Int.emod_lt_of_pos _ (by omega)
    have hget2 : ∀ z : Cell, ((m.set j (.lst ([D.int a, D.int b, D.int c].set (2 : Int).toNat (D.int (c + 1))))).set j z)[j]? = some z := fun z => by rw [List.getElem?_set_self (by simpa using hj)]
    refine Ok.bind (ok_ixR (k := 0) (hget2 _) rfl (by omega) ?_)
    try simp -implicitDefEqProofs only [runF, exs, ex, ev, evT, evI, evs, evAnd, evOr, evAndT, evOrT, QL.t3, QL.s3, QL.tr, bind_pure, bind_assoc, List.length_cons, List.length_nil, if_true, List.map_cons, List.map_nil, List.cons_append, List.nil_append, Nat.reduceAdd, Nat.reduceSub, List.replicate, getM_zero, getM_succ, items_tup, items_lst, List.set, ofO_some, compF, compF2, setT, setU, setAll, wipeE, truth_bl, nox_pure, m1_int]
    rw [m2_fdiv ⟨by omega, by decide⟩, bind_pure, m1_int, bind_pure, m2_mod h0, bind_pure]
    have hm : 0 ≤ v / 89 % i := Int.emod_nonneg _ (by omega)
    refine Ok.pure ⟨(v / 89 % i).toNat, ?_, ?_, ⟨_, List.set_set _⟩, v, b, c + 1, hget2 _, hv0, hv1, hb0, by omega, by omega⟩
    · unfold nI; rw [Int.toNat_of_nonneg hm]
    · rw [Int.toNat_of_nonneg hm]; exact Int.emod_lt_of_pos _ h0
end QV
end
section
set_option linter.all false
set_option maxRecDepth 100000
set_option autoImplicit false
/-! QJ: drawn names. -/
namespace QV
open PySem QL QP
def letB (c : Nat) : Bool := decide (97 ≤ c) && decide (c ≤ 122)
def sigB (c : Nat) : Bool := letB c || (decide (48 ≤ c) && decide (c ≤ 57))
def nameL : List Nat → Bool
  | [] => false
  | c :: r => letB c && (r.all sigB && decide (r.length ≤ 7))
def Name (w : Str) : Prop := nameL w.cps.toList = true
theorem sigB_of {c : Nat} (h : letB c = true) : sigB c = true := by unfold sigB; rw [h]; rfl
theorem Name.all {w : Str} (h : Name w) : w.cps.toList.all sigB = true := by
  unfold Name at h
  revert h
  cases w.cps.toList with
  | nil => intro h; cases h
  | cons c r =>
    intro h
    simp only [nameL, Bool.and_eq_true] at h
    simp only [List.all_cons, Bool.and_eq_true]
    exact ⟨sigB_of h.1, h.2.1⟩
theorem sig_lt {c : Nat} (h : sigB c = true) : 48 ≤ c ∧ c ≤ 122 := by
  unfold sigB letB at h
  simp only [Bool.or_eq_true, Bool.and_eq_true, decide_eq_true_eq] at h
  omega
theorem strOk_of {w : Str} (h : ∀ c ∈ w.cps.toList, c < 256) : PyData.strOk w = true := by
  unfold PyData.strOk
  rw [← Array.all_toList, List.all_eq_true]
  intro c hc
  have := h c hc
  exact decide_eq_true (by omega)
theorem Name.sig {w : Str} (h : Name w) : ∀ c ∈ w.cps.toList, 48 ≤ c ∧ c ≤ 122 := fun c hc => sig_lt (List.all_eq_true.mp h.all c hc)
theorem Name.ok {w : Str} (h : Name w) : PyData.strOk w = true := strOk_of fun c hc => by have := h.sig c hc; omega
theorem Name.len {w : Str} (h : Name w) : w.length ≤ 8 := by
  unfold Name at h
  show w.cps.size ≤ 8
  rw [← Array.length_toList]
  revert h
  cases w.cps.toList with
  | nil => intro h; cases h
  | cons c r =>
    intro h
    simp only [nameL, Bool.and_eq_true, decide_eq_true_eq] at h
    simp only [List.length_cons]
    omega
def sgn : List Nat := [97, 98, 99, 100, 101, 102, 103, 104, 105, 106, 107, 108, 109, 110, 111, 112, 113, 114, 115, 116, 117, 118, 119, 120, 121, 122, 48, 49, 50, 51, 52, 53, 54, 55, 56, 57]
theorem sgn_str : (("abcdefghijklmnopqrstuvwxyz0123456789" : Str)).cps.toList = sgn := by decide +kernel
theorem ix_str {x : Str} {l : List Nat} {r : Nat} {c : Nat} (hx : x.cps.toList = l) (hl : l.length ≤ LIM) (hr : l[r]? = some c) : doM2 .ix (.str x) (nI r) = M.pure (.str ⟨#[c]⟩) := by
  have h1 : x.length = l.length := by show x.cps.size = _; rw [← Array.length_toList, hx]
  have h2 := (List.getElem?_eq_some_iff.mp hr).1
  funext m
  show ofO (if x.length ≤ LIM then (match ixN x.cps.toList.length (r : Int) with
    | some j => (x.cps.toList[j]?).map fun c => D.str ⟨#[c]⟩
    | none => none) else none) m = _
  rw [if_pos (by omega), hx]
  have : ixN l.length (r : Int) = some r := by
    unfold ixN
    rw [if_pos (by omega), if_pos (by omega), Int.toNat_natCast]
  rw [this]
  show ofO ((l[r]?).map fun c => D.str ⟨#[c]⟩) m = _
  rw [hr]
  rfl
theorem ix_sgn {r : Nat} (h : r < 36) : ∃ c, doM2 .ix (.str "abcdefghijklmnopqrstuvwxyz0123456789") (nI r) = M.pure (.str ⟨#[c]⟩) ∧ sigB c = true ∧ (r < 26 → letB c = true) := by
  have hr : r < sgn.length := h
  refine ⟨sgn[r], ix_str sgn_str (by decide) (List.getElem?_eq_getElem hr), ?_, ?_⟩
  · exact (by decide : ∀ r, (h : r < sgn.length) → sigB sgn[r] = true) r hr
  · exact (by decide : ∀ r, (h : r < sgn.length) → r < 26 → letB sgn[r] = true) r hr
theorem nb_str {w : Str} (h : PyData.strOk w = true) : nb (.str w) = true := h
theorem nbs_str : ∀ {ws : List Str}, (∀ w ∈ ws, PyData.strOk w = true) → nbs (ws.map .str) = true
  | [], _ => rfl
  | w :: r, h => by
    show (PyData.strOk w && nbs (r.map .str)) = true
    rw [h w List.mem_cons_self, nbs_str fun x hx => h x (List.mem_cons_of_mem _ hx)]
    rfl
theorem dpts_str : ∀ ws : List Str, dpts (ws.map .str) = 0
  | [] => rfl
  | w :: r => by show max (dpt (.str w)) (dpts (r.map .str)) = 0; rw [dpts_str r]; rfl
theorem str_mem {w : Str} {ws : List Str} : D.str w ∈ ws.map D.str ↔ w ∈ ws := by
  rw [List.mem_map]
  constructor
  · rintro ⟨a, ha, e⟩
    injection e with e
    exact e ▸ ha
  · exact fun h => ⟨w, h, rfl⟩
theorem inD_str {w : Str} {ws : List Str} (hw : PyData.strOk w = true) (h : ∀ w ∈ ws, PyData.strOk w = true) : inD (.str w) (ws.map .str) = some (decide (w ∈ ws)) := by
  rw [inD_is (nb_str hw) (nbs_str h) (by show (0 : Nat) ≤ 64; omega) (by rw [dpts_str]; omega)]
  congr 1
  exact decide_eq_decide.mpr str_mem
theorem ok_inR {m : Mem} {j : Nat} {w : Str} {ws : List Str} {Q : D → Mem → Prop} (h : m[j]? = some (.lst (ws.map .str))) (hw : PyData.strOk w = true) (hws : ∀ w ∈ ws, PyData.strOk w = true) (hQ : Q (.bl (decide (w ∈ ws))) m) : Ok (doM2 .isIn (.str w) (.ref j)) m Q := by
  refine ⟨_, m, ?_, hQ⟩
  show ofO (match seqOf m (.ref j) with
    | some l => (inD (.str w) l).map D.bl
    | none => none) m = _
  rw [seq_ref h]
  show ofO ((inD (.str w) (ws.map .str)).map D.bl) m = _
  rw [inD_str hw hws]
  rfl
theorem ok_notInR {m : Mem} {j : Nat} {w : Str} {ws : List Str} {Q : D → Mem → Prop} (h : m[j]? = some (.lst (ws.map .str))) (hw : PyData.strOk w = true) (hws : ∀ w ∈ ws, PyData.strOk w = true) (hQ : Q (.bl (!decide (w ∈ ws))) m) : Ok (doM2 .notIn (.str w) (.ref j)) m Q := by
  refine ⟨_, m, ?_, hQ⟩
  show ofO (match seqOf m (.ref j) with
    | some l => (inD (.str w) l).map fun c => D.bl (!c)
    | none => none) m = _
  rw [seq_ref h]
  show ofO ((inD (.str w) (ws.map .str)).map fun c => D.bl (!c)) m = _
  rw [inD_str hw hws]
  rfl
/-- the spare words -/
def spare (k : Nat) : Str := ("u" : Str) ++ ((toString (k : Int) : String) : Str)
theorem spare_codes : ∀ k, k < 8 → (spare k).cps.toList = [117, 48 + k] := by decide +kernel
theorem spare_name {k : Nat} (h : k < 8) : Name (spare k) := by
  unfold Name
  rw [spare_codes k h]
  simp [nameL, letB, sigB]
  omega
theorem spare_inj {a b : Nat} (ha : a < 8) (hb : b < 8) (h : spare a = spare b) : a = b := by
  have := congrArg (fun w : Str => w.cps.toList) h
  simp only [spare_codes a ha, spare_codes b hb] at this
  simp at this
  omega
theorem m1_strN {k : Nat} (h : k < 8) : doM1 .str (nI k) = M.pure (.str ((toString (k : Int) : String) : Str)) := by
  funext m
  show ofO (if (k : Int).natAbs.log2 < 1920 then some (D.str ((toString (k : Int) : String) : Str)) else none) m = _
  rw [if_pos (by rw [Int.natAbs_natCast]; exact (by decide : ∀ k, k < 8 → k.log2 < 1920) k h)]
  rfl
theorem m2_addS {x y : Str} (h : x.length + y.length ≤ LIM) : doM2 .add (.str x) (.str y) = M.pure (.str (x ++ y)) := by
  funext m
  show ofO (if x.length + y.length ≤ LIM then some (D.str (x ++ y)) else none) m = _
  rw [if_pos h]
  rfl
theorem cps_app (x y : Str) : (x ++ y).cps.toList = x.cps.toList ++ y.cps.toList := by
  show (x.cps ++ y.cps).toList = _
  rw [Array.toList_append]
theorem len_cps (x : Str) : x.length = x.cps.toList.length := by show x.cps.size = _; rw [Array.length_toList]
theorem sub_len {α : Type} [DecidableEq α] : ∀ {l k : List α}, l.Nodup → (∀ x ∈ l, x ∈ k) → l.length ≤ k.length
  | [], _, _, _ => Nat.zero_le _
  | a :: l, k, nd, h => by
    obtain ⟨n1, n2⟩ := List.nodup_cons.mp nd
    have ha := h a List.mem_cons_self
    have := sub_len (l := l) (k := k.erase a) n2 fun x hx => (List.mem_erase_of_ne (show x ≠ a from fun z => n1 (z ▸ hx))).mpr (h x (List.mem_cons_of_mem _ hx))
    have e := List.length_erase_of_mem ha
    have := List.length_pos_of_mem ha
    simp only [List.length_cons]
    omega
/-- some spare word is a new one -/
theorem spare_new {size : Nat} {found : List Str} (hs : size < 8) (hf : found.length ≤ size) : ∃ k r, k ≤ size ∧ spare k ∉ found ∧ ((List.range (size + 1)).filter fun k => !decide (spare k ∈ found)) = k :: r := by
  have h : ((List.range (size + 1)).filter fun k => !decide (spare k ∈ found)) ≠ [] := fun e => by
    have h1 : ∀ k, k < size + 1 → spare k ∈ found := fun k hk => by
      refine Classical.byContradiction fun z => ?_
      have : k ∈ ((List.range (size + 1)).filter fun k => !decide (spare k ∈ found)) := List.mem_filter.mpr ⟨List.mem_range.mpr hk, by rw [decide_eq_false z]; rfl⟩
      rw [e] at this
      cases this
    have h2 : ((List.range (size + 1)).map spare).Nodup := by
      rw [List.nodup_iff_pairwise_ne, List.pairwise_map]
      refine (List.nodup_range (n := size + 1)).imp_of_mem fun {a b} ha hb hab e => hab (spare_inj ?_ ?_ e)
      · have := List.mem_range.mp ha; omega
      · have := List.mem_range.mp hb; omega
    have h3 : ((List.range (size + 1)).map spare).length ≤ found.length := sub_len h2 (fun w hw => by
      obtain ⟨k, hk, rfl⟩ := List.mem_map.mp hw
      exact h1 k (List.mem_range.mp hk))
    simp at h3
    omega
  obtain ⟨k, r, e⟩ := List.exists_cons_of_ne_nil h
  have hk : k ∈ ((List.range (size + 1)).filter fun k => !decide (spare k ∈ found)) := by rw [e]; exact List.mem_cons_self
  obtain ⟨h1, h2⟩ := List.mem_filter.mp hk
  refine ⟨k, r, by have := List.mem_range.mp h1; omega, ?_, e⟩
  simpa using h2
def menuL : List Str := ["kinds", "tie", "over", "left", "meet", "always", "least", "without"]
theorem menu_name : ∀ w ∈ menuL, Name w := by
  have : menuL.all (fun w => nameL w.cps.toList) = true := by decide +kernel
  exact fun w hw => List.all_eq_true.mp this w hw
end QV
end
section
set_option linter.all false
set_option maxRecDepth 100000
set_option autoImplicit false
/-! QJ2: drawn names: the def. -/
namespace QV
open PySem QL QP
theorem rangeM_int {i : Int} (h0 : 0 ≤ i) (h1 : i ≤ 1000000000) : rangeM 0 i = M.pure ((List.range i.toNat).map nI) := by
  have := rangeM_nat (q := i.toNat) (by omega)
  rw [Int.toNat_of_nonneg h0] at this
  exact this
theorem okF {f : D → M (Option D)} {p : Nat → Bool} {g : Nat → D} {xs : List Nat} {m : Mem} {Q : List D → Mem → Prop} (h : ∀ x ∈ xs, Ok (f (nI x)) m fun o m' => m' = m ∧ o = if p x = true then some (g x) else none) (hQ : Q ((xs.filter p).map g) m) : Ok (compL f (xs.map nI)) m Q := by
  refine Ok.compL (c := nI) (fun pre acc m' => m' = m ∧ acc = (pre.filter p).map g) ⟨rfl, rfl⟩ ?_ ?_
  · rintro pre x post acc m' e ⟨rfl, rfl⟩
    refine (h x (by rw [e]; simp)).mono ?_
    rintro o m1 ⟨rfl, rfl⟩
    refine ⟨rfl, ?_⟩
    rw [List.filter_append, List.filter_cons]
    by_cases hp : p x = true
    · simp [hp]
    · simp [hp]
  · rintro l m' ⟨rfl, rfl⟩
    exact hQ
theorem m2_addN (i : Int) (r : Nat) : doM2 .add (.int i) (nI r) = M.pure (.int (i + r)) := rfl
theorem lsto2 (a b : D) : lstO [a, b] = some (.lst [a, b]) := rfl
theorem lsto8 (a b c d e f g h : D) : lstO [a, b, c, d, e, f, g, h] = some (.lst [a, b, c, d, e, f, g, h]) := rfl
theorem lsto1 (a : D) : lstO [a] = some (.lst [a]) := rfl
theorem lsto0 : lstO [] = some (.lst []) := rfl
theorem lsto4 (a b c d : D) : lstO [a, b, c, d] = some (.lst [a, b, c, d]) := rfl
theorem new_words {n j K size : Nat} {m : Mem} (hJ : Jar j K m) (hK : K + 200 ≤ 10 ^ 20) (hs : size ≤ 6) :
    Ok (run PT (n + 2) 4 [.ref j, .int size]) m fun d m' => ∃ ws : List Str, d = .lst (ws.map .str) ∧ ws.length = size ∧ ws.Nodup ∧ (∀ w ∈ ws, Name w) ∧ Fr j m m' ∧ Jar j (K + 20 * size) m' := by
  have hlim : 1000 ≤ LIM := by decide
  rw [run_s (fn := f4) rfl]
  try simp -implicitDefEqProofs only [runF, exs, ex, ev, evT, evI, evs, evAnd, evOr, evAndT, evOrT, QL.t3, QL.s3, QL.tr, bind_pure, bind_assoc, List.length_cons, List.length_nil, if_true, List.map_cons, List.map_nil, List.cons_append, List.nil_append, Nat.reduceAdd, Nat.reduceSub, List.replicate, getM_zero, getM_succ, items_tup, items_lst, List.set, ofO_some, compF, compF2, setT, setU, setAll, wipeE, truth_bl, nox_pure, f4, recvX, recvA, recvS, recvE, recvI, recvNI, lsto4, tup2, m2_add]
  rw [lstO_ok (by decide), ofO_some, bind_pure]
  refine Ok.bind (ok_new ?_)
  try simp -implicitDefEqProofs only [runF, exs, ex, ev, evT, evI, evs, evAnd, evOr, evAndT, evOrT, QL.t3, QL.s3, QL.tr, bind_pure, bind_assoc, List.length_cons, List.length_nil, if_true, List.map_cons, List.map_nil, List.cons_append, List.nil_append, Nat.reduceAdd, Nat.reduceSub, List.replicate, getM_zero, getM_succ, items_tup, items_lst, List.set, ofO_some, compF, compF2, setT, setU, setAll, wipeE, truth_bl, nox_pure, tup2, m2_add]
  rw [rangeM_int (i := (size : Int) + 1) (by omega) (by omega)]
  rw [show ((size : Int) + 1).toNat = size + 1 by omega]
  try simp -implicitDefEqProofs only [runF, exs, ex, ev, evT, evI, evs, evAnd, evOr, evAndT, evOrT, QL.t3, QL.s3, QL.tr, bind_pure, bind_assoc, List.length_cons, List.length_nil, if_true, List.map_cons, List.map_nil, List.cons_append, List.nil_append, Nat.reduceAdd, Nat.reduceSub, List.replicate, getM_zero, getM_succ, items_tup, items_lst, List.set, ofO_some, compF, compF2, setT, setU, setAll, wipeE, truth_bl, nox_pure]
  rw [lim_ok (by simp; omega), bind_pure, compL_map (c := nI) (g := fun k => .str (spare k))]
  rotate_left
  · intro k hk
    have hk8 : k < 8 := by have := List.mem_range.mp hk; omega
    try simp -implicitDefEqProofs only [runF, exs, ex, ev, evT, evI, evs, evAnd, evOr, evAndT, evOrT, QL.t3, QL.s3, QL.tr, bind_pure, bind_assoc, List.length_cons, List.length_nil, if_true, List.map_cons, List.map_nil, List.cons_append, List.nil_append, Nat.reduceAdd, Nat.reduceSub, List.replicate, getM_zero, getM_succ, items_tup, items_lst, List.set, ofO_some, compF, compF2, setT, setU, setAll, wipeE, truth_bl, nox_pure, m1_strN hk8]
    have h3 : (("u" : Str)).length = 1 := by decide +kernel
    have h4 : ∀ k : Nat, k < 8 → (((toString (k : Int) : String) : Str)).length = 1 := by decide +kernel
    rw [m2_addS (by rw [h3, h4 k hk8]; omega)]
    rfl
  try simp -implicitDefEqProofs only [runF, exs, ex, ev, evT, evI, evs, evAnd, evOr, evAndT, evOrT, QL.t3, QL.s3, QL.tr, bind_pure, bind_assoc, List.length_cons, List.length_nil, if_true, List.map_cons, List.map_nil, List.cons_append, List.nil_append, Nat.reduceAdd, Nat.reduceSub, List.replicate, getM_zero, getM_succ, items_tup, items_lst, List.set, ofO_some, compF, compF2, setT, setU, setAll, wipeE, truth_bl, nox_pure, lsto8]
  rw [rangeM_nat (by omega)]
  try simp -implicitDefEqProofs only [runF, exs, ex, ev, evT, evI, evs, evAnd, evOr, evAndT, evOrT, QL.t3, QL.s3, QL.tr, bind_pure, bind_assoc, List.length_cons, List.length_nil, if_true, List.map_cons, List.map_nil, List.cons_append, List.nil_append, Nat.reduceAdd, Nat.reduceSub, List.replicate, getM_zero, getM_succ, items_tup, items_lst, List.set, ofO_some, compF, compF2, setT, setU, setAll, wipeE, truth_bl, nox_pure]
  refine Ok.bind (Ok.forL (c := nI) (fun pre ρ m' => ∃ (ws : List Str) (t1 t2 t3 t4 t5 : Option D), ρ = [some (D.ref j), some (D.int ↑size), some (D.str "abcdefghijklmnopqrstuvwxyz0123456789"),
                  some (D.ref m.length), some (D.lst (List.map (fun k => D.str (spare k)) (List.range (size + 1)))), t1, some (.lst (menuL.map .str)), t2, t3, t4, t5, none] ∧ ws.length = pre.length ∧ ws.Nodup ∧ (∀ w ∈ ws, Name w) ∧ m'[m.length]? = some (.lst (ws.map .str)) ∧ Fr j m m' ∧ Jar j (K + 20 * pre.length) m') ?_ ?_ ?_)
  · exact ⟨[], none, none, none, none, none, rfl, rfl, List.nodup_nil, (fun _ h => by cases h), by simp, Fr.app j m _, hJ.ext (Ext.app m _)⟩
  · rintro pre x post ρ m1 e ⟨ws, t1, t2, t3, t4, t5, rfl, hl, nd, hn, hc, hf, hj⟩
    have hx : pre.length < size := by
      have := congrArg List.length e
      simp at this
      omega
    have hjl := hJ.lt
    try simp -implicitDefEqProofs only [runF, exs, ex, ev, evT, evI, evs, evAnd, evOr, evAndT, evOrT, QL.t3, QL.s3, QL.tr, bind_pure, bind_assoc, List.length_cons, List.length_nil, if_true, List.map_cons, List.map_nil, List.cons_append, List.nil_append, Nat.reduceAdd, Nat.reduceSub, List.replicate, getM_zero, getM_succ, items_tup, items_lst, List.set, ofO_some, compF, compF2, setT, setU, setAll, wipeE, truth_bl, nox_pure]
    refine Ok.seq (draw hj (by omega) (by omega) (by omega)) ?_
    rintro _ m2 ⟨r1, rfl, hr1, ⟨c2, e2⟩, hj2⟩
    obtain ⟨s1, es1, hs1, hs2⟩ := ix_sgn (r := r1) (by omega)
    try simp -implicitDefEqProofs only [runF, exs, ex, ev, evT, evI, evs, evAnd, evOr, evAndT, evOrT, QL.t3, QL.s3, QL.tr, bind_pure, bind_assoc, List.length_cons, List.length_nil, if_true, List.map_cons, List.map_nil, List.cons_append, List.nil_append, Nat.reduceAdd, Nat.reduceSub, List.replicate, getM_zero, getM_succ, items_tup, items_lst, List.set, ofO_some, compF, compF2, setT, setU, setAll, wipeE, truth_bl, nox_pure, es1]
    refine Ok.seq (draw hj2 (by omega) (by omega) (by omega)) ?_
    rintro _ m3 ⟨r2, rfl, hr2, ⟨c3, e3⟩, hj3⟩
    try simp -implicitDefEqProofs only [runF, exs, ex, ev, evT, evI, evs, evAnd, evOr, evAndT, evOrT, QL.t3, QL.s3, QL.tr, bind_pure, bind_assoc, List.length_cons, List.length_nil, if_true, List.map_cons, List.map_nil, List.cons_append, List.nil_append, Nat.reduceAdd, Nat.reduceSub, List.replicate, getM_zero, getM_succ, items_tup, items_lst, List.set, ofO_some, compF, compF2, setT, setU, setAll, wipeE, truth_bl, nox_pure, m2_addN]
    refine Ok.seq (draw hj3 (by omega) (by omega) (by omega)) ?_
    rintro _ m4 ⟨r3, rfl, hr3, ⟨c4, e4⟩, hj4⟩
    try simp -implicitDefEqProofs only [runF, exs, ex, ev, evT, evI, evs, evAnd, evOr, evAndT, evOrT, QL.t3, QL.s3, QL.tr, bind_pure, bind_assoc, List.length_cons, List.length_nil, if_true, List.map_cons, List.map_nil, List.cons_append, List.nil_append, Nat.reduceAdd, Nat.reduceSub, List.replicate, getM_zero, getM_succ, items_tup, items_lst, List.set, ofO_some, compF, compF2, setT, setU, setAll, wipeE, truth_bl, nox_pure, m2_addN, lsto4]
    refine Ok.seq (draw hj4 (by omega) (by omega) (by omega)) ?_
    rintro _ m5 ⟨r4, rfl, hr4, ⟨c5, e5⟩, hj5⟩
    have hq : ∃ q : Nat, q ≤ 7 ∧ doM2 .ix (.lst [.int 1, .int 1, .int (1 + r2), .int (1 + r3)]) (nI r4) = M.pure (.int (q + 1)) := by
      have : r4 < 4 := by omega
      match r4, this with
      | 0, _ => exact ⟨0, by omega, m2_ixL rfl⟩
      | 1, _ => exact ⟨0, by omega, m2_ixL rfl⟩
      | 2, _ => exact ⟨r2, by omega, by rw [Int.add_comm (r2 : Int) 1]; exact m2_ixL rfl⟩
      | 3, _ => exact ⟨r3, by omega, by rw [Int.add_comm (r3 : Int) 1]; exact m2_ixL rfl⟩
    obtain ⟨q, hq7, hq⟩ := hq
    try simp -implicitDefEqProofs only [runF, exs, ex, ev, evT, evI, evs, evAnd, evOr, evAndT, evOrT, QL.t3, QL.s3, QL.tr, bind_pure, bind_assoc, List.length_cons, List.length_nil, if_true, List.map_cons, List.map_nil, List.cons_append, List.nil_append, Nat.reduceAdd, Nat.reduceSub, List.replicate, getM_zero, getM_succ, items_tup, items_lst, List.set, ofO_some, compF, compF2, setT, setU, setAll, wipeE, truth_bl, nox_pure, hq, m2_sub]
    rw [show (q : Int) + 1 - 1 = q by omega, rangeM_nat (by omega)]
    try simp -implicitDefEqProofs only [runF, exs, ex, ev, evT, evI, evs, evAnd, evOr, evAndT, evOrT, QL.t3, QL.s3, QL.tr, bind_pure, bind_assoc, List.length_cons, List.length_nil, if_true, List.map_cons, List.map_nil, List.cons_append, List.nil_append, Nat.reduceAdd, Nat.reduceSub, List.replicate, getM_zero, getM_succ, items_tup, items_lst, List.set, ofO_some, compF, compF2, setT, setU, setAll, wipeE, truth_bl, nox_pure]
    have hc5 : m5[m.length]? = some (.lst (ws.map .str)) := by
      rw [e5, List.getElem?_set_ne (by omega), e4, List.getElem?_set_ne (by omega), e3, List.getElem?_set_ne (by omega), e2, List.getElem?_set_ne (by omega)]
      exact hc
    have hf5 : Fr j m m5 := by
      rw [e5, e4, e3, e2]
      exact (((hf.trans (Fr.set _ _ _)).trans (Fr.set _ _ _)).trans (Fr.set _ _ _)).trans (Fr.set _ _ _)
    refine Ok.bind (Ok.forL (c := nI) (fun pre2 ρ m' => ∃ (w : Str) (t5 : Option D), ρ = [some (D.ref j), some (D.int ↑size), some (D.str "abcdefghijklmnopqrstuvwxyz0123456789"),
                  some (D.ref m.length), some (D.lst (List.map (fun k => D.str (spare k)) (List.range (size + 1)))), t1, some (.lst (menuL.map .str)), some (nI x), some (.str w), some (.int (q + 1)), t5, none] ∧ Name w ∧ w.cps.toList.length = pre2.length + 1 ∧ m'[m.length]? = some (.lst (ws.map .str)) ∧ Fr j m m' ∧ Jar j (K + 20 * pre.length + 4 + pre2.length) m') ?_ ?_ ?_)
    · exact ⟨⟨#[s1]⟩, t5, rfl, by simp [Name, nameL, hs2 (by omega)], rfl, hc5, hf5, hj5⟩
    · rintro pre2 x2 post2 ρ m6 e6 ⟨w, t5, rfl, hw, hwl, hc6, hf6, hj6⟩
      have hx2 : pre2.length < q := by
        have := congrArg List.length e6
        simp at this
        omega
      try simp -implicitDefEqProofs only [runF, exs, ex, ev, evT, evI, evs, evAnd, evOr, evAndT, evOrT, QL.t3, QL.s3, QL.tr, bind_pure, bind_assoc, List.length_cons, List.length_nil, if_true, List.map_cons, List.map_nil, List.cons_append, List.nil_append, Nat.reduceAdd, Nat.reduceSub, List.replicate, getM_zero, getM_succ, items_tup, items_lst, List.set, ofO_some, compF, compF2, setT, setU, setAll, wipeE, truth_bl, nox_pure]
      refine Ok.seq (draw hj6 (by omega) (by omega) (by omega)) ?_
      rintro _ m7 ⟨r5, rfl, hr5, ⟨c7, e7⟩, hj7⟩
      obtain ⟨s2, es2, hs3, hs4⟩ := ix_sgn (r := r5) (by omega)
      try simp -implicitDefEqProofs only [runF, exs, ex, ev, evT, evI, evs, evAnd, evOr, evAndT, evOrT, QL.t3, QL.s3, QL.tr, bind_pure, bind_assoc, List.length_cons, List.length_nil, if_true, List.map_cons, List.map_nil, List.cons_append, List.nil_append, Nat.reduceAdd, Nat.reduceSub, List.replicate, getM_zero, getM_succ, items_tup, items_lst, List.set, ofO_some, compF, compF2, setT, setU, setAll, wipeE, truth_bl, nox_pure, es2]
      rw [m2_addS (by rw [len_cps, hwl]; show _ + 1 ≤ LIM; omega)]
      try simp -implicitDefEqProofs only [runF, exs, ex, ev, evT, evI, evs, evAnd, evOr, evAndT, evOrT, QL.t3, QL.s3, QL.tr, bind_pure, bind_assoc, List.length_cons, List.length_nil, if_true, List.map_cons, List.map_nil, List.cons_append, List.nil_append, Nat.reduceAdd, Nat.reduceSub, List.replicate, getM_zero, getM_succ, items_tup, items_lst, List.set, ofO_some, compF, compF2, setT, setU, setAll, wipeE, truth_bl, nox_pure]
      refine Ok.pure ⟨_, rfl, w ++ ⟨#[s2]⟩, _, rfl, ?_, ?_, ?_, ?_, ?_⟩
      · unfold Name at hw ⊢
        rw [cps_app]
        revert hw hwl
        cases w.cps.toList with
        | nil => intro h; cases h
        | cons c r =>
          simp only [nameL, Bool.and_eq_true, decide_eq_true_eq, List.length_cons, List.cons_append, List.all_append, List.length_append]
          rintro ⟨h1, h2, h3⟩ h4
          refine ⟨h1, ⟨h2, by simp [hs3]⟩, ?_⟩
          simp
          omega
      · rw [cps_app, List.length_append, hwl]; simp
      · rw [e7, List.getElem?_set_ne (by omega)]; exact hc6
      · rw [e7]; exact hf6.trans (Fr.set _ _ _)
      · exact hj7.mono (by simp; omega)
    · rintro ρ m6 ⟨w, t5, rfl, hw, hwl, hc6, hf6, hj6⟩
      simp only [List.length_range] at hwl hj6
      try simp -implicitDefEqProofs only [runF, exs, ex, ev, evT, evI, evs, evAnd, evOr, evAndT, evOrT, QL.t3, QL.s3, QL.tr, bind_pure, bind_assoc, List.length_cons, List.length_nil, if_true, List.map_cons, List.map_nil, List.cons_append, List.nil_append, Nat.reduceAdd, Nat.reduceSub, List.replicate, getM_zero, getM_succ, items_tup, items_lst, List.set, ofO_some, compF, compF2, setT, setU, setAll, wipeE, truth_bl, nox_pure]
      refine Ok.seq (draw hj6 (by omega) (by omega) (by omega)) ?_
      rintro _ m7 ⟨r5, rfl, hr5, ⟨c7, e7⟩, hj7⟩
      have e0 : doM2 .eq (nI r5) (.int 0) = M.pure (.bl (decide (r5 = 0))) := eq_nI r5 0
      try simp -implicitDefEqProofs only [runF, exs, ex, ev, evT, evI, evs, evAnd, evOr, evAndT, evOrT, QL.t3, QL.s3, QL.tr, bind_pure, bind_assoc, List.length_cons, List.length_nil, if_true, List.map_cons, List.map_nil, List.cons_append, List.nil_append, Nat.reduceAdd, Nat.reduceSub, List.replicate, getM_zero, getM_succ, items_tup, items_lst, List.set, ofO_some, compF, compF2, setT, setU, setAll, wipeE, truth_bl, nox_pure, e0]
      have hc7 : m7[m.length]? = some (.lst (ws.map .str)) := by rw [e7, List.getElem?_set_ne (by omega)]; exact hc6
      have hf7 : Fr j m m7 := by rw [e7]; exact hf6.trans (Fr.set _ _ _)
      refine Ok.seq (Q := fun fl m' => ∃ w', Name w' ∧ fl = .nx [some (D.ref j), some (D.int ↑size), some (D.str "abcdefghijklmnopqrstuvwxyz0123456789"),
                  some (D.ref m.length), some (D.lst (List.map (fun k => D.str (spare k)) (List.range (size + 1)))), t1, some (.lst (menuL.map .str)), some (nI x), some (.str w'), some (.int (q + 1)), t5, none] ∧ m'[m.length]? = some (.lst (ws.map .str)) ∧ Fr j m m' ∧ Jar j (K + 20 * pre.length + 15) m') ?_ ?_
      · by_cases h0 : r5 = 0
        · try simp -implicitDefEqProofs only [runF, exs, ex, ev, evT, evI, evs, evAnd, evOr, evAndT, evOrT, QL.t3, QL.s3, QL.tr, bind_pure, bind_assoc, List.length_cons, List.length_nil, if_true, List.map_cons, List.map_nil, List.cons_append, List.nil_append, Nat.reduceAdd, Nat.reduceSub, List.replicate, getM_zero, getM_succ, items_tup, items_lst, List.set, ofO_some, compF, compF2, setT, setU, setAll, wipeE, truth_bl, nox_pure, decide_eq_true h0]
          refine Ok.seq (draw hj7 (by omega) (by omega) (by omega)) ?_
          rintro _ m8 ⟨r6, rfl, hr6, ⟨c8, e8⟩, hj8⟩
          have hr6' : r6 < menuL.length := by show r6 < 8; omega
          rw [ix_nL (d := .str menuL[r6]) (k := r6) (by rw [List.getElem?_map, List.getElem?_eq_getElem hr6']; rfl), bind_pure]
          refine Ok.pure ⟨menuL[r6], menu_name _ (List.getElem_mem hr6'), rfl, ?_, ?_, hj8.mono (by omega)⟩
          · rw [e8, List.getElem?_set_ne (by omega)]; exact hc7
          · rw [e8]; exact hf7.trans (Fr.set _ _ _)
        · try simp -implicitDefEqProofs only [runF, exs, ex, ev, evT, evI, evs, evAnd, evOr, evAndT, evOrT, QL.t3, QL.s3, QL.tr, bind_pure, bind_assoc, List.length_cons, List.length_nil, if_true, List.map_cons, List.map_nil, List.cons_append, List.nil_append, Nat.reduceAdd, Nat.reduceSub, List.replicate, getM_zero, getM_succ, items_tup, items_lst, List.set, ofO_some, compF, compF2, setT, setU, setAll, wipeE, truth_bl, nox_pure, decide_eq_false h0, Bool.false_eq_true, if_false]
          exact Ok.pure ⟨w, hw, rfl, hc7, hf7, hj7.mono (by omega)⟩
      · rintro _ m8 ⟨w', hw', rfl, hc8, hf8, hj8⟩
        have hwsok : ∀ w ∈ ws, PyData.strOk w = true := fun w h => (hn w h).ok
        try simp -implicitDefEqProofs only [runF, exs, ex, ev, evT, evI, evs, evAnd, evOr, evAndT, evOrT, QL.t3, QL.s3, QL.tr, bind_pure, bind_assoc, List.length_cons, List.length_nil, if_true, List.map_cons, List.map_nil, List.cons_append, List.nil_append, Nat.reduceAdd, Nat.reduceSub, List.replicate, getM_zero, getM_succ, items_tup, items_lst, List.set, ofO_some, compF, compF2, setT, setU, setAll, wipeE, truth_bl, nox_pure]
        refine Ok.bind (ok_inR hc8 hw'.ok hwsok ?_)
        try simp -implicitDefEqProofs only [runF, exs, ex, ev, evT, evI, evs, evAnd, evOr, evAndT, evOrT, QL.t3, QL.s3, QL.tr, bind_pure, bind_assoc, List.length_cons, List.length_nil, if_true, List.map_cons, List.map_nil, List.cons_append, List.nil_append, Nat.reduceAdd, Nat.reduceSub, List.replicate, getM_zero, getM_succ, items_tup, items_lst, List.set, ofO_some, compF, compF2, setT, setU, setAll, wipeE, truth_bl, nox_pure]
        refine Ok.seq (Q := fun fl m' => m' = m8 ∧ ∃ w', Name w' ∧ w' ∉ ws ∧ fl = .nx [some (D.ref j), some (D.int ↑size), some (D.str "abcdefghijklmnopqrstuvwxyz0123456789"),
                  some (D.ref m.length), some (D.lst (List.map (fun k => D.str (spare k)) (List.range (size + 1)))), t1, some (.lst (menuL.map .str)), some (nI x), some (.str w'), some (.int (q + 1)), t5, none]) ?_ ?_
        · by_cases hin : w' ∈ ws
          · try simp -implicitDefEqProofs only [runF, exs, ex, ev, evT, evI, evs, evAnd, evOr, evAndT, evOrT, QL.t3, QL.s3, QL.tr, bind_pure, bind_assoc, List.length_cons, List.length_nil, if_true, List.map_cons, List.map_nil, List.cons_append, List.nil_append, Nat.reduceAdd, Nat.reduceSub, List.replicate, getM_zero, getM_succ, items_tup, items_lst, List.set, ofO_some, compF, compF2, setT, setU, setAll, wipeE, truth_bl, nox_pure, decide_eq_true hin]
            rw [lim_ok (by simp; omega), bind_pure]
            have hmap : (List.map (fun k => D.str (spare k)) (List.range (size + 1))) = (List.range (size + 1)).map fun k => D.str (spare k) := rfl
            obtain ⟨k, r, hk, hkn, hke⟩ := spare_new (size := size) (found := ws) (by omega) (by omega)
            refine Ok.bind (Ok.nox (Ok.mono (Q := fun l m' => m' = m8 ∧ l = ((List.range (size + 1)).filter fun k => !decide (spare k ∈ ws)).map fun k => D.str (spare k)) ?_ ?_))
            · refine Ok.compL (c := fun k => D.str (spare k)) (fun pre acc m' => m' = m8 ∧ acc = (pre.filter fun k => !decide (spare k ∈ ws)).map fun k => D.str (spare k)) ⟨rfl, rfl⟩ ?_ ?_
              · rintro pre3 x3 post3 acc m9 e9 ⟨rfl, rfl⟩
                have hx3 : x3 < 8 := by
                  have : x3 ∈ List.range (size + 1) := by rw [e9]; simp
                  have := List.mem_range.mp this
                  omega
                try simp -implicitDefEqProofs only [runF, exs, ex, ev, evT, evI, evs, evAnd, evOr, evAndT, evOrT, QL.t3, QL.s3, QL.tr, bind_pure, bind_assoc, List.length_cons, List.length_nil, if_true, List.map_cons, List.map_nil, List.cons_append, List.nil_append, Nat.reduceAdd, Nat.reduceSub, List.replicate, getM_zero, getM_succ, items_tup, items_lst, List.set, ofO_some, compF, compF2, setT, setU, setAll, wipeE, truth_bl, nox_pure]
                refine Ok.bind (ok_notInR hc8 (spare_name hx3).ok hwsok ?_)
                try simp -implicitDefEqProofs only [runF, exs, ex, ev, evT, evI, evs, evAnd, evOr, evAndT, evOrT, QL.t3, QL.s3, QL.tr, bind_pure, bind_assoc, List.length_cons, List.length_nil, if_true, List.map_cons, List.map_nil, List.cons_append, List.nil_append, Nat.reduceAdd, Nat.reduceSub, List.replicate, getM_zero, getM_succ, items_tup, items_lst, List.set, ofO_some, compF, compF2, setT, setU, setAll, wipeE, truth_bl, nox_pure]
                rw [List.filter_append, List.filter_cons]
                by_cases h3 : spare x3 ∈ ws
                · simp [h3]
                  exact Ok.pure (by simp)
                · simp [h3]
                  exact Ok.pure (by simp)
              · rintro l m9 ⟨rfl, rfl⟩
                exact ⟨rfl, rfl⟩
            · rintro _ _ ⟨rfl, rfl⟩
              rw [hke]
              rw [List.map_cons, ixL_0, bind_pure]
              exact Ok.pure ⟨rfl, spare k, spare_name (by omega), hkn, rfl⟩
          · try simp -implicitDefEqProofs only [runF, exs, ex, ev, evT, evI, evs, evAnd, evOr, evAndT, evOrT, QL.t3, QL.s3, QL.tr, bind_pure, bind_assoc, List.length_cons, List.length_nil, if_true, List.map_cons, List.map_nil, List.cons_append, List.nil_append, Nat.reduceAdd, Nat.reduceSub, List.replicate, getM_zero, getM_succ, items_tup, items_lst, List.set, ofO_some, compF, compF2, setT, setU, setAll, wipeE, truth_bl, nox_pure, decide_eq_false hin, Bool.false_eq_true, if_false]
            exact Ok.pure ⟨rfl, w', hw', hin, rfl⟩
        · rintro _ m9 ⟨rfl, w2, hw2, hn2, rfl⟩
          try simp -implicitDefEqProofs only [runF, exs, ex, ev, evT, evI, evs, evAnd, evOr, evAndT, evOrT, QL.t3, QL.s3, QL.tr, bind_pure, bind_assoc, List.length_cons, List.length_nil, if_true, List.map_cons, List.map_nil, List.cons_append, List.nil_append, Nat.reduceAdd, Nat.reduceSub, List.replicate, getM_zero, getM_succ, items_tup, items_lst, List.set, ofO_some, compF, compF2, setT, setU, setAll, wipeE, truth_bl, nox_pure]
          refine Ok.bind (ok_recvAp hc8 ?_)
          try simp -implicitDefEqProofs only [runF, exs, ex, ev, evT, evI, evs, evAnd, evOr, evAndT, evOrT, QL.t3, QL.s3, QL.tr, bind_pure, bind_assoc, List.length_cons, List.length_nil, if_true, List.map_cons, List.map_nil, List.cons_append, List.nil_append, Nat.reduceAdd, Nat.reduceSub, List.replicate, getM_zero, getM_succ, items_tup, items_lst, List.set, ofO_some, compF, compF2, setT, setU, setAll, wipeE, truth_bl, nox_pure]
          refine Ok.bind (ok_append hc8 (by simp; omega) ?_)
          try simp -implicitDefEqProofs only [runF, exs, ex, ev, evT, evI, evs, evAnd, evOr, evAndT, evOrT, QL.t3, QL.s3, QL.tr, bind_pure, bind_assoc, List.length_cons, List.length_nil, if_true, List.map_cons, List.map_nil, List.cons_append, List.nil_append, Nat.reduceAdd, Nat.reduceSub, List.replicate, getM_zero, getM_succ, items_tup, items_lst, List.set, ofO_some, compF, compF2, setT, setU, setAll, wipeE, truth_bl, nox_pure]
          have hl9 := (List.getElem?_eq_some_iff.mp hc8).1
          refine Ok.pure ⟨_, rfl, ws ++ [w2], t1, _, _, _, _, rfl, by simp [hl], ?_, ?_, ?_, ?_, ?_⟩
          · exact List.nodup_append.mpr ⟨nd, by simp, fun a ha b hb e => hn2 (by
              have : b = w2 := by simpa using hb
              rw [← this, ← e]; exact ha)⟩
          · intro w3 hw3
            rcases List.mem_append.mp hw3 with h | h
            · exact hn w3 h
            · have : w3 = w2 := by simpa using h
              exact this ▸ hw2
          · rw [List.getElem?_set_self hl9, List.map_append]; rfl
          · exact hf8.fr2 (Nat.le_refl _) (Fr.set _ _ _)
          · exact (hj8.fr (k := m.length) (by omega) (Fr.set _ _ _)).mono (by simp; omega)
  · rintro ρ m1 ⟨ws, t1, t2, t3, t4, t5, rfl, hl, nd, hn, hc, hf, hj⟩
    try simp -implicitDefEqProofs only [runF, exs, ex, ev, evT, evI, evs, evAnd, evOr, evAndT, evOrT, QL.t3, QL.s3, QL.tr, bind_pure, bind_assoc, List.length_cons, List.length_nil, if_true, List.map_cons, List.map_nil, List.cons_append, List.nil_append, Nat.reduceAdd, Nat.reduceSub, List.replicate, getM_zero, getM_succ, items_tup, items_lst, List.set, ofO_some, compF, compF2, setT, setU, setAll, wipeE, truth_bl, nox_pure]
    refine Ok.bind (ok_freeze hc ?_)
    try simp -implicitDefEqProofs only [runF, exs, ex, ev, evT, evI, evs, evAnd, evOr, evAndT, evOrT, QL.t3, QL.s3, QL.tr, bind_pure, bind_assoc, List.length_cons, List.length_nil, if_true, List.map_cons, List.map_nil, List.cons_append, List.nil_append, Nat.reduceAdd, Nat.reduceSub, List.replicate, getM_zero, getM_succ, items_tup, items_lst, List.set, ofO_some, compF, compF2, setT, setU, setAll, wipeE, truth_bl, nox_pure]
    have hjl := hJ.lt
    simp only [List.length_range] at hl hj
    exact Ok.pure ⟨ws, rfl, hl, nd, hn, hf.fr2 (Nat.le_refl _) (Fr.set _ _ _), hj.fr (k := m.length) (by omega) (Fr.set _ _ _)⟩
end QV
end
section
set_option linter.all false
set_option maxRecDepth 100000
set_option autoImplicit false
/-! QK: drawn rules and numbers. -/
namespace QV
open PySem QL QP
theorem m2_slTT {l : List D} {k : Nat} : doM2 .slT (.tup l) (nI k) = M.pure (.tup (l.take k)) := by
  funext m
  show Res.ok (D.tup (l.take (sIx l.length (k : Int)))) m = Res.ok (D.tup (l.take k)) m
  unfold sIx
  rw [if_neg (by omega), Int.toNat_natCast, List.take_eq_take_min]
  congr 2
  rw [List.take_eq_take_min (i := k)]
  congr 1
  omega
theorem m2_slTL {l : List D} {k : Nat} : doM2 .slT (.lst l) (nI k) = M.pure (.lst (l.take k)) := by
  funext m
  show Res.ok (D.lst (l.take (sIx l.length (k : Int)))) m = Res.ok (D.lst (l.take k)) m
  unfold sIx
  rw [if_neg (by omega), Int.toNat_natCast, List.take_eq_take_min]
  congr 2
  rw [List.take_eq_take_min (i := k)]
  congr 1
  omega
theorem sIx_drop {α : Type} {l : List α} {k : Nat} : l.drop (sIx l.length (k : Int)) = l.drop k := by
  unfold sIx
  rw [if_neg (by omega), Int.toNat_natCast]
  by_cases h : k ≤ l.length
  · rw [Nat.min_eq_left h]
  · rw [Nat.min_eq_right (by omega), List.drop_eq_nil_of_le (by omega), List.drop_eq_nil_of_le (by omega)]
theorem m2_slFT {l : List D} {k : Nat} : doM2 .slF (.tup l) (nI k) = M.pure (.tup (l.drop k)) := by
  funext m
  show Res.ok (D.tup (l.drop (sIx l.length (k : Int)))) m = Res.ok (D.tup (l.drop k)) m
  rw [sIx_drop]
theorem m2_slFL {l : List D} {k : Nat} : doM2 .slF (.lst l) (nI k) = M.pure (.lst (l.drop k)) := by
  funext m
  show Res.ok (D.lst (l.drop (sIx l.length (k : Int)))) m = Res.ok (D.lst (l.drop k)) m
  rw [sIx_drop]
/-- what was put in at a place -/
theorem put_perm {α : Type} (l : List α) (x : α) (k : Nat) : (l.take k ++ [x] ++ l.drop k).Perm (x :: l) := by
  have h : (l.take k ++ x :: l.drop k).Perm (x :: (l.take k ++ l.drop k)) := List.perm_middle
  rw [List.take_append_drop] at h
  simpa using h
theorem tupO1 (a : D) : tupO [a] = some (.tup [a]) := rfl
theorem turned {n j K : Nat} {m : Mem} {rd : D} {row : List D} (hr : itemsOf rd = M.pure row) (hJ : Jar j K m) (hK : K + row.length ≤ 10 ^ 20) (hs : row.length ≤ 1000000) :
    Ok (run PT (n + 2) 11 [.ref j, rd]) m fun d m' => ∃ found : List D, d = .tup found ∧ found.Perm row ∧ Fr j m m' ∧ Jar j (K + row.length) m' := by
  have hlim : 10000000 ≤ LIM := by decide
  rw [run_s (fn := f11) rfl]
  try simp -implicitDefEqProofs only [runF, exs, ex, ev, evT, evI, evs, evAnd, evOr, evAndT, evOrT, QL.t3, QL.s3, QL.tr, bind_pure, bind_assoc, List.length_cons, List.length_nil, if_true, List.map_cons, List.map_nil, List.cons_append, List.nil_append, Nat.reduceAdd, Nat.reduceSub, List.replicate, getM_zero, getM_succ, items_tup, items_lst, List.set, ofO_some, compF, compF2, setT, setU, setAll, wipeE, truth_bl, nox_pure, f11, recvA, recvSlT, recvSlF, tupO1, show tupO [] = some (.tup []) from rfl, hr]
  refine Ok.bind ?_
  have hid : row = row.map (fun d => d) := by simp
  rw [hid]
  refine Ok.forL (c := fun d => d) (fun pre ρ m' => ∃ (found : List D) (t3 t4 : Option D), ρ = [some (D.ref j), some rd, some (.tup found), t3, t4] ∧ found.Perm pre ∧ Fr j m m' ∧ Jar j (K + pre.length) m') ?_ ?_ ?_
  · exact ⟨[], none, none, rfl, List.Perm.nil, Fr.refl j m, hJ⟩
  · rintro pre x post ρ m1 e ⟨found, t3, t4, rfl, hp, hf, hj⟩
    have hl : pre.length + 1 ≤ row.length := by rw [e]; simp
    have hfl := hp.length_eq
    try simp -implicitDefEqProofs only [runF, exs, ex, ev, evT, evI, evs, evAnd, evOr, evAndT, evOrT, QL.t3, QL.s3, QL.tr, bind_pure, bind_assoc, List.length_cons, List.length_nil, if_true, List.map_cons, List.map_nil, List.cons_append, List.nil_append, Nat.reduceAdd, Nat.reduceSub, List.replicate, getM_zero, getM_succ, items_tup, items_lst, List.set, ofO_some, compF, compF2, setT, setU, setAll, wipeE, truth_bl, nox_pure, m1_lenT, m2_add]
    refine Ok.seq (draw hj (by omega) (by omega) (by omega)) ?_
    rintro _ m2 ⟨r, rfl, hr1, ⟨c2, e2⟩, hj2⟩
    try simp -implicitDefEqProofs only [runF, exs, ex, ev, evT, evI, evs, evAnd, evOr, evAndT, evOrT, QL.t3, QL.s3, QL.tr, bind_pure, bind_assoc, List.length_cons, List.length_nil, if_true, List.map_cons, List.map_nil, List.cons_append, List.nil_append, Nat.reduceAdd, Nat.reduceSub, List.replicate, getM_zero, getM_succ, items_tup, items_lst, List.set, ofO_some, compF, compF2, setT, setU, setAll, wipeE, truth_bl, nox_pure, m2_slTT, m2_slFT]
    rw [m2_addT (by simp; omega), bind_pure]
    try simp -implicitDefEqProofs only [runF, exs, ex, ev, evT, evI, evs, evAnd, evOr, evAndT, evOrT, QL.t3, QL.s3, QL.tr, bind_pure, bind_assoc, List.length_cons, List.length_nil, if_true, List.map_cons, List.map_nil, List.cons_append, List.nil_append, Nat.reduceAdd, Nat.reduceSub, List.replicate, getM_zero, getM_succ, items_tup, items_lst, List.set, ofO_some, compF, compF2, setT, setU, setAll, wipeE, truth_bl, nox_pure, m2_slTT, m2_slFT]
    rw [m2_addT (by simp; omega), bind_pure]
    have hpp := put_perm found x r
    refine Ok.pure ⟨_, rfl, _, _, _, rfl, ?_, ?_, hj2.mono (by simp; omega)⟩
    · exact (hpp.trans (List.Perm.cons x hp)).trans (List.perm_append_singleton x pre).symm
    · rw [e2]; exact hf.trans (Fr.set _ _ _)
  · rintro ρ m1 ⟨found, t3, t4, rfl, hp, hf, hj⟩
    try simp -implicitDefEqProofs only [runF, exs, ex, ev, evT, evI, evs, evAnd, evOr, evAndT, evOrT, QL.t3, QL.s3, QL.tr, bind_pure, bind_assoc, List.length_cons, List.length_nil, if_true, List.map_cons, List.map_nil, List.cons_append, List.nil_append, Nat.reduceAdd, Nat.reduceSub, List.replicate, getM_zero, getM_succ, items_tup, items_lst, List.set, ofO_some, compF, compF2, setT, setU, setAll, wipeE, truth_bl, nox_pure]
    exact Ok.pure ⟨found, rfl, by simpa using hp, hf, by simpa using hj⟩
theorem sum_set : ∀ (ns : List Nat) (k : Nat), k < ns.length → (ns.set k (ns.getD k 0 + 1)).sum = ns.sum + 1
  | [], _, h => by simp at h
  | a :: r, 0, _ => by simp; omega
  | a :: r, k + 1, h => by
    have := sum_set r k (by simpa using h)
    simp only [List.set_cons_succ, List.sum_cons, List.getD_cons_succ]
    omega
theorem m2_subN (i : Int) (r : Nat) : doM2 .sub (.int i) (nI r) = M.pure (.int (i - r)) := rfl
theorem eq0N (r : Nat) : doM2 .eq (nI r) (.int 0) = M.pure (.bl (decide (r = 0))) := eq_nI r 0
theorem new_few {n j K size most : Nat} {m : Mem} (hJ : Jar j K m) (hK : K + most + 10 ≤ 10 ^ 20) (hs : 1 ≤ size) (hs2 : size ≤ 1000) (hm : 2 ≤ most) (hm2 : most ≤ 1000) :
    Ok (run PT (n + 2) 6 [.ref j, .int size, .int most]) m fun d m' => ∃ ns : List Nat, d = .tup (ns.map nI) ∧ ns.length = size ∧ ns.sum ≤ most ∧ Fr j m m' ∧ Jar j (K + most + 10) m' := by
  have hlim : 10000000 ≤ LIM := by decide
  have hjl := hJ.lt
  rw [run_s (fn := f6) rfl]
  try simp -implicitDefEqProofs only [runF, exs, ex, ev, evT, evI, evs, evAnd, evOr, evAndT, evOrT, QL.t3, QL.s3, QL.tr, bind_pure, bind_assoc, List.length_cons, List.length_nil, if_true, List.map_cons, List.map_nil, List.cons_append, List.nil_append, Nat.reduceAdd, Nat.reduceSub, List.replicate, getM_zero, getM_succ, items_tup, items_lst, List.set, ofO_some, compF, compF2, setT, setU, setAll, wipeE, truth_bl, nox_pure, f6, recvA, recvE, recvS, recvX]
  rw [rangeM_nat (by omega), bind_pure, lim_ok (by simp; omega), bind_pure, compL_map (c := nI) (g := fun _ => nI 0)]
  rotate_left
  · intro k hk
    try simp -implicitDefEqProofs only [runF, exs, ex, ev, evT, evI, evs, evAnd, evOr, evAndT, evOrT, QL.t3, QL.s3, QL.tr, bind_pure, bind_assoc, List.length_cons, List.length_nil, if_true, List.map_cons, List.map_nil, List.cons_append, List.nil_append, Nat.reduceAdd, Nat.reduceSub, List.replicate, getM_zero, getM_succ, items_tup, items_lst, List.set, ofO_some, compF, compF2, setT, setU, setAll, wipeE, truth_bl, nox_pure]
    rfl
  try simp -implicitDefEqProofs only [runF, exs, ex, ev, evT, evI, evs, evAnd, evOr, evAndT, evOrT, QL.t3, QL.s3, QL.tr, bind_pure, bind_assoc, List.length_cons, List.length_nil, if_true, List.map_cons, List.map_nil, List.cons_append, List.nil_append, Nat.reduceAdd, Nat.reduceSub, List.replicate, getM_zero, getM_succ, items_tup, items_lst, List.set, ofO_some, compF, compF2, setT, setU, setAll, wipeE, truth_bl, nox_pure]
  refine Ok.bind (ok_new ?_)
  try simp -implicitDefEqProofs only [runF, exs, ex, ev, evT, evI, evs, evAnd, evOr, evAndT, evOrT, QL.t3, QL.s3, QL.tr, bind_pure, bind_assoc, List.length_cons, List.length_nil, if_true, List.map_cons, List.map_nil, List.cons_append, List.nil_append, Nat.reduceAdd, Nat.reduceSub, List.replicate, getM_zero, getM_succ, items_tup, items_lst, List.set, ofO_some, compF, compF2, setT, setU, setAll, wipeE, truth_bl, nox_pure]
  have hJ1 : Jar j K (m ++ [Cell.lst ((List.range size).map fun _ => nI 0)]) := hJ.ext (Ext.app _ _)
  refine Ok.seq (draw hJ1 (by omega) (by omega) (by omega)) ?_
  rintro _ m2 ⟨r, rfl, hr1, ⟨c2, e2⟩, hj2⟩
  try simp -implicitDefEqProofs only [runF, exs, ex, ev, evT, evI, evs, evAnd, evOr, evAndT, evOrT, QL.t3, QL.s3, QL.tr, bind_pure, bind_assoc, List.length_cons, List.length_nil, if_true, List.map_cons, List.map_nil, List.cons_append, List.nil_append, Nat.reduceAdd, Nat.reduceSub, List.replicate, getM_zero, getM_succ, items_tup, items_lst, List.set, ofO_some, compF, compF2, setT, setU, setAll, wipeE, truth_bl, nox_pure, eq0N, m2_add]
  refine Ok.bind ?_
  refine Ok.mono (Q := fun d m' => ∃ t : Nat, t ≤ most ∧ d = .int t ∧ m'[m.length]? = some (.lst ((List.range size).map fun _ => nI 0)) ∧ Fr j m m' ∧ Jar j (K + 2) m') ?_ ?_
  · have hc2 : m2[m.length]? = some (.lst ((List.range size).map fun _ => nI 0)) := by rw [e2, List.getElem?_set_ne (by omega)]; simp
    have hf2 : Fr j m m2 := by rw [e2]; exact (Fr.app _ _ _).trans (Fr.set _ _ _)
    by_cases h0 : r = 0
    · try simp -implicitDefEqProofs only [runF, exs, ex, ev, evT, evI, evs, evAnd, evOr, evAndT, evOrT, QL.t3, QL.s3, QL.tr, bind_pure, bind_assoc, List.length_cons, List.length_nil, if_true, List.map_cons, List.map_nil, List.cons_append, List.nil_append, Nat.reduceAdd, Nat.reduceSub, List.replicate, getM_zero, getM_succ, items_tup, items_lst, List.set, ofO_some, compF, compF2, setT, setU, setAll, wipeE, truth_bl, nox_pure, decide_eq_true h0]
      refine (draw hj2 (by omega) (by omega) (by omega)).mono ?_
      rintro _ m3 ⟨r3, rfl, hr3, ⟨c3, e3⟩, hj3⟩
      exact ⟨r3, by omega, rfl, by rw [e3, List.getElem?_set_ne (by omega)]; exact hc2, by rw [e3]; exact hf2.trans (Fr.set _ _ _), hj3⟩
    · try simp -implicitDefEqProofs only [runF, exs, ex, ev, evT, evI, evs, evAnd, evOr, evAndT, evOrT, QL.t3, QL.s3, QL.tr, bind_pure, bind_assoc, List.length_cons, List.length_nil, if_true, List.map_cons, List.map_nil, List.cons_append, List.nil_append, Nat.reduceAdd, Nat.reduceSub, List.replicate, getM_zero, getM_succ, items_tup, items_lst, List.set, ofO_some, compF, compF2, setT, setU, setAll, wipeE, truth_bl, nox_pure, decide_eq_false h0, Bool.false_eq_true, if_false]
      refine Ok.seq (draw hj2 (by omega) (by omega) (by omega)) ?_
      rintro _ m3 ⟨r3, rfl, hr3, ⟨c3, e3⟩, hj3⟩
      rw [m2_subN]
      refine Ok.pure ⟨most - r3, by omega, ?_, by rw [e3, List.getElem?_set_ne (by omega)]; exact hc2, by rw [e3]; exact hf2.trans (Fr.set _ _ _), hj3⟩
      congr 1
      omega
  · rintro _ m3 ⟨t, ht, rfl, hc3, hf3, hj3⟩
    try simp -implicitDefEqProofs only [runF, exs, ex, ev, evT, evI, evs, evAnd, evOr, evAndT, evOrT, QL.t3, QL.s3, QL.tr, bind_pure, bind_assoc, List.length_cons, List.length_nil, if_true, List.map_cons, List.map_nil, List.cons_append, List.nil_append, Nat.reduceAdd, Nat.reduceSub, List.replicate, getM_zero, getM_succ, items_tup, items_lst, List.set, ofO_some, compF, compF2, setT, setU, setAll, wipeE, truth_bl, nox_pure]
    rw [rangeM_nat (by omega)]
    try simp -implicitDefEqProofs only [runF, exs, ex, ev, evT, evI, evs, evAnd, evOr, evAndT, evOrT, QL.t3, QL.s3, QL.tr, bind_pure, bind_assoc, List.length_cons, List.length_nil, if_true, List.map_cons, List.map_nil, List.cons_append, List.nil_append, Nat.reduceAdd, Nat.reduceSub, List.replicate, getM_zero, getM_succ, items_tup, items_lst, List.set, ofO_some, compF, compF2, setT, setU, setAll, wipeE, truth_bl, nox_pure]
    refine Ok.bind (Ok.forL (c := nI) (fun pre ρ m' => ∃ (ns : List Nat) (t4 t5 : Option D), ρ = [some (D.ref j), some (.int size), some (.int most), some (.ref m.length), t4, t5] ∧ ns.length = size ∧ ns.sum = pre.length ∧ m'[m.length]? = some (.lst (ns.map nI)) ∧ Fr j m m' ∧ Jar j (K + 2 + pre.length) m') ?_ ?_ ?_)
    · refine ⟨List.replicate size 0, none, none, rfl, by simp, by simp, ?_, hf3, hj3⟩
      rw [hc3]
      congr 2
      refine List.ext_getElem? fun i => ?_
      simp only [List.getElem?_map, List.getElem?_range, List.getElem?_replicate]
      by_cases h : i < size
      · simp [h]
      · simp [h]
    · rintro pre x post ρ m4 e ⟨ns, t4, t5, rfl, hl, hsum, hc, hf, hj⟩
      have hx : pre.length < t := by
        have := congrArg List.length e
        simp at this
        omega
      try simp -implicitDefEqProofs only [runF, exs, ex, ev, evT, evI, evs, evAnd, evOr, evAndT, evOrT, QL.t3, QL.s3, QL.tr, bind_pure, bind_assoc, List.length_cons, List.length_nil, if_true, List.map_cons, List.map_nil, List.cons_append, List.nil_append, Nat.reduceAdd, Nat.reduceSub, List.replicate, getM_zero, getM_succ, items_tup, items_lst, List.set, ofO_some, compF, compF2, setT, setU, setAll, wipeE, truth_bl, nox_pure]
      refine Ok.seq (draw hj (by omega) (by omega) (by omega)) ?_
      rintro _ m5 ⟨r5, rfl, hr5, ⟨c5, e5⟩, hj5⟩
      have hc5 : m5[m.length]? = some (.lst (ns.map nI)) := by rw [e5, List.getElem?_set_ne (by omega)]; exact hc
      have hf5 : Fr j m m5 := by rw [e5]; exact hf.trans (Fr.set _ _ _)
      have hrs : r5 < ns.length := by omega
      try simp -implicitDefEqProofs only [runF, exs, ex, ev, evT, evI, evs, evAnd, evOr, evAndT, evOrT, QL.t3, QL.s3, QL.tr, bind_pure, bind_assoc, List.length_cons, List.length_nil, if_true, List.map_cons, List.map_nil, List.cons_append, List.nil_append, Nat.reduceAdd, Nat.reduceSub, List.replicate, getM_zero, getM_succ, items_tup, items_lst, List.set, ofO_some, compF, compF2, setT, setU, setAll, wipeE, truth_bl, nox_pure]
      unfold nI
      refine Ok.bind (ok_ixR (k := (r5 : Int)) (d := nI (ns.getD r5 0)) hc5 ?_ (by omega) ?_)
      · rw [Int.toNat_natCast, List.getElem?_map, List.getD_eq_getElem?_getD, List.getElem?_eq_getElem hrs]; rfl
      try simp -implicitDefEqProofs only [runF, exs, ex, ev, evT, evI, evs, evAnd, evOr, evAndT, evOrT, QL.t3, QL.s3, QL.tr, bind_pure, bind_assoc, List.length_cons, List.length_nil, if_true, List.map_cons, List.map_nil, List.cons_append, List.nil_append, Nat.reduceAdd, Nat.reduceSub, List.replicate, getM_zero, getM_succ, items_tup, items_lst, List.set, ofO_some, compF, compF2, setT, setU, setAll, wipeE, truth_bl, nox_pure, nI, m2_add]
      refine Ok.bind (ok_sti (k := (r5 : Int)) hc5 (by omega) (by simpa using hrs) ?_)
      have hl5 := (List.getElem?_eq_some_iff.mp hc5).1
      refine Ok.pure ⟨_, rfl, ns.set r5 (ns.getD r5 0 + 1), _, _, rfl, by simpa using hl, ?_, ?_, ?_, ?_⟩
      · rw [sum_set ns r5 hrs, hsum]; simp
      · rw [List.getElem?_set_self hl5, Int.toNat_natCast, List.map_set]
        congr 2
      · exact hf5.fr2 (Nat.le_refl _) (Fr.set _ _ _)
      · exact (hj5.fr (k := m.length) (by omega) (Fr.set _ _ _)).mono (by simp; omega)
    · rintro ρ m4 ⟨ns, t4, t5, rfl, hl, hsum, hc, hf, hj⟩
      try simp -implicitDefEqProofs only [runF, exs, ex, ev, evT, evI, evs, evAnd, evOr, evAndT, evOrT, QL.t3, QL.s3, QL.tr, bind_pure, bind_assoc, List.length_cons, List.length_nil, if_true, List.map_cons, List.map_nil, List.cons_append, List.nil_append, Nat.reduceAdd, Nat.reduceSub, List.replicate, getM_zero, getM_succ, items_tup, items_lst, List.set, ofO_some, compF, compF2, setT, setU, setAll, wipeE, truth_bl, nox_pure]
      refine Ok.bind (ok_m1R hc (fun _ _ => trivial) (.inl ⟨rfl, rfl⟩) ?_)
      try simp -implicitDefEqProofs only [runF, exs, ex, ev, evT, evI, evs, evAnd, evOr, evAndT, evOrT, QL.t3, QL.s3, QL.tr, bind_pure, bind_assoc, List.length_cons, List.length_nil, if_true, List.map_cons, List.map_nil, List.cons_append, List.nil_append, Nat.reduceAdd, Nat.reduceSub, List.replicate, getM_zero, getM_succ, items_tup, items_lst, List.set, ofO_some, compF, compF2, setT, setU, setAll, wipeE, truth_bl, nox_pure]
      exact Ok.pure ⟨ns, rfl, hl, by simp at hsum; omega, hf, hj.mono (by simp; omega)⟩
end QV
end
section
set_option linter.all false
set_option maxRecDepth 100000
set_option autoImplicit false
/-! QK2: drawn rules. -/
namespace QV
open PySem QL QP
def wS (ws : List Str) (k : Nat) : Str := ws.getD k Str.empty
def linkD (ws : List Str) (p : Nat × Nat) : D := .tup [.str (wS ws p.1), .str (wS ws p.2)]
def netD (ws : List Str) (T : List (Nat × Nat)) : D := .lst [.tup (ws.map .str), .tup (T.map (linkD ws))]
theorem wS_get {ws : List Str} {k : Nat} (h : k < ws.length) : (ws.map D.str)[k]? = some (.str (wS ws k)) := by
  unfold wS
  rw [List.getElem?_map, List.getD_eq_getElem?_getD, List.getElem?_eq_getElem h]
  rfl
theorem ix_wsL {ws : List Str} {k : Nat} (h : k < ws.length) : doM2 .ix (.lst (ws.map .str)) (nI k) = M.pure (.str (wS ws k)) := ix_nL (wS_get h)
theorem ix_wsT {ws : List Str} {k : Nat} (h : k < ws.length) : doM2 .ix (.tup (ws.map .str)) (nI k) = M.pure (.str (wS ws k)) := ix_nT (wS_get h)
theorem wS_mem {ws : List Str} {k : Nat} (h : k < ws.length) : wS ws k ∈ ws := by
  unfold wS
  rw [List.getD_eq_getElem?_getD, List.getElem?_eq_getElem h]
  exact List.getElem_mem h
theorem wS_inj {ws : List Str} (nd : ws.Nodup) {a b : Nat} (ha : a < ws.length) (hb : b < ws.length) (h : wS ws a = wS ws b) : a = b := by
  unfold wS at h
  rw [List.getD_eq_getElem?_getD, List.getD_eq_getElem?_getD, List.getElem?_eq_getElem ha, List.getElem?_eq_getElem hb] at h
  exact (List.getElem_inj nd).mp h
/-- the kinds of a tie, in order -/
def key (p : Nat × Nat) : Nat × Nat := (min p.1 p.2, max p.1 p.2)
/-- a rule's ties -/
structure TOk (q : Nat) (T : List (Nat × Nat)) : Prop where
  lt : ∀ p ∈ T, p.1 < q ∧ p.2 < q
  nd : (T.map key).Nodup
def tri (q : Nat) : List (Nat × Nat) := (List.range q).flatMap fun a => ((List.range q).filter fun b => decide (a ≤ b)).map fun b => (a, b)
theorem tri_len : ∀ q, q ≤ 6 → (tri q).length ≤ 21 := by decide
theorem TOk.len {q : Nat} {T : List (Nat × Nat)} (h : TOk q T) (hq : q ≤ 6) : T.length ≤ 21 := by
  have h1 : (T.map key).length ≤ (tri q).length := sub_len h.nd fun x hx => by
    obtain ⟨p, hp, rfl⟩ := List.mem_map.mp hx
    have := h.lt p hp
    unfold tri key
    rw [List.mem_flatMap]
    refine ⟨min p.1 p.2, List.mem_range.mpr (by omega), List.mem_map.mpr ⟨max p.1 p.2, ?_, rfl⟩⟩
    rw [List.mem_filter]
    exact ⟨List.mem_range.mpr (by omega), decide_eq_true (by omega)⟩
  have := tri_len q hq
  simp at h1
  omega
theorem rangeM_from {a b : Nat} (hab : a ≤ b) (h : b ≤ 1000000000) : rangeM a b = M.pure ((List.range (b - a)).map fun k => nI (a + k)) := by
  unfold rangeM
  rw [if_pos (by omega)]
  congr 1
  unfold rangeL
  rw [show ((b : Int) - (a : Int)).toNat = b - a by omega]
  exact List.map_congr_left fun k _ => by unfold nI; rw [Int.natCast_add]
theorem m2_ltN (r : Nat) (i : Int) : doM2 .lt (nI r) (.int i) = M.pure (.bl (decide ((r : Int) < i))) := rfl
theorem new_net {n j K : Nat} {m : Mem} {ws : List Str} (hJ : Jar j K m) (hK : K + 200 ≤ 10 ^ 20) (hs : ws.length ≤ 6) :
    Ok (run PT (n + 2) 3 [.ref j, .lst (ws.map .str)]) m fun d m' => ∃ T, d = netD ws T ∧ TOk ws.length T ∧ Fr j m m' ∧ Jar j (K + 200) m' := by
  have hlim : 10000000 ≤ LIM := by decide
  have hjl := hJ.lt
  rw [run_s (fn := f3) rfl]
  try simp -implicitDefEqProofs only [runF, exs, ex, ev, evT, evI, evs, evAnd, evOr, evAndT, evOrT, QL.t3, QL.s3, QL.tr, bind_pure, bind_assoc, List.length_cons, List.length_nil, if_true, List.map_cons, List.map_nil, List.cons_append, List.nil_append, Nat.reduceAdd, Nat.reduceSub, List.replicate, getM_zero, getM_succ, items_tup, items_lst, List.set, ofO_some, compF, compF2, setT, setU, setAll, wipeE, truth_bl, nox_pure, f3, recvA, recvE, recvS, recvX, recvL, recvSlT, recvSlF, lsto0, lsto1, lsto2, m1_len]
  refine Ok.seq (draw hJ (by omega) (by omega) (by omega)) ?_
  rintro _ m2 ⟨r, rfl, hr1, ⟨c2, e2⟩, hj2⟩
  try simp -implicitDefEqProofs only [runF, exs, ex, ev, evT, evI, evs, evAnd, evOr, evAndT, evOrT, QL.t3, QL.s3, QL.tr, bind_pure, bind_assoc, List.length_cons, List.length_nil, if_true, List.map_cons, List.map_nil, List.cons_append, List.nil_append, Nat.reduceAdd, Nat.reduceSub, List.replicate, getM_zero, getM_succ, items_tup, items_lst, List.set, ofO_some, compF, compF2, setT, setU, setAll, wipeE, truth_bl, nox_pure, m2_addN, lsto0]
  rw [List.length_map, rangeM_nat (by omega)]
  try simp -implicitDefEqProofs only [runF, exs, ex, ev, evT, evI, evs, evAnd, evOr, evAndT, evOrT, QL.t3, QL.s3, QL.tr, bind_pure, bind_assoc, List.length_cons, List.length_nil, if_true, List.map_cons, List.map_nil, List.cons_append, List.nil_append, Nat.reduceAdd, Nat.reduceSub, List.replicate, getM_zero, getM_succ, items_tup, items_lst, List.set, ofO_some, compF, compF2, setT, setU, setAll, wipeE, truth_bl, nox_pure]
  refine Ok.bind (Ok.forL (c := nI) (fun pre ρ m' => ∃ (T : List (Nat × Nat)) (t1 t2 t3 t4 : Option D), ρ = [some (D.ref j), some (.lst (ws.map .str)), some (.lst (T.map (linkD ws))), some (.int (1 + r)), t1, t2, t3, t4] ∧ TOk ws.length T ∧ (∀ p ∈ T, (key p).1 < pre.length) ∧ Fr j m m' ∧ Jar j (K + 1 + 24 * pre.length) m') ?_ ?_ ?_)
  · exact ⟨[], none, none, none, none, rfl, ⟨(fun _ h => by cases h), by simp⟩, (fun _ h => by cases h), by rw [e2]; exact Fr.set _ _ _, hj2⟩
  · rintro pre x post ρ m3 e ⟨T, t1, t2, t3, t4, rfl, hT, hk, hf, hj⟩
    have hx : x = pre.length ∧ x < ws.length := by
      have h1 := congrArg List.length e
      have h2 := congrArg (fun l => l[pre.length]?) e
      simp at h1
      simp [List.getElem?_range] at h2
      rw [List.getElem?_range (by omega)] at h2
      simp at h2
      omega
    obtain ⟨hx, hxl⟩ := hx
    try simp -implicitDefEqProofs only [runF, exs, ex, ev, evT, evI, evs, evAnd, evOr, evAndT, evOrT, QL.t3, QL.s3, QL.tr, bind_pure, bind_assoc, List.length_cons, List.length_nil, if_true, List.map_cons, List.map_nil, List.cons_append, List.nil_append, Nat.reduceAdd, Nat.reduceSub, List.replicate, getM_zero, getM_succ, items_tup, items_lst, List.set, ofO_some, compF, compF2, setT, setU, setAll, wipeE, truth_bl, nox_pure, m1_len, List.length_map]
    show Ok (M.bind (rangeM (x : Int) (ws.length : Int)) _) m3 _
    rw [rangeM_from (by omega) (by omega)]
    try simp -implicitDefEqProofs only [runF, exs, ex, ev, evT, evI, evs, evAnd, evOr, evAndT, evOrT, QL.t3, QL.s3, QL.tr, bind_pure, bind_assoc, List.length_cons, List.length_nil, if_true, List.map_cons, List.map_nil, List.cons_append, List.nil_append, Nat.reduceAdd, Nat.reduceSub, List.replicate, getM_zero, getM_succ, items_tup, items_lst, List.set, ofO_some, compF, compF2, setT, setU, setAll, wipeE, truth_bl, nox_pure]
    refine Ok.bind (Ok.forL (c := fun k => nI (x + k)) (fun pre2 ρ m' => ∃ (T : List (Nat × Nat)) (t2 t3 t4 : Option D), ρ = [some (D.ref j), some (.lst (ws.map .str)), some (.lst (T.map (linkD ws))), some (.int (1 + r)), some (nI x), t2, t3, t4] ∧ TOk ws.length T ∧ (∀ p ∈ T, (key p).1 < x ∨ ((key p).1 = x ∧ (key p).2 < x + pre2.length)) ∧ Fr j m m' ∧ Jar j (K + 1 + 24 * pre.length + 3 * pre2.length) m') ?_ ?_ ?_)
    · exact ⟨T, t2, t3, t4, rfl, hT, fun p hp => .inl (by have := hk p hp; omega), hf, hj⟩
    · rintro pre2 y post2 ρ m4 e4 ⟨T, t2, t3, t4, rfl, hT, hk, hf, hj⟩
      have hy : y = pre2.length ∧ x + y < ws.length := by
        have h1 := congrArg List.length e4
        have h2 := congrArg (fun l => l[pre2.length]?) e4
        simp at h1
        simp [List.getElem?_range] at h2
        rw [List.getElem?_range (by omega)] at h2
        simp at h2
        omega
      obtain ⟨hy, hyl⟩ := hy
      have hTl := hT.len hs
      try simp -implicitDefEqProofs only [runF, exs, ex, ev, evT, evI, evs, evAnd, evOr, evAndT, evOrT, QL.t3, QL.s3, QL.tr, bind_pure, bind_assoc, List.length_cons, List.length_nil, if_true, List.map_cons, List.map_nil, List.cons_append, List.nil_append, Nat.reduceAdd, Nat.reduceSub, List.replicate, getM_zero, getM_succ, items_tup, items_lst, List.set, ofO_some, compF, compF2, setT, setU, setAll, wipeE, truth_bl, nox_pure]
      refine Ok.seq (draw hj (by omega) (by omega) (by omega)) ?_
      rintro _ m5 ⟨r5, rfl, hr5, ⟨c5, e5⟩, hj5⟩
      try simp -implicitDefEqProofs only [runF, exs, ex, ev, evT, evI, evs, evAnd, evOr, evAndT, evOrT, QL.t3, QL.s3, QL.tr, bind_pure, bind_assoc, List.length_cons, List.length_nil, if_true, List.map_cons, List.map_nil, List.cons_append, List.nil_append, Nat.reduceAdd, Nat.reduceSub, List.replicate, getM_zero, getM_succ, items_tup, items_lst, List.set, ofO_some, compF, compF2, setT, setU, setAll, wipeE, truth_bl, nox_pure, m2_ltN]
      have hf5 : Fr j m m5 := by rw [e5]; exact hf.trans (Fr.set _ _ _)
      by_cases hlt : (r5 : Int) < 1 + r
      · try simp -implicitDefEqProofs only [runF, exs, ex, ev, evT, evI, evs, evAnd, evOr, evAndT, evOrT, QL.t3, QL.s3, QL.tr, bind_pure, bind_assoc, List.length_cons, List.length_nil, if_true, List.map_cons, List.map_nil, List.cons_append, List.nil_append, Nat.reduceAdd, Nat.reduceSub, List.replicate, getM_zero, getM_succ, items_tup, items_lst, List.set, ofO_some, compF, compF2, setT, setU, setAll, wipeE, truth_bl, nox_pure, decide_eq_true hlt, ix_wsL hxl, ix_wsL hyl, tup2, m1_len, m2_add]
        refine Ok.seq (draw hj5 (by omega) (by omega) (by simp; omega)) ?_
        rintro _ m6 ⟨r6, rfl, hr6, ⟨c6, e6⟩, hj6⟩
        try simp -implicitDefEqProofs only [runF, exs, ex, ev, evT, evI, evs, evAnd, evOr, evAndT, evOrT, QL.t3, QL.s3, QL.tr, bind_pure, bind_assoc, List.length_cons, List.length_nil, if_true, List.map_cons, List.map_nil, List.cons_append, List.nil_append, Nat.reduceAdd, Nat.reduceSub, List.replicate, getM_zero, getM_succ, items_tup, items_lst, List.set, ofO_some, compF, compF2, setT, setU, setAll, wipeE, truth_bl, nox_pure]
        refine Ok.seq (draw hj6 (by omega) (by omega) (by omega)) ?_
        rintro _ m7 ⟨r7, rfl, hr7, ⟨c7, e7⟩, hj7⟩
        have hf7 : Fr j m m7 := by rw [e7, e6]; exact (hf5.trans (Fr.set _ _ _)).trans (Fr.set _ _ _)
        try simp -implicitDefEqProofs only [runF, exs, ex, ev, evT, evI, evs, evAnd, evOr, evAndT, evOrT, QL.t3, QL.s3, QL.tr, bind_pure, bind_assoc, List.length_cons, List.length_nil, if_true, List.map_cons, List.map_nil, List.cons_append, List.nil_append, Nat.reduceAdd, Nat.reduceSub, List.replicate, getM_zero, getM_succ, items_tup, items_lst, List.set, ofO_some, compF, compF2, setT, setU, setAll, wipeE, truth_bl, nox_pure, eq0N]
        refine Ok.seq (Q := fun fl m' => m' = m7 ∧ ∃ p : Nat × Nat, (p = (x, x + y) ∨ p = (x + y, x)) ∧ fl = .nx [some (D.ref j), some (.lst (ws.map .str)), some (.lst (T.map (linkD ws))), some (.int (1 + r)), some (nI x), some (nI (x + y)), some (linkD ws p), some (nI r6)]) ?_ ?_
        · by_cases h0 : r7 = 0
          · try simp -implicitDefEqProofs only [runF, exs, ex, ev, evT, evI, evs, evAnd, evOr, evAndT, evOrT, QL.t3, QL.s3, QL.tr, bind_pure, bind_assoc, List.length_cons, List.length_nil, if_true, List.map_cons, List.map_nil, List.cons_append, List.nil_append, Nat.reduceAdd, Nat.reduceSub, List.replicate, getM_zero, getM_succ, items_tup, items_lst, List.set, ofO_some, compF, compF2, setT, setU, setAll, wipeE, truth_bl, nox_pure, decide_eq_true h0, ix_wsL hxl, ix_wsL hyl, tup2]
            exact Ok.pure ⟨rfl, _, .inr rfl, rfl⟩
          · try simp -implicitDefEqProofs only [runF, exs, ex, ev, evT, evI, evs, evAnd, evOr, evAndT, evOrT, QL.t3, QL.s3, QL.tr, bind_pure, bind_assoc, List.length_cons, List.length_nil, if_true, List.map_cons, List.map_nil, List.cons_append, List.nil_append, Nat.reduceAdd, Nat.reduceSub, List.replicate, getM_zero, getM_succ, items_tup, items_lst, List.set, ofO_some, compF, compF2, setT, setU, setAll, wipeE, truth_bl, nox_pure, decide_eq_false h0, Bool.false_eq_true, if_false]
            exact Ok.pure ⟨rfl, _, .inl rfl, rfl⟩
        · rintro _ _ ⟨rfl, p, hp, rfl⟩
          have hkp : key p = (x, x + y) := by
            rcases hp with rfl | rfl
            · unfold key; simp
            · unfold key; simp
          try simp -implicitDefEqProofs only [runF, exs, ex, ev, evT, evI, evs, evAnd, evOr, evAndT, evOrT, QL.t3, QL.s3, QL.tr, bind_pure, bind_assoc, List.length_cons, List.length_nil, if_true, List.map_cons, List.map_nil, List.cons_append, List.nil_append, Nat.reduceAdd, Nat.reduceSub, List.replicate, getM_zero, getM_succ, items_tup, items_lst, List.set, ofO_some, compF, compF2, setT, setU, setAll, wipeE, truth_bl, nox_pure, m2_slTL, m2_slFL, lsto1]
          rw [m2_addL (by simp; omega), bind_pure]
          try simp -implicitDefEqProofs only [runF, exs, ex, ev, evT, evI, evs, evAnd, evOr, evAndT, evOrT, QL.t3, QL.s3, QL.tr, bind_pure, bind_assoc, List.length_cons, List.length_nil, if_true, List.map_cons, List.map_nil, List.cons_append, List.nil_append, Nat.reduceAdd, Nat.reduceSub, List.replicate, getM_zero, getM_succ, items_tup, items_lst, List.set, ofO_some, compF, compF2, setT, setU, setAll, wipeE, truth_bl, nox_pure, m2_slTL, m2_slFL, lsto1]
          rw [m2_addL (by simp; omega), bind_pure]
          have hpp := put_perm T p r6
          have hmem : ∀ z, z ∈ T.take r6 ++ [p] ++ T.drop r6 ↔ z = p ∨ z ∈ T := fun z => by rw [hpp.mem_iff, List.mem_cons]
          refine Ok.pure ⟨_, rfl, T.take r6 ++ [p] ++ T.drop r6, some (nI (x + y)), some (linkD ws p), some (nI r6), ?_, ⟨?_, ?_⟩, ?_, hf7, hj7.mono (by simp; omega)⟩
          · simp [List.map_take, List.map_drop]
          · intro z hz
            rcases (hmem z).mp hz with rfl | hz
            · rcases hp with rfl | rfl
              · exact ⟨hxl, hyl⟩
              · exact ⟨hyl, hxl⟩
            · exact hT.lt z hz
          · rw [(hpp.map key).nodup_iff, List.map_cons, List.nodup_cons]
            refine ⟨fun z => ?_, hT.nd⟩
            obtain ⟨p2, hp2, e2⟩ := List.mem_map.mp z
            have := hk p2 hp2
            rw [e2, hkp] at this
            simp at this
            omega
          · intro z hz
            rcases (hmem z).mp hz with rfl | hz
            · rw [hkp]; right; simp; omega
            · have := hk z hz
              simp only [List.length_append, List.length_singleton]
              omega
      · try simp -implicitDefEqProofs only [runF, exs, ex, ev, evT, evI, evs, evAnd, evOr, evAndT, evOrT, QL.t3, QL.s3, QL.tr, bind_pure, bind_assoc, List.length_cons, List.length_nil, if_true, List.map_cons, List.map_nil, List.cons_append, List.nil_append, Nat.reduceAdd, Nat.reduceSub, List.replicate, getM_zero, getM_succ, items_tup, items_lst, List.set, ofO_some, compF, compF2, setT, setU, setAll, wipeE, truth_bl, nox_pure, decide_eq_false hlt, Bool.false_eq_true, if_false]
        refine Ok.pure ⟨_, rfl, T, _, _, _, rfl, hT, fun p hp => ?_, hf5, hj5.mono (by simp; omega)⟩
        have := hk p hp
        simp only [List.length_append, List.length_singleton]
        omega
    · rintro ρ m4 ⟨T, t2, t3, t4, rfl, hT, hk, hf, hj⟩
      refine Ok.pure ⟨_, rfl, T, _, _, _, _, rfl, hT, fun p hp => ?_, hf, hj.mono (by simp at hj ⊢; omega)⟩
      have := hk p hp
      simp only [List.length_append, List.length_singleton]
      omega
  · rintro ρ m3 ⟨T, t1, t2, t3, t4, rfl, hT, hk, hf, hj⟩
    try simp -implicitDefEqProofs only [runF, exs, ex, ev, evT, evI, evs, evAnd, evOr, evAndT, evOrT, QL.t3, QL.s3, QL.tr, bind_pure, bind_assoc, List.length_cons, List.length_nil, if_true, List.map_cons, List.map_nil, List.cons_append, List.nil_append, Nat.reduceAdd, Nat.reduceSub, List.replicate, getM_zero, getM_succ, items_tup, items_lst, List.set, ofO_some, compF, compF2, setT, setU, setAll, wipeE, truth_bl, nox_pure, m1_tuple, lsto2]
    exact Ok.pure ⟨T, rfl, hT, hf, hj.mono (by simp; omega)⟩
end QV
end
section
set_option linter.all false
set_option maxRecDepth 100000
set_option autoImplicit false
/-! QN: names, the text of a rule. -/
namespace QV
open PySem QL QP
theorem pure_of {α : Type} {x : M α} {v : α} (h : ∀ m, Ok x m fun d m' => m' = m ∧ d = v) : x = M.pure v := by
  funext m
  obtain ⟨a, m', h1, rfl, rfl⟩ := h m
  exact h1
theorem Ok.eq {α : Type} {m : Mem} {v : α} : Ok (M.pure v) m fun d m' => m' = m ∧ d = v := Ok.pure ⟨rfl, rfl⟩
theorem m2_inS (c : Nat) (y : Str) : doM2 .isIn (.str ⟨#[c]⟩) (.str y) = M.pure (.bl (decide (c ∈ y.cps.toList))) := rfl
theorem let_str : (("abcdefghijklmnopqrstuvwxyz" : Str)).cps.toList = (List.range 26).map (97 + ·) := by decide +kernel
theorem dig_str : (("0123456789" : Str)).cps.toList = (List.range 10).map (48 + ·) := by decide +kernel
theorem in_let (c : Nat) : decide (c ∈ (("abcdefghijklmnopqrstuvwxyz" : Str)).cps.toList) = letB c := by
  rw [let_str]
  unfold letB
  rw [← Bool.decide_and]
  refine decide_eq_decide.mpr ?_
  rw [List.mem_map]
  constructor
  · rintro ⟨k, hk, rfl⟩
    have := List.mem_range.mp hk
    omega
  · rintro ⟨h1, h2⟩
    exact ⟨c - 97, List.mem_range.mpr (by omega), by omega⟩
theorem in_dig (c : Nat) : decide (c ∈ (("0123456789" : Str)).cps.toList) = (decide (48 ≤ c) && decide (c ≤ 57)) := by
  rw [dig_str, ← Bool.decide_and]
  refine decide_eq_decide.mpr ?_
  rw [List.mem_map]
  constructor
  · rintro ⟨k, hk, rfl⟩
    have := List.mem_range.mp hk
    omega
  · rintro ⟨h1, h2⟩
    exact ⟨c - 48, List.mem_range.mpr (by omega), by omega⟩
theorem m1_lenS {x : Str} (h : x.length ≤ LIM) : doM1 .len (.str x) = M.pure (.int x.length) := by
  funext m
  show ofO (if x.length ≤ LIM then some (D.int x.length) else none) m = _
  rw [if_pos h]
  rfl
theorem chars_ok {x : Str} (h : x.length ≤ LIM) : charsM (.str x) = M.pure (x.cps.toList.map fun c => .str ⟨#[c]⟩) := if_pos h
theorem all_map {α : Type} (xs : List α) (p : α → Bool) : doM1 .all (.lst (xs.map fun k => D.bl (p k))) = M.pure (.bl (xs.all p)) := by
  have := m1_all (xs.map p)
  rw [List.map_map] at this
  rw [show (xs.map fun k => D.bl (p k)) = xs.map (D.bl ∘ p) from rfl, this]
  congr 2
  rw [List.all_map]
  rfl
theorem ofO_b (b : Bool) : (ofO (some b) : M Bool) = M.pure b := rfl
theorem is_name (n : Nat) (w : Str) (hl : w.length ≤ LIM) : run PT (n + 1) 31 [.str w] = M.pure (.bl (nameL w.cps.toList)) := by
  have e := len_cps w
  rw [run_s (fn := f31) rfl]
  try simp -implicitDefEqProofs only [runF, exs, ex, ev, evT, evI, evs, evAnd, evOr, evAndT, evOrT, QL.t3, QL.s3, QL.tr, bind_pure, bind_assoc, List.length_cons, List.length_nil, if_true, List.map_cons, List.map_nil, List.cons_append, List.nil_append, Nat.reduceAdd, Nat.reduceSub, List.replicate, getM_zero, getM_succ, items_tup, items_lst, List.set, ofO_some, compF, compF2, setT, setU, setAll, wipeE, truth_bl, nox_pure, f31, recvI, recvX, m1_lenS hl, show isiO .str (.str w) = some true from rfl, Bool.not_true, Bool.false_eq_true, if_false, m2_le]
  cases hw : w.cps.toList with
  | nil =>
    rw [hw] at e
    simp only [List.length_nil] at e
    have h1 : decide ((1 : Int) ≤ (w.length : Int)) = false := decide_eq_false (by omega)
    try simp -implicitDefEqProofs only [runF, exs, ex, ev, evT, evI, evs, evAnd, evOr, evAndT, evOrT, QL.t3, QL.s3, QL.tr, bind_pure, bind_assoc, List.length_cons, List.length_nil, if_true, List.map_cons, List.map_nil, List.cons_append, List.nil_append, Nat.reduceAdd, Nat.reduceSub, List.replicate, getM_zero, getM_succ, items_tup, items_lst, List.set, ofO_some, compF, compF2, setT, setU, setAll, wipeE, truth_bl, nox_pure, h1, Bool.not_false]
    rfl
  | cons c r =>
    rw [hw] at e
    simp only [List.length_cons] at e
    have h1 : decide ((1 : Int) ≤ (w.length : Int)) = true := decide_eq_true (by omega)
    try simp -implicitDefEqProofs only [runF, exs, ex, ev, evT, evI, evs, evAnd, evOr, evAndT, evOrT, QL.t3, QL.s3, QL.tr, bind_pure, bind_assoc, List.length_cons, List.length_nil, if_true, List.map_cons, List.map_nil, List.cons_append, List.nil_append, Nat.reduceAdd, Nat.reduceSub, List.replicate, getM_zero, getM_succ, items_tup, items_lst, List.set, ofO_some, compF, compF2, setT, setU, setAll, wipeE, truth_bl, nox_pure, h1]
    by_cases h8 : w.length ≤ 8
    · have h8' : decide ((w.length : Int) ≤ 8) = true := decide_eq_true (by omega)
      try simp -implicitDefEqProofs only [runF, exs, ex, ev, evT, evI, evs, evAnd, evOr, evAndT, evOrT, QL.t3, QL.s3, QL.tr, bind_pure, bind_assoc, List.length_cons, List.length_nil, if_true, List.map_cons, List.map_nil, List.cons_append, List.nil_append, Nat.reduceAdd, Nat.reduceSub, List.replicate, getM_zero, getM_succ, items_tup, items_lst, List.set, ofO_some, compF, compF2, setT, setU, setAll, wipeE, truth_bl, nox_pure, h8', Bool.not_true, Bool.false_eq_true, if_false]
      rw [show doM2 .ix (.str w) (.int 0) = M.pure (.str ⟨#[c]⟩) from ix_str (r := 0) hw (by rw [List.length_cons]; omega) rfl]
      try simp -implicitDefEqProofs only [runF, exs, ex, ev, evT, evI, evs, evAnd, evOr, evAndT, evOrT, QL.t3, QL.s3, QL.tr, bind_pure, bind_assoc, List.length_cons, List.length_nil, if_true, List.map_cons, List.map_nil, List.cons_append, List.nil_append, Nat.reduceAdd, Nat.reduceSub, List.replicate, getM_zero, getM_succ, items_tup, items_lst, List.set, ofO_some, compF, compF2, setT, setU, setAll, wipeE, truth_bl, nox_pure, m2_inS, in_let]
      rw [chars_ok hl, hw]
      try simp -implicitDefEqProofs only [runF, exs, ex, ev, evT, evI, evs, evAnd, evOr, evAndT, evOrT, QL.t3, QL.s3, QL.tr, bind_pure, bind_assoc, List.length_cons, List.length_nil, if_true, List.map_cons, List.map_nil, List.cons_append, List.nil_append, Nat.reduceAdd, Nat.reduceSub, List.replicate, getM_zero, getM_succ, items_tup, items_lst, List.set, ofO_some, compF, compF2, setT, setU, setAll, wipeE, truth_bl, nox_pure]
      have hlt : (c :: r).length ≤ LIM := by rw [List.length_cons, ← e]; exact hl
      rw [lim_ok (by simpa using hlt), bind_pure]
      have hc : ∀ (f : D → M (Option D)), (∀ x ∈ c :: r, f (.str ⟨#[x]⟩) = M.pure (some (.bl (sigB x)))) → compL f (.str ⟨#[c]⟩ :: r.map fun c => D.str ⟨#[c]⟩) = M.pure ((c :: r).map fun x => D.bl (sigB x)) := fun f hf => compL_map (c := fun x => D.str ⟨#[x]⟩) (xs := c :: r) hf
      rw [hc]
      · cases hlc : letB c with
        | false =>
          try simp -implicitDefEqProofs only [runF, exs, ex, ev, evT, evI, evs, evAnd, evOr, evAndT, evOrT, QL.t3, QL.s3, QL.tr, bind_pure, bind_assoc, List.length_cons, List.length_nil, if_true, List.map_cons, List.map_nil, List.cons_append, List.nil_append, Nat.reduceAdd, Nat.reduceSub, List.replicate, getM_zero, getM_succ, items_tup, items_lst, List.set, ofO_some, compF, compF2, setT, setU, setAll, wipeE, truth_bl, nox_pure, Bool.false_eq_true, if_false]
          simp [nameL, hlc]
        | true =>
          try simp -implicitDefEqProofs only [runF, exs, ex, ev, evT, evI, evs, evAnd, evOr, evAndT, evOrT, QL.t3, QL.s3, QL.tr, bind_pure, bind_assoc, List.length_cons, List.length_nil, if_true, List.map_cons, List.map_nil, List.cons_append, List.nil_append, Nat.reduceAdd, Nat.reduceSub, List.replicate, getM_zero, getM_succ, items_tup, items_lst, List.set, ofO_some, compF, compF2, setT, setU, setAll, wipeE, truth_bl, nox_pure]
          have ea : doM1 .all (.lst (.bl (sigB c) :: r.map fun x => .bl (sigB x))) = M.pure (.bl ((c :: r).all sigB)) := all_map (c :: r) sigB
          rw [ea]
          show M.pure _ = M.pure _
          congr 2
          simp only [nameL, hlc, List.all_cons, sigB_of hlc, Bool.true_and]
          rw [decide_eq_true (by omega), Bool.and_true]
      · intro x hx
        try simp -implicitDefEqProofs only [runF, exs, ex, ev, evT, evI, evs, evAnd, evOr, evAndT, evOrT, QL.t3, QL.s3, QL.tr, bind_pure, bind_assoc, List.length_cons, List.length_nil, if_true, List.map_cons, List.map_nil, List.cons_append, List.nil_append, Nat.reduceAdd, Nat.reduceSub, List.replicate, getM_zero, getM_succ, items_tup, items_lst, List.set, ofO_some, compF, compF2, setT, setU, setAll, wipeE, truth_bl, nox_pure, m2_inS, in_let, in_dig]
        unfold sigB
        cases letB x with
        | true => rfl
        | false => 
          simp only [Bool.false_eq_true, if_false, Bool.false_or]
          rfl
    · have h8' : decide ((w.length : Int) ≤ 8) = false := decide_eq_false (by omega)
      try simp -implicitDefEqProofs only [runF, exs, ex, ev, evT, evI, evs, evAnd, evOr, evAndT, evOrT, QL.t3, QL.s3, QL.tr, bind_pure, bind_assoc, List.length_cons, List.length_nil, if_true, List.map_cons, List.map_nil, List.cons_append, List.nil_append, Nat.reduceAdd, Nat.reduceSub, List.replicate, getM_zero, getM_succ, items_tup, items_lst, List.set, ofO_some, compF, compF2, setT, setU, setAll, wipeE, truth_bl, nox_pure, h8', Bool.not_false]
      simp only [nameL]
      rw [decide_eq_false (by omega), Bool.and_false, Bool.and_false]
end QV
end
section
set_option linter.all false
set_option maxRecDepth 100000
set_option autoImplicit false
/-! QN2: the text of a rule, and how it is read. -/
namespace QV
open PySem QL QP
theorem m2_join {a : Str} {ys : List Str} (h : (ys.map (·.length)).sum + ys.length * a.length ≤ LIM) : doM2 .join (.str a) (.lst (ys.map .str)) = M.pure (.str (Txt.join a ys)) := by
  funext m
  show ofO (match strsO (ys.map .str) with
      | some ys => if (ys.map (·.length)).sum + ys.length * a.length ≤ LIM then some (D.str (PySem.Txt.join a ys)) else none
      | none => none) m = _
  rw [strsO_map]
  show ofO (if (ys.map (·.length)).sum + ys.length * a.length ≤ LIM then some (D.str (PySem.Txt.join a ys)) else none) m = _
  rw [if_pos h]
  rfl
theorem recvJ (x : Str) : recvM .join (.str x) = M.pure ⟨⟩ := rfl
theorem recvSp (x : Str) : recvM .split (.str x) = M.pure ⟨⟩ := rfl
theorem m2_split {a b : Str} (h : (b.length == 0) = false) (h2 : a.length + 2 ≤ LIM) : doM2 .split (.str a) (.str b) = M.pure (.lst ((Txt.split a b).map .str)) := by
  funext m
  show ofO (if (b.length == 0) = false ∧ a.length + 2 ≤ LIM then some (D.lst ((PySem.Txt.split a b).map .str)) else none) m = _
  rw [if_pos ⟨h, h2⟩]
  rfl
theorem join_len (y : Str) : ∀ parts : List Str, (Txt.join y parts).length ≤ (parts.map (·.length)).sum + parts.length * y.length := by
  intro parts
  rw [TL.join_eq]
  induction parts with
  | nil => exact Nat.zero_le _
  | cons x r ih =>
    cases r with
    | nil => show x.length ≤ _; simp
    | cons z r =>
      show (x ++ y ++ Str.join y (z :: r)).length ≤ _
      rw [len_cps, cps_app, cps_app, List.length_append, List.length_append, ← len_cps, ← len_cps, ← len_cps]
      simp only [List.map_cons, List.sum_cons, List.length_cons] at ih ⊢
      have : (r.length + 1 + 1) * y.length = (r.length + 1) * y.length + y.length := Nat.succ_mul _ _
      omega
def tieS (ws : List Str) (p : Nat × Nat) : Str := ("tie " : Str) ++ wS ws p.1 ++ (" " : Str) ++ wS ws p.2
def headS (ws : List Str) : Str := Txt.join " " ("kinds" :: ws)
def textS (ws : List Str) (T : List (Nat × Nat)) : Str := Txt.join "\n" (headS ws :: T.map (tieS ws))
/-- the kinds and ties of a rule -/
structure WsOk (ws : List Str) : Prop where
  pos : 1 ≤ ws.length
  le : ws.length ≤ 6
  nd : ws.Nodup
  nm : ∀ w ∈ ws, Name w
theorem WsOk.at_ {ws : List Str} (h : WsOk ws) {k : Nat} (hk : k < ws.length) : Name (wS ws k) := h.nm _ (wS_mem hk)
theorem WsOk.sum {ws : List Str} (h : WsOk ws) : (ws.map (·.length)).sum ≤ 48 := by
  have : ∀ l : List Str, (∀ w ∈ l, w.length ≤ 8) → (l.map (·.length)).sum ≤ 8 * l.length := by
    intro l
    induction l with
    | nil => intro _; simp
    | cons a r ih =>
      intro hl
      have := hl a List.mem_cons_self
      have := ih fun w hw => hl w (List.mem_cons_of_mem _ hw)
      simp only [List.map_cons, List.sum_cons, List.length_cons]
      omega
  have := this ws fun w hw => (h.nm w hw).len
  have := h.le
  omega
theorem len_kinds : (("kinds" : Str)).length = 5 := by decide +kernel
theorem len_tie : (("tie " : Str)).length = 4 := by decide +kernel
theorem len_sp : ((" " : Str)).length = 1 := by decide +kernel
theorem len_nl : (("\n" : Str)).length = 1 := by decide +kernel
theorem cps_kinds : (("kinds" : Str)).cps.toList = [107, 105, 110, 100, 115] := by decide +kernel
theorem cps_tie4 : (("tie " : Str)).cps.toList = [116, 105, 101, 32] := by decide +kernel
theorem cps_tie : (("tie" : Str)).cps.toList = [116, 105, 101] := by decide +kernel
theorem cps_sp : ((" " : Str)).cps.toList = [32] := by decide +kernel
theorem cps_nl : (("\n" : Str)).cps.toList = [10] := by decide +kernel
theorem app_len (x y : Str) : (x ++ y).length = x.length + y.length := by rw [len_cps, cps_app, List.length_append, ← len_cps, ← len_cps]
theorem tie_len {ws : List Str} (h : WsOk ws) {p : Nat × Nat} (h1 : p.1 < ws.length) (h2 : p.2 < ws.length) : (tieS ws p).length ≤ 21 := by
  have := (h.at_ h1).len
  have := (h.at_ h2).len
  unfold tieS
  rw [app_len, app_len, app_len, len_tie, len_sp]
  omega
theorem head_len {ws : List Str} (h : WsOk ws) : (headS ws).length ≤ 100 := by
  have h1 := join_len " " ("kinds" :: ws)
  have h2 := h.sum
  have h3 := h.le
  unfold headS
  rw [len_sp] at h1
  simp only [List.map_cons, List.sum_cons, List.length_cons, len_kinds] at h1
  omega
theorem ties_sum {ws : List Str} (h : WsOk ws) : ∀ {T : List (Nat × Nat)}, (∀ p ∈ T, p.1 < ws.length ∧ p.2 < ws.length) → ((T.map (tieS ws)).map (·.length)).sum ≤ 21 * T.length
  | [], _ => Nat.zero_le _
  | p :: r, hT => by
    have h1 := hT p List.mem_cons_self
    have := tie_len h h1.1 h1.2
    have := ties_sum h (T := r) fun p hp => hT p (List.mem_cons_of_mem _ hp)
    simp only [List.map_cons, List.sum_cons, List.length_cons]
    omega
theorem text_sum {ws : List Str} {T : List (Nat × Nat)} (h : WsOk ws) (hT : TOk ws.length T) : ((headS ws :: T.map (tieS ws)).map (·.length)).sum + (headS ws :: T.map (tieS ws)).length * (("\n" : Str)).length ≤ 1000 := by
  have h1 := head_len h
  have h2 := ties_sum h hT.lt
  have h3 := hT.len h.le
  rw [len_nl]
  simp only [List.map_cons, List.sum_cons, List.length_cons, List.length_map] at h2 ⊢
  omega
theorem text_len {ws : List Str} {T : List (Nat × Nat)} (h : WsOk ws) (hT : TOk ws.length T) : (textS ws T).length ≤ 1000 := Nat.le_trans (join_len _ _) (text_sum h hT)
theorem law_text (n : Nat) {ws : List Str} {T : List (Nat × Nat)} (h : WsOk ws) (hT : TOk ws.length T) : run PT (n + 1) 7 [netD ws T] = M.pure (.str (textS ws T)) := by
  have hlim : 10000 ≤ LIM := by decide
  have hwl := h.le
  have hTl := hT.len h.le
  have hws := h.sum
  rw [run_s (fn := f7) rfl]
  unfold netD
  try simp -implicitDefEqProofs only [runF, exs, ex, ev, evT, evI, evs, evAnd, evOr, evAndT, evOrT, QL.t3, QL.s3, QL.tr, bind_pure, bind_assoc, List.length_cons, List.length_nil, if_true, List.map_cons, List.map_nil, List.cons_append, List.nil_append, Nat.reduceAdd, Nat.reduceSub, List.replicate, getM_zero, getM_succ, items_tup, items_lst, List.set, ofO_some, compF, compF2, setT, setU, setAll, wipeE, truth_bl, nox_pure, f7, recvJ, recvA, recvX, ixL_0, ixL_1, lsto1, m1_list]
  rw [m2_addL (by simp; omega), bind_pure]
  rw [show [D.str (Str.ofString "kinds")] ++ ws.map D.str = (("kinds" : Str) :: ws).map D.str from rfl]
  rw [m2_join (by simp only [len_sp, List.map_cons, List.sum_cons, List.length_cons, len_kinds]; omega), bind_pure]
  try simp -implicitDefEqProofs only [runF, exs, ex, ev, evT, evI, evs, evAnd, evOr, evAndT, evOrT, QL.t3, QL.s3, QL.tr, bind_pure, bind_assoc, List.length_cons, List.length_nil, if_true, List.map_cons, List.map_nil, List.cons_append, List.nil_append, Nat.reduceAdd, Nat.reduceSub, List.replicate, getM_zero, getM_succ, items_tup, items_lst, List.set, ofO_some, compF, compF2, setT, setU, setAll, wipeE, truth_bl, nox_pure, lsto1]
  rw [lim_ok (by simp; omega), bind_pure, compL_map (c := linkD ws) (g := fun p => .str (tieS ws p))]
  · try simp -implicitDefEqProofs only [runF, exs, ex, ev, evT, evI, evs, evAnd, evOr, evAndT, evOrT, QL.t3, QL.s3, QL.tr, bind_pure, bind_assoc, List.length_cons, List.length_nil, if_true, List.map_cons, List.map_nil, List.cons_append, List.nil_append, Nat.reduceAdd, Nat.reduceSub, List.replicate, getM_zero, getM_succ, items_tup, items_lst, List.set, ofO_some, compF, compF2, setT, setU, setAll, wipeE, truth_bl, nox_pure]
    rw [m2_addL (by simp; omega), bind_pure]
    rw [show [D.str (Txt.join (Str.ofString " ") (Str.ofString "kinds" :: ws))] ++ T.map (fun p => D.str (tieS ws p)) = (headS ws :: T.map (tieS ws)).map D.str by rw [List.map_cons, List.map_map]; rfl]
    rw [m2_join (Nat.le_trans (text_sum h hT) (by omega)), bind_pure]
    rfl
  · intro p hp
    have h1 := hT.lt p hp
    have hl1 := (h.at_ h1.1).len
    have hl2 := (h.at_ h1.2).len
    unfold linkD
    try simp -implicitDefEqProofs only [runF, exs, ex, ev, evT, evI, evs, evAnd, evOr, evAndT, evOrT, QL.t3, QL.s3, QL.tr, bind_pure, bind_assoc, List.length_cons, List.length_nil, if_true, List.map_cons, List.map_nil, List.cons_append, List.nil_append, Nat.reduceAdd, Nat.reduceSub, List.replicate, getM_zero, getM_succ, items_tup, items_lst, List.set, ofO_some, compF, compF2, setT, setU, setAll, wipeE, truth_bl, nox_pure]
    rw [m2_addS (by rw [len_tie]; omega), bind_pure]
    try simp -implicitDefEqProofs only [runF, exs, ex, ev, evT, evI, evs, evAnd, evOr, evAndT, evOrT, QL.t3, QL.s3, QL.tr, bind_pure, bind_assoc, List.length_cons, List.length_nil, if_true, List.map_cons, List.map_nil, List.cons_append, List.nil_append, Nat.reduceAdd, Nat.reduceSub, List.replicate, getM_zero, getM_succ, items_tup, items_lst, List.set, ofO_some, compF, compF2, setT, setU, setAll, wipeE, truth_bl, nox_pure]
    rw [m2_addS (by rw [app_len, len_tie, len_sp]; omega), bind_pure]
    try simp -implicitDefEqProofs only [runF, exs, ex, ev, evT, evI, evs, evAnd, evOr, evAndT, evOrT, QL.t3, QL.s3, QL.tr, bind_pure, bind_assoc, List.length_cons, List.length_nil, if_true, List.map_cons, List.map_nil, List.cons_append, List.nil_append, Nat.reduceAdd, Nat.reduceSub, List.replicate, getM_zero, getM_succ, items_tup, items_lst, List.set, ofO_some, compF, compF2, setT, setU, setAll, wipeE, truth_bl, nox_pure]
    rw [m2_addS (by rw [app_len, app_len, len_tie, len_sp]; omega), bind_pure]
    rfl
theorem Name.no {w : Str} (h : Name w) {c : Nat} (hc : c < 48) : c ∉ w.cps.toList := fun z => by have := (h.sig c z).1; omega
theorem ext_cps {x y : Str} (h : x.cps.toList = y.cps.toList) : x = y := TL.ext_tl h
theorem join3 (ws : List Str) (p : Nat × Nat) : tieS ws p = Txt.join " " ["tie", wS ws p.1, wS ws p.2] := by
  rw [TL.join_eq]
  refine ext_cps ?_
  unfold tieS
  show _ = (("tie" : Str) ++ (" " : Str) ++ Str.join " " [wS ws p.1, wS ws p.2]).cps.toList
  show _ = (("tie" : Str) ++ (" " : Str) ++ (wS ws p.1 ++ (" " : Str) ++ wS ws p.2)).cps.toList
  simp only [cps_app, cps_tie4, cps_tie, cps_sp, List.append_assoc]
  rfl
theorem split_head {ws : List Str} (h : WsOk ws) : Txt.split (headS ws) " " = ("kinds" : Str) :: ws := by
  unfold headS
  refine TL.split_join (s := 32) (S := []) cps_sp (by decide +kernel) (by simp) fun p hp => ?_
  rcases List.mem_cons.mp hp with rfl | hp
  · show 32 ∉ (("kinds" : Str)).cps.toList; rw [cps_kinds]; decide
  · exact (h.nm p hp).no (by omega)
theorem split_tie {ws : List Str} (h : WsOk ws) {p : Nat × Nat} (h1 : p.1 < ws.length) (h2 : p.2 < ws.length) : Txt.split (tieS ws p) " " = [("tie" : Str), wS ws p.1, wS ws p.2] := by
  rw [join3]
  refine TL.split_join (s := 32) (S := []) cps_sp (by decide +kernel) (by simp) fun q hq => ?_
  simp only [List.mem_cons, List.not_mem_nil, or_false] at hq
  rcases hq with rfl | rfl | rfl
  · show 32 ∉ (("tie" : Str)).cps.toList; rw [cps_tie]; decide
  · exact (h.at_ h1).no (by omega)
  · exact (h.at_ h2).no (by omega)
theorem mem_joinL {S : List Nat} {c : Nat} : ∀ {l : List (List Nat)}, c ∈ TL.joinL S l → c ∈ S ∨ ∃ x ∈ l, c ∈ x
  | [], h => by cases h
  | [p], h => .inr ⟨p, by simp, h⟩
  | p :: q :: r, h => by
    have h' : c ∈ p ++ (S ++ TL.joinL S (q :: r)) := h
    rcases List.mem_append.mp h' with h | h
    · exact .inr ⟨p, by simp, h⟩
    · rcases List.mem_append.mp h with h | h
      · exact .inl h
      · rcases mem_joinL h with h | ⟨x, hx, h⟩
        · exact .inl h
        · exact .inr ⟨x, List.mem_cons_of_mem _ hx, h⟩
theorem head_no {ws : List Str} (h : WsOk ws) : 10 ∉ (headS ws).cps.toList := by
  unfold headS
  rw [TL.join_eq]
  intro z
  have z : 10 ∈ TL.tl (Str.join " " ("kinds" :: ws)) := z
  rw [TL.tl_join] at z
  rcases mem_joinL z with z | ⟨x, hx, z⟩
  · rw [show TL.tl (" " : Str) = _ from cps_sp] at z; simp at z
  · obtain ⟨w, hw, rfl⟩ := List.mem_map.mp hx
    rcases List.mem_cons.mp hw with rfl | hw
    · rw [show TL.tl ("kinds" : Str) = _ from cps_kinds] at z; simp at z
    · exact (h.nm w hw).no (by omega) z
theorem tie_no {ws : List Str} (h : WsOk ws) {p : Nat × Nat} (h1 : p.1 < ws.length) (h2 : p.2 < ws.length) : 10 ∉ (tieS ws p).cps.toList := by
  unfold tieS
  simp only [cps_app, cps_tie4, cps_sp, List.mem_append, not_or]
  exact ⟨⟨⟨by decide, (h.at_ h1).no (by omega)⟩, by decide⟩, (h.at_ h2).no (by omega)⟩
theorem split_text {ws : List Str} {T : List (Nat × Nat)} (h : WsOk ws) (hT : TOk ws.length T) : Txt.split (textS ws T) "\n" = headS ws :: T.map (tieS ws) := by
  unfold textS
  refine TL.split_join (s := 10) (S := []) cps_nl (by decide +kernel) (by simp) fun q hq => ?_
  rcases List.mem_cons.mp hq with rfl | hq
  · exact head_no h
  · obtain ⟨p, hp, rfl⟩ := List.mem_map.mp hq
    have := hT.lt p hp
    exact tie_no h this.1 this.2
theorem sp_pos : (((" " : Str)).length == 0) = false := by rw [len_sp]; rfl
theorem nl_pos : ((("\n" : Str)).length == 0) = false := by rw [len_nl]; rfl
theorem ok_tie : PyData.strOk "tie" = true := by decide +kernel
theorem ok_kinds : PyData.strOk "kinds" = true := by decide +kernel
theorem m2_eqS {x y : Str} (hx : PyData.strOk x = true) (hy : PyData.strOk y = true) : doM2 .eq (.str x) (.str y) = M.pure (.bl (decide (x = y))) := by
  rw [m2_eq (a := .str x) (b := .str y) hx hy (by show (0 : Nat) ≤ 64; omega) (by show (0 : Nat) ≤ 64; omega)]
  congr 2
  exact decide_eq_decide.mpr ⟨fun h => by injection h, fun h => by rw [h]⟩
theorem m2_neS {x y : Str} (hx : PyData.strOk x = true) (hy : PyData.strOk y = true) : doM2 .ne (.str x) (.str y) = M.pure (.bl (!decide (x = y))) := by
  rw [m2_ne (a := .str x) (b := .str y) hx hy (by show (0 : Nat) ≤ 64; omega) (by show (0 : Nat) ≤ 64; omega)]
  congr 3
  exact decide_eq_decide.mpr ⟨fun h => by injection h, fun h => by rw [h]⟩
theorem read_tie (n : Nat) {ws : List Str} (h : WsOk ws) {p : Nat × Nat} (h1 : p.1 < ws.length) (h2 : p.2 < ws.length) : run PT (n + 1) 44 [.str (tieS ws p)] = M.pure (linkD ws p) := by
  have hlim : 10000 ≤ LIM := by decide
  have := tie_len h h1 h2
  rw [run_s (fn := f44) rfl]
  try simp -implicitDefEqProofs only [runF, exs, ex, ev, evT, evI, evs, evAnd, evOr, evAndT, evOrT, QL.t3, QL.s3, QL.tr, bind_pure, bind_assoc, List.length_cons, List.length_nil, if_true, List.map_cons, List.map_nil, List.cons_append, List.nil_append, Nat.reduceAdd, Nat.reduceSub, List.replicate, getM_zero, getM_succ, items_tup, items_lst, List.set, ofO_some, compF, compF2, setT, setU, setAll, wipeE, truth_bl, nox_pure, f44, recvSp, recvE, recvX]
  rw [m2_split sp_pos (by omega), bind_pure, split_tie h h1 h2]
  try simp -implicitDefEqProofs only [runF, exs, ex, ev, evT, evI, evs, evAnd, evOr, evAndT, evOrT, QL.t3, QL.s3, QL.tr, bind_pure, bind_assoc, List.length_cons, List.length_nil, if_true, List.map_cons, List.map_nil, List.cons_append, List.nil_append, Nat.reduceAdd, Nat.reduceSub, List.replicate, getM_zero, getM_succ, items_tup, items_lst, List.set, ofO_some, compF, compF2, setT, setU, setAll, wipeE, truth_bl, nox_pure, m1_len, m2_eqI, ixL_0, ixL_1, ixL_2, m2_eqS ok_tie ok_tie, tup2]
  rfl
end QV
end
section
set_option linter.all false
set_option maxRecDepth 100000
set_option autoImplicit false
/-! QN3: a rule is read. -/
namespace QV
open PySem QL QP
theorem enum_c {α : Type} (c : α → D) (dflt : α) : ∀ (l : List α) (n : Nat), enumL n (l.map c) = (List.range l.length).map fun k => .tup [nI (n + k), c (l.getD k dflt)]
  | [], _ => rfl
  | a :: r, n => by
    show D.tup [.int (n : Nat), c a] :: enumL (n + 1) (r.map c) = _
    rw [enum_c c dflt r (n + 1), List.length_cons, List.range_succ_eq_map, List.map_cons, List.map_map]
    refine congrArg (List.cons _) (List.map_congr_left fun k _ => ?_)
    show _ = D.tup [nI (n + (k + 1)), c (r.getD k dflt)]
    rw [show n + 1 + k = n + (k + 1) by omega]
theorem enum_0 {α : Type} (c : α → D) (dflt : α) (l : List α) : enumL 0 (l.map c) = (List.range l.length).map fun k => .tup [nI k, c (l.getD k dflt)] := by
  rw [enum_c c dflt l 0]
  exact List.map_congr_left fun k _ => by rw [Nat.zero_add]
theorem range_at {q : Nat} {pre post : List Nat} {x : Nat} (e : List.range q = pre ++ x :: post) : x = pre.length ∧ x < q := by
  have h1 := congrArg List.length e
  have h2 := congrArg (fun l => l[pre.length]?) e
  simp at h1
  simp at h2
  rw [List.getElem?_range (by omega)] at h2
  simp at h2
  omega
/-- a loop that changes nothing but its own names -/
theorem forL_bind {α β : Type} {c : α → D} {f : D → QL.Env → M Flw} {xs : List α} {ρ : QL.Env} {k : Flw → M β} {R : M β} {α' : Type} (E : α' → QL.Env) (t : α') (h0 : ρ = E t) (h : ∀ x ∈ xs, ∀ t, ∃ t', f (c x) (E t) = M.pure (.nx (E t'))) (hk : ∀ t, k (.nx (E t)) = R) : M.bind (forL f (xs.map c) ρ) k = R := by
  have : ∃ t', forL f (xs.map c) ρ = M.pure (.nx (E t')) := by
    subst h0
    induction xs generalizing t with
    | nil => exact ⟨t, rfl⟩
    | cons x r ih =>
      obtain ⟨t1, h1⟩ := h x List.mem_cons_self t
      obtain ⟨t2, h2⟩ := ih t1 (fun y hy => h y (List.mem_cons_of_mem _ hy))
      refine ⟨t2, ?_⟩
      show M.bind (f (c x) (E t)) _ = _
      rw [h1, bind_pure]
      exact h2
  obtain ⟨t', h'⟩ := this
  rw [h', bind_pure]
  exact hk t'
theorem in_wsT {w : Str} {ws : List Str} (hw : PyData.strOk w = true) (h : ∀ w ∈ ws, PyData.strOk w = true) : doM2 .isIn (.str w) (.tup (ws.map .str)) = M.pure (.bl (decide (w ∈ ws))) := by
  rw [m2_inT (nb_str hw) (fun _ => .inr trivial) (nbs_str h) (by show (0 : Nat) ≤ 64; omega) (by rw [dpts_str]; omega)]
  congr 2
  exact decide_eq_decide.mpr str_mem
theorem notIn_wsT {w : Str} {ws : List Str} (hw : PyData.strOk w = true) (h : ∀ w ∈ ws, PyData.strOk w = true) : doM2 .notIn (.str w) (.tup (ws.map .str)) = M.pure (.bl (!decide (w ∈ ws))) := by
  rw [m2_notInT (nb_str hw) (nbs_str h) (by show (0 : Nat) ≤ 64; omega) (by rw [dpts_str]; omega)]
  congr 3
  exact decide_eq_decide.mpr str_mem
theorem geN (k : Nat) (i : Int) : doM2 .ge (nI k) (.int i) = M.pure (.bl (decide (i ≤ k))) := rfl
theorem wrong_kind (n : Nat) {ws : List Str} (h : WsOk ws) : run PT (n + 2) 30 [.tup (ws.map .str)] = M.pure .non := by
  have hlim : 10000 ≤ LIM := by decide
  have hle := h.le
  rw [run_s (fn := f30) rfl]
  try simp -implicitDefEqProofs only [runF, exs, ex, ev, evT, evI, evs, evAnd, evOr, evAndT, evOrT, QL.t3, QL.s3, QL.tr, bind_pure, bind_assoc, List.length_cons, List.length_nil, if_true, List.map_cons, List.map_nil, List.cons_append, List.nil_append, Nat.reduceAdd, Nat.reduceSub, List.replicate, getM_zero, getM_succ, items_tup, items_lst, List.set, ofO_some, compF, compF2, setT, setU, setAll, wipeE, truth_bl, nox_pure, f30, recvI, recvSlT, recvGe]
  rw [enum_0 D.str Str.empty ws]
  refine forL_bind (c := fun k => D.tup [nI k, .str (wS ws k)]) (xs := List.range ws.length) (fun t : Option D × Option D => [some (.tup (ws.map .str)), t.1, t.2]) (none, none) rfl ?_ fun _ => rfl
  · intro k hk t
    have hk := List.mem_range.mp hk
    have hn := h.at_ hk
    refine ⟨(some (nI k), some (.str (wS ws k))), ?_⟩
    try simp -implicitDefEqProofs only [runF, exs, ex, ev, evT, evI, evs, evAnd, evOr, evAndT, evOrT, QL.t3, QL.s3, QL.tr, bind_pure, bind_assoc, List.length_cons, List.length_nil, if_true, List.map_cons, List.map_nil, List.cons_append, List.nil_append, Nat.reduceAdd, Nat.reduceSub, List.replicate, getM_zero, getM_succ, items_tup, items_lst, List.set, ofO_some, compF, compF2, setT, setU, setAll, wipeE, truth_bl, nox_pure, is_name n (wS ws k) (by have := hn.len; omega), show nameL (wS ws k).cps.toList = true from hn, Bool.not_true, Bool.false_eq_true, if_false, m2_slTT]
    rw [← List.map_take]
    rw [in_wsT hn.ok (fun w hw => (h.nm w (List.mem_of_mem_take hw)).ok)]
    have : decide (wS ws k ∈ ws.take k) = false := decide_eq_false fun z => by
      obtain ⟨i, hi, e⟩ := List.mem_iff_getElem.mp z
      have hi1 : i < k ∧ i < ws.length := by rw [List.length_take] at hi; omega
      have h1 : ws[i] = wS ws i := by unfold wS; rw [List.getD_eq_getElem?_getD, List.getElem?_eq_getElem hi1.2]; rfl
      rw [List.getElem_take, h1] at e
      have := wS_inj h.nd hi1.2 hk e
      omega
    rw [this]
    try simp -implicitDefEqProofs only [runF, exs, ex, ev, evT, evI, evs, evAnd, evOr, evAndT, evOrT, QL.t3, QL.s3, QL.tr, bind_pure, bind_assoc, List.length_cons, List.length_nil, if_true, List.map_cons, List.map_nil, List.cons_append, List.nil_append, Nat.reduceAdd, Nat.reduceSub, List.replicate, getM_zero, getM_succ, items_tup, items_lst, List.set, ofO_some, compF, compF2, setT, setU, setAll, wipeE, truth_bl, nox_pure, Bool.false_eq_true, if_false, geN, decide_eq_false (show ¬ (6 : Int) ≤ (k : Int) by omega)]
theorem linkD_inj {ws : List Str} (nd : ws.Nodup) {p r : Nat × Nat} (h1 : p.1 < ws.length ∧ p.2 < ws.length) (h2 : r.1 < ws.length ∧ r.2 < ws.length) (e : linkD ws p = linkD ws r) : p = r := by
  unfold linkD at e
  injection e with e
  injection e with e1 e2
  injection e2 with e2 _
  injection e1 with e1
  injection e2 with e2
  exact Prod.ext (wS_inj nd h1.1 h2.1 e1) (wS_inj nd h1.2 h2.2 e2)
theorem nb_link {ws : List Str} (h : WsOk ws) {p : Nat × Nat} (h1 : p.1 < ws.length ∧ p.2 < ws.length) : nb (linkD ws p) = true := by
  show (PyData.strOk (wS ws p.1) && (PyData.strOk (wS ws p.2) && true)) = true
  rw [(h.at_ h1.1).ok, (h.at_ h1.2).ok]
  rfl
theorem nbs_link {ws : List Str} (h : WsOk ws) : ∀ {T : List (Nat × Nat)}, (∀ p ∈ T, p.1 < ws.length ∧ p.2 < ws.length) → nbs (T.map (linkD ws)) = true
  | [], _ => rfl
  | p :: r, hT => by
    show (nb (linkD ws p) && nbs (r.map (linkD ws))) = true
    rw [nb_link h (hT p List.mem_cons_self), nbs_link h fun p hp => hT p (List.mem_cons_of_mem _ hp)]
    rfl
theorem dpt_link (ws : List Str) (p : Nat × Nat) : dpt (linkD ws p) = 1 := rfl
theorem dpts_link (ws : List Str) : ∀ T : List (Nat × Nat), dpts (T.map (linkD ws)) ≤ 1
  | [] => Nat.zero_le _
  | p :: r => by
    have := dpts_link ws r
    show max (dpt (linkD ws p)) (dpts (r.map (linkD ws))) ≤ 1
    rw [dpt_link]
    omega
theorem link_mem {ws : List Str} (nd : ws.Nodup) {p : Nat × Nat} {T : List (Nat × Nat)} (h1 : p.1 < ws.length ∧ p.2 < ws.length) (hT : ∀ p ∈ T, p.1 < ws.length ∧ p.2 < ws.length) : linkD ws p ∈ T.map (linkD ws) ↔ p ∈ T := by
  rw [List.mem_map]
  constructor
  · rintro ⟨r, hr, e⟩
    exact (linkD_inj nd (hT r hr) h1 e) ▸ hr
  · exact fun hp => ⟨p, hp, rfl⟩
theorem in_linkT {ws : List Str} (h : WsOk ws) {p : Nat × Nat} {T : List (Nat × Nat)} (h1 : p.1 < ws.length ∧ p.2 < ws.length) (hT : ∀ p ∈ T, p.1 < ws.length ∧ p.2 < ws.length) : doM2 .isIn (linkD ws p) (.tup (T.map (linkD ws))) = M.pure (.bl (decide (p ∈ T))) := by
  rw [m2_inT (nb_link h h1) (fun _ => .inr trivial) (nbs_link h hT) (by rw [dpt_link]; omega) (by have := dpts_link ws T; omega)]
  congr 2
  exact decide_eq_decide.mpr (link_mem h.nd h1 hT)
theorem is_told (n : Nat) {ws : List Str} (h : WsOk ws) {p : Nat × Nat} {T : List (Nat × Nat)} (h1 : p.1 < ws.length ∧ p.2 < ws.length) (hT : ∀ p ∈ T, p.1 < ws.length ∧ p.2 < ws.length) :
    run PT (n + 1) 29 [.tup (T.map (linkD ws)), linkD ws p] = M.pure (.bl (decide (p ∈ T ∨ (p.2, p.1) ∈ T))) := by
  rw [run_s (fn := f29) rfl]
  try simp -implicitDefEqProofs only [runF, exs, ex, ev, evT, evI, evs, evAnd, evOr, evAndT, evOrT, QL.t3, QL.s3, QL.tr, bind_pure, bind_assoc, List.length_cons, List.length_nil, if_true, List.map_cons, List.map_nil, List.cons_append, List.nil_append, Nat.reduceAdd, Nat.reduceSub, List.replicate, getM_zero, getM_succ, items_tup, items_lst, List.set, ofO_some, compF, compF2, setT, setU, setAll, wipeE, truth_bl, nox_pure, f29, recvI, recvX, in_linkT h h1 hT]
  by_cases hp : p ∈ T
  · rw [decide_eq_true hp, decide_eq_true (Or.inl hp)]
    rfl
  · rw [decide_eq_false hp]
    try simp -implicitDefEqProofs only [runF, exs, ex, ev, evT, evI, evs, evAnd, evOr, evAndT, evOrT, QL.t3, QL.s3, QL.tr, bind_pure, bind_assoc, List.length_cons, List.length_nil, if_true, List.map_cons, List.map_nil, List.cons_append, List.nil_append, Nat.reduceAdd, Nat.reduceSub, List.replicate, getM_zero, getM_succ, items_tup, items_lst, List.set, ofO_some, compF, compF2, setT, setU, setAll, wipeE, truth_bl, nox_pure, Bool.false_eq_true, if_false]
    rw [show linkD ws p = .tup [.str (wS ws p.1), .str (wS ws p.2)] from rfl]
    try simp -implicitDefEqProofs only [runF, exs, ex, ev, evT, evI, evs, evAnd, evOr, evAndT, evOrT, QL.t3, QL.s3, QL.tr, bind_pure, bind_assoc, List.length_cons, List.length_nil, if_true, List.map_cons, List.map_nil, List.cons_append, List.nil_append, Nat.reduceAdd, Nat.reduceSub, List.replicate, getM_zero, getM_succ, items_tup, items_lst, List.set, ofO_some, compF, compF2, setT, setU, setAll, wipeE, truth_bl, nox_pure, ixT_0, ixT_1, tup2]
    rw [show D.tup [.str (wS ws p.2), .str (wS ws p.1)] = linkD ws (p.2, p.1) from rfl, in_linkT h ⟨h1.2, h1.1⟩ hT]
    show M.pure _ = M.pure _
    congr 2
    exact decide_eq_decide.mpr ⟨.inr, fun z => z.resolve_left hp⟩
theorem is_tie (n : Nat) {ws : List Str} (h : WsOk ws) {p : Nat × Nat} (h1 : p.1 < ws.length ∧ p.2 < ws.length) : run PT (n + 1) 28 [linkD ws p, .tup (ws.map .str)] = M.pure (.bl true) := by
  have hok : ∀ w ∈ ws, PyData.strOk w = true := fun w hw => (h.nm w hw).ok
  rw [run_s (fn := f28) rfl]
  unfold linkD
  try simp -implicitDefEqProofs only [runF, exs, ex, ev, evT, evI, evs, evAnd, evOr, evAndT, evOrT, QL.t3, QL.s3, QL.tr, bind_pure, bind_assoc, List.length_cons, List.length_nil, if_true, List.map_cons, List.map_nil, List.cons_append, List.nil_append, Nat.reduceAdd, Nat.reduceSub, List.replicate, getM_zero, getM_succ, items_tup, items_lst, List.set, ofO_some, compF, compF2, setT, setU, setAll, wipeE, truth_bl, nox_pure, f28, recvI, recvX, recvE, ixT_0, ixT_1, m1_lenT, m2_eqI, in_wsT (h.at_ h1.1).ok hok, in_wsT (h.at_ h1.2).ok hok, decide_eq_true (wS_mem h1.1), decide_eq_true (wS_mem h1.2)]
  rfl
theorem key_swap (p : Nat × Nat) : key (p.2, p.1) = key p := by unfold key; simp [Nat.min_comm, Nat.max_comm]
theorem wrong_tie (n : Nat) {ws : List Str} {T : List (Nat × Nat)} (h : WsOk ws) (hT : TOk ws.length T) : run PT (n + 2) 27 [.tup (T.map (linkD ws)), .tup (ws.map .str)] = M.pure .non := by
  have hlim : 10000 ≤ LIM := by decide
  rw [run_s (fn := f27) rfl]
  try simp -implicitDefEqProofs only [runF, exs, ex, ev, evT, evI, evs, evAnd, evOr, evAndT, evOrT, QL.t3, QL.s3, QL.tr, bind_pure, bind_assoc, List.length_cons, List.length_nil, if_true, List.map_cons, List.map_nil, List.cons_append, List.nil_append, Nat.reduceAdd, Nat.reduceSub, List.replicate, getM_zero, getM_succ, items_tup, items_lst, List.set, ofO_some, compF, compF2, setT, setU, setAll, wipeE, truth_bl, nox_pure, f27, recvI, recvSlT, recvGe]
  rw [enum_0 (linkD ws) (0, 0) T]
  refine forL_bind (c := fun k => D.tup [nI k, linkD ws (T.getD k (0, 0))]) (xs := List.range T.length) (fun t : Option D × Option D => [some (.tup (T.map (linkD ws))), some (.tup (ws.map .str)), t.1, t.2]) (none, none) rfl ?_ fun _ => rfl
  · intro k hk t
    have hk := List.mem_range.mp hk
    have hg : T.getD k (0, 0) = T[k] := by rw [List.getD_eq_getElem?_getD, List.getElem?_eq_getElem hk]; rfl
    have hp := hT.lt _ (List.getElem_mem hk)
    refine ⟨(some (nI k), some (linkD ws (T.getD k (0, 0)))), ?_⟩
    rw [hg]
    try simp -implicitDefEqProofs only [runF, exs, ex, ev, evT, evI, evs, evAnd, evOr, evAndT, evOrT, QL.t3, QL.s3, QL.tr, bind_pure, bind_assoc, List.length_cons, List.length_nil, if_true, List.map_cons, List.map_nil, List.cons_append, List.nil_append, Nat.reduceAdd, Nat.reduceSub, List.replicate, getM_zero, getM_succ, items_tup, items_lst, List.set, ofO_some, compF, compF2, setT, setU, setAll, wipeE, truth_bl, nox_pure, is_tie n h hp, Bool.not_true, Bool.false_eq_true, if_false, m2_slTT]
    rw [← List.map_take, is_told n h hp fun p hp => hT.lt p (List.mem_of_mem_take hp)]
    have : decide (T[k] ∈ T.take k ∨ ((T[k]).2, (T[k]).1) ∈ T.take k) = false := decide_eq_false fun z => by
      have z : ∃ r ∈ T.take k, key r = key T[k] := by
        rcases z with z | z
        · exact ⟨_, z, rfl⟩
        · exact ⟨_, z, key_swap _⟩
      obtain ⟨r, hr, e⟩ := z
      obtain ⟨i, hi, e2⟩ := List.mem_iff_getElem.mp hr
      have hi1 : i < k ∧ i < T.length := by rw [List.length_take] at hi; omega
      rw [List.getElem_take] at e2
      have h3 : (T.map key)[i]'(by simpa using hi1.2) = (T.map key)[k]'(by simpa using hk) := by simp [e2, e]
      have := (List.getElem_inj hT.nd).mp h3
      omega
    rw [this]
    try simp -implicitDefEqProofs only [runF, exs, ex, ev, evT, evI, evs, evAnd, evOr, evAndT, evOrT, QL.t3, QL.s3, QL.tr, bind_pure, bind_assoc, List.length_cons, List.length_nil, if_true, List.map_cons, List.map_nil, List.cons_append, List.nil_append, Nat.reduceAdd, Nat.reduceSub, List.replicate, getM_zero, getM_succ, items_tup, items_lst, List.set, ofO_some, compF, compF2, setT, setU, setAll, wipeE, truth_bl, nox_pure, Bool.false_eq_true, if_false]
theorem read_rule (n : Nat) {ws : List Str} {T : List (Nat × Nat)} (h : WsOk ws) (hT : TOk ws.length T) : run PT (n + 3) 14 [.str (textS ws T)] = M.pure (.tup [.tup (ws.map .str), .tup (T.map (linkD ws))]) := by
  have hlim : 10000 ≤ LIM := by decide
  have hlen := text_len h hT
  have hhl := head_len h
  have hle := h.le
  have hpos := h.pos
  have hTl := hT.len h.le
  rw [run_s (fn := f14) rfl]
  try simp -implicitDefEqProofs only [runF, exs, ex, ev, evT, evI, evs, evAnd, evOr, evAndT, evOrT, QL.t3, QL.s3, QL.tr, bind_pure, bind_assoc, List.length_cons, List.length_nil, if_true, List.map_cons, List.map_nil, List.cons_append, List.nil_append, Nat.reduceAdd, Nat.reduceSub, List.replicate, getM_zero, getM_succ, items_tup, items_lst, List.set, ofO_some, compF, compF2, setT, setU, setAll, wipeE, truth_bl, nox_pure, f14, recvI, recvX, recvE, recvNe, recvSp, recvSlF, show isiO .str (.str (textS ws T)) = some true from rfl, Bool.not_true, Bool.false_eq_true, if_false]
  rw [m2_split nl_pos (by omega), bind_pure, split_text h hT]
  try simp -implicitDefEqProofs only [runF, exs, ex, ev, evT, evI, evs, evAnd, evOr, evAndT, evOrT, QL.t3, QL.s3, QL.tr, bind_pure, bind_assoc, List.length_cons, List.length_nil, if_true, List.map_cons, List.map_nil, List.cons_append, List.nil_append, Nat.reduceAdd, Nat.reduceSub, List.replicate, getM_zero, getM_succ, items_tup, items_lst, List.set, ofO_some, compF, compF2, setT, setU, setAll, wipeE, truth_bl, nox_pure, ixL_0]
  rw [m2_split sp_pos (by omega), bind_pure, split_head h]
  try simp -implicitDefEqProofs only [runF, exs, ex, ev, evT, evI, evs, evAnd, evOr, evAndT, evOrT, QL.t3, QL.s3, QL.tr, bind_pure, bind_assoc, List.length_cons, List.length_nil, if_true, List.map_cons, List.map_nil, List.cons_append, List.nil_append, Nat.reduceAdd, Nat.reduceSub, List.replicate, getM_zero, getM_succ, items_tup, items_lst, List.set, ofO_some, compF, compF2, setT, setU, setAll, wipeE, truth_bl, nox_pure, m2_slFL]
  rw [show doM2 .slF (.lst (.str "kinds" :: ws.map .str)) (.int 1) = M.pure (.lst (ws.map .str)) from m2_slFL (k := 1)]
  rw [show doM2 .slF (.lst (.str (headS ws) :: (T.map (tieS ws)).map .str)) (.int 1) = M.pure (.lst ((T.map (tieS ws)).map .str)) from m2_slFL (k := 1)]
  try simp -implicitDefEqProofs only [runF, exs, ex, ev, evT, evI, evs, evAnd, evOr, evAndT, evOrT, QL.t3, QL.s3, QL.tr, bind_pure, bind_assoc, List.length_cons, List.length_nil, if_true, List.map_cons, List.map_nil, List.cons_append, List.nil_append, Nat.reduceAdd, Nat.reduceSub, List.replicate, getM_zero, getM_succ, items_tup, items_lst, List.set, ofO_some, compF, compF2, setT, setU, setAll, wipeE, truth_bl, nox_pure, m1_tuple]
  rw [List.map_map, lim_ok (by rw [List.length_map]; omega), bind_pure, compL_map (c := D.str ∘ tieS ws) (g := linkD ws)]
  rotate_left
  · intro p hp
    have := hT.lt p hp
    show M.bind _ _ = _
    try simp -implicitDefEqProofs only [runF, exs, ex, ev, evT, evI, evs, evAnd, evOr, evAndT, evOrT, QL.t3, QL.s3, QL.tr, bind_pure, bind_assoc, List.length_cons, List.length_nil, if_true, List.map_cons, List.map_nil, List.cons_append, List.nil_append, Nat.reduceAdd, Nat.reduceSub, List.replicate, getM_zero, getM_succ, items_tup, items_lst, List.set, ofO_some, compF, compF2, setT, setU, setAll, wipeE, truth_bl, nox_pure, Function.comp]
    rw [read_tie (n + 1) h this.1 this.2]
    rfl
  try simp -implicitDefEqProofs only [runF, exs, ex, ev, evT, evI, evs, evAnd, evOr, evAndT, evOrT, QL.t3, QL.s3, QL.tr, bind_pure, bind_assoc, List.length_cons, List.length_nil, if_true, List.map_cons, List.map_nil, List.cons_append, List.nil_append, Nat.reduceAdd, Nat.reduceSub, List.replicate, getM_zero, getM_succ, items_tup, items_lst, List.set, ofO_some, compF, compF2, setT, setU, setAll, wipeE, truth_bl, nox_pure, m1_tuple, ixL_0, m2_neS ok_kinds ok_kinds, decide_true, Bool.not_true, Bool.false_eq_true, if_false, m1_lenT, m2_eqI, wrong_kind n h, m1_notN, show isNon .non = true from rfl]
  rw [decide_eq_false (show ¬ (((ws.map D.str).length : Int) = 0) by rw [List.length_map]; omega)]
  try simp -implicitDefEqProofs only [runF, exs, ex, ev, evT, evI, evs, evAnd, evOr, evAndT, evOrT, QL.t3, QL.s3, QL.tr, bind_pure, bind_assoc, List.length_cons, List.length_nil, if_true, List.map_cons, List.map_nil, List.cons_append, List.nil_append, Nat.reduceAdd, Nat.reduceSub, List.replicate, getM_zero, getM_succ, items_tup, items_lst, List.set, ofO_some, compF, compF2, setT, setU, setAll, wipeE, truth_bl, nox_pure, Bool.false_eq_true, if_false, wrong_kind n h, wrong_tie n h hT, m1_notN, show isNon .non = true from rfl, Bool.not_true, tup2]
  rfl
end QV
end
section
set_option linter.all false
set_option maxRecDepth 100000
set_option autoImplicit false
/-! QO: the rule as an object; pairings. -/
namespace QV
open PySem QL QP
def pairsD (T : List (Nat × Nat)) : D := .tup (T.map pD)
def ruleD (ws : List Str) (T : List (Nat × Nat)) : D := .ins 0 [0, 1, 2, 3] [.tup (ws.map .str), .tup (T.map (linkD ws)), pairsD T, .tup ((subL ws.length).map (cutD ws.length T))]
theorem attr0 (ws : List Str) (T : List (Nat × Nat)) : attrM 0 0 (ruleD ws T) = M.pure (.tup (ws.map .str)) := rfl
theorem attr1 (ws : List Str) (T : List (Nat × Nat)) : attrM 0 1 (ruleD ws T) = M.pure (.tup (T.map (linkD ws))) := rfl
theorem attr2 (ws : List Str) (T : List (Nat × Nat)) : attrM 0 2 (ruleD ws T) = M.pure (pairsD T) := rfl
theorem attr3 (ws : List Str) (T : List (Nat × Nat)) : attrM 0 3 (ruleD ws T) = M.pure (.tup ((subL ws.length).map (cutD ws.length T))) := rfl
/-! the place of a thing in a list -/
open Classical in
noncomputable def idxO (a : D) : List D → Option Nat
  | [] => none
  | b :: r => if b = a then some 0 else (idxO a r).map (· + 1)
open Classical in
theorem indexP_is {a : D} (ha : nb a = true) : ∀ {l : List D}, nbs l = true → indexP (pd a) (pds l) = idxO a l
  | [], _ => rfl
  | b :: l, h => by
    have h' : (nb b && nbs l) = true := h
    simp only [Bool.and_eq_true] at h'
    show (if PyData.eqv (pd b) (pd a) = true then some 0 else (indexP (pd a) (pds l)).map (· + 1)) = _
    rw [eqv_pd b a h'.1 ha, indexP_is ha h'.2]
    unfold idxO
    by_cases e : b = a
    · rw [if_pos e, if_pos (decide_eq_true e)]
    · rw [if_neg e, if_neg (by rw [decide_eq_false e]; decide)]
      cases l <;> rfl
theorem indexD_is {a : D} {l : List D} (ha : nb a = true) (hl : nbs l = true) (da : dpt a ≤ 64) (dl : dpts l ≤ 63) : indexD a l = idxO a l := by
  unfold indexD
  rw [shp_pd ha da, shp_pd (d := .lst l) hl (by show dpts l + 1 ≤ 64; omega)]
  exact indexP_is ha hl
theorem idxO_hit (a : D) (r : List D) : idxO a (a :: r) = some 0 := by unfold idxO; exact if_pos rfl
open Classical in
theorem idxO_miss {a b : D} {r : List D} (h : b ≠ a) : idxO a (b :: r) = (idxO a r).map (· + 1) := by
  show (if b = a then some 0 else (idxO a r).map (· + 1)) = _
  exact if_neg h
theorem idxO_at {α : Type} {c : α → D} : ∀ {l : List α} {k : Nat} (h : k < l.length), (∀ i, (hi : i < k) → c (l[i]'(Nat.lt_trans hi h)) ≠ c l[k]) → idxO (c l[k]) (l.map c) = some k
  | [], _, h, _ => by cases h
  | a :: r, 0, _, _ => idxO_hit _ _
  | a :: r, k + 1, h, hn => by
    have h0 := hn 0 (by omega)
    have hk : k < r.length := by simpa using h
    have ih := idxO_at (c := c) (l := r) (k := k) hk fun i hi => hn (i + 1) (by omega)
    rw [List.map_cons, idxO_miss (show c a ≠ _ from h0)]
    show (idxO (c r[k]) (r.map c)).map (· + 1) = _
    rw [ih]
    rfl
theorem m2_indexT {a : D} {l : List D} {k : Nat} (ha : nb a = true) (hl : nbs l = true) (da : dpt a ≤ 64) (dl : dpts l ≤ 63) (h : idxO a l = some k) : doM2 .index (.tup l) a = M.pure (nI k) := by
  funext m
  show ofO ((indexD a l).map fun n => D.int (n : Nat)) m = _
  rw [indexD_is ha hl da dl, h]
  rfl
theorem recvIx (l : List D) : recvM .index (.tup l) = M.pure ⟨⟩ := rfl
theorem recvCt (l : List D) : recvM .count (.tup l) = M.pure ⟨⟩ := rfl
theorem index_ws {ws : List Str} (h : WsOk ws) {k : Nat} (hk : k < ws.length) : doM2 .index (.tup (ws.map .str)) (.str (wS ws k)) = M.pure (nI k) := by
  have hg : wS ws k = ws[k] := by unfold wS; rw [List.getD_eq_getElem?_getD, List.getElem?_eq_getElem hk]; rfl
  refine m2_indexT (nb_str (h.at_ hk).ok) (nbs_str fun w hw => (h.nm w hw).ok) (by show (0 : Nat) ≤ 64; omega) (by rw [dpts_str]; omega) ?_
  rw [hg]
  refine idxO_at hk fun i hi e => ?_
  injection e with e
  have := (List.getElem_inj h.nd).mp e
  omega
/-- the e-th tie -/
def tA (T : List (Nat × Nat)) (e : Nat) : Nat × Nat := T.getD e (0, 0)
theorem tA_get {T : List (Nat × Nat)} {e : Nat} (h : e < T.length) : tA T e = T[e] := by unfold tA; rw [List.getD_eq_getElem?_getD, List.getElem?_eq_getElem h]; rfl
theorem tA_mem {T : List (Nat × Nat)} {e : Nat} (h : e < T.length) : tA T e ∈ T := by rw [tA_get h]; exact List.getElem_mem h
theorem TOk.inj {q : Nat} {T : List (Nat × Nat)} (h : TOk q T) {a b : Nat} (ha : a < T.length) (hb : b < T.length) (e : tA T a = tA T b) : a = b := by
  rw [tA_get ha, tA_get hb] at e
  have h3 : (T.map key)[a]'(by simpa using ha) = (T.map key)[b]'(by simpa using hb) := by simp [e]
  exact (List.getElem_inj h.nd).mp h3
theorem index_link {ws : List Str} {T : List (Nat × Nat)} (h : WsOk ws) (hT : TOk ws.length T) {e : Nat} (he : e < T.length) : doM2 .index (.tup (T.map (linkD ws))) (linkD ws (tA T e)) = M.pure (nI e) := by
  refine m2_indexT (nb_link h (hT.lt _ (tA_mem he))) (nbs_link h hT.lt) (by rw [dpt_link]; omega) (by have := dpts_link ws T; omega) ?_
  rw [tA_get he]
  refine idxO_at he fun i hi e2 => ?_
  have := linkD_inj h.nd (hT.lt _ (List.getElem_mem _)) (hT.lt _ (List.getElem_mem _)) e2
  have := hT.inj (a := i) (b := e) (by omega) he (by rw [tA_get (by omega), tA_get he]; exact this)
  omega
/-! ### making the rule -/
theorem eq_len0 (k : Nat) : decide ((k : Int) = 0) = decide (k = 0) := decide_eq_decide.mpr (by omega)
theorem check_new_kinds (n : Nat) {ws : List Str} (h : WsOk ws) : run PT (n + 3) 19 [.tup (ws.map .str)] = M.pure .non := by
  have hpos := h.pos
  rw [run_s (fn := f19) rfl]
  try simp -implicitDefEqProofs only [runF, exs, ex, ev, evT, evI, evs, evAnd, evOr, evAndT, evOrT, QL.t3, QL.s3, QL.tr, bind_pure, bind_assoc, List.length_cons, List.length_nil, if_true, List.map_cons, List.map_nil, List.cons_append, List.nil_append, Nat.reduceAdd, Nat.reduceSub, List.replicate, getM_zero, getM_succ, items_tup, items_lst, List.set, ofO_some, compF, compF2, setT, setU, setAll, wipeE, truth_bl, nox_pure, f19, recvE, show isiO .tuple (.tup (ws.map .str)) = some true from rfl, Bool.not_true, Bool.false_eq_true, if_false, m1_lenT, m2_eqI, List.length_map, decide_eq_false (show ¬ ((ws.length : Int) = 0) by omega), wrong_kind n h, m1_notN, show isNon .non = true from rfl]
theorem check_ties (n : Nat) {ws : List Str} {T : List (Nat × Nat)} (h : WsOk ws) (hT : TOk ws.length T) : run PT (n + 3) 20 [.tup (T.map (linkD ws)), .tup (ws.map .str)] = M.pure .non := by
  rw [run_s (fn := f20) rfl]
  try simp -implicitDefEqProofs only [runF, exs, ex, ev, evT, evI, evs, evAnd, evOr, evAndT, evOrT, QL.t3, QL.s3, QL.tr, bind_pure, bind_assoc, List.length_cons, List.length_nil, if_true, List.map_cons, List.map_nil, List.cons_append, List.nil_append, Nat.reduceAdd, Nat.reduceSub, List.replicate, getM_zero, getM_succ, items_tup, items_lst, List.set, ofO_some, compF, compF2, setT, setU, setAll, wipeE, truth_bl, nox_pure, f20, show isiO .tuple (.tup (T.map (linkD ws))) = some true from rfl, Bool.not_true, Bool.false_eq_true, if_false, wrong_tie n h hT, m1_notN, show isNon .non = true from rfl]
theorem filter_one {q k : Nat} (h : k < q) : (List.range q).filter (fun i => decide (i = k)) = [k] := by
  refine List.Perm.eq_singleton ?_
  refine (List.perm_ext_iff_of_nodup ((List.nodup_range).filter _) (by simp)).mpr fun x => ?_
  simp only [List.mem_filter, List.mem_range, decide_eq_true_eq, List.mem_singleton]
  omega
theorem enum_ws (ws : List Str) : enumL 0 (ws.map .str) = (List.range ws.length).map fun k => .tup [nI k, .str (wS ws k)] := enum_0 D.str Str.empty ws
theorem enum_T {α : Type} (c : Nat × Nat → D) (T : List (Nat × Nat)) : enumL 0 (T.map c) = (List.range T.length).map fun k => .tup [nI k, c (tA T k)] := enum_0 c (0, 0) T
theorem place_of (n : Nat) {ws : List Str} (h : WsOk ws) {k : Nat} (hk : k < ws.length) : run PT (n + 1) 21 [.tup (ws.map .str), .str (wS ws k)] = M.pure (nI k) := by
  have hlim : 10000 ≤ LIM := by decide
  have hle := h.le
  rw [run_s (fn := f21) rfl]
  try simp -implicitDefEqProofs only [runF, exs, ex, ev, evT, evI, evs, evAnd, evOr, evAndT, evOrT, QL.t3, QL.s3, QL.tr, bind_pure, bind_assoc, List.length_cons, List.length_nil, if_true, List.map_cons, List.map_nil, List.cons_append, List.nil_append, Nat.reduceAdd, Nat.reduceSub, List.replicate, getM_zero, getM_succ, items_tup, items_lst, List.set, ofO_some, compF, compF2, setT, setU, setAll, wipeE, truth_bl, nox_pure, f21, recvX, recvE]
  rw [enum_ws, lim_ok (by simp; omega), bind_pure, compL_filter (c := fun i => D.tup [nI i, .str (wS ws i)]) (p := fun i => decide (i = k)) (g := nI)]
  · rw [filter_one hk]
    try simp -implicitDefEqProofs only [runF, exs, ex, ev, evT, evI, evs, evAnd, evOr, evAndT, evOrT, QL.t3, QL.s3, QL.tr, bind_pure, bind_assoc, List.length_cons, List.length_nil, if_true, List.map_cons, List.map_nil, List.cons_append, List.nil_append, Nat.reduceAdd, Nat.reduceSub, List.replicate, getM_zero, getM_succ, items_tup, items_lst, List.set, ofO_some, compF, compF2, setT, setU, setAll, wipeE, truth_bl, nox_pure, ixL_0]
  · intro i hi
    have hi := List.mem_range.mp hi
    try simp -implicitDefEqProofs only [runF, exs, ex, ev, evT, evI, evs, evAnd, evOr, evAndT, evOrT, QL.t3, QL.s3, QL.tr, bind_pure, bind_assoc, List.length_cons, List.length_nil, if_true, List.map_cons, List.map_nil, List.cons_append, List.nil_append, Nat.reduceAdd, Nat.reduceSub, List.replicate, getM_zero, getM_succ, items_tup, items_lst, List.set, ofO_some, compF, compF2, setT, setU, setAll, wipeE, truth_bl, nox_pure, recvE, m2_eqS (h.at_ hi).ok (h.at_ hk).ok]
    by_cases e : i = k
    · subst e; rw [decide_eq_true rfl, decide_eq_true rfl]; rfl
    · rw [decide_eq_false e, decide_eq_false fun z => e (wS_inj h.nd hi hk z)]; rfl
theorem sub_len_pow (q : Nat) : (subL q).length = 2 ^ q := by
  have : ∀ (l : List Nat) (ls : List (List Nat)), (l.foldl subStep ls).length = ls.length * 2 ^ l.length := by
    intro l
    induction l with
    | nil => intro ls; simp
    | cons a r ih =>
      intro ls
      rw [List.foldl_cons, ih]
      unfold subStep
      rw [List.length_append, List.length_map, List.length_cons, Nat.pow_succ, ← Nat.two_mul, Nat.mul_comm 2, Nat.mul_assoc, Nat.mul_comm 2]
  unfold subL
  rw [this, List.length_range]
  simp
theorem ok_sta {m : Mem} {j c k : Nat} {ks : List Nat} {vs : List D} {v : D} {Q : PUnit → Mem → Prop} (h : m[j]? = some (.ins c ks vs)) (hl : vs.length < 900) (hQ : Q ⟨⟩ (m.set j (.ins c (putN k v ks vs).1 (putN k v ks vs).2))) : Ok (staM c k (.ref j) v) m Q := by
  refine ⟨⟨⟩, _, ?_, hQ⟩
  show (match m[j]? with
    | some (.ins c' ks vs) => if c' = c ∧ vs.length < 900 then Res.ok PUnit.unit (m.set j (.ins c' (putN k v ks vs).1 (putN k v ks vs).2)) else .bad
    | _ => .bad) = _
  rw [h]
  exact if_pos ⟨rfl, hl⟩
theorem ok_attrR {m : Mem} {j c k : Nat} {ks : List Nat} {vs : List D} {v : D} {Q : D → Mem → Prop} (h : m[j]? = some (.ins c ks vs)) (hl : lookN k ks vs = some v) (hQ : Q v m) : Ok (attrM c k (.ref j)) m Q := by
  refine ⟨v, m, ?_, hQ⟩
  show (match m[j]? with
    | some (.ins c' ks vs) => if c' = c then ofO (lookN k ks vs) m else .bad
    | _ => .bad) = _
  rw [h]
  show (if c = c then ofO (lookN k ks vs) m else .bad) = _
  rw [if_pos rfl, hl]
  rfl
theorem ok_freezeI {m : Mem} {j c : Nat} {ks : List Nat} {vs : List D} {Q : D → Mem → Prop} (h : m[j]? = some (.ins c ks vs)) (hQ : Q (.ins c ks vs) (m.set j .dead)) : Ok (freezeM (.ref j)) m Q := by
  refine ⟨_, _, ?_, hQ⟩
  show (match m[j]? with
    | some (.lst l) => Res.ok (D.lst l) (m.set j .dead)
    | some (.ins c ks vs) => .ok (D.ins c ks vs) (m.set j .dead)
    | _ => .bad) = _
  rw [h]
theorem set_app {α : Type} (m : List α) (a b : α) : (m ++ [a]).set m.length b = m ++ [b] := by simp
theorem get_app {α : Type} (m : List α) (a : α) : (m ++ [a])[m.length]? = some a := by simp
theorem rule_init (n : Nat) {ws : List Str} {T : List (Nat × Nat)} (h : WsOk ws) (hT : TOk ws.length T) (m : Mem) :
    Ok (run PT (n + 4) 15 [.ref m.length, .tup (ws.map .str), .tup (T.map (linkD ws))]) (m ++ [.ins 0 [] []]) fun d m' => d = .non ∧ m' = m ++ [.ins 0 [0, 1, 2, 3] [.tup (ws.map .str), .tup (T.map (linkD ws)), pairsD T, .tup ((subL ws.length).map (cutD ws.length T))]] := by
  have hlim : 10000 ≤ LIM := by decide
  have hle := h.le
  have hTl := hT.len hle
  rw [run_s (fn := f15) rfl]
  try simp -implicitDefEqProofs only [runF, exs, ex, ev, evT, evI, evs, evAnd, evOr, evAndT, evOrT, QL.t3, QL.s3, QL.tr, bind_pure, bind_assoc, List.length_cons, List.length_nil, if_true, List.map_cons, List.map_nil, List.cons_append, List.nil_append, Nat.reduceAdd, Nat.reduceSub, List.replicate, getM_zero, getM_succ, items_tup, items_lst, List.set, ofO_some, compF, compF2, setT, setU, setAll, wipeE, truth_bl, nox_pure, f15, check_new_kinds n h, check_ties n h hT]
  refine Ok.bind (ok_sta (get_app _ _) (by simp) ?_)
  rw [set_app]
  refine Ok.bind (ok_sta (get_app _ _) (by simp [putN]) ?_)
  rw [set_app, lim_ok (by simp; omega), bind_pure, compL_map (c := linkD ws) (g := pD)]
  rotate_left
  · intro p hp
    have h1 := hT.lt p hp
    unfold linkD
    try simp -implicitDefEqProofs only [runF, exs, ex, ev, evT, evI, evs, evAnd, evOr, evAndT, evOrT, QL.t3, QL.s3, QL.tr, bind_pure, bind_assoc, List.length_cons, List.length_nil, if_true, List.map_cons, List.map_nil, List.cons_append, List.nil_append, Nat.reduceAdd, Nat.reduceSub, List.replicate, getM_zero, getM_succ, items_tup, items_lst, List.set, ofO_some, compF, compF2, setT, setU, setAll, wipeE, truth_bl, nox_pure, place_of (n + 2) h h1.1, place_of (n + 2) h h1.2, tup2]
    rfl
  try simp -implicitDefEqProofs only [runF, exs, ex, ev, evT, evI, evs, evAnd, evOr, evAndT, evOrT, QL.t3, QL.s3, QL.tr, bind_pure, bind_assoc, List.length_cons, List.length_nil, if_true, List.map_cons, List.map_nil, List.cons_append, List.nil_append, Nat.reduceAdd, Nat.reduceSub, List.replicate, getM_zero, getM_succ, items_tup, items_lst, List.set, ofO_some, compF, compF2, setT, setU, setAll, wipeE, truth_bl, nox_pure, m1_tuple]
  refine Ok.bind (ok_sta (get_app _ _) (by simp [putN]) ?_)
  rw [set_app]
  try simp -implicitDefEqProofs only [runF, exs, ex, ev, evT, evI, evs, evAnd, evOr, evAndT, evOrT, QL.t3, QL.s3, QL.tr, bind_pure, bind_assoc, List.length_cons, List.length_nil, if_true, List.map_cons, List.map_nil, List.cons_append, List.nil_append, Nat.reduceAdd, Nat.reduceSub, List.replicate, getM_zero, getM_succ, items_tup, items_lst, List.set, ofO_some, compF, compF2, setT, setU, setAll, wipeE, truth_bl, nox_pure, m1_lenT, List.length_map]
  refine Ok.bind (ok_attrR (get_app _ _) (v := pairsD T) rfl ?_)
  have hc := cuts_of n ws.length T (by omega) hT.lt (by omega) (by
    rw [sub_len_pow]
    have : 2 ^ ws.length ≤ 2 ^ 6 := Nat.pow_le_pow_right (by omega) hle
    omega)
  rw [show run PT (n + 3) 22 [.int (ws.length : Int), pairsD T] = _ from hc, bind_pure]
  refine Ok.bind (ok_sta (get_app _ _) (by simp [putN]) ?_)
  rw [set_app]
  exact Ok.pure ⟨rfl, rfl⟩
/-- a rule is made -/
theorem make_rule {β : Type} (n : Nat) {ws : List Str} {T : List (Nat × Nat)} (h : WsOk ws) (hT : TOk ws.length T) (m : Mem) {Q : D → Mem → Prop} (hQ : Q (ruleD ws T) (m ++ [.dead])) :
    Ok (M.bind (newM (.ins 0 [] [])) fun x => M.bind (run PT (n + 4) 15 [x, .tup (ws.map .str), .tup (T.map (linkD ws))]) fun r => match r with
    | .non => freezeM x
    | _ => M.bad) m Q := by
  refine Ok.bind (ok_new ?_)
  refine Ok.seq (rule_init n h hT m) ?_
  rintro _ _ ⟨rfl, rfl⟩
  refine ok_freezeI (get_app _ _) ?_
  rw [set_app]
  exact hQ
end QV
end
section
set_option linter.all false
set_option maxRecDepth 100000
set_option autoImplicit false
/-! QO2: pairings as they are written. -/
namespace QV
open PySem QL QP
def cntP (p : Nat × Nat) (k : Nat) : Nat := (if p.1 = k then 1 else 0) + (if p.2 = k then 1 else 0)
def movI (zs : List Int) (p : Nat × Nat) (c : Int) : List Int := (List.range zs.length).map fun k => zs.getD k 0 + c * (cntP p k : Int)
theorem m2_count (p : Nat × Nat) (k : Nat) : doM2 .count (pD p) (nI k) = M.pure (.int (cntP p k : Nat)) := by
  have e : [(p.1 : Int), (p.2 : Int)].count (k : Int) = cntP p k := by
    unfold cntP
    simp only [List.count_cons, List.count_nil]
    by_cases h1 : p.1 = k
    · by_cases h2 : p.2 = k
      · simp [h1, h2]
      · have : ¬ (p.2 : Int) = (k : Int) := by omega
        simp [h1, h2, this]
    · have h1' : ¬ (p.1 : Int) = (k : Int) := by omega
      by_cases h2 : p.2 = k
      · simp [h1, h2, h1']
      · have : ¬ (p.2 : Int) = (k : Int) := by omega
        simp [h1, h2, this, h1']
  funext m
  show Res.ok (D.int (([(p.1 : Int), (p.2 : Int)].count (k : Int) : Nat) : Int)) m = _
  rw [e]
  rfl
theorem enum_I (zs : List Int) : enumL 0 (zs.map .int) = (List.range zs.length).map fun k => .tup [nI k, .int (zs.getD k 0)] := enum_0 D.int 0 zs
theorem moved (n : Nat) (zs : List Int) (p : Nat × Nat) (c : Int) (hl : zs.length ≤ LIM) (hc : c.natAbs < BIG) : run PT (n + 1) 38 [.tup (zs.map .int), pD p, .int c] = M.pure (.tup ((movI zs p c).map .int)) := by
  rw [run_s (fn := f38) rfl]
  try simp -implicitDefEqProofs only [runF, exs, ex, ev, evT, evI, evs, evAnd, evOr, evAndT, evOrT, QL.t3, QL.s3, QL.tr, bind_pure, bind_assoc, List.length_cons, List.length_nil, if_true, List.map_cons, List.map_nil, List.cons_append, List.nil_append, Nat.reduceAdd, Nat.reduceSub, List.replicate, getM_zero, getM_succ, items_tup, items_lst, List.set, ofO_some, compF, compF2, setT, setU, setAll, wipeE, truth_bl, nox_pure, f38, recvA, recvMul]
  rw [enum_I, lim_ok (by simpa using hl), bind_pure, compL_map (c := fun k => D.tup [nI k, .int (zs.getD k 0)]) (g := fun k => .int (zs.getD k 0 + c * (cntP p k : Int)))]
  · try simp -implicitDefEqProofs only [runF, exs, ex, ev, evT, evI, evs, evAnd, evOr, evAndT, evOrT, QL.t3, QL.s3, QL.tr, bind_pure, bind_assoc, List.length_cons, List.length_nil, if_true, List.map_cons, List.map_nil, List.cons_append, List.nil_append, Nat.reduceAdd, Nat.reduceSub, List.replicate, getM_zero, getM_succ, items_tup, items_lst, List.set, ofO_some, compF, compF2, setT, setU, setAll, wipeE, truth_bl, nox_pure, m1_tuple]
    unfold movI
    rw [List.map_map]
    rfl
  · intro k hk
    try simp -implicitDefEqProofs only [runF, exs, ex, ev, evT, evI, evs, evAnd, evOr, evAndT, evOrT, QL.t3, QL.s3, QL.tr, bind_pure, bind_assoc, List.length_cons, List.length_nil, if_true, List.map_cons, List.map_nil, List.cons_append, List.nil_append, Nat.reduceAdd, Nat.reduceSub, List.replicate, getM_zero, getM_succ, items_tup, items_lst, List.set, ofO_some, compF, compF2, setT, setU, setAll, wipeE, truth_bl, nox_pure]
    rw [show recvM .count (pD p) = M.pure ⟨⟩ from rfl, bind_pure, m2_count, bind_pure, m2_mul ⟨hc, by
      have : cntP p k ≤ 2 := by unfold cntP; split <;> split <;> omega
      have : (2 : Nat) < BIG := by decide
      omega⟩]
    try simp -implicitDefEqProofs only [runF, exs, ex, ev, evT, evI, evs, evAnd, evOr, evAndT, evOrT, QL.t3, QL.s3, QL.tr, bind_pure, bind_assoc, List.length_cons, List.length_nil, if_true, List.map_cons, List.map_nil, List.cons_append, List.nil_append, Nat.reduceAdd, Nat.reduceSub, List.replicate, getM_zero, getM_succ, items_tup, items_lst, List.set, ofO_some, compF, compF2, setT, setU, setAll, wipeE, truth_bl, nox_pure, m2_add]
theorem zip_map {α β : Type} (f : α → D) (g : β → D) (a0 : α) (b0 : β) : ∀ (l : List α) (k : List β), l.length = k.length → zipL (l.map f) (k.map g) = (List.range l.length).map fun e => .tup [f (l.getD e a0), g (k.getD e b0)]
  | [], [], _ => rfl
  | [], _ :: _, h => by cases h
  | _ :: _, [], h => by cases h
  | a :: l, b :: k, h => by
    show D.tup [f a, g b] :: zipL (l.map f) (k.map g) = _
    rw [zip_map f g a0 b0 l k (by simpa using h), List.length_cons, List.range_succ_eq_map, List.map_cons, List.map_map]
    rfl
theorem zip_same {α : Type} (f g : α → D) : ∀ l : List α, zipL (l.map f) (l.map g) = l.map fun e => .tup [f e, g e]
  | [] => rfl
  | a :: l => by show D.tup [f a, g a] :: zipL (l.map f) (l.map g) = _; rw [zip_same f g l]; rfl
/-- what pairs take of a kind -/
def useN (T : List (Nat × Nat)) (cs : List Nat) (k : Nat) : Nat := QM.sm T.length fun e => cs.getD e 0 * cntP (tA T e) k
def restZ (zs : List Int) (T : List (Nat × Nat)) (cs : List Nat) : List Int := (List.range zs.length).map fun k => zs.getD k 0 - (useN T cs k : Int)
theorem getD_range {α : Type} (f : Nat → α) (d : α) {q k : Nat} (h : k < q) : ((List.range q).map f).getD k d = f k := by
  rw [List.getD_eq_getElem?_getD, List.getElem?_map, List.getElem?_range h]
  rfl
theorem list_ext {α : Type} {d : α} {l r : List α} (h : l.length = r.length) (e : ∀ k, k < l.length → l.getD k d = r.getD k d) : l = r := by
  refine List.ext_getElem h fun k h1 h2 => ?_
  have := e k h1
  rw [List.getD_eq_getElem?_getD, List.getD_eq_getElem?_getD, List.getElem?_eq_getElem h1, List.getElem?_eq_getElem h2] at this
  exact this
theorem without_pairs (n : Nat) (ws : List Str) (T : List (Nat × Nat)) (zs : List Int) (cs : List Nat) (hl : zs.length ≤ LIM) (hc : cs.length = T.length) (hb : ∀ c ∈ cs, c < BIG) :
    run PT (n + 2) 42 [ruleD ws T, .tup (zs.map .int), .lst (cs.map nI)] = M.pure (.tup ((restZ zs T cs).map .int)) := by
  refine pure_of fun m => ?_
  rw [run_s (fn := f42) rfl]
  try simp -implicitDefEqProofs only [runF, exs, ex, ev, evT, evI, evs, evAnd, evOr, evAndT, evOrT, QL.t3, QL.s3, QL.tr, bind_pure, bind_assoc, List.length_cons, List.length_nil, if_true, List.map_cons, List.map_nil, List.cons_append, List.nil_append, Nat.reduceAdd, Nat.reduceSub, List.replicate, getM_zero, getM_succ, items_tup, items_lst, List.set, ofO_some, compF, compF2, setT, setU, setAll, wipeE, truth_bl, nox_pure, f42, attr2, pairsD]
  rw [zip_map pD nI (0, 0) 0 T cs hc.symm]
  refine Ok.bind (Ok.forL (c := fun e => D.tup [pD (T.getD e (0, 0)), nI (cs.getD e 0)]) (fun pre ρ m' => m' = m ∧ ∃ (ys : List Int) (t3 t4 : Option D), ρ = [some (ruleD ws T), some (.tup (ys.map .int)), some (.lst (cs.map nI)), t3, t4] ∧ ys.length = zs.length ∧ ∀ k, k < zs.length → ys.getD k 0 = zs.getD k 0 - ((QM.sm pre.length fun e => cs.getD e 0 * cntP (tA T e) k : Nat) : Int)) ?_ ?_ ?_)
  · exact ⟨rfl, zs, none, none, rfl, rfl, fun k hk => by simp [QM.sm]⟩
  · rintro pre x post ρ m1 e ⟨rfl, ys, t3, t4, rfl, hy, hs⟩
    obtain ⟨hx, hxl⟩ := range_at e
    have hcx : cs.getD x 0 < BIG := by
      rw [List.getD_eq_getElem?_getD, List.getElem?_eq_getElem (by omega)]
      exact hb _ (List.getElem_mem _)
    try simp -implicitDefEqProofs only [runF, exs, ex, ev, evT, evI, evs, evAnd, evOr, evAndT, evOrT, QL.t3, QL.s3, QL.tr, bind_pure, bind_assoc, List.length_cons, List.length_nil, if_true, List.map_cons, List.map_nil, List.cons_append, List.nil_append, Nat.reduceAdd, Nat.reduceSub, List.replicate, getM_zero, getM_succ, items_tup, items_lst, List.set, ofO_some, compF, compF2, setT, setU, setAll, wipeE, truth_bl, nox_pure, nI, m1_neg]
    rw [show run PT (n + 1) 38 [.tup (ys.map .int), pD (T.getD x (0, 0)), .int (-(cs.getD x 0 : Int))] = _ from moved n ys (T.getD x (0, 0)) (-(cs.getD x 0 : Int)) (by omega) (by omega)]
    try simp -implicitDefEqProofs only [runF, exs, ex, ev, evT, evI, evs, evAnd, evOr, evAndT, evOrT, QL.t3, QL.s3, QL.tr, bind_pure, bind_assoc, List.length_cons, List.length_nil, if_true, List.map_cons, List.map_nil, List.cons_append, List.nil_append, Nat.reduceAdd, Nat.reduceSub, List.replicate, getM_zero, getM_succ, items_tup, items_lst, List.set, ofO_some, compF, compF2, setT, setU, setAll, wipeE, truth_bl, nox_pure]
    refine Ok.pure ⟨_, rfl, rfl, movI ys (T.getD x (0, 0)) (-(cs.getD x 0 : Int)), _, _, rfl, by unfold movI; simpa using hy, fun k hk => ?_⟩
    unfold movI
    rw [getD_range _ _ (by omega), hs k hk]
    rw [List.length_append, List.length_singleton]
    show _ = _ - ((QM.sm (pre.length + 1) (fun e => cs.getD e 0 * cntP (tA T e) k) : Nat) : Int)
    simp only [QM.sm]
    rw [← hx]
    have e2 : cntP (T.getD x (0, 0)) k = cntP (tA T x) k := rfl
    rw [e2, Int.natCast_add, Int.natCast_mul, Int.neg_mul]
    omega
  · rintro ρ m1 ⟨rfl, ys, t3, t4, rfl, hy, hs⟩
    rw [List.length_range] at hs
    have e : ys = restZ zs T cs := list_ext (d := 0) (by unfold restZ; simpa using hy) fun k hk => by
      unfold restZ
      rw [getD_range _ _ (by omega)]
      exact hs k (by omega)
    try simp -implicitDefEqProofs only [runF, exs, ex, ev, evT, evI, evs, evAnd, evOr, evAndT, evOrT, QL.t3, QL.s3, QL.tr, bind_pure, bind_assoc, List.length_cons, List.length_nil, if_true, List.map_cons, List.map_nil, List.cons_append, List.nil_append, Nat.reduceAdd, Nat.reduceSub, List.replicate, getM_zero, getM_succ, items_tup, items_lst, List.set, ofO_some, compF, compF2, setT, setU, setAll, wipeE, truth_bl, nox_pure]
    exact Ok.pure ⟨rfl, by rw [e]⟩
/-! ### the pairing as it is written -/
def selL (cs : List Nat) : List Nat := (List.range cs.length).filter fun e => decide (0 < cs.getD e 0)
def rowD (ws : List Str) (T : List (Nat × Nat)) (cs : List Nat) (e : Nat) : D := .tup [.str (wS ws (tA T e).1), .str (wS ws (tA T e).2), nI (cs.getD e 0)]
def paperD (ws : List Str) (T : List (Nat × Nat)) (cs : List Nat) : D := .tup ((selL cs).map (rowD ws T cs))
theorem is_integer_I (n : Nat) (i : Int) : run PT (n + 1) 43 [.int i] = M.pure (.bl true) := by
  rw [run_s (fn := f43) rfl]
  rfl
theorem is_row (n : Nat) (ws : List Str) (T : List (Nat × Nat)) (cs : List Nat) (e : Nat) (h : 0 < cs.getD e 0) : run PT (n + 2) 41 [rowD ws T cs e] = M.pure (.bl true) := by
  rw [run_s (fn := f41) rfl]
  unfold rowD nI
  try simp -implicitDefEqProofs only [runF, exs, ex, ev, evT, evI, evs, evAnd, evOr, evAndT, evOrT, QL.t3, QL.s3, QL.tr, bind_pure, bind_assoc, List.length_cons, List.length_nil, if_true, List.map_cons, List.map_nil, List.cons_append, List.nil_append, Nat.reduceAdd, Nat.reduceSub, List.replicate, getM_zero, getM_succ, items_tup, items_lst, List.set, ofO_some, compF, compF2, setT, setU, setAll, wipeE, truth_bl, nox_pure, f41, recvX, recvE, recvGe, m1_lenT, m2_eqI, ixT_2, is_integer_I n, m2_ge]
  rw [show isiO .tuple (.tup [.str (wS ws (tA T e).1), .str (wS ws (tA T e).2), .int ((cs.getD e 0 : Nat) : Int)]) = some true from rfl]
  try simp -implicitDefEqProofs only [runF, exs, ex, ev, evT, evI, evs, evAnd, evOr, evAndT, evOrT, QL.t3, QL.s3, QL.tr, bind_pure, bind_assoc, List.length_cons, List.length_nil, if_true, List.map_cons, List.map_nil, List.cons_append, List.nil_append, Nat.reduceAdd, Nat.reduceSub, List.replicate, getM_zero, getM_succ, items_tup, items_lst, List.set, ofO_some, compF, compF2, setT, setU, setAll, wipeE, truth_bl, nox_pure, show decide ((((0 : Nat) + 1 + 1 + 1 : Nat) : Int) = 3) = true from rfl, decide_eq_true (show (1 : Int) ≤ ((cs.getD e 0 : Nat) : Int) by omega)]
theorem sel_told {T : List (Nat × Nat)} {q : Nat} (hT : TOk q T) (cs : List Nat) (hc : cs.length = T.length) : (T.filter fun p => decide (p ∈ (selL cs).map (tA T))) = (selL cs).map (tA T) := by
  have e : T = (List.range T.length).map (tA T) := list_ext (d := (0, 0)) (by simp) fun k hk => by rw [getD_range _ _ hk]; rfl
  conv => lhs; rw [show T.filter (fun p => decide (p ∈ (selL cs).map (tA T))) = ((List.range T.length).map (tA T)).filter (fun p => decide (p ∈ (selL cs).map (tA T))) by rw [← e]]
  rw [List.filter_map]
  congr 1
  unfold selL
  rw [hc]
  refine List.filter_congr fun x hx => ?_
  have hx := List.mem_range.mp hx
  show decide (tA T x ∈ _) = _
  refine decide_eq_decide.mpr ?_
  rw [List.mem_map]
  constructor
  · rintro ⟨y, hy, e⟩
    obtain ⟨h1, h2⟩ := List.mem_filter.mp hy
    have := hT.inj (List.mem_range.mp h1) hx e
    exact this ▸ of_decide_eq_true h2
  · exact fun h => ⟨x, List.mem_filter.mpr ⟨List.mem_range.mpr hx, decide_eq_true h⟩, rfl⟩
theorem minL_le : ∀ (r : List Int) (a b : Int), b ≤ r.foldl (fun x y => if y < x then y else x) a ↔ b ≤ a ∧ ∀ c ∈ r, b ≤ c
  | [], a, b => by simp
  | c :: r, a, b => by
    rw [List.foldl_cons, minL_le r]
    simp only [List.mem_cons, forall_eq_or_imp]
    split <;> constructor <;> rintro ⟨h1, h2⟩ <;> refine ⟨?_, ?_⟩ <;> first | omega | exact h2 | exact h2.2 | (exact ⟨by omega, h2⟩) | (exact ⟨by omega, h2.2⟩)
theorem m1_minT {zs : List Int} (h : 1 ≤ zs.length) : doM1 .min (.tup (zs.map .int)) = M.pure (.int (minL zs)) := by
  cases zs with
  | nil => simp at h
  | cons a r =>
    funext m
    show ofO ((intsO ((a :: r).map .int)).map fun ns => D.int (minL ns)) m = _
    rw [intsO_map]
    rfl
theorem minL_nn {zs : List Int} (h : 1 ≤ zs.length) : decide (0 ≤ minL zs) = zs.all fun z => decide (0 ≤ z) := by
  cases zs with
  | nil => simp at h
  | cons a r =>
    rw [Bool.eq_iff_iff, decide_eq_true_eq, List.all_eq_true]
    show 0 ≤ r.foldl (fun x y => if y < x then y else x) a ↔ _
    rw [minL_le]
    simp
theorem rest_behind (n : Nat) {ws : List Str} {T : List (Nat × Nat)} (h : WsOk ws) (hT : TOk ws.length T) (zs : List Int) (cs : List Nat) (hl : zs.length ≤ LIM) (h1 : 1 ≤ zs.length) (hc : cs.length = T.length) (hb : ∀ c ∈ cs, c < BIG) (m : Mem) :
    Ok (run PT (n + 3) 35 [ruleD ws T, .tup (zs.map .int), paperD ws T cs]) m fun d m' => m' = m ++ [.dead] ∧ d = if ((restZ zs T cs).all fun z => decide (0 ≤ z)) = true then .tup ((restZ zs T cs).map .int) else .non := by
  have hlim : 10000 ≤ LIM := by decide
  have hTl := hT.len h.le
  have hsl : (selL cs).length ≤ 21 := by
    unfold selL
    have := List.length_filter_le (fun e => decide (0 < cs.getD e 0)) (List.range cs.length)
    rw [List.length_range] at this
    omega
  have hsel : ∀ e ∈ selL cs, e < T.length ∧ 0 < cs.getD e 0 := fun e he => by
    obtain ⟨a, b⟩ := List.mem_filter.mp he
    have := List.mem_range.mp a
    exact ⟨by omega, of_decide_eq_true b⟩
  rw [run_s (fn := f35) rfl]
  unfold paperD
  try simp -implicitDefEqProofs only [runF, exs, ex, ev, evT, evI, evs, evAnd, evOr, evAndT, evOrT, QL.t3, QL.s3, QL.tr, bind_pure, bind_assoc, List.length_cons, List.length_nil, if_true, List.map_cons, List.map_nil, List.cons_append, List.nil_append, Nat.reduceAdd, Nat.reduceSub, List.replicate, getM_zero, getM_succ, items_tup, items_lst, List.set, ofO_some, compF, compF2, setT, setU, setAll, wipeE, truth_bl, nox_pure, f35, recvX, recvI, recvNe, recvGe, show isiO .tuple (.tup ((selL cs).map (rowD ws T cs))) = some true from rfl, Bool.not_true, Bool.false_eq_true, if_false]
  rw [lim_ok (by rw [List.length_map]; omega), bind_pure, compL_map (c := rowD ws T cs) (g := fun _ => .bl true)]
  rotate_left
  · intro e he
    try simp -implicitDefEqProofs only [runF, exs, ex, ev, evT, evI, evs, evAnd, evOr, evAndT, evOrT, QL.t3, QL.s3, QL.tr, bind_pure, bind_assoc, List.length_cons, List.length_nil, if_true, List.map_cons, List.map_nil, List.cons_append, List.nil_append, Nat.reduceAdd, Nat.reduceSub, List.replicate, getM_zero, getM_succ, items_tup, items_lst, List.set, ofO_some, compF, compF2, setT, setU, setAll, wipeE, truth_bl, nox_pure, is_row n ws T cs e (hsel e he).2]
  try simp -implicitDefEqProofs only [runF, exs, ex, ev, evT, evI, evs, evAnd, evOr, evAndT, evOrT, QL.t3, QL.s3, QL.tr, bind_pure, bind_assoc, List.length_cons, List.length_nil, if_true, List.map_cons, List.map_nil, List.cons_append, List.nil_append, Nat.reduceAdd, Nat.reduceSub, List.replicate, getM_zero, getM_succ, items_tup, items_lst, List.set, ofO_some, compF, compF2, setT, setU, setAll, wipeE, truth_bl, nox_pure]
  rw [show (fun _ : Nat => D.bl true) = (fun k => D.bl ((fun _ : Nat => true) k)) from rfl, all_map]
  rw [show ((selL cs).all fun _ => true) = true by rw [List.all_eq_true]; exact fun _ _ => rfl]
  try simp -implicitDefEqProofs only [runF, exs, ex, ev, evT, evI, evs, evAnd, evOr, evAndT, evOrT, QL.t3, QL.s3, QL.tr, bind_pure, bind_assoc, List.length_cons, List.length_nil, if_true, List.map_cons, List.map_nil, List.cons_append, List.nil_append, Nat.reduceAdd, Nat.reduceSub, List.replicate, getM_zero, getM_succ, items_tup, items_lst, List.set, ofO_some, compF, compF2, setT, setU, setAll, wipeE, truth_bl, nox_pure, Bool.not_true, Bool.false_eq_true, if_false]
  rw [lim_ok (by rw [List.length_map]; omega), bind_pure, compL_map (c := rowD ws T cs) (g := fun e => linkD ws (tA T e))]
  rotate_left
  · intro e he
    unfold rowD
    try simp -implicitDefEqProofs only [runF, exs, ex, ev, evT, evI, evs, evAnd, evOr, evAndT, evOrT, QL.t3, QL.s3, QL.tr, bind_pure, bind_assoc, List.length_cons, List.length_nil, if_true, List.map_cons, List.map_nil, List.cons_append, List.nil_append, Nat.reduceAdd, Nat.reduceSub, List.replicate, getM_zero, getM_succ, items_tup, items_lst, List.set, ofO_some, compF, compF2, setT, setU, setAll, wipeE, truth_bl, nox_pure, ixT_0, ixT_1, tup2]
    rfl
  try simp -implicitDefEqProofs only [runF, exs, ex, ev, evT, evI, evs, evAnd, evOr, evAndT, evOrT, QL.t3, QL.s3, QL.tr, bind_pure, bind_assoc, List.length_cons, List.length_nil, if_true, List.map_cons, List.map_nil, List.cons_append, List.nil_append, Nat.reduceAdd, Nat.reduceSub, List.replicate, getM_zero, getM_succ, items_tup, items_lst, List.set, ofO_some, compF, compF2, setT, setU, setAll, wipeE, truth_bl, nox_pure, attr1]
  have htold : (selL cs).map (fun e => linkD ws (tA T e)) = ((selL cs).map (tA T)).map (linkD ws) := by rw [List.map_map]; rfl
  have hin : ∀ p ∈ (selL cs).map (tA T), p.1 < ws.length ∧ p.2 < ws.length := fun p hp => by
    obtain ⟨e, he, rfl⟩ := List.mem_map.mp hp
    exact hT.lt _ (tA_mem (hsel e he).1)
  rw [htold, lim_ok (by rw [List.length_map]; omega), bind_pure, compL_filter (c := linkD ws) (p := fun p => decide (p ∈ (selL cs).map (tA T))) (g := linkD ws)]
  rotate_left
  · intro p hp
    try simp -implicitDefEqProofs only [runF, exs, ex, ev, evT, evI, evs, evAnd, evOr, evAndT, evOrT, QL.t3, QL.s3, QL.tr, bind_pure, bind_assoc, List.length_cons, List.length_nil, if_true, List.map_cons, List.map_nil, List.cons_append, List.nil_append, Nat.reduceAdd, Nat.reduceSub, List.replicate, getM_zero, getM_succ, items_tup, items_lst, List.set, ofO_some, compF, compF2, setT, setU, setAll, wipeE, truth_bl, nox_pure]
    rw [m2_inL (nb_link h (hT.lt p hp)) (nbs_link h hin) (by rw [dpt_link]; omega) (by have := dpts_link ws ((selL cs).map (tA T)); omega)]
    try simp -implicitDefEqProofs only [runF, exs, ex, ev, evT, evI, evs, evAnd, evOr, evAndT, evOrT, QL.t3, QL.s3, QL.tr, bind_pure, bind_assoc, List.length_cons, List.length_nil, if_true, List.map_cons, List.map_nil, List.cons_append, List.nil_append, Nat.reduceAdd, Nat.reduceSub, List.replicate, getM_zero, getM_succ, items_tup, items_lst, List.set, ofO_some, compF, compF2, setT, setU, setAll, wipeE, truth_bl, nox_pure]
    rw [decide_eq_decide.mpr (link_mem h.nd (hT.lt p hp) hin)]
    cases decide (p ∈ (selL cs).map (tA T)) <;> rfl
  try simp -implicitDefEqProofs only [runF, exs, ex, ev, evT, evI, evs, evAnd, evOr, evAndT, evOrT, QL.t3, QL.s3, QL.tr, bind_pure, bind_assoc, List.length_cons, List.length_nil, if_true, List.map_cons, List.map_nil, List.cons_append, List.nil_append, Nat.reduceAdd, Nat.reduceSub, List.replicate, getM_zero, getM_succ, items_tup, items_lst, List.set, ofO_some, compF, compF2, setT, setU, setAll, wipeE, truth_bl, nox_pure]
  rw [sel_told hT cs hc, m2_ne (a := .lst (((selL cs).map (tA T)).map (linkD ws))) (b := .lst (((selL cs).map (tA T)).map (linkD ws))) (nbs_link h hin) (nbs_link h hin) (by show dpts _ + 1 ≤ 64; have := dpts_link ws ((selL cs).map (tA T)); omega) (by show dpts _ + 1 ≤ 64; have := dpts_link ws ((selL cs).map (tA T)); omega)]
  try simp -implicitDefEqProofs only [runF, exs, ex, ev, evT, evI, evs, evAnd, evOr, evAndT, evOrT, QL.t3, QL.s3, QL.tr, bind_pure, bind_assoc, List.length_cons, List.length_nil, if_true, List.map_cons, List.map_nil, List.cons_append, List.nil_append, Nat.reduceAdd, Nat.reduceSub, List.replicate, getM_zero, getM_succ, items_tup, items_lst, List.set, ofO_some, compF, compF2, setT, setU, setAll, wipeE, truth_bl, nox_pure, decide_true, Bool.not_true, Bool.false_eq_true, if_false]
  rw [List.map_map, lim_ok (by rw [List.length_map]; omega), bind_pure, compL_map (c := linkD ws ∘ tA T) (g := nI)]
  rotate_left
  · intro e he
    try simp -implicitDefEqProofs only [runF, exs, ex, ev, evT, evI, evs, evAnd, evOr, evAndT, evOrT, QL.t3, QL.s3, QL.tr, bind_pure, bind_assoc, List.length_cons, List.length_nil, if_true, List.map_cons, List.map_nil, List.cons_append, List.nil_append, Nat.reduceAdd, Nat.reduceSub, List.replicate, getM_zero, getM_succ, items_tup, items_lst, List.set, ofO_some, compF, compF2, setT, setU, setAll, wipeE, truth_bl, nox_pure, Function.comp, attr1, recvIx, index_link h hT (hsel e he).1]
  try simp -implicitDefEqProofs only [runF, exs, ex, ev, evT, evI, evs, evAnd, evOr, evAndT, evOrT, QL.t3, QL.s3, QL.tr, bind_pure, bind_assoc, List.length_cons, List.length_nil, if_true, List.map_cons, List.map_nil, List.cons_append, List.nil_append, Nat.reduceAdd, Nat.reduceSub, List.replicate, getM_zero, getM_succ, items_tup, items_lst, List.set, ofO_some, compF, compF2, setT, setU, setAll, wipeE, truth_bl, nox_pure, attr1]
  rw [lim_ok (by rw [List.length_map]; omega), bind_pure, compL_map (c := linkD ws) (g := fun _ => nI 0)]
  rotate_left
  · intro e he
    try simp -implicitDefEqProofs only [runF, exs, ex, ev, evT, evI, evs, evAnd, evOr, evAndT, evOrT, QL.t3, QL.s3, QL.tr, bind_pure, bind_assoc, List.length_cons, List.length_nil, if_true, List.map_cons, List.map_nil, List.cons_append, List.nil_append, Nat.reduceAdd, Nat.reduceSub, List.replicate, getM_zero, getM_succ, items_tup, items_lst, List.set, ofO_some, compF, compF2, setT, setU, setAll, wipeE, truth_bl, nox_pure]
    rfl
  try simp -implicitDefEqProofs only [runF, exs, ex, ev, evT, evI, evs, evAnd, evOr, evAndT, evOrT, QL.t3, QL.s3, QL.tr, bind_pure, bind_assoc, List.length_cons, List.length_nil, if_true, List.map_cons, List.map_nil, List.cons_append, List.nil_append, Nat.reduceAdd, Nat.reduceSub, List.replicate, getM_zero, getM_succ, items_tup, items_lst, List.set, ofO_some, compF, compF2, setT, setU, setAll, wipeE, truth_bl, nox_pure]
  refine Ok.bind (ok_new ?_)
  try simp -implicitDefEqProofs only [runF, exs, ex, ev, evT, evI, evs, evAnd, evOr, evAndT, evOrT, QL.t3, QL.s3, QL.tr, bind_pure, bind_assoc, List.length_cons, List.length_nil, if_true, List.map_cons, List.map_nil, List.cons_append, List.nil_append, Nat.reduceAdd, Nat.reduceSub, List.replicate, getM_zero, getM_succ, items_tup, items_lst, List.set, ofO_some, compF, compF2, setT, setU, setAll, wipeE, truth_bl, nox_pure]
  rw [zip_same]
  refine Ok.bind (Ok.forL (c := fun e => D.tup [nI e, rowD ws T cs e]) (fun pre ρ m' => ∃ (ys : List Nat) (t3 t8 : Option D) (d4 d6 : D), ρ = [some (ruleD ws T), some (.tup (zs.map .int)), some (.tup ((selL cs).map (rowD ws T cs))), t3, some d4, none, some d6, some (.ref m.length), t8, none] ∧ ys.length = T.length ∧ (∀ e, ys.getD e 0 = if e ∈ pre then cs.getD e 0 else 0) ∧ m' = m ++ [.lst (ys.map nI)]) ?_ ?_ ?_)
  · refine ⟨T.map fun _ => 0, none, none, _, _, rfl, by simp, fun e => ?_, by rw [List.map_map]; rfl⟩
    rw [List.getD_eq_getElem?_getD, List.getElem?_map]
    cases T[e]? <;> simp
  · rintro pre x post ρ m1 e ⟨ys, t3, t8, d4, d6, rfl, hy, hs, rfl⟩
    have hx := hsel x (by rw [e]; simp)
    unfold rowD
    try simp -implicitDefEqProofs only [runF, exs, ex, ev, evT, evI, evs, evAnd, evOr, evAndT, evOrT, QL.t3, QL.s3, QL.tr, bind_pure, bind_assoc, List.length_cons, List.length_nil, if_true, List.map_cons, List.map_nil, List.cons_append, List.nil_append, Nat.reduceAdd, Nat.reduceSub, List.replicate, getM_zero, getM_succ, items_tup, items_lst, List.set, ofO_some, compF, compF2, setT, setU, setAll, wipeE, truth_bl, nox_pure, ixT_2]
    unfold nI
    refine Ok.bind (ok_sti (get_app _ _) (by omega) (by simp; omega) ?_)
    rw [set_app]
    refine Ok.pure ⟨_, rfl, ys.set x (cs.getD x 0), _, _, d4, d6, rfl, by simpa using hy, fun e => ?_, ?_⟩
    · rw [List.getD_eq_getElem?_getD, List.getElem?_set]
      have := hs e
      rw [List.getD_eq_getElem?_getD] at this
      by_cases he : x = e
      · subst he
        rw [if_pos rfl, if_pos (by omega), if_pos (by simp)]
        rfl
      · rw [if_neg he, this]
        have : (e ∈ pre ++ [x]) ↔ e ∈ pre := by
          rw [List.mem_append, List.mem_singleton]
          exact ⟨fun z => z.resolve_right fun z => he z.symm, .inl⟩
        simp [this]
    · rw [Int.toNat_natCast, List.map_set]
  · rintro ρ m1 ⟨ys, t3, t8, d4, d6, rfl, hy, hs, rfl⟩
    have e : ys = cs := list_ext (d := 0) (by omega) fun k hk => by
      rw [hs k]
      by_cases hk2 : k ∈ selL cs
      · rw [if_pos hk2]
      · rw [if_neg hk2]
        have : ¬ 0 < cs.getD k 0 := fun z => hk2 (List.mem_filter.mpr ⟨List.mem_range.mpr (by omega), decide_eq_true z⟩)
        omega
    subst e
    try simp -implicitDefEqProofs only [runF, exs, ex, ev, evT, evI, evs, evAnd, evOr, evAndT, evOrT, QL.t3, QL.s3, QL.tr, bind_pure, bind_assoc, List.length_cons, List.length_nil, if_true, List.map_cons, List.map_nil, List.cons_append, List.nil_append, Nat.reduceAdd, Nat.reduceSub, List.replicate, getM_zero, getM_succ, items_tup, items_lst, List.set, ofO_some, compF, compF2, setT, setU, setAll, wipeE, truth_bl, nox_pure]
    refine Ok.bind (ok_freeze (get_app _ _) ?_)
    rw [set_app, without_pairs n ws T zs ys hl hc hb]
    have hrl : (restZ zs T ys).length = zs.length := by unfold restZ; simp
    try simp -implicitDefEqProofs only [runF, exs, ex, ev, evT, evI, evs, evAnd, evOr, evAndT, evOrT, QL.t3, QL.s3, QL.tr, bind_pure, bind_assoc, List.length_cons, List.length_nil, if_true, List.map_cons, List.map_nil, List.cons_append, List.nil_append, Nat.reduceAdd, Nat.reduceSub, List.replicate, getM_zero, getM_succ, items_tup, items_lst, List.set, ofO_some, compF, compF2, setT, setU, setAll, wipeE, truth_bl, nox_pure, m1_minT (show 1 ≤ (restZ zs T ys).length by omega), m2_ge, minL_nn (show 1 ≤ (restZ zs T ys).length by omega)]
    cases hall : (restZ zs T ys).all fun z => decide (0 ≤ z) with
    | true => try simp -implicitDefEqProofs only [runF, exs, ex, ev, evT, evI, evs, evAnd, evOr, evAndT, evOrT, QL.t3, QL.s3, QL.tr, bind_pure, bind_assoc, List.length_cons, List.length_nil, if_true, List.map_cons, List.map_nil, List.cons_append, List.nil_append, Nat.reduceAdd, Nat.reduceSub, List.replicate, getM_zero, getM_succ, items_tup, items_lst, List.set, ofO_some, compF, compF2, setT, setU, setAll, wipeE, truth_bl, nox_pure]; exact Ok.pure ⟨rfl, rfl⟩
    | false => try simp -implicitDefEqProofs only [runF, exs, ex, ev, evT, evI, evs, evAnd, evOr, evAndT, evOrT, QL.t3, QL.s3, QL.tr, bind_pure, bind_assoc, List.length_cons, List.length_nil, if_true, List.map_cons, List.map_nil, List.cons_append, List.nil_append, Nat.reduceAdd, Nat.reduceSub, List.replicate, getM_zero, getM_succ, items_tup, items_lst, List.set, ofO_some, compF, compF2, setT, setU, setAll, wipeE, truth_bl, nox_pure, Bool.false_eq_true, if_false]; exact Ok.pure ⟨rfl, by simp⟩
end QV
end
section
set_option linter.all false
set_option maxRecDepth 100000
set_option autoImplicit false
/-! QO3: the checker: what stays over. -/
namespace QV
open PySem QL QP
/-- some kinds, as they are written -/
def lotD (ws : List Str) (L : List Nat) : D := .tup (L.map fun k => .str (wS ws k))
theorem lot_ws (ws : List Str) (L : List Nat) : lotD ws L = .tup ((L.map (wS ws)).map .str) := by unfold lotD; rw [List.map_map]; rfl
theorem map_nodup {α β : Type} {f : α → β} {l : List α} (hf : ∀ a ∈ l, ∀ b ∈ l, f a = f b → a = b) (nd : l.Nodup) : (l.map f).Nodup := by
  induction l with
  | nil => exact List.nodup_nil
  | cons a r ih =>
    obtain ⟨n1, n2⟩ := List.nodup_cons.mp nd
    rw [List.map_cons, List.nodup_cons]
    refine ⟨fun z => ?_, ih (fun x hx y hy => hf x (List.mem_cons_of_mem _ hx) y (List.mem_cons_of_mem _ hy)) n2⟩
    obtain ⟨b, hb, e⟩ := List.mem_map.mp z
    exact n1 (hf b (List.mem_cons_of_mem _ hb) a List.mem_cons_self e ▸ hb)
theorem is_some (n : Nat) {ws : List Str} {T : List (Nat × Nat)} (h : WsOk ws) {L : List Nat} (hL : ∀ k ∈ L, k < ws.length) (nd : L.Nodup) : run PT (n + 1) 34 [ruleD ws T, lotD ws L] = M.pure (.bl true) := by
  have hlim : 10000 ≤ LIM := by decide
  have hle := h.le
  have hl := nodup_le nd hL
  have hok : ∀ w ∈ ws, PyData.strOk w = true := fun w hw => (h.nm w hw).ok
  have hin : ∀ w ∈ L.map (wS ws), PyData.strOk w = true := fun w hw => by
    obtain ⟨k, hk, rfl⟩ := List.mem_map.mp hw
    exact (h.at_ (hL k hk)).ok
  rw [run_s (fn := f34) rfl]
  try simp -implicitDefEqProofs only [runF, exs, ex, ev, evT, evI, evs, evAnd, evOr, evAndT, evOrT, QL.t3, QL.s3, QL.tr, bind_pure, bind_assoc, List.length_cons, List.length_nil, if_true, List.map_cons, List.map_nil, List.cons_append, List.nil_append, Nat.reduceAdd, Nat.reduceSub, List.replicate, getM_zero, getM_succ, items_tup, items_lst, List.set, ofO_some, compF, compF2, setT, setU, setAll, wipeE, truth_bl, nox_pure, f34, recvI, recvNI, recvSlT]
  rw [show isiO .tuple (lotD ws L) = some true from rfl, show itemsOf (lotD ws L) = M.pure (L.map fun k => .str (wS ws k)) from rfl]
  try simp -implicitDefEqProofs only [runF, exs, ex, ev, evT, evI, evs, evAnd, evOr, evAndT, evOrT, QL.t3, QL.s3, QL.tr, bind_pure, bind_assoc, List.length_cons, List.length_nil, if_true, List.map_cons, List.map_nil, List.cons_append, List.nil_append, Nat.reduceAdd, Nat.reduceSub, List.replicate, getM_zero, getM_succ, items_tup, items_lst, List.set, ofO_some, compF, compF2, setT, setU, setAll, wipeE, truth_bl, nox_pure, Bool.not_true, Bool.false_eq_true, if_false, attr0]
  rw [lim_ok (by rw [List.length_map]; omega), bind_pure, compL_map (c := fun k => D.str (wS ws k)) (g := fun _ => .bl true)]
  rotate_left
  · intro k hk
    try simp -implicitDefEqProofs only [runF, exs, ex, ev, evT, evI, evs, evAnd, evOr, evAndT, evOrT, QL.t3, QL.s3, QL.tr, bind_pure, bind_assoc, List.length_cons, List.length_nil, if_true, List.map_cons, List.map_nil, List.cons_append, List.nil_append, Nat.reduceAdd, Nat.reduceSub, List.replicate, getM_zero, getM_succ, items_tup, items_lst, List.set, ofO_some, compF, compF2, setT, setU, setAll, wipeE, truth_bl, nox_pure, attr0, in_wsT (h.at_ (hL k hk)).ok hok, decide_eq_true (wS_mem (hL k hk))]
  try simp -implicitDefEqProofs only [runF, exs, ex, ev, evT, evI, evs, evAnd, evOr, evAndT, evOrT, QL.t3, QL.s3, QL.tr, bind_pure, bind_assoc, List.length_cons, List.length_nil, if_true, List.map_cons, List.map_nil, List.cons_append, List.nil_append, Nat.reduceAdd, Nat.reduceSub, List.replicate, getM_zero, getM_succ, items_tup, items_lst, List.set, ofO_some, compF, compF2, setT, setU, setAll, wipeE, truth_bl, nox_pure]
  rw [show (fun _ : Nat => D.bl true) = (fun k => D.bl ((fun _ : Nat => true) k)) from rfl, all_map]
  rw [show (L.all fun _ => true) = true by rw [List.all_eq_true]; exact fun _ _ => rfl]
  try simp -implicitDefEqProofs only [runF, exs, ex, ev, evT, evI, evs, evAnd, evOr, evAndT, evOrT, QL.t3, QL.s3, QL.tr, bind_pure, bind_assoc, List.length_cons, List.length_nil, if_true, List.map_cons, List.map_nil, List.cons_append, List.nil_append, Nat.reduceAdd, Nat.reduceSub, List.replicate, getM_zero, getM_succ, items_tup, items_lst, List.set, ofO_some, compF, compF2, setT, setU, setAll, wipeE, truth_bl, nox_pure, Bool.not_true, Bool.false_eq_true, if_false]
  rw [show itemsOf (lotD ws L) = M.pure (L.map fun k => .str (wS ws k)) from rfl, bind_pure, enum_0 (fun k => D.str (wS ws k)) 0 L, lim_ok (by simp; omega), bind_pure, compL_map (c := fun i => D.tup [nI i, .str (wS ws (L.getD i 0))]) (g := fun _ => .bl true)]
  rotate_left
  · intro i hi
    have hi := List.mem_range.mp hi
    have hg : L.getD i 0 = L[i] := by rw [List.getD_eq_getElem?_getD, List.getElem?_eq_getElem hi]; rfl
    rw [hg]
    have hLi := hL _ (List.getElem_mem hi)
    try simp -implicitDefEqProofs only [runF, exs, ex, ev, evT, evI, evs, evAnd, evOr, evAndT, evOrT, QL.t3, QL.s3, QL.tr, bind_pure, bind_assoc, List.length_cons, List.length_nil, if_true, List.map_cons, List.map_nil, List.cons_append, List.nil_append, Nat.reduceAdd, Nat.reduceSub, List.replicate, getM_zero, getM_succ, items_tup, items_lst, List.set, ofO_some, compF, compF2, setT, setU, setAll, wipeE, truth_bl, nox_pure, lot_ws, m2_slTT]
    rw [← List.map_take, notIn_wsT (h.at_ hLi).ok fun w hw => hin w (List.mem_of_mem_take hw)]
    rw [decide_eq_false]
    · try simp -implicitDefEqProofs only [runF, exs, ex, ev, evT, evI, evs, evAnd, evOr, evAndT, evOrT, QL.t3, QL.s3, QL.tr, bind_pure, bind_assoc, List.length_cons, List.length_nil, if_true, List.map_cons, List.map_nil, List.cons_append, List.nil_append, Nat.reduceAdd, Nat.reduceSub, List.replicate, getM_zero, getM_succ, items_tup, items_lst, List.set, ofO_some, compF, compF2, setT, setU, setAll, wipeE, truth_bl, nox_pure, Bool.not_false]
    · rw [← List.map_take]
      intro z
      obtain ⟨k, hk, e⟩ := List.mem_map.mp z
      obtain ⟨j, hj, e2⟩ := List.mem_iff_getElem.mp hk
      rw [List.length_take] at hj
      rw [List.getElem_take] at e2
      have := wS_inj h.nd (hL k (List.mem_of_mem_take hk)) hLi e
      have := (List.getElem_inj (h₀ := by omega) (h₁ := hi) nd).mp (e2.trans this)
      omega
  try simp -implicitDefEqProofs only [runF, exs, ex, ev, evT, evI, evs, evAnd, evOr, evAndT, evOrT, QL.t3, QL.s3, QL.tr, bind_pure, bind_assoc, List.length_cons, List.length_nil, if_true, List.map_cons, List.map_nil, List.cons_append, List.nil_append, Nat.reduceAdd, Nat.reduceSub, List.replicate, getM_zero, getM_succ, items_tup, items_lst, List.set, ofO_some, compF, compF2, setT, setU, setAll, wipeE, truth_bl, nox_pure]
  rw [show (fun _ : Nat => D.bl true) = (fun k => D.bl ((fun _ : Nat => true) k)) from rfl, all_map]
  rw [show ((List.range L.length).all fun _ => true) = true by rw [List.all_eq_true]; exact fun _ _ => rfl]
  rfl
theorem m1_sorted {l : List Nat} (h : l.length < 64) : doM1 .sorted (.lst (l.map nI)) = M.pure (.lst ((srtN l).map nI)) := by
  have e : intsO (l.map nI) = some (l.map cI) := by
    have := intsO_map (l.map cI)
    rw [List.map_map] at this
    exact this
  funext m
  show ofO (match intsO (l.map nI) with
    | some ns => if ns.length < 64 then some (D.lst ((sortI ns).map .int)) else none
    | none => none) m = _
  rw [e]
  show ofO (if (l.map cI).length < 64 then some (D.lst ((sortI (l.map cI)).map .int)) else none) m = _
  rw [if_pos (by simpa using h), srtN_I, List.map_map]
  rfl
theorem set_of (n : Nat) {ws : List Str} {T : List (Nat × Nat)} (h : WsOk ws) {L : List Nat} (hL : ∀ k ∈ L, k < ws.length) (hl : L.length < 64) : run PT (n + 1) 36 [ruleD ws T, lotD ws L] = M.pure (tD (srtN L)) := by
  have hlim : 10000 ≤ LIM := by decide
  rw [run_s (fn := f36) rfl]
  try simp -implicitDefEqProofs only [runF, exs, ex, ev, evT, evI, evs, evAnd, evOr, evAndT, evOrT, QL.t3, QL.s3, QL.tr, bind_pure, bind_assoc, List.length_cons, List.length_nil, if_true, List.map_cons, List.map_nil, List.cons_append, List.nil_append, Nat.reduceAdd, Nat.reduceSub, List.replicate, getM_zero, getM_succ, items_tup, items_lst, List.set, ofO_some, compF, compF2, setT, setU, setAll, wipeE, truth_bl, nox_pure, f36]
  rw [show itemsOf (lotD ws L) = M.pure (L.map fun k => .str (wS ws k)) from rfl, bind_pure, lim_ok (by simp; omega), bind_pure, compL_map (c := fun k => D.str (wS ws k)) (g := nI)]
  · try simp -implicitDefEqProofs only [runF, exs, ex, ev, evT, evI, evs, evAnd, evOr, evAndT, evOrT, QL.t3, QL.s3, QL.tr, bind_pure, bind_assoc, List.length_cons, List.length_nil, if_true, List.map_cons, List.map_nil, List.cons_append, List.nil_append, Nat.reduceAdd, Nat.reduceSub, List.replicate, getM_zero, getM_succ, items_tup, items_lst, List.set, ofO_some, compF, compF2, setT, setU, setAll, wipeE, truth_bl, nox_pure, m1_sorted hl, m1_tuple]
    rfl
  · intro k hk
    try simp -implicitDefEqProofs only [runF, exs, ex, ev, evT, evI, evs, evAnd, evOr, evAndT, evOrT, QL.t3, QL.s3, QL.tr, bind_pure, bind_assoc, List.length_cons, List.length_nil, if_true, List.map_cons, List.map_nil, List.cons_append, List.nil_append, Nat.reduceAdd, Nat.reduceSub, List.replicate, getM_zero, getM_succ, items_tup, items_lst, List.set, ofO_some, compF, compF2, setT, setU, setAll, wipeE, truth_bl, nox_pure, attr0, recvIx, index_ws h (hL k hk)]
/-- the value of a set, as the program has it -/
def pval (q : Nat) (T : List (Nat × Nat)) (U : List Nat) (ns : List Nat) : Int := valI (ns.map cI) U (loneL q T U) (lumpsL q T U)
theorem cut_in {q : Nat} {T : List (Nat × Nat)} {U : List Nat} (hT : TOk q T) (nd : U.Nodup) (hU : ∀ k ∈ U, k < q) : (∀ k ∈ loneL q T U, k < q) ∧ (loneL q T U).length ≤ q ∧ (∀ L ∈ lumpsL q T U, (∀ k ∈ L, k < q) ∧ L.length ≤ q) ∧ ((lumpsL q T U).length ≤ 1000 → True) := by
  have c := prog_cut hT.lt nd hU
  have n1 := List.nodup_append.mp c.nd
  have m1 := List.nodup_append.mp n1.2.1
  have hall : ∀ k, k < q ↔ k ∈ U ++ (loneL q T U ++ (lumpsL q T U).flatten) := c.all
  have h1 : ∀ k ∈ loneL q T U, k < q := fun k hk => (hall k).mpr (List.mem_append_right _ (List.mem_append_left _ hk))
  refine ⟨h1, nodup_le m1.1 h1, fun L hL => ?_, fun _ => trivial⟩
  have h2 : ∀ k ∈ L, k < q := fun k hk => (hall k).mpr (List.mem_append_right _ (List.mem_append_right _ (List.mem_flatten.mpr ⟨L, hL, hk⟩)))
  exact ⟨h2, nodup_le ((List.pairwise_flatten.mp m1.2.1).1 L hL) h2⟩
theorem lumps_len (q : Nat) (T : List (Nat × Nat)) (U : List Nat) : (lumpsL q T U).length ≤ q := by
  have : ∀ (l : List Nat) (ls : List (List Nat)), (l.foldl (lumpStep q T U) ls).length ≤ ls.length + l.length := by
    intro l
    induction l with
    | nil => intro ls; simp
    | cons a r ih =>
      intro ls
      rw [List.foldl_cons]
      have h1 := ih (lumpStep q T U ls a)
      have h2 : (lumpStep q T U ls a).length ≤ ls.length + 1 := by
        unfold lumpStep
        split <;> simp
      simp only [List.length_cons]
      omega
  have h := this (keysL q U) []
  have h2 := keysL_len q U
  unfold lumpsL
  simp only [List.length_nil] at h
  omega
theorem prog_value (n : Nat) {q : Nat} {T : List (Nat × Nat)} {U : List Nat} (hq : q ≤ 6) (hT : TOk q T) (nd : U.Nodup) (hU : ∀ k ∈ U, k < q) (ns : List Nat) (hn : ns.length = q) : run PT (n + 3) 37 [cutD q T U, .tup (ns.map nI)] = M.pure (.int (pval q T U ns)) := by
  have hlim : 10000 ≤ LIM := by decide
  obtain ⟨c1, c2, c3, _⟩ := cut_in hT nd hU
  have hll := lumps_len q T U
  have hul := nodup_le nd hU
  have e : D.tup (ns.map nI) = tI (ns.map cI) := by unfold tI; rw [List.map_map]; rfl
  rw [e]
  exact value_of n (ns.map cI) U (loneL q T U) (lumpsL q T U) (fun L hL => ⟨fun k hk => by rw [List.length_map, hn]; exact (c3 L hL).1 k hk, by have := (c3 L hL).2; omega⟩) (by omega) ⟨fun k hk => by rw [List.length_map, hn]; exact hU k hk, by omega⟩ ⟨fun k hk => by rw [List.length_map, hn]; exact c1 k hk, by omega⟩
theorem srt_in {q : Nat} {L : List Nat} (hL : ∀ k ∈ L, k < q) : ∀ k ∈ srtN L, k < q := fun k hk => hL k (mem_srtN.mp hk)
theorem over_shown (n : Nat) {ws : List Str} {T : List (Nat × Nat)} (h : WsOk ws) (hT : TOk ws.length T) {L : List Nat} (hL : ∀ k ∈ L, k < ws.length) (nd : L.Nodup) (ns : List Nat) (hn : ns.length = ws.length) (many : Int) (zs : List Int) :
    run PT (n + 4) 45 [ruleD ws T, .tup (ns.map nI), .int many, .tup (zs.map .int), lotD ws L] = M.pure (.bl (decide (zs.sum = many ∧ pval ws.length T (srtN L) ns = many))) := by
  have hle := h.le
  have hTl := hT.len hle
  have hl := nodup_le nd hL
  rw [run_s (fn := f45) rfl]
  try simp -implicitDefEqProofs only [runF, exs, ex, ev, evT, evI, evs, evAnd, evOr, evAndT, evOrT, QL.t3, QL.s3, QL.tr, bind_pure, bind_assoc, List.length_cons, List.length_nil, if_true, List.map_cons, List.map_nil, List.cons_append, List.nil_append, Nat.reduceAdd, Nat.reduceSub, List.replicate, getM_zero, getM_succ, items_tup, items_lst, List.set, ofO_some, compF, compF2, setT, setU, setAll, wipeE, truth_bl, nox_pure, f45, recvNe, recvE, m1_list, m1_sum, m2_neI, is_some (n + 2) h hL nd, Bool.not_true, attr0, attr2, m1_lenT, List.length_map, set_of (n + 2) h hL (show L.length < 64 by omega)]
  by_cases hs : zs.sum = many
  · rw [decide_eq_true hs]
    try simp -implicitDefEqProofs only [runF, exs, ex, ev, evT, evI, evs, evAnd, evOr, evAndT, evOrT, QL.t3, QL.s3, QL.tr, bind_pure, bind_assoc, List.length_cons, List.length_nil, if_true, List.map_cons, List.map_nil, List.cons_append, List.nil_append, Nat.reduceAdd, Nat.reduceSub, List.replicate, getM_zero, getM_succ, items_tup, items_lst, List.set, ofO_some, compF, compF2, setT, setU, setAll, wipeE, truth_bl, nox_pure, Bool.not_true, Bool.false_eq_true, if_false, m1_lenT, List.length_map, attr0, attr2, set_of (n + 2) h hL (show L.length < 64 by omega)]
    rw [show run PT (n + 3) 24 [.int (ws.length : Int), pairsD T, tD (srtN L)] = _ from cut_of (n + 1) ws.length T (srtN L) hT.lt (by omega), bind_pure, prog_value n hle hT (nd_srtN nd) (srt_in hL) ns hn]
    try simp -implicitDefEqProofs only [runF, exs, ex, ev, evT, evI, evs, evAnd, evOr, evAndT, evOrT, QL.t3, QL.s3, QL.tr, bind_pure, bind_assoc, List.length_cons, List.length_nil, if_true, List.map_cons, List.map_nil, List.cons_append, List.nil_append, Nat.reduceAdd, Nat.reduceSub, List.replicate, getM_zero, getM_succ, items_tup, items_lst, List.set, ofO_some, compF, compF2, setT, setU, setAll, wipeE, truth_bl, nox_pure, m2_eqI]
    congr 2
    exact decide_eq_decide.mpr ⟨fun z => ⟨hs, z⟩, fun z => z.2⟩
  · rw [decide_eq_false hs]
    try simp -implicitDefEqProofs only [runF, exs, ex, ev, evT, evI, evs, evAnd, evOr, evAndT, evOrT, QL.t3, QL.s3, QL.tr, bind_pure, bind_assoc, List.length_cons, List.length_nil, if_true, List.map_cons, List.map_nil, List.cons_append, List.nil_append, Nat.reduceAdd, Nat.reduceSub, List.replicate, getM_zero, getM_succ, items_tup, items_lst, List.set, ofO_some, compF, compF2, setT, setU, setAll, wipeE, truth_bl, nox_pure, Bool.not_false]
    congr 2
    exact (decide_eq_false fun z => hs z.1).symm
theorem is_count (n : Nat) (i : Int) : run PT (n + 2) 32 [.int i] = M.pure (.bl (decide (0 ≤ i))) := by
  rw [run_s (fn := f32) rfl]
  try simp -implicitDefEqProofs only [runF, exs, ex, ev, evT, evI, evs, evAnd, evOr, evAndT, evOrT, QL.t3, QL.s3, QL.tr, bind_pure, bind_assoc, List.length_cons, List.length_nil, if_true, List.map_cons, List.map_nil, List.cons_append, List.nil_append, Nat.reduceAdd, Nat.reduceSub, List.replicate, getM_zero, getM_succ, items_tup, items_lst, List.set, ofO_some, compF, compF2, setT, setU, setAll, wipeE, truth_bl, nox_pure, f32, recvGe, is_integer_I n, m2_ge]
theorem is_within (n : Nat) (i a b : Int) : run PT (n + 2) 48 [.int i, .int a, .int b] = M.pure (.bl (decide (a ≤ i ∧ i ≤ b))) := by
  rw [run_s (fn := f48) rfl]
  try simp -implicitDefEqProofs only [runF, exs, ex, ev, evT, evI, evs, evAnd, evOr, evAndT, evOrT, QL.t3, QL.s3, QL.tr, bind_pure, bind_assoc, List.length_cons, List.length_nil, if_true, List.map_cons, List.map_nil, List.cons_append, List.nil_append, Nat.reduceAdd, Nat.reduceSub, List.replicate, getM_zero, getM_succ, items_tup, items_lst, List.set, ofO_some, compF, compF2, setT, setU, setAll, wipeE, truth_bl, nox_pure, f48, is_integer_I n, m2_le]
  by_cases h : a ≤ i
  · rw [decide_eq_true h]
    try simp -implicitDefEqProofs only [runF, exs, ex, ev, evT, evI, evs, evAnd, evOr, evAndT, evOrT, QL.t3, QL.s3, QL.tr, bind_pure, bind_assoc, List.length_cons, List.length_nil, if_true, List.map_cons, List.map_nil, List.cons_append, List.nil_append, Nat.reduceAdd, Nat.reduceSub, List.replicate, getM_zero, getM_succ, items_tup, items_lst, List.set, ofO_some, compF, compF2, setT, setU, setAll, wipeE, truth_bl, nox_pure, m2_le]
    show M.pure _ = M.pure _
    congr 2
    exact decide_eq_decide.mpr ⟨fun z => ⟨h, z⟩, fun z => z.2⟩
  · rw [decide_eq_false h]
    show M.pure _ = M.pure _
    congr 2
    exact (decide_eq_false fun z => h z.1).symm
theorem is_right_size (n : Nat) {ws : List Str} {T : List (Nat × Nat)} (ns : List Nat) (hn : ns.length = ws.length) (hl : ns.length ≤ LIM) (hb : ∀ a ∈ ns, a ≤ 10 ^ 30) : run PT (n + 3) 16 [ruleD ws T, .tup (ns.map nI)] = M.pure (.bl true) := by
  rw [run_s (fn := f16) rfl]
  try simp -implicitDefEqProofs only [runF, exs, ex, ev, evT, evI, evs, evAnd, evOr, evAndT, evOrT, QL.t3, QL.s3, QL.tr, bind_pure, bind_assoc, List.length_cons, List.length_nil, if_true, List.map_cons, List.map_nil, List.cons_append, List.nil_append, Nat.reduceAdd, Nat.reduceSub, List.replicate, getM_zero, getM_succ, items_tup, items_lst, List.set, ofO_some, compF, compF2, setT, setU, setAll, wipeE, truth_bl, nox_pure, f16, recvNe, show isiO .tuple (.tup (ns.map nI)) = some true from rfl, Bool.not_true, Bool.false_eq_true, if_false, attr0, m1_lenT, List.length_map, m2_neI, hn, decide_true]
  rw [lim_ok (by rw [List.length_map]; exact hl), bind_pure, compL_map (c := nI) (g := fun _ => .bl true)]
  · try simp -implicitDefEqProofs only [runF, exs, ex, ev, evT, evI, evs, evAnd, evOr, evAndT, evOrT, QL.t3, QL.s3, QL.tr, bind_pure, bind_assoc, List.length_cons, List.length_nil, if_true, List.map_cons, List.map_nil, List.cons_append, List.nil_append, Nat.reduceAdd, Nat.reduceSub, List.replicate, getM_zero, getM_succ, items_tup, items_lst, List.set, ofO_some, compF, compF2, setT, setU, setAll, wipeE, truth_bl, nox_pure]
    rw [show (fun _ : Nat => D.bl true) = (fun k => D.bl ((fun _ : Nat => true) k)) from rfl, all_map]
    rw [show (ns.all fun _ => true) = true by rw [List.all_eq_true]; exact fun _ _ => rfl]
    rfl
  · intro a ha
    try simp -implicitDefEqProofs only [runF, exs, ex, ev, evT, evI, evs, evAnd, evOr, evAndT, evOrT, QL.t3, QL.s3, QL.tr, bind_pure, bind_assoc, List.length_cons, List.length_nil, if_true, List.map_cons, List.map_nil, List.cons_append, List.nil_append, Nat.reduceAdd, Nat.reduceSub, List.replicate, getM_zero, getM_succ, items_tup, items_lst, List.set, ofO_some, compF, compF2, setT, setU, setAll, wipeE, truth_bl, nox_pure]
    rw [show nI a = .int (a : Int) from rfl, is_within n]
    rw [decide_eq_true ⟨by omega, by have := hb a ha; omega⟩]
    rfl
theorem paired_over (n : Nat) {ws : List Str} {T : List (Nat × Nat)} (h : WsOk ws) (hT : TOk ws.length T) {L : List Nat} (hL : ∀ k ∈ L, k < ws.length) (nd : L.Nodup) (ns : List Nat) (hn : ns.length = ws.length) (cs : List Nat) (hc : cs.length = T.length) (hb : ∀ c ∈ cs, c < BIG)
    (hr : ∀ k, k < ws.length → useN T cs k ≤ ns.getD k 0) (many : Int) (tx nsD : D) (m : Mem) :
    Ok (run PT (n + 5) 17 [ruleD ws T, .tup (ns.map nI), .tup [.str "over", tx, nsD, .int many], .tup [paperD ws T cs, lotD ws L]]) m fun d m' => Ext m m' ∧ d = .bl (decide ((restZ (ns.map cI) T cs).sum = many ∧ pval ws.length T (srtN L) ns = many ∧ 0 ≤ many)) := by
  have hlim : 10000 ≤ LIM := by decide
  have hle := h.le
  have hpos := h.pos
  have e0 : D.tup (ns.map nI) = .tup ((ns.map cI).map .int) := by rw [List.map_map]; rfl
  have hall : ((restZ (ns.map cI) T cs).all fun z => decide (0 ≤ z)) = true := by
    rw [List.all_eq_true]
    intro z hz
    unfold restZ at hz
    obtain ⟨k, hk, rfl⟩ := List.mem_map.mp hz
    have hk := List.mem_range.mp hk
    rw [List.length_map] at hk
    have h1 := hr k (by omega)
    have h2 : (ns.map cI).getD k 0 = ((ns.getD k 0 : Nat) : Int) := by
      rw [List.getD_eq_getElem?_getD, List.getD_eq_getElem?_getD, List.getElem?_map]
      cases ns[k]? <;> rfl
    exact decide_eq_true (by omega)
  rw [run_s (fn := f17) rfl]
  try simp -implicitDefEqProofs only [runF, exs, ex, ev, evT, evI, evs, evAnd, evOr, evAndT, evOrT, QL.t3, QL.s3, QL.tr, bind_pure, bind_assoc, List.length_cons, List.length_nil, if_true, List.map_cons, List.map_nil, List.cons_append, List.nil_append, Nat.reduceAdd, Nat.reduceSub, List.replicate, getM_zero, getM_succ, items_tup, items_lst, List.set, ofO_some, compF, compF2, setT, setU, setAll, wipeE, truth_bl, nox_pure, f17, recvNe, recvX, recvE, show isiO .tuple (.tup [paperD ws T cs, lotD ws L]) = some true from rfl, Bool.not_true, Bool.false_eq_true, if_false, m1_lenT, m2_neI, ixT_0, ixT_1, ixT_3]
  rw [show (!decide ((((0 : Nat) + 1 + 1 : Nat) : Int) = 2)) = false from rfl]
  try simp -implicitDefEqProofs only [runF, exs, ex, ev, evT, evI, evs, evAnd, evOr, evAndT, evOrT, QL.t3, QL.s3, QL.tr, bind_pure, bind_assoc, List.length_cons, List.length_nil, if_true, List.map_cons, List.map_nil, List.cons_append, List.nil_append, Nat.reduceAdd, Nat.reduceSub, List.replicate, getM_zero, getM_succ, items_tup, items_lst, List.set, ofO_some, compF, compF2, setT, setU, setAll, wipeE, truth_bl, nox_pure, Bool.false_eq_true, if_false, ixT_0]
  refine Ok.seq (show Ok (run PT (n + 4) 35 [ruleD ws T, .tup (ns.map nI), paperD ws T cs]) m _ from by rw [e0]; exact rest_behind (n + 1) h hT (ns.map cI) cs (by rw [List.length_map]; omega) (by rw [List.length_map]; omega) hc hb m) ?_
  rintro _ _ ⟨rfl, rfl⟩
  rw [if_pos hall]
  try simp -implicitDefEqProofs only [runF, exs, ex, ev, evT, evI, evs, evAnd, evOr, evAndT, evOrT, QL.t3, QL.s3, QL.tr, bind_pure, bind_assoc, List.length_cons, List.length_nil, if_true, List.map_cons, List.map_nil, List.cons_append, List.nil_append, Nat.reduceAdd, Nat.reduceSub, List.replicate, getM_zero, getM_succ, items_tup, items_lst, List.set, ofO_some, compF, compF2, setT, setU, setAll, wipeE, truth_bl, nox_pure, m1_isN, show isNon (.tup ((restZ (ns.map cI) T cs).map .int)) = false from rfl, Bool.false_eq_true, if_false, ixT_0, ixT_1, ixT_3, m2_eqS (show PyData.strOk "over" = true by decide +kernel) (show PyData.strOk "over" = true by decide +kernel), decide_true, is_count (n + 2)]
  by_cases h0 : 0 ≤ many
  · rw [decide_eq_true h0]
    try simp -implicitDefEqProofs only [runF, exs, ex, ev, evT, evI, evs, evAnd, evOr, evAndT, evOrT, QL.t3, QL.s3, QL.tr, bind_pure, bind_assoc, List.length_cons, List.length_nil, if_true, List.map_cons, List.map_nil, List.cons_append, List.nil_append, Nat.reduceAdd, Nat.reduceSub, List.replicate, getM_zero, getM_succ, items_tup, items_lst, List.set, ofO_some, compF, compF2, setT, setU, setAll, wipeE, truth_bl, nox_pure, ixT_0, ixT_1, ixT_3, over_shown n h hT hL nd ns hn many (restZ (ns.map cI) T cs)]
    refine Ok.pure ⟨Ext.app _ _, ?_⟩
    congr 1
    exact decide_eq_decide.mpr ⟨fun z => ⟨z.1, z.2, h0⟩, fun z => ⟨z.1, z.2.1⟩⟩
  · rw [decide_eq_false h0]
    try simp -implicitDefEqProofs only [runF, exs, ex, ev, evT, evI, evs, evAnd, evOr, evAndT, evOrT, QL.t3, QL.s3, QL.tr, bind_pure, bind_assoc, List.length_cons, List.length_nil, if_true, List.map_cons, List.map_nil, List.cons_append, List.nil_append, Nat.reduceAdd, Nat.reduceSub, List.replicate, getM_zero, getM_succ, items_tup, items_lst, List.set, ofO_some, compF, compF2, setT, setU, setAll, wipeE, truth_bl, nox_pure, Bool.false_eq_true, if_false]
    refine Ok.pure ⟨Ext.app _ _, ?_⟩
    congr 1
    exact (decide_eq_false fun z => h0 z.2.2).symm
/-- the checker: what stays over -/
theorem accepts_over (n : Nat) {ws : List Str} {T : List (Nat × Nat)} (h : WsOk ws) (hT : TOk ws.length T) {L : List Nat} (hL : ∀ k ∈ L, k < ws.length) (nd : L.Nodup) (ns : List Nat) (hn : ns.length = ws.length) (hbn : ∀ a ∈ ns, a ≤ 10 ^ 30) (cs : List Nat) (hc : cs.length = T.length) (hb : ∀ c ∈ cs, c < BIG)
    (hr : ∀ k, k < ws.length → useN T cs k ≤ ns.getD k 0) (many : Int) (m : Mem) :
    Ok (run PT (n + 6) 13 [.tup [.str "over", .str (textS ws T), .tup (ns.map nI), .int many], .tup [paperD ws T cs, lotD ws L]]) m fun d m' => Ext m m' ∧ d = .bl (decide ((restZ (ns.map cI) T cs).sum = many ∧ pval ws.length T (srtN L) ns = many ∧ 0 ≤ many)) := by
  have hlim : 10000 ≤ LIM := by decide
  have hle := h.le
  rw [run_s (fn := f13) rfl]
  try simp -implicitDefEqProofs only [runF, exs, ex, ev, evT, evI, evs, evAnd, evOr, evAndT, evOrT, QL.t3, QL.s3, QL.tr, bind_pure, bind_assoc, List.length_cons, List.length_nil, if_true, List.map_cons, List.map_nil, List.cons_append, List.nil_append, Nat.reduceAdd, Nat.reduceSub, List.replicate, getM_zero, getM_succ, items_tup, items_lst, List.set, ofO_some, compF, compF2, setT, setU, setAll, wipeE, truth_bl, nox_pure, f13, recvL, recvX, recvE, recvSlF, show isiO .tuple (.tup [.str "over", .str (textS ws T), .tup (ns.map nI), .int many]) = some true from rfl, Bool.not_true, Bool.false_eq_true, if_false, m1_lenT, m2_lt, ixT_0, ixT_1, ixT_2]
  rw [show decide ((((0 : Nat) + 1 + 1 + 1 + 1 : Nat) : Int) < 4) = false from rfl]
  try simp -implicitDefEqProofs only [runF, exs, ex, ev, evT, evI, evs, evAnd, evOr, evAndT, evOrT, QL.t3, QL.s3, QL.tr, bind_pure, bind_assoc, List.length_cons, List.length_nil, if_true, List.map_cons, List.map_nil, List.cons_append, List.nil_append, Nat.reduceAdd, Nat.reduceSub, List.replicate, getM_zero, getM_succ, items_tup, items_lst, List.set, ofO_some, compF, compF2, setT, setU, setAll, wipeE, truth_bl, nox_pure, Bool.false_eq_true, if_false, ixT_0, ixT_1, ixT_2, read_rule (n + 2) h hT, m1_isN, show isNon (.tup [.tup (ws.map .str), .tup (T.map (linkD ws))]) = false from rfl]
  refine Ok.bind (ok_new ?_)
  refine Ok.seq (rule_init (n + 1) h hT m) ?_
  rintro _ _ ⟨rfl, rfl⟩
  try simp -implicitDefEqProofs only [runF, exs, ex, ev, evT, evI, evs, evAnd, evOr, evAndT, evOrT, QL.t3, QL.s3, QL.tr, bind_pure, bind_assoc, List.length_cons, List.length_nil, if_true, List.map_cons, List.map_nil, List.cons_append, List.nil_append, Nat.reduceAdd, Nat.reduceSub, List.replicate, getM_zero, getM_succ, items_tup, items_lst, List.set, ofO_some, compF, compF2, setT, setU, setAll, wipeE, truth_bl, nox_pure]
  refine Ok.bind (ok_freezeI (get_app _ _) ?_)
  rw [set_app, show D.ins 0 [0, 1, 2, 3] [.tup (ws.map .str), .tup (T.map (linkD ws)), pairsD T, .tup ((subL ws.length).map (cutD ws.length T))] = ruleD ws T from rfl]
  try simp -implicitDefEqProofs only [runF, exs, ex, ev, evT, evI, evs, evAnd, evOr, evAndT, evOrT, QL.t3, QL.s3, QL.tr, bind_pure, bind_assoc, List.length_cons, List.length_nil, if_true, List.map_cons, List.map_nil, List.cons_append, List.nil_append, Nat.reduceAdd, Nat.reduceSub, List.replicate, getM_zero, getM_succ, items_tup, items_lst, List.set, ofO_some, compF, compF2, setT, setU, setAll, wipeE, truth_bl, nox_pure, show isNon (ruleD ws T) = false from rfl, m1_isN, Bool.false_eq_true, if_false, ixT_2, is_right_size (n + 2) (T := T) ns hn (by omega) hbn, Bool.not_true, ixT_0, m2_eqS (show PyData.strOk "over" = true by decide +kernel) (show PyData.strOk "over" = true by decide +kernel), decide_true, m1_lenT, m2_eqI]
  rw [show decide ((((0 : Nat) + 1 + 1 + 1 + 1 : Nat) : Int) = 4) = true from rfl]
  try simp -implicitDefEqProofs only [runF, exs, ex, ev, evT, evI, evs, evAnd, evOr, evAndT, evOrT, QL.t3, QL.s3, QL.tr, bind_pure, bind_assoc, List.length_cons, List.length_nil, if_true, List.map_cons, List.map_nil, List.cons_append, List.nil_append, Nat.reduceAdd, Nat.reduceSub, List.replicate, getM_zero, getM_succ, items_tup, items_lst, List.set, ofO_some, compF, compF2, setT, setU, setAll, wipeE, truth_bl, nox_pure, ixT_2]
  refine Ok.seq (paired_over n h hT hL nd ns hn cs hc hb hr many _ _ _) ?_
  rintro _ m' ⟨he, rfl⟩
  exact Ok.pure ⟨(Ext.app _ _).trans he, rfl⟩
end QV
end
section
set_option linter.all false
set_option maxRecDepth 100000
set_option autoImplicit false
/-! QQ: the law's own cuts: lumps that grow together. -/
namespace QV
open PySem QL QP
/-- any partition into whole classes is a cut -/
theorem lumps_cut {q : Nat} {T : List (Nat × Nat)} {U : List Nat} {ls : List (List Nat)} (hq : ∀ p ∈ T, p.1 < q ∧ p.2 < q) (hU : U.Nodup) (hUq : ∀ k ∈ U, k < q) (Lk : LumpsOk q T U (keysL q U) ls) : QM.CutOk (netOf q T hq) U (loneL q T U) ls := by
  have nk : (keysL q U).Nodup := (List.nodup_range).filter _
  have lumpk : ∀ L ∈ ls, ∀ b ∈ L, b ∈ keysL q U ∧ nearL T U b ≠ [] := fun L hL b hb => by
    obtain ⟨a, ha, hne, hc⟩ := Lk.cls L hL
    have := (hc b).mp hb
    exact ⟨con_keys hq ha this, con_near this hne⟩
  have flatk : ∀ b ∈ ls.flatten, b ∈ keysL q U ∧ nearL T U b ≠ [] := fun b hb => by
    obtain ⟨L, hL, h⟩ := List.mem_flatten.mp hb
    exact lumpk L hL b h
  refine ⟨?_, fun k => ?_, fun a b ha he => ?_, fun L hL a b ha he hb => ?_, fun L hL n hn a b ha hb => ?_⟩
  · refine List.nodup_append.mpr ⟨hU, List.nodup_append.mpr ⟨nk.filter _, Lk.nd, fun a ha b hb e => ?_⟩, fun a ha b hb e => ?_⟩
    · subst e
      exact (flatk a hb).2 (lone_mem.mp ha).2
    · subst e
      rcases List.mem_append.mp hb with hb | hb
      · exact (keys_mem.mp (lone_mem.mp hb).1).2 ha
      · exact (keys_mem.mp (flatk a hb).1).2 ha
  · show k < q ↔ _
    rw [List.mem_append, List.mem_append]
    constructor
    · intro hk
      by_cases h1 : k ∈ U
      · exact .inl h1
      · have hkk : k ∈ keysL q U := keys_mem.mpr ⟨hk, h1⟩
        by_cases h2 : k ∈ loneL q T U
        · exact .inr (.inl h2)
        · obtain ⟨L, hL, hm⟩ := Lk.all k hkk h2
          exact .inr (.inr (List.mem_flatten.mpr ⟨L, hL, hm⟩))
    · rintro (h | h | h)
      · exact hUq k h
      · exact (keys_mem.mp (lone_mem.mp h).1).1
      · exact (keys_mem.mp (flatk k h).1).1
  · refine Classical.byContradiction fun hb => ?_
    have h1 := lone_mem.mp ha
    have : b ∈ nearL T U a := near_mem.mpr ⟨(keys_mem.mp h1.1).2, hb, edge_iff.mp he⟩
    rw [h1.2] at this
    cases this
  · obtain ⟨c, hc, hne, hcl⟩ := Lk.cls L hL
    have hak := (lumpk L hL a ha).1
    exact (hcl b).mpr (((hcl a).mp ha).snoc (near_mem.mpr ⟨(keys_mem.mp hak).2, hb, edge_iff.mp he⟩))
  · obtain ⟨c, hc, hne, hcl⟩ := Lk.cls L hL
    have hab : Con T U a b := ((hcl a).mp ha).symm.trans ((hcl b).mp hb)
    have hna := (lumpk L hL a ha).2
    obtain ⟨d, hd⟩ := List.exists_mem_of_ne_nil _ hna
    have hcd : ∀ x, Con T U d x → 1 ≤ n x := fun x hx => hn x ((hcl x).mpr (((hcl a).mp ha).trans (.cons hd hx)))
    exact con_walk ((Con.cons (near_symm hd) hab) : Con T U d b) hcd a hd
def innerL (T : List (Nat × Nat)) (U : List Nat) : List (Nat × Nat) := T.filter fun p => !decide (p.1 ∈ U) && !decide (p.2 ∈ U)
theorem inner_mem {T : List (Nat × Nat)} {U : List Nat} {p : Nat × Nat} : p ∈ innerL T U ↔ p ∈ T ∧ p.1 ∉ U ∧ p.2 ∉ U := by
  unfold innerL
  simp only [List.mem_filter, Bool.and_eq_true, Bool.not_eq_true', decide_eq_false_iff_not]
theorem lone_own (q : Nat) (T : List (Nat × Nat)) (U : List Nat) : (keysL q U).filter (fun a => !(innerL T U).any fun p => decide (a ∈ [p.1, p.2])) = loneL q T U := by
  unfold loneL
  refine List.filter_congr fun a ha => ?_
  have ha := (keys_mem.mp ha).2
  rw [Bool.eq_iff_iff, Bool.not_eq_true', List.any_eq_false, List.isEmpty_iff]
  constructor
  · intro h
    refine List.eq_nil_iff_forall_not_mem.mpr fun b hb => ?_
    obtain ⟨h1, h2, h3⟩ := near_mem.mp hb
    rcases h3 with h3 | h3
    · exact h _ (inner_mem.mpr ⟨h3, h1, h2⟩) (by simp)
    · exact h _ (inner_mem.mpr ⟨h3, h2, h1⟩) (by simp)
  · intro h p hp z
    have hp := inner_mem.mp hp
    have z : a = p.1 ∨ a = p.2 := by simpa using z
    have : ∃ b, b ∈ nearL T U a := by
      rcases z with rfl | rfl
      · exact ⟨p.2, near_mem.mpr ⟨hp.2.1, hp.2.2, .inl hp.1⟩⟩
      · exact ⟨p.1, near_mem.mpr ⟨hp.2.2, hp.2.1, .inr hp.1⟩⟩
    obtain ⟨b, hb⟩ := this
    rw [h] at hb
    cases hb
def fstL (ls : List (List Nat)) (a : Nat) : List Nat := (ls.filter fun L => decide (a ∈ L)).headD []
def mergeStep (ls : List (List Nat)) (p : Nat × Nat) : List (List Nat) :=
  if fstL ls p.1 = fstL ls p.2 then ls else (ls.filter fun L => !decide (L = fstL ls p.1) && !decide (L = fstL ls p.2)) ++ [fstL ls p.1 ++ fstL ls p.2]
def own0 (q : Nat) (T : List (Nat × Nat)) (U : List Nat) : List (List Nat) := ((keysL q U).filter fun a => !decide (a ∈ loneL q T U)).map fun a => [a]
def ownL (q : Nat) (T : List (Nat × Nat)) (U : List Nat) : List (List Nat) := (innerL T U).foldl mergeStep (own0 q T U)
structure Mg (q : Nat) (T : List (Nat × Nat)) (U : List Nat) (pre : List (Nat × Nat)) (ls : List (List Nat)) : Prop where
  con : ∀ L ∈ ls, ∀ a ∈ L, ∀ b ∈ L, Con T U a b
  ndS : ls.Nodup
  ndL : ∀ L ∈ ls, L.Nodup
  dis : ∀ L ∈ ls, ∀ M ∈ ls, ∀ x, x ∈ L → x ∈ M → L = M
  mem : ∀ a, (∃ L ∈ ls, a ∈ L) ↔ a ∈ keysL q U ∧ a ∉ loneL q T U
  ne : ∀ L ∈ ls, L ≠ []
  tog : ∀ p ∈ pre, ∀ L ∈ ls, (p.1 ∈ L ↔ p.2 ∈ L)
theorem fst_in {ls : List (List Nat)} {a : Nat} (h : ∃ L ∈ ls, a ∈ L) : ∃ r, (ls.filter fun L => decide (a ∈ L)) = fstL ls a :: r ∧ fstL ls a ∈ ls ∧ a ∈ fstL ls a := by
  obtain ⟨L, hL, ha⟩ := h
  have hm : L ∈ ls.filter fun L => decide (a ∈ L) := List.mem_filter.mpr ⟨hL, decide_eq_true ha⟩
  unfold fstL
  cases e : ls.filter fun L => decide (a ∈ L) with
  | nil => rw [e] at hm; cases hm
  | cons M r =>
    have h1 : M ∈ ls.filter fun L => decide (a ∈ L) := by rw [e]; exact List.mem_cons_self
    obtain ⟨h2, h3⟩ := List.mem_filter.mp h1
    exact ⟨r, rfl, h2, of_decide_eq_true h3⟩
theorem mg_step {q : Nat} {T : List (Nat × Nat)} {U : List Nat} {pre : List (Nat × Nat)} {ls : List (List Nat)} (h : Mg q T U pre ls) {p : Nat × Nat} (hp : p ∈ innerL T U) (h1 : ∃ L ∈ ls, p.1 ∈ L) (h2 : ∃ L ∈ ls, p.2 ∈ L) : Mg q T U (pre ++ [p]) (mergeStep ls p) := by
  obtain ⟨_, _, hf, hfa⟩ := fst_in h1
  obtain ⟨_, _, hl, hlb⟩ := fst_in h2
  unfold mergeStep
  generalize hF : fstL ls p.1 = F at *
  generalize hG : fstL ls p.2 = G at *
  split
  · rename_i e
    subst e
    refine ⟨h.con, h.ndS, h.ndL, h.dis, h.mem, h.ne, fun r hr L hL => ?_⟩
    rcases List.mem_append.mp hr with hr | hr
    · exact h.tog r hr L hL
    · have : r = p := by simpa using hr
      subst this
      exact ⟨fun z => (h.dis L hL F hf _ z hfa) ▸ hlb, fun z => (h.dis L hL F hf _ z hlb) ▸ hfa⟩
  · rename_i e
    have hrest : ∀ L, L ∈ (ls.filter fun L => !decide (L = F) && !decide (L = G)) ↔ L ∈ ls ∧ L ≠ F ∧ L ≠ G := fun L => by
      simp only [List.mem_filter, Bool.and_eq_true, Bool.not_eq_true', decide_eq_false_iff_not]
    have hpT := inner_mem.mp hp
    have hcon : Con T U p.1 p.2 := .cons (near_mem.mpr ⟨hpT.2.1, hpT.2.2, .inl hpT.1⟩) (.nil _)
    have hFG : ∀ a ∈ F ++ G, Con T U p.1 a := fun a ha => by
      rcases List.mem_append.mp ha with ha | ha
      · exact h.con F hf _ hfa a ha
      · exact hcon.trans (h.con G hl _ hlb a ha)
    have hmem : ∀ L, L ∈ (ls.filter fun L => !decide (L = F) && !decide (L = G)) ++ [F ++ G] ↔ (L ∈ ls ∧ L ≠ F ∧ L ≠ G) ∨ L = F ++ G := fun L => by
      rw [List.mem_append, hrest, List.mem_singleton]
    refine ⟨fun L hL a ha b hb => ?_, ?_, fun L hL => ?_, fun L hL M hM x hx hy => ?_, fun a => ?_, fun L hL => ?_, fun r hr L hL => ?_⟩
    · rcases (hmem L).mp hL with hL | rfl
      · exact h.con L hL.1 a ha b hb
      · exact (hFG a ha).symm.trans (hFG b hb)
    · refine List.nodup_append.mpr ⟨h.ndS.filter _, by simp, fun a ha b hb e2 => ?_⟩
      have hb : b = F ++ G := by simpa using hb
      rw [hb] at e2
      have ha := (hrest a).mp ha
      exact ha.2.1 (h.dis a ha.1 F hf p.1 (by rw [e2]; exact List.mem_append_left _ hfa) hfa)
    · rcases (hmem L).mp hL with hL | rfl
      · exact h.ndL L hL.1
      · exact List.nodup_append.mpr ⟨h.ndL F hf, h.ndL G hl, fun a ha b hb e2 => e (h.dis F hf G hl a ha (e2 ▸ hb))⟩
    · rcases (hmem L).mp hL with hL | rfl
      · rcases (hmem M).mp hM with hM | rfl
        · exact h.dis L hL.1 M hM.1 x hx hy
        · rcases List.mem_append.mp hy with hy | hy
          · exact absurd (h.dis L hL.1 F hf x hx hy) hL.2.1
          · exact absurd (h.dis L hL.1 G hl x hx hy) hL.2.2
      · rcases (hmem M).mp hM with hM | rfl
        · rcases List.mem_append.mp hx with hx | hx
          · exact absurd (h.dis M hM.1 F hf x hy hx) hM.2.1
          · exact absurd (h.dis M hM.1 G hl x hy hx) hM.2.2
        · rfl
    · rw [← h.mem a]
      constructor
      · rintro ⟨L, hL, ha⟩
        rcases (hmem L).mp hL with hL | rfl
        · exact ⟨L, hL.1, ha⟩
        · rcases List.mem_append.mp ha with ha | ha
          · exact ⟨F, hf, ha⟩
          · exact ⟨G, hl, ha⟩
      · rintro ⟨L, hL, ha⟩
        by_cases e1 : L = F
        · exact ⟨_, (hmem _).mpr (.inr rfl), List.mem_append_left _ (e1 ▸ ha)⟩
        · by_cases e2 : L = G
          · exact ⟨_, (hmem _).mpr (.inr rfl), List.mem_append_right _ (e2 ▸ ha)⟩
          · exact ⟨L, (hmem L).mpr (.inl ⟨hL, e1, e2⟩), ha⟩
    · rcases (hmem L).mp hL with hL | rfl
      · exact h.ne L hL.1
      · intro z
        rw [List.append_eq_nil_iff] at z
        exact h.ne F hf z.1
    · rcases (hmem L).mp hL with hL | rfl
      · rcases List.mem_append.mp hr with hr | hr
        · exact h.tog r hr L hL.1
        · have : r = p := by simpa using hr
          subst this
          exact ⟨fun z => absurd (h.dis L hL.1 F hf _ z hfa) hL.2.1, fun z => absurd (h.dis L hL.1 G hl _ z hlb) hL.2.2⟩
      · rcases List.mem_append.mp hr with hr | hr
        · rw [List.mem_append, List.mem_append, h.tog r hr F hf, h.tog r hr G hl]
        · have : r = p := by simpa using hr
          subst this
          exact ⟨fun _ => List.mem_append_right _ hlb, fun _ => List.mem_append_left _ hfa⟩
theorem mg_0 {q : Nat} {T : List (Nat × Nat)} {U : List Nat} : Mg q T U [] (own0 q T U) := by
  have nk : (keysL q U).Nodup := (List.nodup_range).filter _
  have hm : ∀ L, L ∈ own0 q T U ↔ ∃ a, (a ∈ keysL q U ∧ a ∉ loneL q T U) ∧ [a] = L := fun L => by
    unfold own0
    simp only [List.mem_map, List.mem_filter, Bool.not_eq_true', decide_eq_false_iff_not]
  refine ⟨fun L hL a ha b hb => ?_, ?_, fun L hL => ?_, fun L hL M hM x hx hy => ?_, fun a => ?_, fun L hL => ?_, fun r hr => by cases hr⟩
  · obtain ⟨c, _, rfl⟩ := (hm L).mp hL
    have ha : a = c := by simpa using ha
    have hb : b = c := by simpa using hb
    rw [ha, hb]
    exact .nil c
  · exact map_nodup (fun a _ b _ e => by simpa using e) (nk.filter _)
  · obtain ⟨c, _, rfl⟩ := (hm L).mp hL
    simp
  · obtain ⟨c, _, rfl⟩ := (hm L).mp hL
    obtain ⟨d, _, rfl⟩ := (hm M).mp hM
    have hx : x = c := by simpa using hx
    have hy : x = d := by simpa using hy
    rw [← hx, ← hy]
  · constructor
    · rintro ⟨L, hL, ha⟩
      obtain ⟨c, hc, rfl⟩ := (hm L).mp hL
      have ha : a = c := by simpa using ha
      exact ha ▸ hc
    · exact fun h => ⟨[a], (hm _).mpr ⟨a, h, rfl⟩, by simp⟩
  · obtain ⟨c, _, rfl⟩ := (hm L).mp hL
    simp
theorem inner_key {q : Nat} {T : List (Nat × Nat)} {U : List Nat} (hq : ∀ p ∈ T, p.1 < q ∧ p.2 < q) {p : Nat × Nat} (hp : p ∈ innerL T U) : (p.1 ∈ keysL q U ∧ p.1 ∉ loneL q T U) ∧ (p.2 ∈ keysL q U ∧ p.2 ∉ loneL q T U) := by
  have h := inner_mem.mp hp
  have h1 := hq p h.1
  refine ⟨⟨keys_mem.mpr ⟨h1.1, h.2.1⟩, fun z => ?_⟩, ⟨keys_mem.mpr ⟨h1.2, h.2.2⟩, fun z => ?_⟩⟩
  · have : p.2 ∈ nearL T U p.1 := near_mem.mpr ⟨h.2.1, h.2.2, .inl h.1⟩
    rw [(lone_mem.mp z).2] at this
    cases this
  · have : p.1 ∈ nearL T U p.2 := near_mem.mpr ⟨h.2.2, h.2.1, .inr h.1⟩
    rw [(lone_mem.mp z).2] at this
    cases this
theorem mg_pre {q : Nat} {T : List (Nat × Nat)} {U : List Nat} (hq : ∀ p ∈ T, p.1 < q ∧ p.2 < q) : ∀ (l pre : List (Nat × Nat)) (ls : List (List Nat)), (∀ p ∈ l, p ∈ innerL T U) → Mg q T U pre ls → Mg q T U (pre ++ l) (l.foldl mergeStep ls)
  | [], pre, ls, _, h => by rw [List.append_nil]; exact h
  | p :: l, pre, ls, hl, h => by
    have hp := hl p List.mem_cons_self
    have hk := inner_key hq hp
    have := mg_pre hq l (pre ++ [p]) (mergeStep ls p) (fun r hr => hl r (List.mem_cons_of_mem _ hr)) (mg_step h hp ((h.mem _).mpr hk.1) ((h.mem _).mpr hk.2))
    rw [List.append_assoc] at this
    exact this
theorem own_mg {q : Nat} {T : List (Nat × Nat)} {U : List Nat} (hq : ∀ p ∈ T, p.1 < q ∧ p.2 < q) : Mg q T U (innerL T U) (ownL q T U) := mg_pre hq (innerL T U) [] _ (fun _ h => h) mg_0
theorem own_ok {q : Nat} {T : List (Nat × Nat)} {U : List Nat} (hq : ∀ p ∈ T, p.1 < q ∧ p.2 < q) : LumpsOk q T U (keysL q U) (ownL q T U) := by
  have h := own_mg (U := U) hq
  refine ⟨fun L hL => ?_, h.ndL, ?_, fun a ha hn => (h.mem a).mpr ⟨ha, hn⟩⟩
  · obtain ⟨a, ha⟩ := List.exists_mem_of_ne_nil _ (h.ne L hL)
    have hk := (h.mem a).mp ⟨L, hL, ha⟩
    refine ⟨a, hk.1, fun z => hk.2 (lone_mem.mpr ⟨hk.1, z⟩), fun b => ⟨fun hb => h.con L hL a ha b hb, fun hc => ?_⟩⟩
    refine closed_con (fun x hx y hy => ?_) ha hc
    obtain ⟨h1, h2, h3⟩ := near_mem.mp hy
    rcases h3 with h3 | h3
    · exact (h.tog (x, y) (inner_mem.mpr ⟨h3, h1, h2⟩) L hL).mp hx
    · exact (h.tog (y, x) (inner_mem.mpr ⟨h3, h2, h1⟩) L hL).mpr hx
  · refine List.pairwise_flatten.mpr ⟨h.ndL, ?_⟩
    refine (h.ndS).imp_of_mem fun {L M} hL hM hne x hx y hy e => hne (h.dis L hL M hM x hx (e ▸ hy))
theorem own_cut {q : Nat} {T : List (Nat × Nat)} {U : List Nat} (hq : ∀ p ∈ T, p.1 < q ∧ p.2 < q) (hU : U.Nodup) (hUq : ∀ k ∈ U, k < q) : QM.CutOk (netOf q T hq) U (loneL q T U) (ownL q T U) := lumps_cut hq hU hUq (own_ok hq)
/-- the law's value of a set of kinds -/
def oval (q : Nat) (T : List (Nat × Nat)) (U : List Nat) (ns : List Nat) : Int := valI (ns.map cI) U (loneL q T U) (ownL q T U)
theorem oval_eq {q : Nat} {T : List (Nat × Nat)} {U U' : List Nat} (hT : TOk q T) (nd : U.Nodup) (hU : ∀ k ∈ U, k < q) (nd' : U'.Nodup) (h : ∀ k, k ∈ U ↔ k ∈ U') (ns : List Nat) : oval q T U ns = pval q T U' ns := by
  unfold oval pval
  rw [valI_nat, valI_nat]
  exact QM.value_unique (own_cut hT.lt nd hU) (prog_cut hT.lt nd' fun k hk => hU k ((h k).mpr hk)) h _
end QV
end
section
set_option linter.all false
set_option maxRecDepth 100000
set_option autoImplicit false
/-! QQ2: the law's own cuts: the defs. -/
namespace QV
open PySem QL QP
theorem pD_0 (p : Nat × Nat) : doM2 .ix (pD p) (.int 0) = M.pure (nI p.1) := ixT_0 _ _
theorem pD_1 (p : Nat × Nat) : doM2 .ix (pD p) (.int 1) = M.pure (nI p.2) := ixT_1 _ _ _
theorem m2_eqL {a b : List Nat} : doM2 .eq (lD a) (lD b) = M.pure (.bl (decide (a = b))) := by
  have inj : ∀ {a b : List Nat}, a.map nI = b.map nI → a = b := fun {a b} h => by
    have : ∀ {a b : List Nat}, a.map nI = b.map nI → a = b := by
      intro a
      induction a with
      | nil => intro b h; cases b with
        | nil => rfl
        | cons _ _ => cases h
      | cons x r ih => intro b h; cases b with
        | nil => cases h
        | cons y s =>
          simp only [List.map_cons, List.cons.injEq] at h
          rw [nI_inj.mp h.1, ih h.2]
    exact this h
  rw [m2_eq (a := lD a) (b := lD b) (nbs_nI a) (nbs_nI b) (by show dpts _ + 1 ≤ 64; rw [dpts_nI]; omega) (by show dpts _ + 1 ≤ 64; rw [dpts_nI]; omega)]
  congr 2
  exact decide_eq_decide.mpr ⟨fun h => by unfold lD at h; injection h with h; exact inj h, fun h => by rw [h]⟩
theorem lD_inj {a b : List Nat} (h : lD a = lD b) : a = b := by
  have h1 : doM2 .eq (lD a) (lD b) = M.pure (.bl (decide (a = b))) := m2_eqL
  rw [h] at h1
  rw [m2_eqL] at h1
  have := congrFun h1 []
  injection this with h2 h3
  injection h2 with h2
  have : decide (b = b) = true := decide_eq_true rfl
  rw [this] at h2
  exact of_decide_eq_true h2.symm
theorem m2_neL {a b : List Nat} : doM2 .ne (lD a) (lD b) = M.pure (.bl (!decide (a = b))) := by
  rw [m2_ne (a := lD a) (b := lD b) (nbs_nI a) (nbs_nI b) (by show dpts _ + 1 ≤ 64; rw [dpts_nI]; omega) (by show dpts _ + 1 ≤ 64; rw [dpts_nI]; omega)]
  congr 3
  exact decide_eq_decide.mpr ⟨lD_inj, fun h => by rw [h]⟩
theorem in_lD (a : Nat) (l : List Nat) : doM2 .isIn (nI a) (lD l) = M.pure (.bl (decide (a ∈ l))) := in_nL a l
theorem in_pD (a : Nat) (p : Nat × Nat) : doM2 .isIn (nI a) (pD p) = M.pure (.bl (decide (a ∈ [p.1, p.2]))) := in_nT a [p.1, p.2]
theorem any_map {α : Type} (xs : List α) (p : α → Bool) : doM1 .any (.lst (xs.map fun k => D.bl (p k))) = M.pure (.bl (xs.any p)) := by
  have := m1_any (xs.map p)
  rw [List.map_map] at this
  rw [show (xs.map fun k => D.bl (p k)) = xs.map (D.bl ∘ p) from rfl, this]
  congr 2
  rw [List.any_map]
  rfl
def cutL (q : Nat) (T : List (Nat × Nat)) (U : List Nat) : D := .lst [lD U, lD (loneL q T U), .lst ((ownL q T U).map lD)]
theorem merge_len (ls : List (List Nat)) (p : Nat × Nat) : (mergeStep ls p).length ≤ ls.length + 1 := by
  unfold mergeStep
  split
  · omega
  · rw [List.length_append, List.length_singleton]
    have := List.length_filter_le (fun L => !decide (L = fstL ls p.1) && !decide (L = fstL ls p.2)) ls
    omega
theorem if_not {α : Type} (b : Bool) (x y : α) : (if (!b) = true then x else y) = if b = true then y else x := by cases b <;> rfl
theorem lsto3 (a b c : D) : lstO [a, b, c] = some (.lst [a, b, c]) := rfl
theorem cut_by (n : Nat) {q : Nat} {T : List (Nat × Nat)} {U : List Nat} (hq : q ≤ 6) (hT : TOk q T) (hUl : U.length ≤ 100) : run PT (n + 1) 53 [.int q, .lst (T.map pD), lD U] = M.pure (cutL q T U) := by
  have hlim : 10000 ≤ LIM := by decide
  have hTl := hT.len hq
  have hkl := keysL_len q U
  refine pure_of fun m => ?_
  rw [run_s (fn := f53) rfl]
  try simp -implicitDefEqProofs only [runF, exs, ex, ev, evT, evI, evs, evAnd, evOr, evAndT, evOrT, QL.t3, QL.s3, QL.tr, bind_pure, bind_assoc, List.length_cons, List.length_nil, if_true, List.map_cons, List.map_nil, List.cons_append, List.nil_append, Nat.reduceAdd, Nat.reduceSub, List.replicate, getM_zero, getM_succ, items_tup, items_lst, List.set, ofO_some, compF, compF2, setT, setU, setAll, wipeE, truth_bl, nox_pure, f53, recvX, recvNI, recvI, recvNe, recvA]
  rw [lim_ok (by simp; omega), bind_pure, compL_filter (c := pD) (p := fun p => !decide (p.1 ∈ U) && !decide (p.2 ∈ U)) (g := pD)]
  rotate_left
  · intro p hp
    try simp -implicitDefEqProofs only [runF, exs, ex, ev, evT, evI, evs, evAnd, evOr, evAndT, evOrT, QL.t3, QL.s3, QL.tr, bind_pure, bind_assoc, List.length_cons, List.length_nil, if_true, List.map_cons, List.map_nil, List.cons_append, List.nil_append, Nat.reduceAdd, Nat.reduceSub, List.replicate, getM_zero, getM_succ, items_tup, items_lst, List.set, ofO_some, compF, compF2, setT, setU, setAll, wipeE, truth_bl, nox_pure, pD_0, pD_1, lD, notIn_nL]
    cases decide (p.1 ∈ U) <;> cases decide (p.2 ∈ U) <;> rfl
  rw [show T.filter (fun p => !decide (p.1 ∈ U) && !decide (p.2 ∈ U)) = innerL T U from rfl]
  have hil : (innerL T U).length ≤ 21 := by
    have := List.length_filter_le (fun p : Nat × Nat => !decide (p.1 ∈ U) && !decide (p.2 ∈ U)) T
    unfold innerL
    omega
  try simp -implicitDefEqProofs only [runF, exs, ex, ev, evT, evI, evs, evAnd, evOr, evAndT, evOrT, QL.t3, QL.s3, QL.tr, bind_pure, bind_assoc, List.length_cons, List.length_nil, if_true, List.map_cons, List.map_nil, List.cons_append, List.nil_append, Nat.reduceAdd, Nat.reduceSub, List.replicate, getM_zero, getM_succ, items_tup, items_lst, List.set, ofO_some, compF, compF2, setT, setU, setAll, wipeE, truth_bl, nox_pure]
  rw [show rangeM 0 (q : Int) = _ from rangeM_nat (by omega), bind_pure, lim_ok (by simp; omega), bind_pure, compL_filter (c := nI) (p := fun a => !decide (a ∈ U)) (g := nI)]
  rotate_left
  · intro a ha
    try simp -implicitDefEqProofs only [runF, exs, ex, ev, evT, evI, evs, evAnd, evOr, evAndT, evOrT, QL.t3, QL.s3, QL.tr, bind_pure, bind_assoc, List.length_cons, List.length_nil, if_true, List.map_cons, List.map_nil, List.cons_append, List.nil_append, Nat.reduceAdd, Nat.reduceSub, List.replicate, getM_zero, getM_succ, items_tup, items_lst, List.set, ofO_some, compF, compF2, setT, setU, setAll, wipeE, truth_bl, nox_pure, lD, notIn_nL]
    cases decide (a ∈ U) <;> rfl
  rw [show (List.range q).filter (fun a => !decide (a ∈ U)) = keysL q U from rfl]
  try simp -implicitDefEqProofs only [runF, exs, ex, ev, evT, evI, evs, evAnd, evOr, evAndT, evOrT, QL.t3, QL.s3, QL.tr, bind_pure, bind_assoc, List.length_cons, List.length_nil, if_true, List.map_cons, List.map_nil, List.cons_append, List.nil_append, Nat.reduceAdd, Nat.reduceSub, List.replicate, getM_zero, getM_succ, items_tup, items_lst, List.set, ofO_some, compF, compF2, setT, setU, setAll, wipeE, truth_bl, nox_pure]
  rw [lim_ok (by simp; omega), bind_pure, compL_filter (c := nI) (p := fun a => !(innerL T U).any fun p => decide (a ∈ [p.1, p.2])) (g := nI)]
  rotate_left
  · intro a ha
    try simp -implicitDefEqProofs only [runF, exs, ex, ev, evT, evI, evs, evAnd, evOr, evAndT, evOrT, QL.t3, QL.s3, QL.tr, bind_pure, bind_assoc, List.length_cons, List.length_nil, if_true, List.map_cons, List.map_nil, List.cons_append, List.nil_append, Nat.reduceAdd, Nat.reduceSub, List.replicate, getM_zero, getM_succ, items_tup, items_lst, List.set, ofO_some, compF, compF2, setT, setU, setAll, wipeE, truth_bl, nox_pure]
    rw [lim_ok (by simp; omega), bind_pure, compL_map (c := pD) (g := fun p => .bl (decide (a ∈ [p.1, p.2])))]
    · try simp -implicitDefEqProofs only [runF, exs, ex, ev, evT, evI, evs, evAnd, evOr, evAndT, evOrT, QL.t3, QL.s3, QL.tr, bind_pure, bind_assoc, List.length_cons, List.length_nil, if_true, List.map_cons, List.map_nil, List.cons_append, List.nil_append, Nat.reduceAdd, Nat.reduceSub, List.replicate, getM_zero, getM_succ, items_tup, items_lst, List.set, ofO_some, compF, compF2, setT, setU, setAll, wipeE, truth_bl, nox_pure, any_map]
      cases (innerL T U).any fun p => decide (a ∈ [p.1, p.2]) <;> rfl
    · intro p hp
      try simp -implicitDefEqProofs only [runF, exs, ex, ev, evT, evI, evs, evAnd, evOr, evAndT, evOrT, QL.t3, QL.s3, QL.tr, bind_pure, bind_assoc, List.length_cons, List.length_nil, if_true, List.map_cons, List.map_nil, List.cons_append, List.nil_append, Nat.reduceAdd, Nat.reduceSub, List.replicate, getM_zero, getM_succ, items_tup, items_lst, List.set, ofO_some, compF, compF2, setT, setU, setAll, wipeE, truth_bl, nox_pure, recvI, in_pD]
  rw [lone_own]
  try simp -implicitDefEqProofs only [runF, exs, ex, ev, evT, evI, evs, evAnd, evOr, evAndT, evOrT, QL.t3, QL.s3, QL.tr, bind_pure, bind_assoc, List.length_cons, List.length_nil, if_true, List.map_cons, List.map_nil, List.cons_append, List.nil_append, Nat.reduceAdd, Nat.reduceSub, List.replicate, getM_zero, getM_succ, items_tup, items_lst, List.set, ofO_some, compF, compF2, setT, setU, setAll, wipeE, truth_bl, nox_pure]
  have hll : (loneL q T U).length ≤ 6 := by unfold loneL; have := List.length_filter_le (fun a => (nearL T U a).isEmpty) (keysL q U); omega
  rw [compL_filter (c := nI) (p := fun a => !decide (a ∈ loneL q T U)) (g := fun a => lD [a])]
  rotate_left
  · intro a ha
    try simp -implicitDefEqProofs only [runF, exs, ex, ev, evT, evI, evs, evAnd, evOr, evAndT, evOrT, QL.t3, QL.s3, QL.tr, bind_pure, bind_assoc, List.length_cons, List.length_nil, if_true, List.map_cons, List.map_nil, List.cons_append, List.nil_append, Nat.reduceAdd, Nat.reduceSub, List.replicate, getM_zero, getM_succ, items_tup, items_lst, List.set, ofO_some, compF, compF2, setT, setU, setAll, wipeE, truth_bl, nox_pure, notIn_nL, lsto1]
    cases decide (a ∈ loneL q T U) <;> rfl
  try simp -implicitDefEqProofs only [runF, exs, ex, ev, evT, evI, evs, evAnd, evOr, evAndT, evOrT, QL.t3, QL.s3, QL.tr, bind_pure, bind_assoc, List.length_cons, List.length_nil, if_true, List.map_cons, List.map_nil, List.cons_append, List.nil_append, Nat.reduceAdd, Nat.reduceSub, List.replicate, getM_zero, getM_succ, items_tup, items_lst, List.set, ofO_some, compF, compF2, setT, setU, setAll, wipeE, truth_bl, nox_pure]
  refine Ok.bind (Ok.forL (c := pD) (fun pre ρ m' => m' = m ∧ ∃ (t9 t10 t11 t13 : Option D), ρ = [some (.int q), some (.lst (T.map pD)), some (lD U), some (.lst ((innerL T U).map pD)), none, some (.lst ((keysL q U).map nI)), none, some (.lst ((loneL q T U).map nI)), some (.lst ((pre.foldl mergeStep (own0 q T U)).map lD)), t9, t10, t11, none, t13] ∧ Mg q T U pre (pre.foldl mergeStep (own0 q T U)) ∧ (pre.foldl mergeStep (own0 q T U)).length ≤ 10 + pre.length) ?_ ?_ ?_)
  · refine ⟨rfl, none, none, none, none, ?_, mg_0, ?_⟩
    · show _ = [_, _, _, _, _, _, _, _, some (D.lst ((own0 q T U).map lD)), _, _, _, _, _]
      unfold own0
      rw [List.map_map]
      rfl
    · show (own0 q T U).length ≤ _
      unfold own0
      rw [List.length_map]
      have := List.length_filter_le (fun a => !decide (a ∈ loneL q T U)) (keysL q U)
      omega
  · rintro pre p post ρ m1 e ⟨rfl, t9, t10, t11, t13, rfl, hM, hml⟩
    have hp : p ∈ innerL T U := by rw [e]; simp
    have hpl : pre.length ≤ 21 := by have := congrArg List.length e; simp at this; omega
    have hk := inner_key hT.lt hp
    have hM2 := mg_step hM hp ((hM.mem _).mpr hk.1) ((hM.mem _).mpr hk.2)
    obtain ⟨r1, e1, hf, hfa⟩ := fst_in ((hM.mem _).mpr hk.1)
    obtain ⟨r2, e2, hl, hlb⟩ := fst_in ((hM.mem _).mpr hk.2)
    rw [List.foldl_append, List.foldl_cons, List.foldl_nil]
    have hml2 := merge_len (pre.foldl mergeStep (own0 q T U)) p
    generalize hls : pre.foldl mergeStep (own0 q T U) = ls at *
    rw [show pD p = .tup [nI p.1, nI p.2] from rfl]
    try simp -implicitDefEqProofs only [runF, exs, ex, ev, evT, evI, evs, evAnd, evOr, evAndT, evOrT, QL.t3, QL.s3, QL.tr, bind_pure, bind_assoc, List.length_cons, List.length_nil, if_true, List.map_cons, List.map_nil, List.cons_append, List.nil_append, Nat.reduceAdd, Nat.reduceSub, List.replicate, getM_zero, getM_succ, items_tup, items_lst, List.set, ofO_some, compF, compF2, setT, setU, setAll, wipeE, truth_bl, nox_pure]
    rw [lim_ok (by simp; omega), bind_pure, compL_filter (c := lD) (p := fun L => decide (p.1 ∈ L)) (g := lD)]
    rotate_left
    · intro L hL
      try simp -implicitDefEqProofs only [runF, exs, ex, ev, evT, evI, evs, evAnd, evOr, evAndT, evOrT, QL.t3, QL.s3, QL.tr, bind_pure, bind_assoc, List.length_cons, List.length_nil, if_true, List.map_cons, List.map_nil, List.cons_append, List.nil_append, Nat.reduceAdd, Nat.reduceSub, List.replicate, getM_zero, getM_succ, items_tup, items_lst, List.set, ofO_some, compF, compF2, setT, setU, setAll, wipeE, truth_bl, nox_pure, in_lD]
      cases decide (p.1 ∈ L) <;> rfl
    rw [e1]
    try simp -implicitDefEqProofs only [runF, exs, ex, ev, evT, evI, evs, evAnd, evOr, evAndT, evOrT, QL.t3, QL.s3, QL.tr, bind_pure, bind_assoc, List.length_cons, List.length_nil, if_true, List.map_cons, List.map_nil, List.cons_append, List.nil_append, Nat.reduceAdd, Nat.reduceSub, List.replicate, getM_zero, getM_succ, items_tup, items_lst, List.set, ofO_some, compF, compF2, setT, setU, setAll, wipeE, truth_bl, nox_pure, ixL_0]
    rw [compL_filter (c := lD) (p := fun L => decide (p.2 ∈ L)) (g := lD)]
    rotate_left
    · intro L hL
      try simp -implicitDefEqProofs only [runF, exs, ex, ev, evT, evI, evs, evAnd, evOr, evAndT, evOrT, QL.t3, QL.s3, QL.tr, bind_pure, bind_assoc, List.length_cons, List.length_nil, if_true, List.map_cons, List.map_nil, List.cons_append, List.nil_append, Nat.reduceAdd, Nat.reduceSub, List.replicate, getM_zero, getM_succ, items_tup, items_lst, List.set, ofO_some, compF, compF2, setT, setU, setAll, wipeE, truth_bl, nox_pure, in_lD]
      cases decide (p.2 ∈ L) <;> rfl
    rw [e2]
    try simp -implicitDefEqProofs only [runF, exs, ex, ev, evT, evI, evs, evAnd, evOr, evAndT, evOrT, QL.t3, QL.s3, QL.tr, bind_pure, bind_assoc, List.length_cons, List.length_nil, if_true, List.map_cons, List.map_nil, List.cons_append, List.nil_append, Nat.reduceAdd, Nat.reduceSub, List.replicate, getM_zero, getM_succ, items_tup, items_lst, List.set, ofO_some, compF, compF2, setT, setU, setAll, wipeE, truth_bl, nox_pure, ixL_0, m2_neL, if_not]
    have hF1 : (fstL ls p.1).length ≤ 6 := by
      have := nodup_le (hM.ndL _ hf) fun k hk => (keys_mem.mp ((hM.mem k).mp ⟨_, hf, hk⟩).1).1
      omega
    have hF2 : (fstL ls p.2).length ≤ 6 := by
      have := nodup_le (hM.ndL _ hl) fun k hk => (keys_mem.mp ((hM.mem k).mp ⟨_, hl, hk⟩).1).1
      omega
    by_cases hE : fstL ls p.1 = fstL ls p.2
    · have hmrg : mergeStep ls p = ls := by unfold mergeStep; rw [if_pos hE]
      rw [decide_eq_true hE, hmrg]
      rw [hmrg] at hM2
      try simp -implicitDefEqProofs only [runF, exs, ex, ev, evT, evI, evs, evAnd, evOr, evAndT, evOrT, QL.t3, QL.s3, QL.tr, bind_pure, bind_assoc, List.length_cons, List.length_nil, if_true, List.map_cons, List.map_nil, List.cons_append, List.nil_append, Nat.reduceAdd, Nat.reduceSub, List.replicate, getM_zero, getM_succ, items_tup, items_lst, List.set, ofO_some, compF, compF2, setT, setU, setAll, wipeE, truth_bl, nox_pure]
      exact Ok.pure ⟨_, rfl, rfl, _, _, _, _, rfl, hM2, by simp; omega⟩
    · have hmrg : mergeStep ls p = (ls.filter fun L => !decide (L = fstL ls p.1) && !decide (L = fstL ls p.2)) ++ [fstL ls p.1 ++ fstL ls p.2] := by unfold mergeStep; rw [if_neg hE]
      rw [decide_eq_false hE]
      try simp -implicitDefEqProofs only [runF, exs, ex, ev, evT, evI, evs, evAnd, evOr, evAndT, evOrT, QL.t3, QL.s3, QL.tr, bind_pure, bind_assoc, List.length_cons, List.length_nil, if_true, List.map_cons, List.map_nil, List.cons_append, List.nil_append, Nat.reduceAdd, Nat.reduceSub, List.replicate, getM_zero, getM_succ, items_tup, items_lst, List.set, ofO_some, compF, compF2, setT, setU, setAll, wipeE, truth_bl, nox_pure, Bool.false_eq_true, if_false]
      rw [compL_filter (c := lD) (p := fun L => !decide (L = fstL ls p.1) && !decide (L = fstL ls p.2)) (g := lD)]
      rotate_left
      · intro L hL
        try simp -implicitDefEqProofs only [runF, exs, ex, ev, evT, evI, evs, evAnd, evOr, evAndT, evOrT, QL.t3, QL.s3, QL.tr, bind_pure, bind_assoc, List.length_cons, List.length_nil, if_true, List.map_cons, List.map_nil, List.cons_append, List.nil_append, Nat.reduceAdd, Nat.reduceSub, List.replicate, getM_zero, getM_succ, items_tup, items_lst, List.set, ofO_some, compF, compF2, setT, setU, setAll, wipeE, truth_bl, nox_pure, m2_neL]
        cases decide (L = fstL ls p.1) <;> cases decide (L = fstL ls p.2) <;> rfl
      try simp -implicitDefEqProofs only [runF, exs, ex, ev, evT, evI, evs, evAnd, evOr, evAndT, evOrT, QL.t3, QL.s3, QL.tr, bind_pure, bind_assoc, List.length_cons, List.length_nil, if_true, List.map_cons, List.map_nil, List.cons_append, List.nil_append, Nat.reduceAdd, Nat.reduceSub, List.replicate, getM_zero, getM_succ, items_tup, items_lst, List.set, ofO_some, compF, compF2, setT, setU, setAll, wipeE, truth_bl, nox_pure]
      have hfl := List.length_filter_le (fun L => !decide (L = fstL ls p.1) && !decide (L = fstL ls p.2)) ls
      rw [show doM2 .add (lD (fstL ls p.1)) (lD (fstL ls p.2)) = M.pure (lD (fstL ls p.1 ++ fstL ls p.2)) by
        unfold lD
        rw [m2_addL (by simp; omega), List.map_append]]
      try simp -implicitDefEqProofs only [runF, exs, ex, ev, evT, evI, evs, evAnd, evOr, evAndT, evOrT, QL.t3, QL.s3, QL.tr, bind_pure, bind_assoc, List.length_cons, List.length_nil, if_true, List.map_cons, List.map_nil, List.cons_append, List.nil_append, Nat.reduceAdd, Nat.reduceSub, List.replicate, getM_zero, getM_succ, items_tup, items_lst, List.set, ofO_some, compF, compF2, setT, setU, setAll, wipeE, truth_bl, nox_pure, lsto1]
      rw [m2_addL (by rw [List.length_append, List.length_map, List.length_singleton]; omega), bind_pure]
      refine Ok.pure ⟨_, rfl, rfl, some (nI p.1), some (nI p.2), some (lD (fstL ls p.1)), some (lD (fstL ls p.2)), ?_, hM2, by simp; omega⟩
      rw [hmrg, List.map_append]
      rfl
  · rintro ρ m1 ⟨rfl, t9, t10, t11, t13, rfl, hM, hml⟩
    try simp -implicitDefEqProofs only [runF, exs, ex, ev, evT, evI, evs, evAnd, evOr, evAndT, evOrT, QL.t3, QL.s3, QL.tr, bind_pure, bind_assoc, List.length_cons, List.length_nil, if_true, List.map_cons, List.map_nil, List.cons_append, List.nil_append, Nat.reduceAdd, Nat.reduceSub, List.replicate, getM_zero, getM_succ, items_tup, items_lst, List.set, ofO_some, compF, compF2, setT, setU, setAll, wipeE, truth_bl, nox_pure, lsto3]
    exact Ok.pure ⟨rfl, rfl⟩
theorem link_list (n : Nat) {ws : List Str} {T : List (Nat × Nat)} (h : WsOk ws) (hT : TOk ws.length T) : run PT (n + 1) 50 [netD ws T] = M.pure (.lst (T.map pD)) := by
  have hlim : 10000 ≤ LIM := by decide
  have hTl := hT.len h.le
  rw [run_s (fn := f50) rfl]
  unfold netD
  try simp -implicitDefEqProofs only [runF, exs, ex, ev, evT, evI, evs, evAnd, evOr, evAndT, evOrT, QL.t3, QL.s3, QL.tr, bind_pure, bind_assoc, List.length_cons, List.length_nil, if_true, List.map_cons, List.map_nil, List.cons_append, List.nil_append, Nat.reduceAdd, Nat.reduceSub, List.replicate, getM_zero, getM_succ, items_tup, items_lst, List.set, ofO_some, compF, compF2, setT, setU, setAll, wipeE, truth_bl, nox_pure, f50, recvX, ixL_0, ixL_1]
  rw [lim_ok (by simp; omega), bind_pure, compL_map (c := linkD ws) (g := pD)]
  · try simp -implicitDefEqProofs only [runF, exs, ex, ev, evT, evI, evs, evAnd, evOr, evAndT, evOrT, QL.t3, QL.s3, QL.tr, bind_pure, bind_assoc, List.length_cons, List.length_nil, if_true, List.map_cons, List.map_nil, List.cons_append, List.nil_append, Nat.reduceAdd, Nat.reduceSub, List.replicate, getM_zero, getM_succ, items_tup, items_lst, List.set, ofO_some, compF, compF2, setT, setU, setAll, wipeE, truth_bl, nox_pure]
  · intro p hp
    have h1 := hT.lt p hp
    unfold linkD
    try simp -implicitDefEqProofs only [runF, exs, ex, ev, evT, evI, evs, evAnd, evOr, evAndT, evOrT, QL.t3, QL.s3, QL.tr, bind_pure, bind_assoc, List.length_cons, List.length_nil, if_true, List.map_cons, List.map_nil, List.cons_append, List.nil_append, Nat.reduceAdd, Nat.reduceSub, List.replicate, getM_zero, getM_succ, items_tup, items_lst, List.set, ofO_some, compF, compF2, setT, setU, setAll, wipeE, truth_bl, nox_pure, ixL_0, recvIx, index_ws h h1.1, index_ws h h1.2, tup2]
    rfl
theorem addL1 (L : List Nat) (a : Nat) (h : L.length < 1000) : doM2 .add (lD L) (.lst [nI a]) = M.pure (lD (L ++ [a])) := by
  have hlim : 10000 ≤ LIM := by decide
  unfold lD
  rw [m2_addL (by simp; omega), List.map_append]
  rfl
theorem sub_mem {q : Nat} {L : List Nat} (h : L ∈ subL q) : L.Nodup ∧ ∀ k ∈ L, k < q := by
  have : ∀ (l : List Nat) (ls : List (List Nat)), (∀ L ∈ ls, L.Nodup ∧ ∀ k ∈ L, k < q ∧ k ∉ l) → l.Nodup → (∀ k ∈ l, k < q) → ∀ L ∈ l.foldl subStep ls, L.Nodup ∧ ∀ k ∈ L, k < q := by
    intro l
    induction l with
    | nil => intro ls h _ _ L hL; exact ⟨(h L hL).1, fun k hk => ((h L hL).2 k hk).1⟩
    | cons a r ih =>
      intro ls h nd hq
      obtain ⟨n1, n2⟩ := List.nodup_cons.mp nd
      refine ih (subStep ls a) (fun L hL => ?_) n2 fun k hk => hq k (List.mem_cons_of_mem _ hk)
      unfold subStep at hL
      rcases List.mem_append.mp hL with hL | hL
      · exact ⟨(h L hL).1, fun k hk => ⟨((h L hL).2 k hk).1, fun z => ((h L hL).2 k hk).2 (List.mem_cons_of_mem _ z)⟩⟩
      · obtain ⟨M, hM, rfl⟩ := List.mem_map.mp hL
        refine ⟨List.nodup_append.mpr ⟨(h M hM).1, by simp, fun x hx y hy e => ?_⟩, fun k hk => ?_⟩
        · have : y = a := by simpa using hy
          subst this
          subst e
          exact ((h M hM).2 x hx).2 List.mem_cons_self
        · rcases List.mem_append.mp hk with hk | hk
          · exact ⟨((h M hM).2 k hk).1, fun z => ((h M hM).2 k hk).2 (List.mem_cons_of_mem _ z)⟩
          · have : k = a := by simpa using hk
            subst this
            exact ⟨hq k List.mem_cons_self, n1⟩
  exact this (List.range q) [[]] (fun L hL => by
    have : L = [] := by simpa using hL
    subst this
    exact ⟨List.nodup_nil, fun k hk => by cases hk⟩) List.nodup_range (fun k hk => List.mem_range.mp hk) L h
/-- each set of kinds is there -/
theorem sub_all {q : Nat} (P : Nat → Bool) : ∃ L ∈ subL q, ∀ k, k < q → (k ∈ L ↔ P k = true) := by
  have : ∀ (l : List Nat) (ls : List (List Nat)) (L0 : List Nat), L0 ∈ ls → (∃ L ∈ l.foldl subStep ls, ∀ k, k ∈ L ↔ k ∈ L0 ∨ (k ∈ l ∧ P k = true)) := by
    intro l
    induction l with
    | nil => intro ls L0 h; exact ⟨L0, h, fun k => by simp⟩
    | cons a r ih =>
      intro ls L0 h
      by_cases ha : P a = true
      · obtain ⟨L, hL, e⟩ := ih (subStep ls a) (L0 ++ [a]) (by unfold subStep; exact List.mem_append_right _ (List.mem_map.mpr ⟨L0, h, rfl⟩))
        refine ⟨L, hL, fun k => ?_⟩
        rw [e k, List.mem_append, List.mem_singleton, List.mem_cons]
        constructor
        · rintro ((h | h) | h)
          · exact .inl h
          · exact .inr ⟨.inl h, h ▸ ha⟩
          · exact .inr ⟨.inr h.1, h.2⟩
        · rintro (h | ⟨h | h, h2⟩)
          · exact .inl (.inl h)
          · exact .inl (.inr h)
          · exact .inr ⟨h, h2⟩
      · obtain ⟨L, hL, e⟩ := ih (subStep ls a) L0 (by unfold subStep; exact List.mem_append_left _ h)
        refine ⟨L, hL, fun k => ?_⟩
        rw [e k, List.mem_cons]
        constructor
        · rintro (h | h)
          · exact .inl h
          · exact .inr ⟨.inr h.1, h.2⟩
        · rintro (h | ⟨h | h, h2⟩)
          · exact .inl h
          · exact absurd (h ▸ h2) ha
          · exact .inr ⟨h, h2⟩
  obtain ⟨L, hL, e⟩ := this (List.range q) [[]] [] (by simp)
  refine ⟨L, hL, fun k hk => ?_⟩
  rw [e k]
  simp [hk]
theorem sub_foldlen : ∀ (l : List Nat) (ls : List (List Nat)), (l.foldl subStep ls).length = ls.length * 2 ^ l.length
  | [], ls => by simp
  | a :: r, ls => by
    rw [List.foldl_cons, sub_foldlen r]
    unfold subStep
    rw [List.length_append, List.length_map, List.length_cons, Nat.pow_succ, ← Nat.two_mul, Nat.mul_comm 2, Nat.mul_assoc, Nat.mul_comm 2]
theorem all_cuts (n : Nat) {ws : List Str} {T : List (Nat × Nat)} (h : WsOk ws) (hT : TOk ws.length T) : run PT (n + 2) 9 [netD ws T] = M.pure (.lst ((subL ws.length).map (cutL ws.length T))) := by
  have hlim : 10000 ≤ LIM := by decide
  have hle := h.le
  have hq : ws.length ≤ 6 := hle
  refine pure_of fun m => ?_
  rw [run_s (fn := f9) rfl]
  try simp -implicitDefEqProofs only [runF, exs, ex, ev, evT, evI, evs, evAnd, evOr, evAndT, evOrT, QL.t3, QL.s3, QL.tr, bind_pure, bind_assoc, List.length_cons, List.length_nil, if_true, List.map_cons, List.map_nil, List.cons_append, List.nil_append, Nat.reduceAdd, Nat.reduceSub, List.replicate, getM_zero, getM_succ, items_tup, items_lst, List.set, ofO_some, compF, compF2, setT, setU, setAll, wipeE, truth_bl, nox_pure, f9, recvX, recvA, link_list n h hT, lsto0, lsto1]
  rw [show doM2 .ix (netD ws T) (.int 0) = M.pure (.tup (ws.map .str)) from ixL_0 _ _, bind_pure, m1_lenT, bind_pure]
  try simp -implicitDefEqProofs only [runF, exs, ex, ev, evT, evI, evs, evAnd, evOr, evAndT, evOrT, QL.t3, QL.s3, QL.tr, bind_pure, bind_assoc, List.length_cons, List.length_nil, if_true, List.map_cons, List.map_nil, List.cons_append, List.nil_append, Nat.reduceAdd, Nat.reduceSub, List.replicate, getM_zero, getM_succ, items_tup, items_lst, List.set, ofO_some, compF, compF2, setT, setU, setAll, wipeE, truth_bl, nox_pure, List.length_map, tupO_ok (show [D.int (ws.length : Int), D.lst (T.map pD), D.lst [D.lst []]].length ≤ LIM by simp; omega)]
  rw [rangeM_nat (by omega), bind_pure]
  refine Ok.bind (Ok.forL (c := nI) (fun pre ρ m' => m' = m ∧ ∃ t4, ρ = [some (netD ws T), some (.int ws.length), some (.lst (T.map pD)), some (.lst ((pre.foldl subStep [[]]).map lD)), t4, none] ∧ ∀ L ∈ pre.foldl subStep [[]], L.length ≤ pre.length) ?_ ?_ ?_)
  · exact ⟨rfl, none, rfl, fun L hL => by
      have : L = [] := by simpa using hL
      rw [this]; simp⟩
  · rintro pre x post ρ m1 e ⟨rfl, t4, rfl, hL⟩
    obtain ⟨hx, hxl⟩ := range_at e
    have hpl : (pre.foldl subStep [[]]).length ≤ 64 := by
      rw [sub_foldlen]
      have : 2 ^ pre.length ≤ 2 ^ 6 := Nat.pow_le_pow_right (by omega) (by omega)
      simp
      omega
    rw [List.foldl_append, List.foldl_cons, List.foldl_nil]
    generalize hls : pre.foldl subStep [[]] = ls at *
    try simp -implicitDefEqProofs only [runF, exs, ex, ev, evT, evI, evs, evAnd, evOr, evAndT, evOrT, QL.t3, QL.s3, QL.tr, bind_pure, bind_assoc, List.length_cons, List.length_nil, if_true, List.map_cons, List.map_nil, List.cons_append, List.nil_append, Nat.reduceAdd, Nat.reduceSub, List.replicate, getM_zero, getM_succ, items_tup, items_lst, List.set, ofO_some, compF, compF2, setT, setU, setAll, wipeE, truth_bl, nox_pure]
    rw [lim_ok (by simp; omega), bind_pure, compL_map (c := lD) (g := fun L => lD (L ++ [x]))]
    · try simp -implicitDefEqProofs only [runF, exs, ex, ev, evT, evI, evs, evAnd, evOr, evAndT, evOrT, QL.t3, QL.s3, QL.tr, bind_pure, bind_assoc, List.length_cons, List.length_nil, if_true, List.map_cons, List.map_nil, List.cons_append, List.nil_append, Nat.reduceAdd, Nat.reduceSub, List.replicate, getM_zero, getM_succ, items_tup, items_lst, List.set, ofO_some, compF, compF2, setT, setU, setAll, wipeE, truth_bl, nox_pure]
      rw [m2_addL (by simp; omega), bind_pure]
      refine Ok.pure ⟨_, rfl, rfl, some (nI x), ?_, fun L hLm => ?_⟩
      · unfold subStep
        rw [List.map_append, List.map_map]
        rfl
      · unfold subStep at hLm
        rw [List.length_append, List.length_singleton]
        rcases List.mem_append.mp hLm with h1 | h1
        · have := hL L h1; omega
        · obtain ⟨M, hM, rfl⟩ := List.mem_map.mp h1
          have := hL M hM
          simp; omega
    · intro L hLm
      try simp -implicitDefEqProofs only [runF, exs, ex, ev, evT, evI, evs, evAnd, evOr, evAndT, evOrT, QL.t3, QL.s3, QL.tr, bind_pure, bind_assoc, List.length_cons, List.length_nil, if_true, List.map_cons, List.map_nil, List.cons_append, List.nil_append, Nat.reduceAdd, Nat.reduceSub, List.replicate, getM_zero, getM_succ, items_tup, items_lst, List.set, ofO_some, compF, compF2, setT, setU, setAll, wipeE, truth_bl, nox_pure, recvA, lsto1]
      rw [addL1 L x (by have := hL L hLm; omega)]
      rfl
  · rintro ρ m1 ⟨rfl, t4, rfl, hL⟩
    have hpl := sub_len_pow ws.length
    have : 2 ^ ws.length ≤ 2 ^ 6 := Nat.pow_le_pow_right (by omega) hle
    rw [show (List.range ws.length).foldl subStep [[]] = subL ws.length from rfl] at *
    try simp -implicitDefEqProofs only [runF, exs, ex, ev, evT, evI, evs, evAnd, evOr, evAndT, evOrT, QL.t3, QL.s3, QL.tr, bind_pure, bind_assoc, List.length_cons, List.length_nil, if_true, List.map_cons, List.map_nil, List.cons_append, List.nil_append, Nat.reduceAdd, Nat.reduceSub, List.replicate, getM_zero, getM_succ, items_tup, items_lst, List.set, ofO_some, compF, compF2, setT, setU, setAll, wipeE, truth_bl, nox_pure]
    rw [lim_ok (by simp; omega), bind_pure, compL_map (c := lD) (g := cutL ws.length T)]
    · try simp -implicitDefEqProofs only [runF, exs, ex, ev, evT, evI, evs, evAnd, evOr, evAndT, evOrT, QL.t3, QL.s3, QL.tr, bind_pure, bind_assoc, List.length_cons, List.length_nil, if_true, List.map_cons, List.map_nil, List.cons_append, List.nil_append, Nat.reduceAdd, Nat.reduceSub, List.replicate, getM_zero, getM_succ, items_tup, items_lst, List.set, ofO_some, compF, compF2, setT, setU, setAll, wipeE, truth_bl, nox_pure]
      exact Ok.pure ⟨rfl, rfl⟩
    · intro L hLm
      have := nodup_le (sub_mem hLm).1 (sub_mem hLm).2
      try simp -implicitDefEqProofs only [runF, exs, ex, ev, evT, evI, evs, evAnd, evOr, evAndT, evOrT, QL.t3, QL.s3, QL.tr, bind_pure, bind_assoc, List.length_cons, List.length_nil, if_true, List.map_cons, List.map_nil, List.cons_append, List.nil_append, Nat.reduceAdd, Nat.reduceSub, List.replicate, getM_zero, getM_succ, items_tup, items_lst, List.set, ofO_some, compF, compF2, setT, setU, setAll, wipeE, truth_bl, nox_pure]
      rw [cut_by n hq hT (by omega)]
      rfl
end QV
end
section
set_option linter.all false
set_option maxRecDepth 100000
set_option autoImplicit false
/-! QR: all pairings. -/
namespace QV
open PySem QL QP
def room (rs : List Nat) (p : Nat × Nat) : Nat := if p.1 = p.2 then rs.getD p.1 0 / 2 else min (rs.getD p.1 0) (rs.getD p.2 0)
theorem ix_nsT {ns : List Nat} {k : Nat} (h : k < ns.length) : doM2 .ix (.tup (ns.map nI)) (nI k) = M.pure (nI (ns.getD k 0)) := ix_nT (by rw [List.getElem?_map, List.getElem?_eq_getElem h, List.getD_eq_getElem?_getD, List.getElem?_eq_getElem h]; rfl)
theorem m2_minN (a b : Nat) : doM2 .min2 (nI a) (nI b) = M.pure (nI (min a b)) := by
  funext m
  show Res.ok (D.int (if (b : Int) < (a : Int) then (b : Int) else (a : Int))) m = Res.ok (D.int ((min a b : Nat) : Int)) m
  congr 2
  split <;> omega
theorem m2_fdN (a : Nat) : doM2 .fdiv (nI a) (.int 2) = M.pure (nI (a / 2)) := by
  unfold nI
  rw [m2_fdiv ⟨by omega, by decide⟩]
  rfl
theorem room_run (n id : Nat) (fn : Fn) (hid : PT id = some fn) (hfn : fn = f51) {rs : List Nat} {p : Nat × Nat} (h1 : p.1 < rs.length) (h2 : p.2 < rs.length) : run PT (n + 1) id [.tup (rs.map nI), pD p] = M.pure (nI (room rs p)) := by
  rw [run_s hid, hfn]
  rw [show pD p = .tup [nI p.1, nI p.2] from rfl]
  try simp -implicitDefEqProofs only [runF, exs, ex, ev, evT, evI, evs, evAnd, evOr, evAndT, evOrT, QL.t3, QL.s3, QL.tr, bind_pure, bind_assoc, List.length_cons, List.length_nil, if_true, List.map_cons, List.map_nil, List.cons_append, List.nil_append, Nat.reduceAdd, Nat.reduceSub, List.replicate, getM_zero, getM_succ, items_tup, items_lst, List.set, ofO_some, compF, compF2, setT, setU, setAll, wipeE, truth_bl, nox_pure, f51, recvE, recvFd, recvX, recvMn, eq_nI, ix_nsT h1, ix_nsT h2]
  unfold room
  by_cases h : p.1 = p.2
  · rw [decide_eq_true h, if_pos h]
    try simp -implicitDefEqProofs only [runF, exs, ex, ev, evT, evI, evs, evAnd, evOr, evAndT, evOrT, QL.t3, QL.s3, QL.tr, bind_pure, bind_assoc, List.length_cons, List.length_nil, if_true, List.map_cons, List.map_nil, List.cons_append, List.nil_append, Nat.reduceAdd, Nat.reduceSub, List.replicate, getM_zero, getM_succ, items_tup, items_lst, List.set, ofO_some, compF, compF2, setT, setU, setAll, wipeE, truth_bl, nox_pure, ix_nsT h1, m2_fdN]
  · rw [decide_eq_false h, if_neg h]
    try simp -implicitDefEqProofs only [runF, exs, ex, ev, evT, evI, evs, evAnd, evOr, evAndT, evOrT, QL.t3, QL.s3, QL.tr, bind_pure, bind_assoc, List.length_cons, List.length_nil, if_true, List.map_cons, List.map_nil, List.cons_append, List.nil_append, Nat.reduceAdd, Nat.reduceSub, List.replicate, getM_zero, getM_succ, items_tup, items_lst, List.set, ofO_some, compF, compF2, setT, setU, setAll, wipeE, truth_bl, nox_pure, ix_nsT h1, ix_nsT h2, m2_minN, Bool.false_eq_true, if_false]
theorem law_room (n : Nat) {rs : List Nat} {p : Nat × Nat} (h1 : p.1 < rs.length) (h2 : p.2 < rs.length) : run PT (n + 1) 51 [.tup (rs.map nI), pD p] = M.pure (nI (room rs p)) := room_run n 51 f51 rfl rfl h1 h2
theorem room_for (n : Nat) {rs : List Nat} {p : Nat × Nat} (h1 : p.1 < rs.length) (h2 : p.2 < rs.length) : run PT (n + 1) 33 [.tup (rs.map nI), pD p] = M.pure (nI (room rs p)) := room_run n 33 f33 rfl rfl h1 h2
def took1 (rs : List Nat) (a t : Nat) : List Nat := rs.set a (rs.getD a 0 - t)
def took (rs : List Nat) (p : Nat × Nat) (t : Nat) : List Nat := took1 (took1 rs p.1 t) p.2 t
theorem took1_get (rs : List Nat) (a t k : Nat) (ha : a < rs.length) : (took1 rs a t).getD k 0 = if a = k then rs.getD k 0 - t else rs.getD k 0 := by
  unfold took1
  rw [List.getD_eq_getElem?_getD, List.getElem?_set]
  by_cases h : a = k
  · subst h; rw [if_pos rfl, if_pos ha, if_pos rfl]; rfl
  · rw [if_neg h, if_neg h, List.getD_eq_getElem?_getD]
theorem took_len (rs : List Nat) (p : Nat × Nat) (t : Nat) : (took rs p t).length = rs.length := by unfold took took1; simp
theorem took_get {rs : List Nat} {p : Nat × Nat} {t : Nat} (h1 : p.1 < rs.length) (h2 : p.2 < rs.length) (ht : t ≤ room rs p) (k : Nat) : (took rs p t).getD k 0 + t * cntP p k = rs.getD k 0 := by
  unfold took
  rw [took1_get _ _ _ _ (by unfold took1; simpa using h2), took1_get _ _ _ _ h1]
  unfold room at ht
  unfold cntP
  by_cases e1 : p.1 = p.2
  · rw [if_pos e1] at ht
    by_cases e2 : p.2 = k
    · have e3 : p.1 = k := e1.trans e2
      subst e3
      simp [-List.getD_eq_getElem?_getD, e2]
      omega
    · have e3 : ¬ p.1 = k := fun z => e2 (e1.symm.trans z)
      simp [-List.getD_eq_getElem?_getD, e2, e3]
  · rw [if_neg e1] at ht
    by_cases e2 : p.2 = k
    · have e3 : ¬ p.1 = k := fun z => e1 (z.trans e2.symm)
      simp [-List.getD_eq_getElem?_getD, e2, e3]
      subst e2
      omega
    · by_cases e3 : p.1 = k
      · simp [-List.getD_eq_getElem?_getD, e2, e3]
        subst e3
        omega
      · simp [-List.getD_eq_getElem?_getD, e2, e3]
theorem room_at {rs : List Nat} {p : Nat × Nat} {t : Nat} (ht : t ≤ room rs p) : t ≤ rs.getD p.1 0 ∧ t ≤ (took1 rs p.1 t).getD p.2 0 ∨ rs.length ≤ p.1 := by
  by_cases h1 : p.1 < rs.length
  · left
    rw [took1_get _ _ _ _ h1]
    unfold room at ht
    by_cases e1 : p.1 = p.2
    · rw [if_pos e1] at ht
      rw [if_pos e1, ← e1]
      omega
    · rw [if_neg e1] at ht
      rw [if_neg e1]
      omega
  · right; omega
theorem law_took (n : Nat) {rs : List Nat} {p : Nat × Nat} {t : Nat} (h1 : p.1 < rs.length) (h2 : p.2 < rs.length) (ht : t ≤ room rs p) (m : Mem) :
    Ok (run PT (n + 1) 52 [.tup (rs.map nI), pD p, nI t]) m fun d m' => Ext m m' ∧ d = .tup ((took rs p t).map nI) := by
  have hr := (room_at ht).resolve_right (by omega)
  have step : ∀ (ys : List Nat) (a : Nat) (Q : PUnit → Mem → Prop), a < ys.length → t ≤ ys.getD a 0 → Q ⟨⟩ (m ++ [.lst ((took1 ys a t).map nI)]) →
      Ok (M.bind (doM2 .ix (.ref m.length) (nI a)) fun x => M.bind (doM2 .sub x (nI t)) fun y => stiM (.ref m.length) (nI a) y) (m ++ [.lst (ys.map nI)]) Q := by
    intro ys a Q ha hta hQ
    unfold nI
    refine Ok.bind (ok_ixR (k := (a : Int)) (d := .int ((ys.getD a 0 : Nat) : Int)) (get_app _ _) ?_ (by omega) ?_)
    · rw [Int.toNat_natCast, List.getElem?_map, List.getD_eq_getElem?_getD, List.getElem?_eq_getElem ha]; rfl
    rw [m2_sub, bind_pure]
    refine ok_sti (k := (a : Int)) (get_app _ _) (by omega) (by simpa using ha) ?_
    rw [set_app, Int.toNat_natCast]
    have : (ys.map fun (k : Nat) => D.int (k : Int)).set a (.int ((ys.getD a 0 : Nat) - (t : Int))) = (took1 ys a t).map nI := by
      unfold took1
      rw [List.map_set]
      congr 1
      unfold nI
      congr 1
      omega
    rw [this]
    exact hQ
  rw [run_s (fn := f52) rfl]
  rw [show pD p = .tup [nI p.1, nI p.2] from rfl]
  try simp -implicitDefEqProofs only [runF, exs, ex, ev, evT, evI, evs, evAnd, evOr, evAndT, evOrT, QL.t3, QL.s3, QL.tr, bind_pure, bind_assoc, List.length_cons, List.length_nil, if_true, List.map_cons, List.map_nil, List.cons_append, List.nil_append, Nat.reduceAdd, Nat.reduceSub, List.replicate, getM_zero, getM_succ, items_tup, items_lst, List.set, ofO_some, compF, compF2, setT, setU, setAll, wipeE, truth_bl, nox_pure, f52, recvX, recvS, m1_list, QL.forL]
  refine Ok.bind (ok_new ?_)
  try simp -implicitDefEqProofs only [runF, exs, ex, ev, evT, evI, evs, evAnd, evOr, evAndT, evOrT, QL.t3, QL.s3, QL.tr, bind_pure, bind_assoc, List.length_cons, List.length_nil, if_true, List.map_cons, List.map_nil, List.cons_append, List.nil_append, Nat.reduceAdd, Nat.reduceSub, List.replicate, getM_zero, getM_succ, items_tup, items_lst, List.set, ofO_some, compF, compF2, setT, setU, setAll, wipeE, truth_bl, nox_pure, QL.forL]
  have s1 := step rs p.1 (fun _ m' => m' = m ++ [.lst ((took1 rs p.1 t).map nI)]) h1 hr.1 rfl
  have s2 := step (took1 rs p.1 t) p.2 (fun _ m' => m' = m ++ [.lst ((took rs p t).map nI)]) (by unfold took1; simpa using h2) hr.2 rfl
  obtain ⟨_, _, s1, rfl⟩ := s1
  obtain ⟨_, _, s2, rfl⟩ := s2
  have comb : ∀ {β : Type} (x : M D) (f : D → M D) (g : D → M PUnit) (k : PUnit → M β) (m1 m2 : Mem) (Q : β → Mem → Prop), (M.bind x fun a => M.bind (f a) g) m1 = .ok ⟨⟩ m2 → Ok (k ⟨⟩) m2 Q → Ok (M.bind x fun a => M.bind (f a) fun b => M.bind (g b) k) m1 Q := by
    intro β x f g k m1 m2 Q h1 h2
    have e : (M.bind x fun a => M.bind (f a) fun b => M.bind (g b) k) = M.bind (M.bind x fun a => M.bind (f a) g) k := by
      rw [bind_assoc]
      congr 1
      funext a
      rw [bind_assoc]
    rw [e]
    exact Ok.bind ⟨⟨⟩, m2, h1, h2⟩
  refine comb _ (fun a => doM2 .sub a (nI t)) (fun b => stiM (.ref m.length) (nI p.1) b) _ _ _ _ s1 ?_
  try simp -implicitDefEqProofs only [runF, exs, ex, ev, evT, evI, evs, evAnd, evOr, evAndT, evOrT, QL.t3, QL.s3, QL.tr, bind_pure, bind_assoc, List.length_cons, List.length_nil, if_true, List.map_cons, List.map_nil, List.cons_append, List.nil_append, Nat.reduceAdd, Nat.reduceSub, List.replicate, getM_zero, getM_succ, items_tup, items_lst, List.set, ofO_some, compF, compF2, setT, setU, setAll, wipeE, truth_bl, nox_pure, QL.forL]
  refine comb _ (fun a => doM2 .sub a (nI t)) (fun b => stiM (.ref m.length) (nI p.2) b) _ _ _ _ s2 ?_
  try simp -implicitDefEqProofs only [runF, exs, ex, ev, evT, evI, evs, evAnd, evOr, evAndT, evOrT, QL.t3, QL.s3, QL.tr, bind_pure, bind_assoc, List.length_cons, List.length_nil, if_true, List.map_cons, List.map_nil, List.cons_append, List.nil_append, Nat.reduceAdd, Nat.reduceSub, List.replicate, getM_zero, getM_succ, items_tup, items_lst, List.set, ofO_some, compF, compF2, setT, setU, setAll, wipeE, truth_bl, nox_pure, QL.forL]
  refine Ok.bind (ok_m1R (get_app _ _) (fun _ _ => trivial) (.inl ⟨rfl, rfl⟩) ?_)
  try simp -implicitDefEqProofs only [runF, exs, ex, ev, evT, evI, evs, evAnd, evOr, evAndT, evOrT, QL.t3, QL.s3, QL.tr, bind_pure, bind_assoc, List.length_cons, List.length_nil, if_true, List.map_cons, List.map_nil, List.cons_append, List.nil_append, Nat.reduceAdd, Nat.reduceSub, List.replicate, getM_zero, getM_succ, items_tup, items_lst, List.set, ofO_some, compF, compF2, setT, setU, setAll, wipeE, truth_bl, nox_pure]
  exact Ok.pure ⟨Ext.app _ _, rfl⟩
/-! ### all pairings -/
abbrev Way := List Nat × List Nat
def wayD (x : Way) : D := .lst [.tup (x.1.map nI), .tup (x.2.map nI)]
def expW (p : Nat × Nat) (x : Way) : List Way := (List.range (room x.2 p + 1)).map fun t => (x.1 ++ [t], took x.2 p t)
/-- all pairings of the first i ties -/
structure WOk (T : List (Nat × Nat)) (ns : List Nat) (i : Nat) (w : List Way) : Prop where
  snd : ∀ x ∈ w, x.1.length = i ∧ x.2.length = ns.length ∧ ∀ k, k < ns.length → x.2.getD k 0 + (QM.sm i fun e => x.1.getD e 0 * cntP (tA T e) k) = ns.getD k 0
  cpl : ∀ f : Nat → Nat, (∀ k, k < ns.length → (QM.sm i fun e => f e * cntP (tA T e) k) ≤ ns.getD k 0) → ∃ x ∈ w, ∀ e, e < i → x.1.getD e 0 = f e
theorem sm_get_eq {T : List (Nat × Nat)} {cs : List Nat} {i t k : Nat} (h : cs.length = i) : (QM.sm (i + 1) fun e => (cs ++ [t]).getD e 0 * cntP (tA T e) k) = (QM.sm i fun e => cs.getD e 0 * cntP (tA T e) k) + t * cntP (tA T i) k := by
  show (QM.sm i fun e => (cs ++ [t]).getD e 0 * cntP (tA T e) k) + (cs ++ [t]).getD i 0 * cntP (tA T i) k = _
  have h1 : (cs ++ [t]).getD i 0 = t := by rw [List.getD_eq_getElem?_getD, ← h]; simp
  rw [h1]
  congr 1
  refine QM.sm_eq fun e he => ?_
  rw [List.getD_eq_getElem?_getD, List.getElem?_append_left (by omega), List.getD_eq_getElem?_getD]
theorem room_max {rs : List Nat} {p : Nat × Nat} {t : Nat} (h : ∀ k, k = p.1 ∨ k = p.2 → t * cntP p k ≤ rs.getD k 0) : t ≤ room rs p := by
  unfold room
  have h1 := h p.1 (.inl rfl)
  have h2 := h p.2 (.inr rfl)
  unfold cntP at h1 h2
  by_cases e : p.1 = p.2
  · rw [if_pos e]
    rw [if_pos rfl, if_pos e.symm] at h1
    omega
  · rw [if_neg e]
    rw [if_pos rfl, if_neg (fun z => e z.symm)] at h1
    rw [if_neg e, if_pos rfl] at h2
    omega
theorem WOk.step {T : List (Nat × Nat)} {ns : List Nat} {i : Nat} {w : List Way} (h : WOk T ns i w) (hi : (tA T i).1 < ns.length ∧ (tA T i).2 < ns.length) : WOk T ns (i + 1) (w.flatMap (expW (tA T i))) := by
  refine ⟨fun y hy => ?_, fun f hf => ?_⟩
  · obtain ⟨x, hx, hy⟩ := List.mem_flatMap.mp hy
    obtain ⟨t, ht, rfl⟩ := List.mem_map.mp hy
    have ht := List.mem_range.mp ht
    obtain ⟨h1, h2, h3⟩ := h.snd x hx
    refine ⟨by simp [h1], by rw [took_len]; exact h2, fun k hk => ?_⟩
    rw [sm_get_eq h1]
    have := took_get (rs := x.2) (p := tA T i) (t := t) (by omega) (by omega) (by omega) k
    have := h3 k hk
    show (took x.2 (tA T i) t).getD k 0 + _ = _
    omega
  · have hf2 : ∀ k, k < ns.length → (QM.sm i fun e => f e * cntP (tA T e) k) + f i * cntP (tA T i) k ≤ ns.getD k 0 := hf
    obtain ⟨x, hx, he⟩ := h.cpl f fun k hk => by have := hf2 k hk; omega
    obtain ⟨h1, h2, h3⟩ := h.snd x hx
    have hsm : ∀ k, (QM.sm i fun e => x.1.getD e 0 * cntP (tA T e) k) = QM.sm i fun e => f e * cntP (tA T e) k := fun k => QM.sm_eq fun e hei => by rw [he e hei]
    refine ⟨(x.1 ++ [f i], took x.2 (tA T i) (f i)), List.mem_flatMap.mpr ⟨x, hx, List.mem_map.mpr ⟨f i, List.mem_range.mpr ?_, rfl⟩⟩, fun e hei => ?_⟩
    · have : f i ≤ room x.2 (tA T i) := room_max fun k hk => by
        have hkl : k < ns.length := by rcases hk with rfl | rfl <;> omega
        have a := hf2 k hkl
        have b := h3 k hkl
        rw [hsm k] at b
        omega
      omega
    · show (x.1 ++ [f i]).getD e 0 = f e
      by_cases hl : e < i
      · rw [List.getD_eq_getElem?_getD, List.getElem?_append_left (by omega), ← List.getD_eq_getElem?_getD]
        exact he e hl
      · have : e = i := by omega
        subst this
        rw [List.getD_eq_getElem?_getD, ← h1]
        simp [h1]
theorem flat_len {α β : Type} {f : α → List β} {B : Nat} : ∀ {l : List α}, (∀ x ∈ l, (f x).length ≤ B) → (l.flatMap f).length ≤ B * l.length
  | [], _ => by simp
  | a :: r, h => by
    have h1 := h a List.mem_cons_self
    have h2 := flat_len (f := f) (B := B) (l := r) fun x hx => h x (List.mem_cons_of_mem _ hx)
    rw [List.flatMap_cons, List.length_append, List.length_cons, Nat.mul_succ]
    omega
theorem room_le {rs : List Nat} {p : Nat × Nat} {B : Nat} (h : ∀ k, rs.getD k 0 ≤ B) : room rs p ≤ B := by
  have := h p.1
  unfold room
  split <;> omega
theorem law_all_ways (n : Nat) {ws : List Str} {T : List (Nat × Nat)} {ns : List Nat} (h : WsOk ws) (hT : TOk ws.length T) (hTl : T.length ≤ 6) (hn : ns.length = ws.length) (hns : ∀ k, ns.getD k 0 ≤ 6) (m : Mem) :
    Ok (run PT (n + 2) 8 [netD ws T, .tup (ns.map nI)]) m fun d m' => Ext m m' ∧ ∃ w, d = .lst (w.map wayD) ∧ WOk T ns T.length w ∧ w.length ≤ 117649 := by
  have hlim : 1000000 ≤ LIM := by decide
  rw [run_s (fn := f8) rfl]
  try simp -implicitDefEqProofs only [runF, exs, ex, ev, evT, evI, evs, evAnd, evOr, evAndT, evOrT, QL.t3, QL.s3, QL.tr, bind_pure, bind_assoc, List.length_cons, List.length_nil, if_true, List.map_cons, List.map_nil, List.cons_append, List.nil_append, Nat.reduceAdd, Nat.reduceSub, List.replicate, getM_zero, getM_succ, items_tup, items_lst, List.set, ofO_some, compF, compF2, setT, setU, setAll, wipeE, truth_bl, nox_pure, f8, recvX, recvA, link_list n h hT, lsto1, lsto2, lsto0, show tupO [] = some (.tup []) from rfl]
  refine Ok.bind (Ok.forL (c := pD) (fun pre ρ m' => Ext m m' ∧ ∃ (w : List Way) (t3 t4 t5 t6 t7 : Option D), ρ = [some (netD ws T), some (.tup (ns.map nI)), some (.lst (w.map wayD)), t3, t4, t5, t6, t7] ∧ WOk T ns pre.length w ∧ w.length ≤ 7 ^ pre.length) ?_ ?_ ?_)
  · refine ⟨Ext.refl m, [([], ns)], none, none, none, none, none, rfl, ⟨fun x hx => ?_, fun f _ => ⟨([], ns), by simp, fun e he => by cases he⟩⟩, by simp⟩
    have : x = ([], ns) := by simpa using hx
    subst this
    exact ⟨rfl, rfl, fun k hk => by simp [QM.sm]⟩
  · rintro pre p post ρ m1 e ⟨hE, w, t3, t4, t5, t6, t7, rfl, hW, hwl⟩
    have hpl : pre.length < T.length := by rw [e]; simp
    have hp : tA T pre.length = p := by unfold tA; rw [e, List.getD_eq_getElem?_getD]; simp
    have hpt := hT.lt p (by rw [e]; simp)
    have h7 : 7 ^ pre.length ≤ 7 ^ 5 := Nat.pow_le_pow_right (by omega) (by omega)
    have hW2 := hW.step (by rw [hp]; omega)
    rw [hp] at hW2
    have hexp : ∀ x ∈ w, (expW p x).length ≤ 7 := fun x hx => by
      unfold expW
      rw [List.length_map, List.length_range]
      have : room x.2 p ≤ 6 := room_le fun k => by
        obtain ⟨_, h2, h3⟩ := hW.snd x hx
        by_cases hk : k < ns.length
        · have := h3 k hk; have := hns k; omega
        · rw [List.getD_eq_getElem?_getD, List.getElem?_eq_none (by omega)]; simp
      omega
    have hfl := flat_len hexp
    try simp -implicitDefEqProofs only [runF, exs, ex, ev, evT, evI, evs, evAnd, evOr, evAndT, evOrT, QL.t3, QL.s3, QL.tr, bind_pure, bind_assoc, List.length_cons, List.length_nil, if_true, List.map_cons, List.map_nil, List.cons_append, List.nil_append, Nat.reduceAdd, Nat.reduceSub, List.replicate, getM_zero, getM_succ, items_tup, items_lst, List.set, ofO_some, compF, compF2, setT, setU, setAll, wipeE, truth_bl, nox_pure, lsto0]
    refine Ok.bind (ok_new ?_)
    try simp -implicitDefEqProofs only [runF, exs, ex, ev, evT, evI, evs, evAnd, evOr, evAndT, evOrT, QL.t3, QL.s3, QL.tr, bind_pure, bind_assoc, List.length_cons, List.length_nil, if_true, List.map_cons, List.map_nil, List.cons_append, List.nil_append, Nat.reduceAdd, Nat.reduceSub, List.replicate, getM_zero, getM_succ, items_tup, items_lst, List.set, ofO_some, compF, compF2, setT, setU, setAll, wipeE, truth_bl, nox_pure]
    have hE1 : Ext m (m1 ++ [Cell.lst []]) := hE.trans (Ext.app _ _)
    refine Ok.bind (Ok.forL (c := wayD) (fun preW ρ m' => Ext m m' ∧ ∃ (t5 t6 t7 : Option D), ρ = [some (netD ws T), some (.tup (ns.map nI)), some (.lst (w.map wayD)), some (pD p), some (.ref m1.length), t5, t6, t7] ∧ m'[m1.length]? = some (.lst ((preW.flatMap (expW p)).map wayD))) ?_ ?_ ?_)
    · exact ⟨hE1, t5, t6, t7, rfl, get_app _ _⟩
    · rintro preW x postW ρ m2 eW ⟨hE2, t5, t6, t7, rfl, hc2⟩
      have hxm : x ∈ w := by rw [eW]; simp
      obtain ⟨hx1, hx2, hx3⟩ := hW.snd x hxm
      have hpre : (preW.flatMap (expW p)).length ≤ 7 * preW.length := flat_len fun y hy => hexp y (by rw [eW]; simp [hy])
      have hpw : preW.length < w.length := by rw [eW]; simp
      have hx := hexp x hxm
      have hxe : expW p x = (List.range (room x.2 p + 1)).map fun t => (x.1 ++ [t], took x.2 p t) := rfl
      rw [show wayD x = .lst [.tup (x.1.map nI), .tup (x.2.map nI)] from rfl]
      try simp -implicitDefEqProofs only [runF, exs, ex, ev, evT, evI, evs, evAnd, evOr, evAndT, evOrT, QL.t3, QL.s3, QL.tr, bind_pure, bind_assoc, List.length_cons, List.length_nil, if_true, List.map_cons, List.map_nil, List.cons_append, List.nil_append, Nat.reduceAdd, Nat.reduceSub, List.replicate, getM_zero, getM_succ, items_tup, items_lst, List.set, ofO_some, compF, compF2, setT, setU, setAll, wipeE, truth_bl, nox_pure, law_room n (rs := x.2) (p := p) (by omega) (by omega), m2_add]
      rw [show doM2 .add (nI (room x.2 p)) (.int 1) = M.pure (nI (room x.2 p + 1)) from rfl]
      try simp -implicitDefEqProofs only [runF, exs, ex, ev, evT, evI, evs, evAnd, evOr, evAndT, evOrT, QL.t3, QL.s3, QL.tr, bind_pure, bind_assoc, List.length_cons, List.length_nil, if_true, List.map_cons, List.map_nil, List.cons_append, List.nil_append, Nat.reduceAdd, Nat.reduceSub, List.replicate, getM_zero, getM_succ, items_tup, items_lst, List.set, ofO_some, compF, compF2, setT, setU, setAll, wipeE, truth_bl, nox_pure]
      have hroom : room x.2 p + 1 ≤ 7 := by rw [hxe, List.length_map, List.length_range] at hx; exact hx
      show Ok (M.bind (rangeM 0 ((room x.2 p + 1 : Nat) : Int)) _) m2 _
      rw [rangeM_nat (by omega), bind_pure]
      try simp -implicitDefEqProofs only [runF, exs, ex, ev, evT, evI, evs, evAnd, evOr, evAndT, evOrT, QL.t3, QL.s3, QL.tr, bind_pure, bind_assoc, List.length_cons, List.length_nil, if_true, List.map_cons, List.map_nil, List.cons_append, List.nil_append, Nat.reduceAdd, Nat.reduceSub, List.replicate, getM_zero, getM_succ, items_tup, items_lst, List.set, ofO_some, compF, compF2, setT, setU, setAll, wipeE, truth_bl, nox_pure]
      refine Ok.bind (Ok.forL (c := nI) (fun preT ρ m' => Ext m m' ∧ ∃ (t7 : Option D), ρ = [some (netD ws T), some (.tup (ns.map nI)), some (.lst (w.map wayD)), some (pD p), some (.ref m1.length), some (.tup (x.1.map nI)), some (.tup (x.2.map nI)), t7] ∧ m'[m1.length]? = some (.lst ((preW.flatMap (expW p) ++ preT.map fun t => (x.1 ++ [t], took x.2 p t)).map wayD))) ?_ ?_ ?_)
      · exact ⟨hE2, t7, rfl, by simpa using hc2⟩
      · rintro preT t postT ρ m3 eT ⟨hE3, t7, rfl, hc3⟩
        obtain ⟨ht1, ht2⟩ := range_at eT
        try simp -implicitDefEqProofs only [runF, exs, ex, ev, evT, evI, evs, evAnd, evOr, evAndT, evOrT, QL.t3, QL.s3, QL.tr, bind_pure, bind_assoc, List.length_cons, List.length_nil, if_true, List.map_cons, List.map_nil, List.cons_append, List.nil_append, Nat.reduceAdd, Nat.reduceSub, List.replicate, getM_zero, getM_succ, items_tup, items_lst, List.set, ofO_some, compF, compF2, setT, setU, setAll, wipeE, truth_bl, nox_pure, tupO1]
        refine Ok.bind (ok_recvAp hc3 ?_)
        try simp -implicitDefEqProofs only [runF, exs, ex, ev, evT, evI, evs, evAnd, evOr, evAndT, evOrT, QL.t3, QL.s3, QL.tr, bind_pure, bind_assoc, List.length_cons, List.length_nil, if_true, List.map_cons, List.map_nil, List.cons_append, List.nil_append, Nat.reduceAdd, Nat.reduceSub, List.replicate, getM_zero, getM_succ, items_tup, items_lst, List.set, ofO_some, compF, compF2, setT, setU, setAll, wipeE, truth_bl, nox_pure, tupO1]
        rw [m2_addT (by simp; omega), bind_pure]
        refine Ok.seq (law_took n (rs := x.2) (p := p) (t := t) (by omega) (by omega) (by omega) m3) ?_
        rintro _ m4 ⟨hE4, rfl⟩
        try simp -implicitDefEqProofs only [runF, exs, ex, ev, evT, evI, evs, evAnd, evOr, evAndT, evOrT, QL.t3, QL.s3, QL.tr, bind_pure, bind_assoc, List.length_cons, List.length_nil, if_true, List.map_cons, List.map_nil, List.cons_append, List.nil_append, Nat.reduceAdd, Nat.reduceSub, List.replicate, getM_zero, getM_succ, items_tup, items_lst, List.set, ofO_some, compF, compF2, setT, setU, setAll, wipeE, truth_bl, nox_pure, lsto2]
        have hc4 := hE4.at_ hc3
        refine Ok.bind (ok_append hc4 (by rw [List.length_map, List.length_append, List.length_map]; omega) ?_)
        have hl4 := (List.getElem?_eq_some_iff.mp hc4).1
        refine Ok.pure ⟨_, rfl, Fr.ext (hE3.trans hE4) hE.1 (Fr.set _ _ _), _, rfl, ?_⟩
        rw [List.getElem?_set_self hl4]
        congr 2
        simp [wayD]
      · rintro ρ m3 ⟨hE3, t7, rfl, hc3⟩
        refine Ok.pure ⟨_, rfl, hE3, _, _, _, rfl, ?_⟩
        rw [List.flatMap_append]
        simpa [hxe] using hc3
    · rintro ρ m2 ⟨hE2, t5, t6, t7, rfl, hc2⟩
      try simp -implicitDefEqProofs only [runF, exs, ex, ev, evT, evI, evs, evAnd, evOr, evAndT, evOrT, QL.t3, QL.s3, QL.tr, bind_pure, bind_assoc, List.length_cons, List.length_nil, if_true, List.map_cons, List.map_nil, List.cons_append, List.nil_append, Nat.reduceAdd, Nat.reduceSub, List.replicate, getM_zero, getM_succ, items_tup, items_lst, List.set, ofO_some, compF, compF2, setT, setU, setAll, wipeE, truth_bl, nox_pure]
      refine Ok.bind (ok_m1R hc2 (fun _ _ => trivial) (.inr ⟨rfl, rfl⟩) ?_)
      refine Ok.pure ⟨_, rfl, hE2, _, _, _, _, _, _, rfl, by simpa using hW2, ?_⟩
      rw [List.length_append, List.length_singleton, Nat.pow_succ]
      omega
  · rintro ρ m1 ⟨hE, w, t3, t4, t5, t6, t7, rfl, hW, hwl⟩
    try simp -implicitDefEqProofs only [runF, exs, ex, ev, evT, evI, evs, evAnd, evOr, evAndT, evOrT, QL.t3, QL.s3, QL.tr, bind_pure, bind_assoc, List.length_cons, List.length_nil, if_true, List.map_cons, List.map_nil, List.cons_append, List.nil_append, Nat.reduceAdd, Nat.reduceSub, List.replicate, getM_zero, getM_succ, items_tup, items_lst, List.set, ofO_some, compF, compF2, setT, setU, setAll, wipeE, truth_bl, nox_pure]
    refine Ok.pure ⟨hE, w, rfl, hW, ?_⟩
    have : 7 ^ T.length ≤ 7 ^ 6 := Nat.pow_le_pow_right (by omega) hTl
    omega
end QV
end
section
set_option linter.all false
set_option maxRecDepth 100000
set_option autoImplicit false
/-! QT: what all pairings leave and what all sets show; jars. -/
namespace QV
open PySem QL QP
theorem sum_sm : ∀ ns : List Nat, ns.sum = QM.sm ns.length fun k => ns.getD k 0 := by
  intro ns
  have gen : ∀ i, i ≤ ns.length → (ns.take i).sum = QM.sm i fun k => ns.getD k 0 := by
    intro i
    induction i with
    | zero => intro _; rfl
    | succ i ih =>
      intro hi
      rw [List.take_succ_eq_append_getElem (by omega), List.sum_append, ih (by omega)]
      show _ = (QM.sm i fun k => ns.getD k 0) + ns.getD i 0
      rw [show ns.getD i 0 = ns[i] by rw [List.getD_eq_getElem?_getD, List.getElem?_eq_getElem (by omega)]; rfl]
      simp
  have := gen ns.length (Nat.le_refl _)
  rw [List.take_length] at this
  exact this
theorem use_net {q : Nat} {T : List (Nat × Nat)} (hq : ∀ p ∈ T, p.1 < q ∧ p.2 < q) (f : Nat → Nat) (k : Nat) : QM.use (netOf q T hq) f k = QM.sm T.length fun e => f e * cntP (tA T e) k := rfl
theorem sm_sub {q : Nat} {f g h : Nat → Nat} (e : ∀ k, k < q → f k + g k = h k) : QM.sm q f + QM.sm q g = QM.sm q h := by
  rw [← QM.sm_add]
  exact QM.sm_eq e
theorem cnt_out {q : Nat} {T : List (Nat × Nat)} (hq : ∀ p ∈ T, p.1 < q ∧ p.2 < q) (f : Nat → Nat) {k : Nat} (hk : q ≤ k) : (QM.sm T.length fun e => f e * cntP (tA T e) k) = 0 := by
  rw [QM.sm_eq (g := fun _ => 0) fun e he => ?_, QM.sm_zero]
  have := hq _ (tA_mem he)
  unfold cntP
  rw [if_neg (by omega), if_neg (by omega)]
  rfl
theorem feas_of {q : Nat} {T : List (Nat × Nat)} (hq : ∀ p ∈ T, p.1 < q ∧ p.2 < q) {n f : Nat → Nat} (h : ∀ k, k < q → (QM.sm T.length fun e => f e * cntP (tA T e) k) ≤ n k) : QM.Feas (netOf q T hq) n f := fun k => by
  rw [use_net]
  by_cases hk : k < q
  · exact h k hk
  · rw [cnt_out hq f (by omega)]; omega
/-- what a pairing leaves in all -/
theorem way_sum {T : List (Nat × Nat)} {ns : List Nat} {w : List Way} (hT : TOk ns.length T) (W : WOk T ns T.length w) {x : Way} (hx : x ∈ w) : (x.2.sum : Int) = (QM.sm ns.length fun k => ns.getD k 0 : Nat) - 2 * (QM.tot (netOf ns.length T hT.lt) (fun e => x.1.getD e 0) : Int) := by
  obtain ⟨h1, h2, h3⟩ := W.snd x hx
  have e1 := sm_sub h3
  have e2 : QM.sm ns.length (QM.use (netOf ns.length T hT.lt) fun e => x.1.getD e 0) = 2 * QM.tot (netOf ns.length T hT.lt) (fun e => x.1.getD e 0) := QM.use_sum (T := netOf ns.length T hT.lt) (fun e => x.1.getD e 0)
  have e3 : QM.sm ns.length (QM.use (netOf ns.length T hT.lt) fun e => x.1.getD e 0) = QM.sm ns.length fun k => QM.sm T.length fun e => x.1.getD e 0 * cntP (tA T e) k := rfl
  have e4 := sum_sm x.2
  rw [h2] at e4
  omega
theorem oval_nat (q : Nat) (T : List (Nat × Nat)) (U : List Nat) (ns : List Nat) : oval q T U ns = QM.value (fun k => ns.getD k 0) U (loneL q T U) (ownL q T U) := valI_nat ns U _ _
/-- no pairing leaves less than a set shows -/
theorem ways_weak {T : List (Nat × Nat)} {ns : List Nat} {w : List Way} (hT : TOk ns.length T) (W : WOk T ns T.length w) {U : List Nat} (hU : U ∈ subL ns.length) {x : Way} (hx : x ∈ w) : oval ns.length T U ns ≤ (x.2.sum : Nat) := by
  obtain ⟨h1, h2, h3⟩ := W.snd x hx
  have hs := sub_mem hU
  have hw := QM.weak (n := fun k => ns.getD k 0) (own_cut hT.lt hs.1 hs.2) (feas_of hT.lt (f := fun e => x.1.getD e 0) fun k hk => by have := h3 k hk; omega)
  rw [way_sum hT W hx, oval_nat]
  exact hw
/-- some set shows what some pairing leaves -/
theorem ways_tight {T : List (Nat × Nat)} {ns : List Nat} {w : List Way} (hT : TOk ns.length T) (W : WOk T ns T.length w) : ∃ U ∈ subL ns.length, ∃ x ∈ w, (x.2.sum : Int) ≤ oval ns.length T U ns := by
  obtain ⟨P, hP⟩ := QM.tutte_berge (netOf ns.length T hT.lt) _ (fun k => ns.getD k 0) rfl
  obtain ⟨U, hU, hUP⟩ := sub_all (q := ns.length) P
  have hs := sub_mem hU
  obtain ⟨f, hf⟩ := QM.best_ex (netOf ns.length T hT.lt) fun k => ns.getD k 0
  have h1 := hP U _ _ hUP (own_cut hT.lt hs.1 hs.2) f hf
  obtain ⟨x, hx, he⟩ := W.cpl f fun k hk => hf.1 k
  refine ⟨U, hU, x, hx, ?_⟩
  rw [way_sum hT W hx, oval_nat]
  have : QM.tot (netOf ns.length T hT.lt) (fun e => x.1.getD e 0) = QM.tot (netOf ns.length T hT.lt) f := QM.sm_eq fun e hee => he e hee
  rw [this]
  exact h1
/-- what a pairing of the law leaves, as the program has it -/
theorem way_rest {T : List (Nat × Nat)} {ns : List Nat} {w : List Way} (W : WOk T ns T.length w) {x : Way} (hx : x ∈ w) : restZ (ns.map cI) T x.1 = x.2.map cI := by
  obtain ⟨h1, h2, h3⟩ := W.snd x hx
  refine list_ext (d := 0) (by unfold restZ; simp [h2]) fun k hk => ?_
  have hk : k < ns.length := by unfold restZ at hk; simpa using hk
  unfold restZ
  rw [getD_range _ _ (by simpa using hk)]
  have gc : ∀ l : List Nat, (l.map cI).getD k 0 = ((l.getD k 0 : Nat) : Int) := fun l => by
    rw [List.getD_eq_getElem?_getD, List.getD_eq_getElem?_getD, List.getElem?_map]
    cases l[k]? <;> rfl
  rw [gc, gc]
  have := h3 k hk
  unfold useN
  omega
theorem way_use {T : List (Nat × Nat)} {ns : List Nat} {w : List Way} (W : WOk T ns T.length w) {x : Way} (hx : x ∈ w) : ∀ k, k < ns.length → useN T x.1 k ≤ ns.getD k 0 := fun k hk => by
  have := (W.snd x hx).2.2 k hk
  unfold useN
  omega
theorem cnt_le {T : List (Nat × Nat)} {ns cs : List Nat} (hT : TOk ns.length T) (hc : cs.length = T.length) (h : ∀ k, k < ns.length → useN T cs k ≤ ns.getD k 0) {B : Nat} (hB : ∀ k, ns.getD k 0 ≤ B) : ∀ c ∈ cs, c ≤ B := fun c hcm => by
  obtain ⟨e, he, rfl⟩ := List.mem_iff_getElem.mp hcm
  have hp := hT.lt _ (tA_mem (T := T) (e := e) (by omega))
  have h1 := h _ hp.1
  have h2 := hB (tA T e).1
  have h3 : (fun e => cs.getD e 0 * cntP (tA T e) (tA T e).1) e ≤ useN T cs (tA T e).1 := QM.sm_get (f := fun e' => cs.getD e' 0 * cntP (tA T e') (tA T e).1) (m := T.length) (e := e) (by omega)
  have h4 : 1 ≤ cntP (tA T e) (tA T e).1 := by unfold cntP; rw [if_pos rfl]; omega
  have h5 : cs.getD e 0 = cs[e] := by rw [List.getD_eq_getElem?_getD, List.getElem?_eq_getElem he]; rfl
  have h6 : cs.getD e 0 * 1 ≤ cs.getD e 0 * cntP (tA T e) (tA T e).1 := Nat.mul_le_mul_left _ h4
  simp only at h3
  omega
theorem perm_map_inv {α β : Type} {f : α → β} {l l' : List β} (p : l.Perm l') : ∀ U : List α, l' = U.map f → ∃ L : List α, L.Perm U ∧ l = L.map f := by
  induction p with
  | nil => intro U e; cases U with
    | nil => exact ⟨[], .nil, rfl⟩
    | cons _ _ => cases e
  | cons x _ ih => intro U e; cases U with
    | nil => cases e
    | cons u U =>
      simp only [List.map_cons, List.cons.injEq] at e
      obtain ⟨L, hL, e2⟩ := ih U e.2
      exact ⟨u :: L, hL.cons u, by rw [List.map_cons, e.1, e2]⟩
  | swap x y l => intro U e; cases U with
    | nil => cases e
    | cons u U => cases U with
      | nil => cases e
      | cons v U =>
        simp only [List.map_cons, List.cons.injEq] at e
        exact ⟨v :: u :: U, List.Perm.swap u v U, by rw [List.map_cons, List.map_cons, e.1, e.2.1, e.2.2]⟩
  | trans _ _ ih1 ih2 => intro U e
                         obtain ⟨L2, h2, e2⟩ := ih2 U e
                         obtain ⟨L1, h1, e1⟩ := ih1 L2 e2
                         exact ⟨L1, h1.trans h2, e1⟩
theorem getM_pD (p : Nat × Nat) : pD p = .tup [nI p.1, nI p.2] := rfl
theorem as_paper (n : Nat) {ws : List Str} {T : List (Nat × Nat)} (h : WsOk ws) (hT : TOk ws.length T) {cs : List Nat} (hc : cs.length = T.length) : run PT (n + 1) 10 [netD ws T, .tup (cs.map nI)] = M.pure (paperD ws T cs) := by
  have hlim : 10000 ≤ LIM := by decide
  have hTl := hT.len h.le
  rw [run_s (fn := f10) rfl]
  try simp -implicitDefEqProofs only [runF, exs, ex, ev, evT, evI, evs, evAnd, evOr, evAndT, evOrT, QL.t3, QL.s3, QL.tr, bind_pure, bind_assoc, List.length_cons, List.length_nil, if_true, List.map_cons, List.map_nil, List.cons_append, List.nil_append, Nat.reduceAdd, Nat.reduceSub, List.replicate, getM_zero, getM_succ, items_tup, items_lst, List.set, ofO_some, compF, compF2, setT, setU, setAll, wipeE, truth_bl, nox_pure, f10, recvX, recvG, m1_lenT, List.length_map]
  rw [rangeM_nat (by omega), bind_pure, lim_ok (by simp; omega), bind_pure, compL_map (c := nI) (g := rowD ws T cs)]
  rotate_left
  · intro e he
    have he := List.mem_range.mp he
    have hp := hT.lt _ (tA_mem (T := T) (e := e) (by omega))
    have hl : doM2 .ix (.tup (T.map (linkD ws))) (nI e) = M.pure (linkD ws (tA T e)) := ix_nT (by rw [List.getElem?_map, List.getElem?_eq_getElem (by omega), ← tA_get (by omega)]; rfl)
    try simp -implicitDefEqProofs only [runF, exs, ex, ev, evT, evI, evs, evAnd, evOr, evAndT, evOrT, QL.t3, QL.s3, QL.tr, bind_pure, bind_assoc, List.length_cons, List.length_nil, if_true, List.map_cons, List.map_nil, List.cons_append, List.nil_append, Nat.reduceAdd, Nat.reduceSub, List.replicate, getM_zero, getM_succ, items_tup, items_lst, List.set, ofO_some, compF, compF2, setT, setU, setAll, wipeE, truth_bl, nox_pure]
    rw [show doM2 .ix (netD ws T) (.int 1) = M.pure (.tup (T.map (linkD ws))) from ixL_1 _ _ _]
    try simp -implicitDefEqProofs only [runF, exs, ex, ev, evT, evI, evs, evAnd, evOr, evAndT, evOrT, QL.t3, QL.s3, QL.tr, bind_pure, bind_assoc, List.length_cons, List.length_nil, if_true, List.map_cons, List.map_nil, List.cons_append, List.nil_append, Nat.reduceAdd, Nat.reduceSub, List.replicate, getM_zero, getM_succ, items_tup, items_lst, List.set, ofO_some, compF, compF2, setT, setU, setAll, wipeE, truth_bl, nox_pure, hl, ix_nsT he]
    unfold linkD
    try simp -implicitDefEqProofs only [runF, exs, ex, ev, evT, evI, evs, evAnd, evOr, evAndT, evOrT, QL.t3, QL.s3, QL.tr, bind_pure, bind_assoc, List.length_cons, List.length_nil, if_true, List.map_cons, List.map_nil, List.cons_append, List.nil_append, Nat.reduceAdd, Nat.reduceSub, List.replicate, getM_zero, getM_succ, items_tup, items_lst, List.set, ofO_some, compF, compF2, setT, setU, setAll, wipeE, truth_bl, nox_pure, ixT_0, ixT_1, ix_nsT he]
    rfl
  try simp -implicitDefEqProofs only [runF, exs, ex, ev, evT, evI, evs, evAnd, evOr, evAndT, evOrT, QL.t3, QL.s3, QL.tr, bind_pure, bind_assoc, List.length_cons, List.length_nil, if_true, List.map_cons, List.map_nil, List.cons_append, List.nil_append, Nat.reduceAdd, Nat.reduceSub, List.replicate, getM_zero, getM_succ, items_tup, items_lst, List.set, ofO_some, compF, compF2, setT, setU, setAll, wipeE, truth_bl, nox_pure]
  rw [lim_ok (by simp; omega), bind_pure, compL_filter (c := rowD ws T cs) (p := fun e => decide (0 < cs.getD e 0)) (g := rowD ws T cs)]
  · try simp -implicitDefEqProofs only [runF, exs, ex, ev, evT, evI, evs, evAnd, evOr, evAndT, evOrT, QL.t3, QL.s3, QL.tr, bind_pure, bind_assoc, List.length_cons, List.length_nil, if_true, List.map_cons, List.map_nil, List.cons_append, List.nil_append, Nat.reduceAdd, Nat.reduceSub, List.replicate, getM_zero, getM_succ, items_tup, items_lst, List.set, ofO_some, compF, compF2, setT, setU, setAll, wipeE, truth_bl, nox_pure, m1_tuple]
    rfl
  · intro e he
    try simp -implicitDefEqProofs only [runF, exs, ex, ev, evT, evI, evs, evAnd, evOr, evAndT, evOrT, QL.t3, QL.s3, QL.tr, bind_pure, bind_assoc, List.length_cons, List.length_nil, if_true, List.map_cons, List.map_nil, List.cons_append, List.nil_append, Nat.reduceAdd, Nat.reduceSub, List.replicate, getM_zero, getM_succ, items_tup, items_lst, List.set, ofO_some, compF, compF2, setT, setU, setAll, wipeE, truth_bl, nox_pure]
    rw [show doM2 .ix (rowD ws T cs e) (.int 2) = M.pure (nI (cs.getD e 0)) from ixT_2 _ _ _ _, bind_pure]
    rw [show doM2 .gt (nI (cs.getD e 0)) (.int 0) = M.pure (.bl (decide (0 < cs.getD e 0))) by
      unfold nI; rw [m2_gt]; congr 2; exact decide_eq_decide.mpr (by omega)]
    try simp -implicitDefEqProofs only [runF, exs, ex, ev, evT, evI, evs, evAnd, evOr, evAndT, evOrT, QL.t3, QL.s3, QL.tr, bind_pure, bind_assoc, List.length_cons, List.length_nil, if_true, List.map_cons, List.map_nil, List.cons_append, List.nil_append, Nat.reduceAdd, Nat.reduceSub, List.replicate, getM_zero, getM_succ, items_tup, items_lst, List.set, ofO_some, compF, compF2, setT, setU, setAll, wipeE, truth_bl, nox_pure]
    cases decide (0 < cs.getD e 0) <;> rfl
theorem new_jar (n : Nat) (ns : List Int) (hl : ns.length ≤ 63) {k : Nat} (hk : k ≤ 10) (m : Mem) : Ok (run PT (n + 1) 2 [.scr ns, nI k]) m fun d m' => d = .ref m.length ∧ Ext m m' ∧ Jar m.length 0 m' := by
  have hlim : 10000 ≤ LIM := by decide
  rw [run_s (fn := f2) rfl]
  try simp -implicitDefEqProofs only [runF, exs, ex, ev, evT, evI, evs, evAnd, evOr, evAndT, evOrT, QL.t3, QL.s3, QL.tr, bind_pure, bind_assoc, List.length_cons, List.length_nil, if_true, List.map_cons, List.map_nil, List.cons_append, List.nil_append, Nat.reduceAdd, Nat.reduceSub, List.replicate, getM_zero, getM_succ, items_tup, items_lst, List.set, ofO_some, compF, compF2, setT, setU, setAll, wipeE, truth_bl, nox_pure, f2, recvL, recvX, recvA, recvMul, recvM', recvSlT, recvGe, show doM1 .len (.scr ns) = M.pure (.int ns.length) from rfl]
  rw [show doM2 .lt (nI k) (.int ns.length) = M.pure (.bl (decide (k < ns.length))) by
    unfold nI; rw [m2_lt]; congr 2; exact decide_eq_decide.mpr (by omega)]
  try simp -implicitDefEqProofs only [runF, exs, ex, ev, evT, evI, evs, evAnd, evOr, evAndT, evOrT, QL.t3, QL.s3, QL.tr, bind_pure, bind_assoc, List.length_cons, List.length_nil, if_true, List.map_cons, List.map_nil, List.cons_append, List.nil_append, Nat.reduceAdd, Nat.reduceSub, List.replicate, getM_zero, getM_succ, items_tup, items_lst, List.set, ofO_some, compF, compF2, setT, setU, setAll, wipeE, truth_bl, nox_pure]
  refine Ok.bind (Ok.mono (Q := fun d m' => m' = m ∧ ∃ c : Int, d = .int c) ?_ ?_)
  · by_cases h : k < ns.length
    · rw [decide_eq_true h]
      try simp -implicitDefEqProofs only [runF, exs, ex, ev, evT, evI, evs, evAnd, evOr, evAndT, evOrT, QL.t3, QL.s3, QL.tr, bind_pure, bind_assoc, List.length_cons, List.length_nil, if_true, List.map_cons, List.map_nil, List.cons_append, List.nil_append, Nat.reduceAdd, Nat.reduceSub, List.replicate, getM_zero, getM_succ, items_tup, items_lst, List.set, ofO_some, compF, compF2, setT, setU, setAll, wipeE, truth_bl, nox_pure]
      have : doM2 .ix (.scr ns) (nI k) = M.pure (.int ns[k]) := by
        funext m
        show ofO ((ixN ns.length (k : Int)).bind fun j => (ns[j]?).map D.int) m = _
        unfold ixN
        rw [if_pos (by omega), if_pos (by omega), Int.toNat_natCast]
        show ofO ((ns[k]?).map D.int) m = _
        rw [List.getElem?_eq_getElem h]
        rfl
      rw [this]
      try simp -implicitDefEqProofs only [runF, exs, ex, ev, evT, evI, evs, evAnd, evOr, evAndT, evOrT, QL.t3, QL.s3, QL.tr, bind_pure, bind_assoc, List.length_cons, List.length_nil, if_true, List.map_cons, List.map_nil, List.cons_append, List.nil_append, Nat.reduceAdd, Nat.reduceSub, List.replicate, getM_zero, getM_succ, items_tup, items_lst, List.set, ofO_some, compF, compF2, setT, setU, setAll, wipeE, truth_bl, nox_pure, m1_int]
      exact Ok.pure ⟨rfl, _, rfl⟩
    · rw [decide_eq_false h]
      try simp -implicitDefEqProofs only [runF, exs, ex, ev, evT, evI, evs, evAnd, evOr, evAndT, evOrT, QL.t3, QL.s3, QL.tr, bind_pure, bind_assoc, List.length_cons, List.length_nil, if_true, List.map_cons, List.map_nil, List.cons_append, List.nil_append, Nat.reduceAdd, Nat.reduceSub, List.replicate, getM_zero, getM_succ, items_tup, items_lst, List.set, ofO_some, compF, compF2, setT, setU, setAll, wipeE, truth_bl, nox_pure, Bool.false_eq_true, if_false]
      exact Ok.pure ⟨rfl, _, rfl⟩
  rintro _ m' ⟨hm, c, rfl⟩
  subst m'
  try simp -implicitDefEqProofs only [runF, exs, ex, ev, evT, evI, evs, evAnd, evOr, evAndT, evOrT, QL.t3, QL.s3, QL.tr, bind_pure, bind_assoc, List.length_cons, List.length_nil, if_true, List.map_cons, List.map_nil, List.cons_append, List.nil_append, Nat.reduceAdd, Nat.reduceSub, List.replicate, getM_zero, getM_succ, items_tup, items_lst, List.set, ofO_some, compF, compF2, setT, setU, setAll, wipeE, truth_bl, nox_pure]
  unfold nI
  have hB : ∀ x : Int, 0 ≤ x → x ≤ 10 ^ 30 → x.natAbs < BIG := fun x h1 h2 => by
    have : (10 ^ 30 : Nat) < BIG := by decide
    have h3 : (x.natAbs : Int) ≤ 10 ^ 30 := by omega
    have h4 : x.natAbs ≤ 10 ^ 30 := by exact_mod_cast h3
    omega
  rw [m2_mul ⟨by decide, hB _ (by omega) (by omega)⟩]
  try simp -implicitDefEqProofs only [runF, exs, ex, ev, evT, evI, evs, evAnd, evOr, evAndT, evOrT, QL.t3, QL.s3, QL.tr, bind_pure, bind_assoc, List.length_cons, List.length_nil, if_true, List.map_cons, List.map_nil, List.cons_append, List.nil_append, Nat.reduceAdd, Nat.reduceSub, List.replicate, getM_zero, getM_succ, items_tup, items_lst, List.set, ofO_some, compF, compF2, setT, setU, setAll, wipeE, truth_bl, nox_pure, m2_add]
  rw [show doM2 .slT (.scr ns) (.int 5) = M.pure (.lst ((ns.take (sIx ns.length 5)).map .int)) from rfl]
  try simp -implicitDefEqProofs only [runF, exs, ex, ev, evT, evI, evs, evAnd, evOr, evAndT, evOrT, QL.t3, QL.s3, QL.tr, bind_pure, bind_assoc, List.length_cons, List.length_nil, if_true, List.map_cons, List.map_nil, List.cons_append, List.nil_append, Nat.reduceAdd, Nat.reduceSub, List.replicate, getM_zero, getM_succ, items_tup, items_lst, List.set, ofO_some, compF, compF2, setT, setU, setAll, wipeE, truth_bl, nox_pure]
  refine Ok.bind (Ok.forL (c := D.int) (fun pre ρ m' => m' = m ∧ ∃ (s : Int) (t4 : Option D), ρ = [some (.scr ns), some (.int (k : Int)), some (.int c), some (.int s), t4] ∧ 0 ≤ s ∧ s < 2147483587) ?_ ?_ ?_)
  · exact ⟨rfl, _, none, rfl, by omega, by omega⟩
  · rintro pre x post ρ m1 e ⟨hm, s, t4, rfl, h0, h1⟩
    subst m1
    try simp -implicitDefEqProofs only [runF, exs, ex, ev, evT, evI, evs, evAnd, evOr, evAndT, evOrT, QL.t3, QL.s3, QL.tr, bind_pure, bind_assoc, List.length_cons, List.length_nil, if_true, List.map_cons, List.map_nil, List.cons_append, List.nil_append, Nat.reduceAdd, Nat.reduceSub, List.replicate, getM_zero, getM_succ, items_tup, items_lst, List.set, ofO_some, compF, compF2, setT, setU, setAll, wipeE, truth_bl, nox_pure]
    rw [m2_mul ⟨hB _ h0 (by omega), by decide⟩]
    try simp -implicitDefEqProofs only [runF, exs, ex, ev, evT, evI, evs, evAnd, evOr, evAndT, evOrT, QL.t3, QL.s3, QL.tr, bind_pure, bind_assoc, List.length_cons, List.length_nil, if_true, List.map_cons, List.map_nil, List.cons_append, List.nil_append, Nat.reduceAdd, Nat.reduceSub, List.replicate, getM_zero, getM_succ, items_tup, items_lst, List.set, ofO_some, compF, compF2, setT, setU, setAll, wipeE, truth_bl, nox_pure, m1_int, m2_add, m2_mod (show (0 : Int) < 2147483629 by omega), m2_mod (show (0 : Int) < 2147483587 by omega)]
    exact Ok.pure ⟨_, rfl, rfl, _, _, rfl, Int.emod_nonneg _ (by omega), Int.emod_lt_of_pos _ (by omega)⟩
  · rintro ρ m1 ⟨hm, s, t4, rfl, h0, h1⟩
    subst m1
    try simp -implicitDefEqProofs only [runF, exs, ex, ev, evT, evI, evs, evAnd, evOr, evAndT, evOrT, QL.t3, QL.s3, QL.tr, bind_pure, bind_assoc, List.length_cons, List.length_nil, if_true, List.map_cons, List.map_nil, List.cons_append, List.nil_append, Nat.reduceAdd, Nat.reduceSub, List.replicate, getM_zero, getM_succ, items_tup, items_lst, List.set, ofO_some, compF, compF2, setT, setU, setAll, wipeE, truth_bl, nox_pure]
    rw [m2_mul ⟨hB _ h0 (by omega), by decide⟩]
    try simp -implicitDefEqProofs only [runF, exs, ex, ev, evT, evI, evs, evAnd, evOr, evAndT, evOrT, QL.t3, QL.s3, QL.tr, bind_pure, bind_assoc, List.length_cons, List.length_nil, if_true, List.map_cons, List.map_nil, List.cons_append, List.nil_append, Nat.reduceAdd, Nat.reduceSub, List.replicate, getM_zero, getM_succ, items_tup, items_lst, List.set, ofO_some, compF, compF2, setT, setU, setAll, wipeE, truth_bl, nox_pure, m1_int, m2_add, m2_mod (show (0 : Int) < 1999999943 by omega), m2_mod (show (0 : Int) < 2147483587 by omega)]
    have hab : ∀ c : Int, doM1 .abs (.int c) = M.pure (.int (if c < 0 then -c else c)) := fun _ => rfl
    have hpw : doM2 .pow (.int 10) (.int 18) = M.pure (.int 1000000000000000000) := by
      funext m
      show ofO (if 0 ≤ (18 : Int) ∧ (18 : Int) ≤ 1000000 ∧ (10 : Int).natAbs < 2 ^ 64 then some (D.int (10 ^ (18 : Int).toNat)) else none) m = _
      rw [if_pos (by decide)]
      rfl
    try simp -implicitDefEqProofs only [runF, exs, ex, ev, evT, evI, evs, evAnd, evOr, evAndT, evOrT, QL.t3, QL.s3, QL.tr, bind_pure, bind_assoc, List.length_cons, List.length_nil, if_true, List.map_cons, List.map_nil, List.cons_append, List.nil_append, Nat.reduceAdd, Nat.reduceSub, List.replicate, getM_zero, getM_succ, items_tup, items_lst, List.set, ofO_some, compF, compF2, setT, setU, setAll, wipeE, truth_bl, nox_pure, hab, show recvM .pow (.int 10) = M.pure ⟨⟩ from rfl, hpw, m2_ge, recvGe]
    have key : ∀ b : Int, 0 ≤ b → Ok (newM (.lst [.int ((s * 70139 + c % 1999999943 + 17) % 2147483587), .int b, .int 0])) m fun d m' => d = .ref m.length ∧ Ext m m' ∧ Jar m.length 0 m' := fun b hb =>
      ok_new ⟨rfl, Ext.app _ _, _, _, _, get_app _ _, Int.emod_nonneg _ (by omega), Int.emod_lt_of_pos _ (by omega), hb, by omega, by omega⟩
    have habs : 0 ≤ (if c < 0 then -c else c) := by split <;> omega
    by_cases h : 1000000000000000000 ≤ if c < 0 then -c else c
    · rw [decide_eq_true h]
      try simp -implicitDefEqProofs only [runF, exs, ex, ev, evT, evI, evs, evAnd, evOr, evAndT, evOrT, QL.t3, QL.s3, QL.tr, bind_pure, bind_assoc, List.length_cons, List.length_nil, if_true, List.map_cons, List.map_nil, List.cons_append, List.nil_append, Nat.reduceAdd, Nat.reduceSub, List.replicate, getM_zero, getM_succ, items_tup, items_lst, List.set, ofO_some, compF, compF2, setT, setU, setAll, wipeE, truth_bl, nox_pure, lsto3, bind_ret]
      exact key _ habs
    · rw [decide_eq_false h]
      try simp -implicitDefEqProofs only [runF, exs, ex, ev, evT, evI, evs, evAnd, evOr, evAndT, evOrT, QL.t3, QL.s3, QL.tr, bind_pure, bind_assoc, List.length_cons, List.length_nil, if_true, List.map_cons, List.map_nil, List.cons_append, List.nil_append, Nat.reduceAdd, Nat.reduceSub, List.replicate, getM_zero, getM_succ, items_tup, items_lst, List.set, ofO_some, compF, compF2, setT, setU, setAll, wipeE, truth_bl, nox_pure, lsto3, Bool.false_eq_true, if_false, bind_ret]
      exact key _ (by omega)
end QV
end
section
set_option linter.all false
set_option maxRecDepth 100000
set_option autoImplicit false
/-! QT2: the law of what stays over. -/
namespace QV
open PySem QL QP
theorem sum_cast (l : List Nat) : (l.map cI).sum = ((l.sum : Nat) : Int) := by
  induction l with
  | nil => rfl
  | cons a r ih => rw [List.map_cons, List.sum_cons, List.sum_cons, ih]; simp [cI]
theorem sum_nI (l : List Nat) : doM1 .sum (.lst (l.map nI)) = M.pure (.int (l.sum : Nat)) := by
  have := m1_sum (l.map cI)
  rw [List.map_map, sum_cast] at this
  exact this
theorem minL_mem : ∀ (r : List Int) (a : Int), r.foldl (fun x y => if y < x then y else x) a = a ∨ r.foldl (fun x y => if y < x then y else x) a ∈ r
  | [], a => .inl rfl
  | c :: r, a => by
    rw [List.foldl_cons]
    rcases minL_mem r (if c < a then c else a) with h | h
    · rw [h]
      split
      · exact .inr List.mem_cons_self
      · exact .inl rfl
    · exact .inr (List.mem_cons_of_mem _ h)
theorem minL_in {zs : List Int} (h : zs ≠ []) : minL zs ∈ zs := by
  cases zs with
  | nil => exact absurd rfl h
  | cons a r =>
    show r.foldl (fun x y => if y < x then y else x) a ∈ a :: r
    rcases minL_mem r a with e | e
    · rw [e]; exact List.mem_cons_self
    · exact List.mem_cons_of_mem _ e
theorem minL_lb {zs : List Int} {z : Int} (h : z ∈ zs) : minL zs ≤ z := by
  cases zs with
  | nil => cases h
  | cons a r =>
    have := (minL_le r a (minL (a :: r))).mp (Int.le_refl _)
    rcases List.mem_cons.mp h with rfl | h
    · exact this.1
    · exact this.2 z h
theorem m1_minL {zs : List Int} (h : zs ≠ []) : doM1 .min (.lst (zs.map .int)) = M.pure (.int (minL zs)) := by
  cases zs with
  | nil => exact absurd rfl h
  | cons a r =>
    funext m
    show ofO ((intsO ((a :: r).map .int)).map fun ns => D.int (minL ns)) m = _
    rw [intsO_map]
    rfl
theorem m1_lrange {q : Nat} (h : q ≤ 1000000) : doM1 .lrange (.int q) = M.pure (lD (List.range q)) := by
  funext m
  show ofO (if -1000000 ≤ (q : Int) ∧ (q : Int) ≤ 1000000 then some (D.lst (rangeL 0 q)) else none) m = _
  rw [if_pos (by omega)]
  have : rangeL 0 (q : Int) = (List.range q).map nI := by
    unfold rangeL
    rw [show ((q : Int) - 0).toNat = q by omega]
    exact List.map_congr_left fun k _ => by unfold nI; simp
  rw [this]
  rfl
theorem own_worth (n : Nat) {q : Nat} {T : List (Nat × Nat)} {U : List Nat} (hq : q ≤ 6) (hT : TOk q T) (nd : U.Nodup) (hU : ∀ k ∈ U, k < q) (ns : List Nat) (hn : ns.length = q) : run PT (n + 2) 12 [cutL q T U, .tup (ns.map nI), lD (List.range q)] = M.pure (.int (oval q T U ns)) := by
  have hlim : 10000 ≤ LIM := by decide
  have c := own_cut hT.lt nd hU
  have n1 := List.nodup_append.mp c.nd
  have m1 := List.nodup_append.mp n1.2.1
  have hall : ∀ k, k < q ↔ k ∈ U ++ (loneL q T U ++ (ownL q T U).flatten) := c.all
  have h1 : ∀ k ∈ loneL q T U, k < q := fun k hk => (hall k).mpr (List.mem_append_right _ (List.mem_append_left _ hk))
  have h2 : ∀ L ∈ ownL q T U, ∀ k ∈ L, k < q := fun L hL k hk => (hall k).mpr (List.mem_append_right _ (List.mem_append_right _ (List.mem_flatten.mpr ⟨L, hL, hk⟩)))
  have hol : (ownL q T U).length ≤ 100 := by
    have : ∀ (l : List (Nat × Nat)) (ls : List (List Nat)), (l.foldl mergeStep ls).length ≤ ls.length + l.length := by
      intro l
      induction l with
      | nil => intro ls; simp
      | cons a r ih =>
        intro ls
        rw [List.foldl_cons]
        have h1 := ih (mergeStep ls a)
        have h2 := merge_len ls a
        simp only [List.length_cons]
        omega
    have h3 := this (innerL T U) (own0 q T U)
    have h4 := List.length_filter_le (fun p : Nat × Nat => !decide (p.1 ∈ U) && !decide (p.2 ∈ U)) T
    have h5 := hT.len hq
    have h6 := keysL_len q U
    have h7 := List.length_filter_le (fun a => !decide (a ∈ loneL q T U)) (keysL q U)
    unfold own0 innerL at h3
    rw [List.length_map] at h3
    unfold ownL own0 innerL
    omega
  have e : D.tup (ns.map nI) = tI (ns.map cI) := by unfold tI; rw [List.map_map]; rfl
  rw [e]
  have hr : ∀ k, k < q → k < (ns.map cI).length ∧ k ∈ List.range q := fun k hk => ⟨by rw [List.length_map]; omega, List.mem_range.mpr hk⟩
  exact law_worth n (ns.map cI) U (loneL q T U) (List.range q) (ownL q T U)
    (fun L hL => ⟨fun k hk => hr k (h2 L hL k hk), by have := nodup_le ((own_ok hT.lt).ndL L hL) (h2 L hL); omega⟩) (by omega)
    ⟨fun k hk => (hr k (hU k hk)).1, by have := nodup_le nd hU; omega⟩ ⟨fun k hk => hr k (h1 k hk), by have := nodup_le m1.1 h1; omega⟩
theorem acc_over (n : Nat) {ws : List Str} {T : List (Nat × Nat)} {ns : List Nat} {w : List Way} (h : WsOk ws) (hT : TOk ws.length T) (hn : ns.length = ws.length) (hns : ∀ k, ns.getD k 0 ≤ 6) (W : WOk T ns T.length w) {x : Way} (hx : x ∈ w) {U L : List Nat} (hU : U ∈ subL ws.length) (hL : L.Perm U) (many : Int) (m : Mem) :
    Ok (run PT (n + 6) 13 [.tup [.str "over", .str (textS ws T), .tup (ns.map nI), .int many], .tup [paperD ws T x.1, lotD ws L]]) m fun d m' => Ext m m' ∧ d = .bl (decide ((x.2.sum : Int) = many ∧ oval ws.length T U ns = many ∧ 0 ≤ many)) := by
  obtain ⟨nd, hUq⟩ := sub_mem hU
  have hLq : ∀ k ∈ L, k < ws.length := fun k hk => hUq k (hL.mem_iff.mp hk)
  have ndL : L.Nodup := hL.nodup_iff.mpr nd
  have hT' : TOk ns.length T := hn ▸ hT
  have hc := (W.snd x hx).1
  have hu := way_use W hx
  have hb := cnt_le hT' hc hu hns
  have hbn : ∀ a ∈ ns, a ≤ 10 ^ 30 := fun a ha => by
    obtain ⟨k, hk, rfl⟩ := List.mem_iff_getElem.mp ha
    have := hns k
    rw [List.getD_eq_getElem?_getD, List.getElem?_eq_getElem hk] at this
    simp at this
    omega
  refine (accepts_over n h hT hLq ndL ns hn hbn x.1 hc (fun c hc => by have := hb c hc; have : 6 < BIG := by decide
                                                                       omega) (fun k hk => hu k (by omega)) many m).mono ?_
  rintro d m' ⟨he, rfl⟩
  refine ⟨he, ?_⟩
  rw [way_rest W hx, sum_cast, ← oval_eq hT nd hUq (nd_srtN ndL) (fun k => by rw [mem_srtN, hL.mem_iff]) ns]
theorem m1_repr (b : Bool) : doM1 .repr (.bl b) = M.pure (.str (if b then "True" else "False")) := rfl
theorem ne_repr (a b : Bool) : doM2 .ne (.str (if a then "True" else "False")) (.str (if b then "True" else "False")) = M.pure (.bl (!decide (a = b))) := by
  have hok : ∀ b : Bool, PyData.strOk (if b then ("True" : Str) else "False") = true := by decide +kernel
  rw [m2_neS (hok a) (hok b)]
  have : ∀ a b : Bool, decide ((if a then ("True" : Str) else "False") = if b then ("True" : Str) else "False") = decide (a = b) := by decide +kernel
  rw [this a b]
theorem m2_notB (a b : Bool) : doM2 .notB (.bl a) (.bl b) = M.pure (.bl (!decide (a = b))) := rfl
/-- what is known of a drawn rule, its pairings and its sets -/
structure Known (ws : List Str) (T : List (Nat × Nat)) (ns : List Nat) (w : List Way) (B : Int) : Prop where
  h : WsOk ws
  l3 : ws.length ≤ 3
  hT : TOk ws.length T
  hn : ns.length = ws.length
  hns : ∀ k, ns.getD k 0 ≤ 6
  W : WOk T ns T.length w
  wl : w.length ≤ 117649
  lb : ∀ x ∈ w, B ≤ (x.2.sum : Int)
  eq : ∃ x ∈ w, (x.2.sum : Int) = B
  ov : ∀ U ∈ subL ws.length, oval ws.length T U ns ≤ B
  tg : ∃ U ∈ subL ws.length, oval ws.length T U ns = B
theorem Known.nn {ws : List Str} {T : List (Nat × Nat)} {ns : List Nat} {w : List Way} {B : Int} (k : Known ws T ns w B) : 0 ≤ B := by
  obtain ⟨x, _, e⟩ := k.eq
  omega
theorem sum_le_get : ∀ (ns : List Nat) (k : Nat), ns.getD k 0 ≤ ns.sum
  | [], _ => by simp
  | a :: r, 0 => by simp
  | a :: r, k + 1 => by
    have := sum_le_get r k
    rw [List.getD_cons_succ, List.sum_cons]
    omega
theorem known_of {ws : List Str} {T : List (Nat × Nat)} {ns : List Nat} {w : List Way} (h : WsOk ws) (l3 : ws.length ≤ 3) (hT : TOk ws.length T) (hn : ns.length = ws.length) (hs : ns.sum ≤ 6) (W : WOk T ns T.length w) (wl : w.length ≤ 117649) :
    w ≠ [] ∧ Known ws T ns w (minL (w.map fun x => (x.2.sum : Int))) := by
  have hT' : TOk ns.length T := hn ▸ hT
  obtain ⟨U, hU, x, hx, ht⟩ := ways_tight hT' W
  have hne : w ≠ [] := fun z => by rw [z] at hx; cases hx
  have hne2 : (w.map fun x => (x.2.sum : Int)) ≠ [] := fun z => hne (List.map_eq_nil_iff.mp z)
  have lb : ∀ x ∈ w, minL (w.map fun x => (x.2.sum : Int)) ≤ (x.2.sum : Int) := fun x hx => minL_lb (List.mem_map.mpr ⟨x, hx, rfl⟩)
  obtain ⟨y, hy, e⟩ := List.mem_map.mp (minL_in hne2)
  have ov : ∀ U ∈ subL ws.length, oval ws.length T U ns ≤ minL (w.map fun x => (x.2.sum : Int)) := fun U hU => by
    rw [← e, ← hn]
    exact ways_weak hT' W (hn ▸ hU) hy
  refine ⟨hne, h, l3, hT, hn, fun k => Nat.le_trans (sum_le_get ns k) hs, W, wl, lb, ⟨y, hy, e⟩, ov, U, hn ▸ hU, ?_⟩
  have h1 := ov U (hn ▸ hU)
  have h2 := lb x hx
  rw [hn] at ht
  omega
theorem tri_3 : ∀ q, q ≤ 3 → (tri q).length ≤ 6 := by decide
theorem TOk.len3 {q : Nat} {T : List (Nat × Nat)} (h : TOk q T) (hq : q ≤ 3) : T.length ≤ 6 := by
  have h1 : (T.map key).length ≤ (tri q).length := sub_len h.nd fun x hx => by
    obtain ⟨p, hp, rfl⟩ := List.mem_map.mp hx
    have := h.lt p hp
    unfold tri key
    rw [List.mem_flatMap]
    refine ⟨min p.1 p.2, List.mem_range.mpr (by omega), List.mem_map.mpr ⟨max p.1 p.2, ?_, rfl⟩⟩
    rw [List.mem_filter]
    exact ⟨List.mem_range.mpr (by omega), decide_eq_true (by omega)⟩
  have := tri_3 q hq
  simp at h1
  omega
theorem cutL_0 (q : Nat) (T : List (Nat × Nat)) (U : List Nat) : doM2 .ix (cutL q T U) (.int 0) = M.pure (lD U) := ixL_0 _ _
theorem netD_0 (ws : List Str) (T : List (Nat × Nat)) : doM2 .ix (netD ws T) (.int 0) = M.pure (.tup (ws.map .str)) := ixL_0 _ _
theorem netD_1 (ws : List Str) (T : List (Nat × Nat)) : doM2 .ix (netD ws T) (.int 1) = M.pure (.tup (T.map (linkD ws))) := ixL_1 _ _ _
theorem items_lD (U : List Nat) : itemsOf (lD U) = M.pure (U.map nI) := rfl
theorem addNN (a b : Nat) : doM2 .add (.int (a : Int)) (.int (b : Int)) = M.pure (.int ((a + b : Nat) : Int)) := rfl
end QV
end
section
set_option linter.all false
set_option maxRecDepth 100000
set_option autoImplicit false
/-! QX: a rule without a tie. -/
namespace QV
open PySem QL QP
def sw (p : Nat × Nat) : Nat × Nat := (p.2, p.1)
def offT (T : List (Nat × Nat)) (p : Nat × Nat) : List (Nat × Nat) := T.filter fun r => !decide (r = p) && !decide (r = sw p)
theorem offT_ok {q : Nat} {T : List (Nat × Nat)} (h : TOk q T) (p : Nat × Nat) : TOk q (offT T p) := by
  refine ⟨fun r hr => h.lt r (List.mem_filter.mp hr).1, ?_⟩
  exact (List.Sublist.map key List.filter_sublist).nodup h.nd
/-- p is the e-th tie, in either order -/
def IsT (T : List (Nat × Nat)) (e : Nat) (p : Nat × Nat) : Prop := e < T.length ∧ (p = tA T e ∨ p = sw (tA T e))
theorem IsT.cnt {T : List (Nat × Nat)} {e : Nat} {p : Nat × Nat} (h : IsT T e p) (k : Nat) : cntP p k = cntP (tA T e) k := by
  rcases h.2 with rfl | rfl
  · rfl
  · unfold cntP sw; exact Nat.add_comm _ _
theorem IsT.key {T : List (Nat × Nat)} {e : Nat} {p : Nat × Nat} (h : IsT T e p) : key p = key (tA T e) := by
  rcases h.2 with rfl | rfl
  · rfl
  · exact key_swap _
theorem key_eq {p r : Nat × Nat} (h : key p = key r) : p = r ∨ p = sw r := by
  unfold key at h
  injection h with h1 h2
  by_cases e : p.1 = r.1
  · exact .inl (Prod.ext e (by omega))
  · exact .inr (Prod.ext (by show p.1 = r.2; omega) (by show p.2 = r.1; omega))
theorem sw_sw (p : Nat × Nat) : sw (sw p) = p := rfl
theorem key_sw (p : Nat × Nat) : key (sw p) = key p := key_swap p
theorem TOk.kinj {q : Nat} {T : List (Nat × Nat)} (h : TOk q T) {a b : Nat} (ha : a < T.length) (hb : b < T.length) (e : key (tA T a) = key (tA T b)) : a = b := by
  rw [tA_get ha, tA_get hb] at e
  have h3 : (T.map key)[a]'(by simpa using ha) = (T.map key)[b]'(by simpa using hb) := by simp [e]
  exact (List.getElem_inj h.nd).mp h3
theorem off_erase {q : Nat} {T : List (Nat × Nat)} (hT : TOk q T) {e : Nat} {p : Nat × Nat} (h : IsT T e p) : offT T p = T.eraseIdx e := by
  have gen : ∀ (l : List (Nat × Nat)) (e : Nat), e < l.length → (l.map key).Nodup → (∃ r, l[e]? = some r ∧ key r = key p) → offT l p = l.eraseIdx e := by
    intro l
    induction l with
    | nil => intro e he; cases he
    | cons a r ih =>
      intro e he nd hk
      rw [List.map_cons, List.nodup_cons] at nd
      cases e with
      | zero =>
        obtain ⟨r0, h1, h2⟩ := hk
        have h1 : a = r0 := by simpa using h1
        subst h1
        show List.filter _ (a :: r) = r
        have ha : (!decide (a = p) && !decide (a = sw p)) = false := by
          rcases key_eq h2 with z | z
          · simp [z]
          · simp [z]
        rw [List.filter_cons, ha]
        simp only [Bool.false_eq_true, if_false]
        rw [List.filter_eq_self]
        intro b hb
        have : key b ≠ key a := fun z => nd.1 (z ▸ List.mem_map.mpr ⟨b, hb, rfl⟩)
        rw [h2] at this
        have e1 : b ≠ p := fun z => this (by rw [z])
        have e2 : b ≠ sw p := fun z => this (by rw [z, key_sw])
        simp [e1, e2]
      | succ e =>
        obtain ⟨r0, h1, h2⟩ := hk
        have h1 : r[e]? = some r0 := by simpa using h1
        have hr0 : r0 ∈ r := List.mem_of_getElem? h1
        have hka : key a ≠ key p := fun z => nd.1 (by rw [z, ← h2]; exact List.mem_map.mpr ⟨r0, hr0, rfl⟩)
        have ha : (!decide (a = p) && !decide (a = sw p)) = true := by
          have e1 : a ≠ p := fun z => hka (by rw [z])
          have e2 : a ≠ sw p := fun z => hka (by rw [z, key_sw])
          simp [e1, e2]
        show List.filter _ (a :: r) = a :: r.eraseIdx e
        rw [List.filter_cons, ha]
        simp only [if_true]
        exact congrArg (a :: ·) (ih e (by simpa using he) nd.2 ⟨r0, h1, h2⟩)
  exact gen T e h.1 hT.nd ⟨tA T e, by rw [tA_get h.1]; exact List.getElem?_eq_getElem h.1, h.key.symm⟩
theorem sm_erase (f : Nat → Nat) : ∀ (m e : Nat), e ≤ m → QM.sm (m + 1) f = (QM.sm m fun i => f (if i < e then i else i + 1)) + f e
  | 0, e, h => by
    have : e = 0 := by omega
    subst this
    rfl
  | m + 1, e, h => by
    show QM.sm (m + 1) f + f (m + 1) = ((QM.sm m fun i => f (if i < e then i else i + 1)) + f (if m < e then m else m + 1)) + f e
    by_cases he : e ≤ m
    · rw [sm_erase f m e he, if_neg (by omega)]
      omega
    · have : e = m + 1 := by omega
      subst this
      rw [if_pos (by omega)]
      have : (QM.sm m fun i => f (if i < m + 1 then i else i + 1)) = QM.sm m f := QM.sm_eq fun i hi => by rw [if_pos (by omega)]
      rw [this]
      rfl
theorem tA_erase (T : List (Nat × Nat)) (e i : Nat) : tA (T.eraseIdx e) i = tA T (if i < e then i else i + 1) := by
  unfold tA
  rw [List.getD_eq_getElem?_getD, List.getD_eq_getElem?_getD, List.getElem?_eraseIdx]
  split <;> rfl
theorem getD_erase (cs : List Nat) (e i : Nat) : (cs.eraseIdx e).getD i 0 = cs.getD (if i < e then i else i + 1) 0 := by
  rw [List.getD_eq_getElem?_getD, List.getD_eq_getElem?_getD, List.getElem?_eraseIdx]
  split <;> rfl
theorem erase_len {T : List (Nat × Nat)} {e : Nat} (he : e < T.length) : (T.eraseIdx e).length + 1 = T.length := by
  rw [List.length_eraseIdx_of_lt he]
  omega
theorem room_sw (ns : List Nat) (p : Nat × Nat) : room ns (sw p) = room ns p := by
  unfold room sw
  by_cases h : p.1 = p.2
  · rw [if_pos h, if_pos h.symm, h]
  · rw [if_neg h, if_neg fun z => h z.symm, Nat.min_comm]
theorem IsT.room {T : List (Nat × Nat)} {e : Nat} {p : Nat × Nat} (h : IsT T e p) (ns : List Nat) : room ns p = QV.room ns (tA T e) := by
  rcases h.2 with rfl | rfl
  · rfl
  · exact room_sw ns _
/-- the pairings with t pairs of the e-th tie, this left out -/
def offW (w : List Way) (e t : Nat) : List Way := (w.filter fun x => decide (x.1.getD e 0 = t)).map fun x => (x.1.eraseIdx e, x.2)
theorem off_ok {q : Nat} {T : List (Nat × Nat)} {ns : List Nat} {w : List Way} (hT : TOk q T) (hn : ns.length = q) (W : WOk T ns T.length w) {e t : Nat} {p : Nat × Nat} (h : IsT T e p) (hp : p.1 < q ∧ p.2 < q) (ht : t ≤ room ns p) : WOk (T.eraseIdx e) (took ns p t) (T.eraseIdx e).length (offW w e t) := by
  have hl := erase_len h.1
  have hg : ∀ k, (took ns p t).getD k 0 + t * cntP (tA T e) k = ns.getD k 0 := fun k => by rw [← h.cnt]; exact took_get (by omega) (by omega) ht k
  have hsm : ∀ (f : Nat → Nat) (k : Nat), (QM.sm T.length fun i => f i * cntP (tA T i) k) = (QM.sm (T.eraseIdx e).length fun i => f (if i < e then i else i + 1) * cntP (tA (T.eraseIdx e) i) k) + f e * cntP (tA T e) k := fun f k => by
    rw [← hl, sm_erase _ _ e (by have := h.1; omega)]
    congr 1
    exact QM.sm_eq fun i _ => by rw [tA_erase]
  refine ⟨fun y hy => ?_, fun f hf => ?_⟩
  · obtain ⟨x, hx, rfl⟩ := List.mem_map.mp hy
    obtain ⟨hx, hxt⟩ := List.mem_filter.mp hx
    have hxt := of_decide_eq_true hxt
    obtain ⟨h1, h2, h3⟩ := W.snd x hx
    refine ⟨?_, by rw [took_len]; exact h2, fun k hk => ?_⟩
    · show (x.1.eraseIdx e).length = _
      rw [List.length_eraseIdx_of_lt (by have := h.1; omega), List.length_eraseIdx_of_lt h.1, h1]
    · rw [took_len] at hk
      have h4 := h3 k hk
      have h5 := hg k
      have h6 := hsm (fun i => x.1.getD i 0) k
      rw [hxt] at h6
      have h7 : (QM.sm (T.eraseIdx e).length fun i => (x.1.eraseIdx e).getD i 0 * cntP (tA (T.eraseIdx e) i) k) = QM.sm (T.eraseIdx e).length fun i => x.1.getD (if i < e then i else i + 1) 0 * cntP (tA (T.eraseIdx e) i) k := QM.sm_eq fun i _ => by rw [getD_erase]
      show x.2.getD k 0 + (QM.sm (T.eraseIdx e).length fun i => (x.1.eraseIdx e).getD i 0 * cntP (tA (T.eraseIdx e) i) k) = _
      rw [h7]
      omega
  · let g : Nat → Nat := fun i => if i < e then f i else if i = e then t else f (i - 1)
    have hge : g e = t := by show (if e < e then _ else if e = e then t else _) = t; rw [if_neg (by omega), if_pos rfl]
    have hgi : ∀ i, g (if i < e then i else i + 1) = f i := fun i => by
      by_cases hi : i < e
      · rw [if_pos hi]; show (if i < e then _ else _) = _; rw [if_pos hi]
      · rw [if_neg hi]; show (if i + 1 < e then _ else if i + 1 = e then t else f (i + 1 - 1)) = _; rw [if_neg (by omega), if_neg (by omega)]; rfl
    obtain ⟨x, hx, hxe⟩ := W.cpl g fun k hk => by
      rw [hsm g k, hge]
      have h1 := hf k (by rw [took_len]; exact hk)
      have h2 := hg k
      have h3 : (QM.sm (T.eraseIdx e).length fun i => g (if i < e then i else i + 1) * cntP (tA (T.eraseIdx e) i) k) = QM.sm (T.eraseIdx e).length fun i => f i * cntP (tA (T.eraseIdx e) i) k := QM.sm_eq fun i _ => by rw [hgi]
      rw [h3]
      omega
    refine ⟨(x.1.eraseIdx e, x.2), List.mem_map.mpr ⟨x, List.mem_filter.mpr ⟨hx, decide_eq_true (by rw [hxe e h.1, hge])⟩, rfl⟩, fun i hi => ?_⟩
    show (x.1.eraseIdx e).getD i 0 = f i
    rw [getD_erase, hxe _ (by split <;> omega), hgi]
/-- no best pairing has t pairs of the tie exactly if some set shows it -/
theorem without_math {q : Nat} {T : List (Nat × Nat)} {ns : List Nat} {w : List Way} (hT : TOk q T) (hn : ns.length = q) (W : WOk T ns T.length w) {B : Int} (lb : ∀ x ∈ w, B ≤ (x.2.sum : Int)) {e t : Nat} {p : Nat × Nat} (h : IsT T e p) (hp : p.1 < q ∧ p.2 < q) (ht : t ≤ room ns p) :
    (∃ U ∈ subL q, B < oval q (offT T p) U (took ns p t)) ↔ ¬ ∃ x ∈ w, (x.2.sum : Int) = B ∧ x.1.getD e 0 = t := by
  have W' := off_ok hT hn W h hp ht
  have hT' : TOk (took ns p t).length (T.eraseIdx e) := by rw [took_len, hn, ← off_erase hT h]; exact offT_ok hT p
  have hq : (took ns p t).length = q := by rw [took_len, hn]
  rw [off_erase hT h]
  constructor
  · rintro ⟨U, hU, hlt⟩ ⟨x, hx, hB, hxt⟩
    have := ways_weak hT' W' (U := U) (by rw [hq]; exact hU) (x := (x.1.eraseIdx e, x.2)) (List.mem_map.mpr ⟨x, List.mem_filter.mpr ⟨hx, decide_eq_true hxt⟩, rfl⟩)
    rw [hq] at this
    have : oval q (T.eraseIdx e) U (took ns p t) ≤ ((x.2.sum : Nat) : Int) := this
    omega
  · intro hno
    obtain ⟨U, hU, y, hy, hle⟩ := ways_tight hT' W'
    rw [hq] at hU hle
    obtain ⟨x, hx, rfl⟩ := List.mem_map.mp hy
    obtain ⟨hx, hxt⟩ := List.mem_filter.mp hx
    have hxt := of_decide_eq_true hxt
    have hle : ((x.2.sum : Nat) : Int) ≤ oval q (T.eraseIdx e) U (took ns p t) := hle
    refine ⟨U, hU, ?_⟩
    have h1 := lb x hx
    have h2 : (x.2.sum : Int) ≠ B := fun z => hno ⟨x, hx, z, hxt⟩
    omega
/-- no more pairs of a tie than there are things for -/
theorem way_room {q : Nat} {T : List (Nat × Nat)} {ns : List Nat} {w : List Way} (hT : TOk q T) (hn : ns.length = q) (W : WOk T ns T.length w) {e : Nat} {p : Nat × Nat} (h : IsT T e p) (hp : p.1 < q ∧ p.2 < q) {x : Way} (hx : x ∈ w) : x.1.getD e 0 ≤ room ns p := by
  refine room_max fun k hk => ?_
  have hkq : k < ns.length := by rcases hk with rfl | rfl <;> omega
  have h1 := (W.snd x hx).2.2 k hkq
  have h2 : (fun e' => x.1.getD e' 0 * cntP (tA T e') k) e ≤ QM.sm T.length fun e' => x.1.getD e' 0 * cntP (tA T e') k := QM.sm_get (f := fun e' => x.1.getD e' 0 * cntP (tA T e') k) h.1
  rw [h.cnt]
  simp only at h2
  omega
end QV
end
section
set_option linter.all false
set_option maxRecDepth 100000
set_option autoImplicit false
/-! QX2: the checker: without a number of pairs. -/
namespace QV
open PySem QL QP
theorem pD_inj {p r : Nat × Nat} : pD p = pD r ↔ p = r := by
  refine ⟨fun h => ?_, fun h => by rw [h]⟩
  unfold pD at h
  injection h with h
  injection h with h1 h2
  injection h2 with h2 _
  exact Prod.ext (nI_inj.mp h1) (nI_inj.mp h2)
theorem pD_mem {p : Nat × Nat} {l : List (Nat × Nat)} : pD p ∈ l.map pD ↔ p ∈ l := by
  simp only [List.mem_map, pD_inj, exists_eq_right]
theorem nbs_pD : ∀ l : List (Nat × Nat), nbs (l.map pD) = true
  | [] => rfl
  | a :: r => by show (nb (pD a) && nbs (r.map pD)) = true; rw [nbs_pD r]; rfl
theorem dpts_pD : ∀ l : List (Nat × Nat), dpts (l.map pD) ≤ 1
  | [] => Nat.zero_le _
  | a :: r => by
    have := dpts_pD r
    show max (dpt (pD a)) (dpts (r.map pD)) ≤ 1
    have e : dpt (pD a) = 1 := rfl
    rw [e]; omega
theorem notIn_pT (p : Nat × Nat) (l : List (Nat × Nat)) : doM2 .notIn (pD p) (.tup (l.map pD)) = M.pure (.bl (!decide (p ∈ l))) := by
  rw [m2_notInT (a := pD p) rfl (nbs_pD l) (by show (1 : Nat) ≤ 64; omega) (by have := dpts_pD l; omega)]
  simp only [pD_mem]
theorem notIn_pL (p : Nat × Nat) (l : List (Nat × Nat)) : doM2 .notIn (pD p) (.lst (l.map pD)) = M.pure (.bl (!decide (p ∈ l))) := by
  rw [m2_notInL (a := pD p) rfl (nbs_pD l) (by show (1 : Nat) ≤ 64; omega) (by have := dpts_pD l; omega)]
  simp only [pD_mem]
theorem off_bool (r p : Nat × Nat) : (!decide (r ∈ [p, sw p])) = (!decide (r = p) && !decide (r = sw p)) := by
  by_cases h1 : r = p
  · simp [h1]
  · by_cases h2 : r = sw p
    · simp [h2]
    · simp [h1, h2]
theorem getD_cI (l : List Nat) (k : Nat) : (l.map cI).getD k 0 = ((l.getD k 0 : Nat) : Int) := by
  rw [List.getD_eq_getElem?_getD, List.getD_eq_getElem?_getD, List.getElem?_map]
  cases l[k]? <;> rfl
theorem mov_took {ns : List Nat} {p : Nat × Nat} {t : Nat} (h1 : p.1 < ns.length) (h2 : p.2 < ns.length) (ht : t ≤ room ns p) : movI (ns.map cI) p (-(t : Int)) = (took ns p t).map cI := by
  refine list_ext (d := 0) (by unfold movI; simp [took_len]) fun k hk => ?_
  unfold movI at hk ⊢
  rw [List.length_map, List.length_range] at hk
  rw [getD_range _ _ hk, getD_cI, getD_cI]
  have := took_get h1 h2 ht k
  have e : -(t : Int) * (cntP p k : Int) = -((t * cntP p k : Nat) : Int) := by rw [Int.natCast_mul, Int.neg_mul]
  rw [e]
  omega
theorem nI_map (ns : List Nat) : D.tup (ns.map nI) = .tup ((ns.map cI).map .int) := by rw [List.map_map]; rfl
theorem m2_gtN (a b : Nat) : doM2 .gt (nI a) (nI b) = M.pure (.bl (decide (b < a))) := by
  unfold nI
  rw [m2_gt]
  congr 2
  exact decide_eq_decide.mpr (by omega)
theorem tupO3 (a b c : D) : tupO [a, b, c] = some (.tup [a, b, c]) := rfl
theorem without_nil (n : Nat) {ws : List Str} {T : List (Nat × Nat)} (h : WsOk ws) (hT : TOk ws.length T) {p : Nat × Nat} (hp : p.1 < ws.length ∧ p.2 < ws.length) (hpT : p ∈ T ∨ sw p ∈ T) (ns : List Nat) (hn : ns.length = ws.length) (t : Nat) :
    run PT (n + 3) 18 [ruleD ws T, .tup (ns.map nI), .tup [.str (wS ws p.1), .str (wS ws p.2), nI t], .tup []] = M.pure (.bl (decide (room ns p < t))) := by
  have hok : ∀ w ∈ ws, PyData.strOk w = true := fun w hw => (h.nm w hw).ok
  have hrm := room_for (n + 1) (rs := ns) (p := p) (by omega) (by omega)
  rw [show pD p = .tup [nI p.1, nI p.2] from rfl] at hrm
  rw [run_s (fn := f18) rfl]
  try simp -implicitDefEqProofs only [runF, exs, ex, ev, evT, evI, evs, evAnd, evOr, evAndT, evOrT, QL.t3, QL.s3, QL.tr, bind_pure, bind_assoc, List.length_cons, List.length_nil, if_true, List.map_cons, List.map_nil, List.cons_append, List.nil_append, Nat.reduceAdd, Nat.reduceSub, List.replicate, getM_zero, getM_succ, items_tup, items_lst, List.set, ofO_some, compF, compF2, setT, setU, setAll, wipeE, truth_bl, nox_pure, f18, recvNI, recvG, recvX, recvE, recvNe, recvIx]
  rw [show run PT (n + 2) 32 [nI t] = M.pure (.bl true) by unfold nI; rw [is_count n, decide_eq_true (by omega)]]
  have hit := is_told (n + 1) (ws := ws) (T := T) h hp hT.lt
  rw [decide_eq_true (show p ∈ T ∨ (p.2, p.1) ∈ T from hpT)] at hit
  unfold linkD at hit
  try simp -implicitDefEqProofs only [runF, exs, ex, ev, evT, evI, evs, evAnd, evOr, evAndT, evOrT, QL.t3, QL.s3, QL.tr, bind_pure, bind_assoc, List.length_cons, List.length_nil, if_true, List.map_cons, List.map_nil, List.cons_append, List.nil_append, Nat.reduceAdd, Nat.reduceSub, List.replicate, getM_zero, getM_succ, items_tup, items_lst, List.set, ofO_some, compF, compF2, setT, setU, setAll, wipeE, truth_bl, nox_pure, Bool.not_true, Bool.false_eq_true, if_false, attr0, attr1, notIn_wsT (h.at_ hp.1).ok hok, notIn_wsT (h.at_ hp.2).ok hok, decide_eq_true (wS_mem hp.1), decide_eq_true (wS_mem hp.2), tup2, recvIx]
  rw [show run PT (n + 2) 29 [.tup (T.map (linkD ws)), .tup [.str (wS ws p.1), .str (wS ws p.2)]] = M.pure (.bl true) from hit]
  try simp -implicitDefEqProofs only [runF, exs, ex, ev, evT, evI, evs, evAnd, evOr, evAndT, evOrT, QL.t3, QL.s3, QL.tr, bind_pure, bind_assoc, List.length_cons, List.length_nil, if_true, List.map_cons, List.map_nil, List.cons_append, List.nil_append, Nat.reduceAdd, Nat.reduceSub, List.replicate, getM_zero, getM_succ, items_tup, items_lst, List.set, ofO_some, compF, compF2, setT, setU, setAll, wipeE, truth_bl, nox_pure, Bool.not_true, Bool.false_eq_true, if_false, attr0, recvIx, index_ws h hp.1, index_ws h hp.2, tup2, hrm, m2_gtN]
  by_cases ht : room ns p < t
  · rw [decide_eq_true ht]
    try simp -implicitDefEqProofs only [runF, exs, ex, ev, evT, evI, evs, evAnd, evOr, evAndT, evOrT, QL.t3, QL.s3, QL.tr, bind_pure, bind_assoc, List.length_cons, List.length_nil, if_true, List.map_cons, List.map_nil, List.cons_append, List.nil_append, Nat.reduceAdd, Nat.reduceSub, List.replicate, getM_zero, getM_succ, items_tup, items_lst, List.set, ofO_some, compF, compF2, setT, setU, setAll, wipeE, truth_bl, nox_pure]
    rw [show tupO [] = some (D.tup []) from rfl, ofO_some, bind_pure, m2_eq (a := .tup []) (b := .tup []) rfl rfl (by decide) (by decide)]
    try simp -implicitDefEqProofs only [runF, exs, ex, ev, evT, evI, evs, evAnd, evOr, evAndT, evOrT, QL.t3, QL.s3, QL.tr, bind_pure, bind_assoc, List.length_cons, List.length_nil, if_true, List.map_cons, List.map_nil, List.cons_append, List.nil_append, Nat.reduceAdd, Nat.reduceSub, List.replicate, getM_zero, getM_succ, items_tup, items_lst, List.set, ofO_some, compF, compF2, setT, setU, setAll, wipeE, truth_bl, nox_pure, decide_true]
  · rw [decide_eq_false ht]
    try simp -implicitDefEqProofs only [runF, exs, ex, ev, evT, evI, evs, evAnd, evOr, evAndT, evOrT, QL.t3, QL.s3, QL.tr, bind_pure, bind_assoc, List.length_cons, List.length_nil, if_true, List.map_cons, List.map_nil, List.cons_append, List.nil_append, Nat.reduceAdd, Nat.reduceSub, List.replicate, getM_zero, getM_succ, items_tup, items_lst, List.set, ofO_some, compF, compF2, setT, setU, setAll, wipeE, truth_bl, nox_pure, Bool.false_eq_true, if_false, show isiO .tuple (.tup []) = some true from rfl, Bool.not_true, m1_lenT, m2_neI]
    rfl
theorem pmem_sw {T : List (Nat × Nat)} {p : Nat × Nat} {q : Nat} (hT : TOk q T) (h : p ∈ T ∨ sw p ∈ T) : p.1 < q ∧ p.2 < q := by
  rcases h with h | h
  · exact hT.lt p h
  · have := hT.lt _ h
    exact ⟨this.2, this.1⟩
theorem without_pair (n : Nat) {ws : List Str} {T : List (Nat × Nat)} (h : WsOk ws) (hT : TOk ws.length T) {p : Nat × Nat} (hpT : p ∈ T ∨ sw p ∈ T) {L : List Nat} (hL : ∀ k ∈ L, k < ws.length) (nd : L.Nodup) (ns : List Nat) (hn : ns.length = ws.length) (cs : List Nat) (hc : cs.length = T.length) (hb : ∀ c ∈ cs, c < BIG)
    (hr : ∀ k, k < ws.length → useN T cs k ≤ ns.getD k 0) (t : Nat) (ht : t ≤ room ns p) (hbt : t < BIG) (m : Mem) :
    Ok (run PT (n + 5) 18 [ruleD ws T, .tup (ns.map nI), .tup [.str (wS ws p.1), .str (wS ws p.2), nI t], .tup [paperD ws T cs, lotD ws L]]) m fun d m' => Ext m m' ∧ d = .bl (decide ((restZ (ns.map cI) T cs).sum < pval ws.length (offT T p) (srtN L) (took ns p t))) := by
  have hlim : 10000 ≤ LIM := by decide
  have hp := pmem_sw hT hpT
  have hle := h.le
  have hpos := h.pos
  have hTl := hT.len hle
  have hll := nodup_le nd hL
  have hok : ∀ w ∈ ws, PyData.strOk w = true := fun w hw => (h.nm w hw).ok
  have hrm := room_for (n + 3) (rs := ns) (p := p) (by omega) (by omega)
  rw [show pD p = .tup [nI p.1, nI p.2] from rfl] at hrm
  have hall : ((restZ (ns.map cI) T cs).all fun z => decide (0 ≤ z)) = true := by
    rw [List.all_eq_true]
    intro z hz
    unfold restZ at hz
    obtain ⟨k, hk, rfl⟩ := List.mem_map.mp hz
    have hk := List.mem_range.mp hk
    rw [List.length_map] at hk
    have h1 := hr k (by omega)
    rw [getD_cI]
    exact decide_eq_true (by omega)
  rw [run_s (fn := f18) rfl]
  try simp -implicitDefEqProofs only [runF, exs, ex, ev, evT, evI, evs, evAnd, evOr, evAndT, evOrT, QL.t3, QL.s3, QL.tr, bind_pure, bind_assoc, List.length_cons, List.length_nil, if_true, List.map_cons, List.map_nil, List.cons_append, List.nil_append, Nat.reduceAdd, Nat.reduceSub, List.replicate, getM_zero, getM_succ, items_tup, items_lst, List.set, ofO_some, compF, compF2, setT, setU, setAll, wipeE, truth_bl, nox_pure, f18, recvNI, recvG, recvX, recvE, recvNe, recvIx]
  rw [show run PT (n + 4) 32 [nI t] = M.pure (.bl true) by unfold nI; rw [is_count (n + 2), decide_eq_true (by omega)]]
  have hit := is_told (n + 3) (ws := ws) (T := T) h hp hT.lt
  rw [decide_eq_true (show p ∈ T ∨ (p.2, p.1) ∈ T from hpT)] at hit
  unfold linkD at hit
  try simp -implicitDefEqProofs only [runF, exs, ex, ev, evT, evI, evs, evAnd, evOr, evAndT, evOrT, QL.t3, QL.s3, QL.tr, bind_pure, bind_assoc, List.length_cons, List.length_nil, if_true, List.map_cons, List.map_nil, List.cons_append, List.nil_append, Nat.reduceAdd, Nat.reduceSub, List.replicate, getM_zero, getM_succ, items_tup, items_lst, List.set, ofO_some, compF, compF2, setT, setU, setAll, wipeE, truth_bl, nox_pure, Bool.not_true, Bool.false_eq_true, if_false, attr0, attr1, notIn_wsT (h.at_ hp.1).ok hok, notIn_wsT (h.at_ hp.2).ok hok, decide_eq_true (wS_mem hp.1), decide_eq_true (wS_mem hp.2), tup2, recvIx]
  rw [show run PT (n + 4) 29 [.tup (T.map (linkD ws)), .tup [.str (wS ws p.1), .str (wS ws p.2)]] = M.pure (.bl true) from hit]
  try simp -implicitDefEqProofs only [runF, exs, ex, ev, evT, evI, evs, evAnd, evOr, evAndT, evOrT, QL.t3, QL.s3, QL.tr, bind_pure, bind_assoc, List.length_cons, List.length_nil, if_true, List.map_cons, List.map_nil, List.cons_append, List.nil_append, Nat.reduceAdd, Nat.reduceSub, List.replicate, getM_zero, getM_succ, items_tup, items_lst, List.set, ofO_some, compF, compF2, setT, setU, setAll, wipeE, truth_bl, nox_pure, Bool.not_true, Bool.false_eq_true, if_false, attr0, recvIx, index_ws h hp.1, index_ws h hp.2, tup2, hrm, m2_gtN, decide_eq_false (show ¬ room ns p < t by omega), show isiO .tuple (.tup [paperD ws T cs, lotD ws L]) = some true from rfl, m1_lenT, m2_neI]
  rw [show (!decide ((((0 : Nat) + 1 + 1 : Nat) : Int) = 2)) = false from rfl]
  try simp -implicitDefEqProofs only [runF, exs, ex, ev, evT, evI, evs, evAnd, evOr, evAndT, evOrT, QL.t3, QL.s3, QL.tr, bind_pure, bind_assoc, List.length_cons, List.length_nil, if_true, List.map_cons, List.map_nil, List.cons_append, List.nil_append, Nat.reduceAdd, Nat.reduceSub, List.replicate, getM_zero, getM_succ, items_tup, items_lst, List.set, ofO_some, compF, compF2, setT, setU, setAll, wipeE, truth_bl, nox_pure, Bool.false_eq_true, if_false, ixT_0, ixT_1, is_some (n + 3) h hL nd, Bool.not_true]
  refine Ok.seq (show Ok (run PT (n + 4) 35 [ruleD ws T, .tup (ns.map nI), paperD ws T cs]) m _ from by rw [nI_map]; exact rest_behind (n + 1) h hT (ns.map cI) cs (by rw [List.length_map]; omega) (by rw [List.length_map]; omega) hc hb m) ?_
  rintro _ _ ⟨rfl, rfl⟩
  rw [if_pos hall]
  try simp -implicitDefEqProofs only [runF, exs, ex, ev, evT, evI, evs, evAnd, evOr, evAndT, evOrT, QL.t3, QL.s3, QL.tr, bind_pure, bind_assoc, List.length_cons, List.length_nil, if_true, List.map_cons, List.map_nil, List.cons_append, List.nil_append, Nat.reduceAdd, Nat.reduceSub, List.replicate, getM_zero, getM_succ, items_tup, items_lst, List.set, ofO_some, compF, compF2, setT, setU, setAll, wipeE, truth_bl, nox_pure, attr2, pairsD]
  rw [lim_ok (by rw [List.length_map]; omega), bind_pure, compL_filter (c := pD) (p := fun r => !decide (r = p) && !decide (r = sw p)) (g := pD)]
  rotate_left
  · intro r hr
    try simp -implicitDefEqProofs only [runF, exs, ex, ev, evT, evI, evs, evAnd, evOr, evAndT, evOrT, QL.t3, QL.s3, QL.tr, bind_pure, bind_assoc, List.length_cons, List.length_nil, if_true, List.map_cons, List.map_nil, List.cons_append, List.nil_append, Nat.reduceAdd, Nat.reduceSub, List.replicate, getM_zero, getM_succ, items_tup, items_lst, List.set, ofO_some, compF, compF2, setT, setU, setAll, wipeE, truth_bl, nox_pure, ixT_0, ixT_1, tup2]
    rw [show [D.tup [nI p.1, nI p.2], .tup [nI p.2, nI p.1]] = [p, sw p].map pD from rfl, notIn_pT, off_bool]
    try simp -implicitDefEqProofs only [runF, exs, ex, ev, evT, evI, evs, evAnd, evOr, evAndT, evOrT, QL.t3, QL.s3, QL.tr, bind_pure, bind_assoc, List.length_cons, List.length_nil, if_true, List.map_cons, List.map_nil, List.cons_append, List.nil_append, Nat.reduceAdd, Nat.reduceSub, List.replicate, getM_zero, getM_succ, items_tup, items_lst, List.set, ofO_some, compF, compF2, setT, setU, setAll, wipeE, truth_bl, nox_pure]
    cases !decide (r = p) && !decide (r = sw p) <;> rfl
  have hoT := offT_ok hT p
  have hol : (offT T p).length ≤ 21 := hoT.len hle
  have hset := set_of (n + 3) (T := T) h hL (show L.length < 64 by omega)
  have hcut := cut_of (n + 2) ws.length (offT T p) (srtN L) hoT.lt (by omega)
  have hmov := moved (n + 3) (ns.map cI) p (-(t : Int)) (by rw [List.length_map]; omega) (by omega)
  rw [mov_took (by omega) (by omega) ht, ← nI_map, ← nI_map] at hmov
  have hval := prog_value (n + 1) hle hoT (nd_srtN nd) (srt_in hL) (took ns p t) (by rw [took_len]; exact hn)
  rw [show T.filter (fun r => !decide (r = p) && !decide (r = sw p)) = offT T p from rfl]
  try simp -implicitDefEqProofs only [runF, exs, ex, ev, evT, evI, evs, evAnd, evOr, evAndT, evOrT, QL.t3, QL.s3, QL.tr, bind_pure, bind_assoc, List.length_cons, List.length_nil, if_true, List.map_cons, List.map_nil, List.cons_append, List.nil_append, Nat.reduceAdd, Nat.reduceSub, List.replicate, getM_zero, getM_succ, items_tup, items_lst, List.set, ofO_some, compF, compF2, setT, setU, setAll, wipeE, truth_bl, nox_pure, m1_tuple, attr0, m1_lenT, List.length_map, ixT_0, ixT_1, hset]
  rw [show run PT (n + 4) 24 [.int (ws.length : Int), .tup ((offT T p).map pD), tD (srtN L)] = _ from hcut]
  try simp -implicitDefEqProofs only [runF, exs, ex, ev, evT, evI, evs, evAnd, evOr, evAndT, evOrT, QL.t3, QL.s3, QL.tr, bind_pure, bind_assoc, List.length_cons, List.length_nil, if_true, List.map_cons, List.map_nil, List.cons_append, List.nil_append, Nat.reduceAdd, Nat.reduceSub, List.replicate, getM_zero, getM_succ, items_tup, items_lst, List.set, ofO_some, compF, compF2, setT, setU, setAll, wipeE, truth_bl, nox_pure, m1_notN, show isNon (.tup ((restZ (ns.map cI) T cs).map .int)) = false from rfl, Bool.not_false]
  rw [show doM1 .neg (nI t) = M.pure (.int (-(t : Int))) from rfl, bind_pure, show run PT (n + 4) 38 [.tup (ns.map nI), .tup [nI p.1, nI p.2], .int (-(t : Int))] = _ from hmov, bind_pure]
  rw [show run PT (n + 4) 37 [cutD ws.length (offT T p) (srtN L), .tup ((took ns p t).map nI)] = _ from hval]
  try simp -implicitDefEqProofs only [runF, exs, ex, ev, evT, evI, evs, evAnd, evOr, evAndT, evOrT, QL.t3, QL.s3, QL.tr, bind_pure, bind_assoc, List.length_cons, List.length_nil, if_true, List.map_cons, List.map_nil, List.cons_append, List.nil_append, Nat.reduceAdd, Nat.reduceSub, List.replicate, getM_zero, getM_succ, items_tup, items_lst, List.set, ofO_some, compF, compF2, setT, setU, setAll, wipeE, truth_bl, nox_pure, m1_list, m1_sum, m2_gt]
  exact Ok.pure ⟨Ext.app _ _, rfl⟩
theorem ok_without : PyData.strOk "without" = true := by decide +kernel
theorem ok_over : PyData.strOk "over" = true := by decide +kernel
theorem ok_least : PyData.strOk "least" = true := by decide +kernel
theorem wo_ne : decide (("without" : Str) = ("over" : Str)) = false := by decide +kernel
theorem wl_ne : decide (("without" : Str) = ("least" : Str)) = false := by decide +kernel
theorem lo_ne : decide (("least" : Str) = ("over" : Str)) = false := by decide +kernel
theorem slF3 (a b c d e f : D) : doM2 .slF (.tup [a, b, c, d, e, f]) (.int 3) = M.pure (.tup [d, e, f]) := m2_slFT (k := 3)
/-- the checker, up to what shows that there are no such pairings -/
theorem accepts_wo (n : Nat) {ws : List Str} {T : List (Nat × Nat)} (h : WsOk ws) (hT : TOk ws.length T) (ns : List Nat) (hn : ns.length = ws.length) (hbn : ∀ a ∈ ns, a ≤ 10 ^ 30) (a b c cert : D) (m : Mem) {Q : D → Mem → Prop}
    (hQ : ∀ m', Ext m m' → Ok (run PT (n + 5) 18 [ruleD ws T, .tup (ns.map nI), .tup [a, b, c], cert]) m' Q) :
    Ok (run PT (n + 6) 13 [.tup [.str "without", .str (textS ws T), .tup (ns.map nI), a, b, c], cert]) m Q := by
  have hlim : 10000 ≤ LIM := by decide
  have hle := h.le
  rw [run_s (fn := f13) rfl]
  try simp -implicitDefEqProofs only [runF, exs, ex, ev, evT, evI, evs, evAnd, evOr, evAndT, evOrT, QL.t3, QL.s3, QL.tr, bind_pure, bind_assoc, List.length_cons, List.length_nil, if_true, List.map_cons, List.map_nil, List.cons_append, List.nil_append, Nat.reduceAdd, Nat.reduceSub, List.replicate, getM_zero, getM_succ, items_tup, items_lst, List.set, ofO_some, compF, compF2, setT, setU, setAll, wipeE, truth_bl, nox_pure, f13, recvL, recvX, recvE, recvSlF, show isiO .tuple (.tup [.str "without", .str (textS ws T), .tup (ns.map nI), a, b, c]) = some true from rfl, Bool.not_true, Bool.false_eq_true, if_false, m1_lenT, m2_lt, ixT_0, ixT_1, ixT_2]
  rw [show decide ((((0 : Nat) + 1 + 1 + 1 + 1 + 1 + 1 : Nat) : Int) < 4) = false from rfl]
  try simp -implicitDefEqProofs only [runF, exs, ex, ev, evT, evI, evs, evAnd, evOr, evAndT, evOrT, QL.t3, QL.s3, QL.tr, bind_pure, bind_assoc, List.length_cons, List.length_nil, if_true, List.map_cons, List.map_nil, List.cons_append, List.nil_append, Nat.reduceAdd, Nat.reduceSub, List.replicate, getM_zero, getM_succ, items_tup, items_lst, List.set, ofO_some, compF, compF2, setT, setU, setAll, wipeE, truth_bl, nox_pure, Bool.false_eq_true, if_false, ixT_0, ixT_1, ixT_2, read_rule (n + 2) h hT, m1_isN, show isNon (.tup [.tup (ws.map .str), .tup (T.map (linkD ws))]) = false from rfl]
  refine Ok.bind (ok_new ?_)
  refine Ok.seq (rule_init (n + 1) h hT m) ?_
  rintro _ _ ⟨rfl, rfl⟩
  try simp -implicitDefEqProofs only [runF, exs, ex, ev, evT, evI, evs, evAnd, evOr, evAndT, evOrT, QL.t3, QL.s3, QL.tr, bind_pure, bind_assoc, List.length_cons, List.length_nil, if_true, List.map_cons, List.map_nil, List.cons_append, List.nil_append, Nat.reduceAdd, Nat.reduceSub, List.replicate, getM_zero, getM_succ, items_tup, items_lst, List.set, ofO_some, compF, compF2, setT, setU, setAll, wipeE, truth_bl, nox_pure]
  refine Ok.bind (ok_freezeI (get_app _ _) ?_)
  rw [set_app, show D.ins 0 [0, 1, 2, 3] [.tup (ws.map .str), .tup (T.map (linkD ws)), pairsD T, .tup ((subL ws.length).map (cutD ws.length T))] = ruleD ws T from rfl]
  try simp -implicitDefEqProofs only [runF, exs, ex, ev, evT, evI, evs, evAnd, evOr, evAndT, evOrT, QL.t3, QL.s3, QL.tr, bind_pure, bind_assoc, List.length_cons, List.length_nil, if_true, List.map_cons, List.map_nil, List.cons_append, List.nil_append, Nat.reduceAdd, Nat.reduceSub, List.replicate, getM_zero, getM_succ, items_tup, items_lst, List.set, ofO_some, compF, compF2, setT, setU, setAll, wipeE, truth_bl, nox_pure, show isNon (ruleD ws T) = false from rfl, m1_isN, Bool.false_eq_true, if_false, ixT_2, is_right_size (n + 2) (T := T) ns hn (by omega) hbn, Bool.not_true, ixT_0, m2_eqS ok_without ok_over, m2_eqS ok_without ok_least, m2_eqS ok_without ok_without, wo_ne, wl_ne, decide_true, m1_lenT, m2_eqI]
  rw [show decide ((((0 : Nat) + 1 + 1 + 1 + 1 + 1 + 1 : Nat) : Int) = 6) = true from rfl]
  try simp -implicitDefEqProofs only [runF, exs, ex, ev, evT, evI, evs, evAnd, evOr, evAndT, evOrT, QL.t3, QL.s3, QL.tr, bind_pure, bind_assoc, List.length_cons, List.length_nil, if_true, List.map_cons, List.map_nil, List.cons_append, List.nil_append, Nat.reduceAdd, Nat.reduceSub, List.replicate, getM_zero, getM_succ, items_tup, items_lst, List.set, ofO_some, compF, compF2, setT, setU, setAll, wipeE, truth_bl, nox_pure, ixT_2, slF3, bind_ret]
  exact hQ _ (Ext.app _ _)
end QV
end
section
set_option linter.all false
set_option maxRecDepth 100000
set_option autoImplicit false
/-! Q73: the law k73. -/
namespace QV
open PySem QL QP
theorem pick73 {α : Type} {c : α → D} {l : List α} {r : Nat} (h : r < l.length) : ∃ x ∈ l, doM2 .ix (.lst (l.map c)) (nI r) = M.pure (c x) := ⟨l[r], List.getElem_mem h, ix_nL (by rw [List.getElem?_map, List.getElem?_eq_getElem h]; rfl)⟩
/-- equality of truth values -/
theorem m2_eqB (a b : Bool) : doM2 .eq (.bl a) (.bl b) = M.pure (.bl (decide (a = b))) := by
  funext m
  show ofO ((eqD (.bl a) (.bl b)).map D.bl) m = _
  have : eqD (.bl a) (.bl b) = some (decide (a = b)) := by cases a <;> cases b <;> decide +kernel
  rw [this]
  rfl
theorem toPs_bl : ∀ bs : List Bool, toPs (bs.map .bl) = some (bs.map .bool)
  | [] => rfl
  | b :: r => by
    show (match toP (.bl b), toPs (r.map .bl) with
      | some p, some q => some (p :: q)
      | _, _ => none) = _
    rw [toPs_bl r]
    rfl
theorem canLay_bl : ∀ bs : List Bool, PyData.canLayAll0 (bs.map .bool) = true ∧ PyData.depthAll (bs.map .bool) = 0
  | [] => ⟨rfl, rfl⟩
  | b :: r => by
    obtain ⟨h1, h2⟩ := canLay_bl r
    constructor
    · show ((PyData.bool b).canLay0 && PyData.canLayAll0 (r.map .bool)) = true
      rw [h1]; rfl
    · show max (PyData.bool b).depth (PyData.depthAll (r.map .bool)) = 0
      rw [h2]; rfl
theorem index_true : ∀ {bs : List Bool} {k : Nat}, bs[k]? = some true → (∀ i, i < k → bs[i]? = some false) → indexP (.bool true) (bs.map .bool) = some k
  | [], k, h, _ => by simp at h
  | b :: r, 0, h, _ => by
    have h : b = true := by simpa using h
    subst h
    rfl
  | b :: r, k + 1, h, hn => by
    have hb : b = false := by have := hn 0 (by omega); simpa using this
    subst hb
    show (if PyData.eqv (.bool false) (.bool true) = true then some 0 else (indexP (.bool true) (r.map .bool)).map (· + 1)) = _
    rw [if_neg (by decide +kernel), index_true (k := k) (by simpa using h) fun i hi => by have := hn (i + 1) (by omega); simpa using this]
    rfl
theorem m2_indexB {bs : List Bool} {k : Nat} (h : bs[k]? = some true) (hn : ∀ i, i < k → bs[i]? = some false) : doM2 .index (.lst (bs.map .bl)) (.bl true) = M.pure (nI k) := by
  funext m
  show ofO ((indexD (.bl true) (bs.map .bl)).map fun n => D.int (n : Nat)) m = _
  have : indexD (.bl true) (bs.map .bl) = some k := by
    unfold indexD
    have h1 : shp (.bl true) = some (.bool true) := rfl
    have h2 : shp (.lst (bs.map .bl)) = some (.list (bs.map .bool)) := by
      unfold shp
      rw [show toP (.lst (bs.map .bl)) = (toPs (bs.map .bl)).map PyData.list from rfl, toPs_bl]
      have : PySem.SeqAt.shaped (.list (bs.map .bool)) = true := by
        unfold PySem.SeqAt.shaped
        have hc : (PyData.list (bs.map .bool)).canLay0 = true := (canLay_bl bs).1
        have hd : (PyData.list (bs.map .bool)).depth = 1 := by show PyData.depthAll (bs.map .bool) + 1 = 1; rw [(canLay_bl bs).2]
        rw [hc, hd]
        rfl
      show (if PySem.SeqAt.shaped (.list (bs.map .bool)) = true then _ else none) = _
      rw [if_pos this]
    rw [h1, h2]
    exact index_true h hn
  rw [this]
  rfl
theorem ix_lastL {l : List D} (h : 1 ≤ l.length) : doM2 .ix (.lst l) (.int (-1)) = M.pure (l.getD (l.length - 1) .non) := by
  funext m
  show ofO (atI l (-1)) m = _
  have : atI l (-1) = some (l.getD (l.length - 1) .non) := by
    unfold atI ixN
    rw [if_neg (by omega), if_pos (by omega)]
    show l[((-1 : Int) + (l.length : Int)).toNat]? = _
    rw [show ((-1 : Int) + (l.length : Int)).toNat = l.length - 1 by omega, List.getElem?_eq_getElem (by omega), List.getD_eq_getElem?_getD, List.getElem?_eq_getElem (by omega)]
    rfl
  rw [this]
  rfl
theorem ix_lastW {ws : List Str} (h : 1 ≤ ws.length) : doM2 .ix (.lst (ws.map .str)) (.int (-1)) = M.pure (.str (wS ws (ws.length - 1))) := by
  rw [ix_lastL (by simpa using h), List.length_map, List.getD_eq_getElem?_getD, wS_get (by omega)]
  rfl
/-- a tie in a drawn order -/
theorem pick_tie {n j K : Nat} {m : Mem} {ws : List Str} {T : List (Nat × Nat)} (hJ : Jar j K m) (hK : K + 10 ≤ 10 ^ 20) (hT1 : 1 ≤ T.length) (hT2 : T.length ≤ 21) :
    Ok (run PT (n + 2) 63 [.ref j, netD ws T]) m fun d m' => ∃ e p, IsT T e p ∧ d = linkD ws p ∧ Jar j (K + 2) m' := by
  rw [run_s (fn := f63) rfl]
  try simp -implicitDefEqProofs only [runF, exs, ex, ev, evT, evI, evs, evAnd, evOr, evAndT, evOrT, QL.t3, QL.s3, QL.tr, bind_pure, bind_assoc, List.length_cons, List.length_nil, if_true, List.map_cons, List.map_nil, List.cons_append, List.nil_append, Nat.reduceAdd, Nat.reduceSub, List.replicate, getM_zero, getM_succ, items_tup, items_lst, List.set, ofO_some, compF, compF2, setT, setU, setAll, wipeE, truth_bl, nox_pure, f63, recvX, recvE, netD_1, m1_lenT, List.length_map]
  refine Ok.seq (draw hJ (by omega) (by omega) (by omega)) ?_
  rintro _ m1 ⟨r, rfl, hr, _, hj1⟩
  have hrl : r < T.length := by omega
  rw [ix_nT (d := linkD ws (tA T r)) (by rw [List.getElem?_map, List.getElem?_eq_getElem hrl, tA_get hrl]; rfl), bind_pure]
  rw [show linkD ws (tA T r) = .tup [.str (wS ws (tA T r).1), .str (wS ws (tA T r).2)] from rfl]
  try simp -implicitDefEqProofs only [runF, exs, ex, ev, evT, evI, evs, evAnd, evOr, evAndT, evOrT, QL.t3, QL.s3, QL.tr, bind_pure, bind_assoc, List.length_cons, List.length_nil, if_true, List.map_cons, List.map_nil, List.cons_append, List.nil_append, Nat.reduceAdd, Nat.reduceSub, List.replicate, getM_zero, getM_succ, items_tup, items_lst, List.set, ofO_some, compF, compF2, setT, setU, setAll, wipeE, truth_bl, nox_pure]
  refine Ok.seq (draw hj1 (by omega) (by omega) (by omega)) ?_
  rintro _ m2 ⟨r2, rfl, hr2, _, hj2⟩
  try simp -implicitDefEqProofs only [runF, exs, ex, ev, evT, evI, evs, evAnd, evOr, evAndT, evOrT, QL.t3, QL.s3, QL.tr, bind_pure, bind_assoc, List.length_cons, List.length_nil, if_true, List.map_cons, List.map_nil, List.cons_append, List.nil_append, Nat.reduceAdd, Nat.reduceSub, List.replicate, getM_zero, getM_succ, items_tup, items_lst, List.set, ofO_some, compF, compF2, setT, setU, setAll, wipeE, truth_bl, nox_pure, eq0N]
  by_cases h0 : r2 = 0
  · rw [decide_eq_true h0]
    try simp -implicitDefEqProofs only [runF, exs, ex, ev, evT, evI, evs, evAnd, evOr, evAndT, evOrT, QL.t3, QL.s3, QL.tr, bind_pure, bind_assoc, List.length_cons, List.length_nil, if_true, List.map_cons, List.map_nil, List.cons_append, List.nil_append, Nat.reduceAdd, Nat.reduceSub, List.replicate, getM_zero, getM_succ, items_tup, items_lst, List.set, ofO_some, compF, compF2, setT, setU, setAll, wipeE, truth_bl, nox_pure, tup2]
    exact Ok.pure ⟨r, tA T r, ⟨hrl, .inl rfl⟩, rfl, hj2⟩
  · rw [decide_eq_false h0]
    try simp -implicitDefEqProofs only [runF, exs, ex, ev, evT, evI, evs, evAnd, evOr, evAndT, evOrT, QL.t3, QL.s3, QL.tr, bind_pure, bind_assoc, List.length_cons, List.length_nil, if_true, List.map_cons, List.map_nil, List.cons_append, List.nil_append, Nat.reduceAdd, Nat.reduceSub, List.replicate, getM_zero, getM_succ, items_tup, items_lst, List.set, ofO_some, compF, compF2, setT, setU, setAll, wipeE, truth_bl, nox_pure, tup2, Bool.false_eq_true, if_false]
    exact Ok.pure ⟨r, sw (tA T r), ⟨hrl, .inr rfl⟩, rfl, hj2⟩
theorem without_tie (n : Nat) {ws : List Str} {T : List (Nat × Nat)} (h : WsOk ws) (hT : TOk ws.length T) (p : Nat × Nat) : run PT (n + 2) 64 [netD ws T, pD p] = M.pure (netD ws (offT T p)) := by
  have hlim : 10000 ≤ LIM := by decide
  have hTl := hT.len h.le
  have e : T = (List.range T.length).map (tA T) := list_ext (d := (0, 0)) (by simp) fun k hk => by rw [getD_range _ _ hk]; rfl
  rw [run_s (fn := f64) rfl]
  rw [show pD p = .tup [nI p.1, nI p.2] from rfl]
  try simp -implicitDefEqProofs only [runF, exs, ex, ev, evT, evI, evs, evAnd, evOr, evAndT, evOrT, QL.t3, QL.s3, QL.tr, bind_pure, bind_assoc, List.length_cons, List.length_nil, if_true, List.map_cons, List.map_nil, List.cons_append, List.nil_append, Nat.reduceAdd, Nat.reduceSub, List.replicate, getM_zero, getM_succ, items_tup, items_lst, List.set, ofO_some, compF, compF2, setT, setU, setAll, wipeE, truth_bl, nox_pure, f64, recvX, recvNI, link_list n h hT, m1_len, List.length_map]
  rw [rangeM_nat (by omega), bind_pure, lim_ok (by simp; omega), bind_pure, compL_filter (c := nI) (p := fun k => !decide (tA T k = p) && !decide (tA T k = sw p)) (g := nI)]
  rotate_left
  · intro k hk
    have hk := List.mem_range.mp hk
    try simp -implicitDefEqProofs only [runF, exs, ex, ev, evT, evI, evs, evAnd, evOr, evAndT, evOrT, QL.t3, QL.s3, QL.tr, bind_pure, bind_assoc, List.length_cons, List.length_nil, if_true, List.map_cons, List.map_nil, List.cons_append, List.nil_append, Nat.reduceAdd, Nat.reduceSub, List.replicate, getM_zero, getM_succ, items_tup, items_lst, List.set, ofO_some, compF, compF2, setT, setU, setAll, wipeE, truth_bl, nox_pure]
    rw [ix_nL (d := pD (tA T k)) (by rw [List.getElem?_map, List.getElem?_eq_getElem hk, tA_get hk]; rfl)]
    try simp -implicitDefEqProofs only [runF, exs, ex, ev, evT, evI, evs, evAnd, evOr, evAndT, evOrT, QL.t3, QL.s3, QL.tr, bind_pure, bind_assoc, List.length_cons, List.length_nil, if_true, List.map_cons, List.map_nil, List.cons_append, List.nil_append, Nat.reduceAdd, Nat.reduceSub, List.replicate, getM_zero, getM_succ, items_tup, items_lst, List.set, ofO_some, compF, compF2, setT, setU, setAll, wipeE, truth_bl, nox_pure, ixT_0, ixT_1, tup2, lsto2]
    rw [show [D.tup [nI p.1, nI p.2], .tup [nI p.2, nI p.1]] = [p, sw p].map pD from rfl, notIn_pL, off_bool]
    try simp -implicitDefEqProofs only [runF, exs, ex, ev, evT, evI, evs, evAnd, evOr, evAndT, evOrT, QL.t3, QL.s3, QL.tr, bind_pure, bind_assoc, List.length_cons, List.length_nil, if_true, List.map_cons, List.map_nil, List.cons_append, List.nil_append, Nat.reduceAdd, Nat.reduceSub, List.replicate, getM_zero, getM_succ, items_tup, items_lst, List.set, ofO_some, compF, compF2, setT, setU, setAll, wipeE, truth_bl, nox_pure]
    cases !decide (tA T k = p) && !decide (tA T k = sw p) <;> rfl
  try simp -implicitDefEqProofs only [runF, exs, ex, ev, evT, evI, evs, evAnd, evOr, evAndT, evOrT, QL.t3, QL.s3, QL.tr, bind_pure, bind_assoc, List.length_cons, List.length_nil, if_true, List.map_cons, List.map_nil, List.cons_append, List.nil_append, Nat.reduceAdd, Nat.reduceSub, List.replicate, getM_zero, getM_succ, items_tup, items_lst, List.set, ofO_some, compF, compF2, setT, setU, setAll, wipeE, truth_bl, nox_pure, netD_0]
  have hfl := List.length_filter_le (fun k => !decide (tA T k = p) && !decide (tA T k = sw p)) (List.range T.length)
  rw [List.length_range] at hfl
  rw [lim_ok (by rw [List.length_map]; omega), bind_pure, compL_map (c := nI) (g := fun k => linkD ws (tA T k))]
  rotate_left
  · intro k hk
    have hk := List.mem_range.mp (List.mem_filter.mp hk).1
    try simp -implicitDefEqProofs only [runF, exs, ex, ev, evT, evI, evs, evAnd, evOr, evAndT, evOrT, QL.t3, QL.s3, QL.tr, bind_pure, bind_assoc, List.length_cons, List.length_nil, if_true, List.map_cons, List.map_nil, List.cons_append, List.nil_append, Nat.reduceAdd, Nat.reduceSub, List.replicate, getM_zero, getM_succ, items_tup, items_lst, List.set, ofO_some, compF, compF2, setT, setU, setAll, wipeE, truth_bl, nox_pure, netD_1]
    rw [ix_nT (d := linkD ws (tA T k)) (by rw [List.getElem?_map, List.getElem?_eq_getElem hk, tA_get hk]; rfl)]
    rfl
  try simp -implicitDefEqProofs only [runF, exs, ex, ev, evT, evI, evs, evAnd, evOr, evAndT, evOrT, QL.t3, QL.s3, QL.tr, bind_pure, bind_assoc, List.length_cons, List.length_nil, if_true, List.map_cons, List.map_nil, List.cons_append, List.nil_append, Nat.reduceAdd, Nat.reduceSub, List.replicate, getM_zero, getM_succ, items_tup, items_lst, List.set, ofO_some, compF, compF2, setT, setU, setAll, wipeE, truth_bl, nox_pure, m1_tuple, lsto2]
  have e2 : offT T p = ((List.range T.length).filter fun k => !decide (tA T k = p) && !decide (tA T k = sw p)).map (tA T) := by
    unfold offT
    conv => lhs; rw [e]
    rw [List.filter_map]
    rfl
  unfold netD
  rw [e2, List.map_map]
  rfl
theorem in_linkL2 {ws : List Str} (h : WsOk ws) {p r : Nat × Nat} (h1 : p.1 < ws.length ∧ p.2 < ws.length) (h2 : r.1 < ws.length ∧ r.2 < ws.length) : doM2 .isIn (linkD ws p) (.lst [linkD ws r, linkD ws (sw r)]) = M.pure (.bl (decide (p ∈ [r, sw r]))) := by
  have hin : ∀ p ∈ [r, sw r], p.1 < ws.length ∧ p.2 < ws.length := fun p hp => by
    simp only [List.mem_cons, List.not_mem_nil, or_false] at hp
    rcases hp with rfl | rfl
    · exact h2
    · exact ⟨h2.2, h2.1⟩
  rw [show [linkD ws r, linkD ws (sw r)] = [r, sw r].map (linkD ws) from rfl, m2_inL (nb_link h h1) (nbs_link h hin) (by rw [dpt_link]; omega) (by have := dpts_link ws [r, sw r]; omega)]
  congr 2
  exact decide_eq_decide.mpr (link_mem h.nd h1 hin)
theorem nI_cons (a : Nat) : nI a = .int (a : Int) := rfl
end QV
end
section
set_option linter.all false
set_option maxRecDepth 100000
set_option autoImplicit false
/-! Q73b: the law k73: a drawn rule. -/
namespace QV
open PySem QL QP
theorem took_run (n : Nat) {rs : List Nat} {p : Nat × Nat} {t : Nat} (h1 : p.1 < rs.length) (h2 : p.2 < rs.length) (ht : t ≤ room rs p) (m : Mem) :
    Ok (run PT (n + 1) 52 [.tup (rs.map nI), .tup [nI p.1, nI p.2], nI t]) m fun d m' => Ext m m' ∧ d = .tup ((took rs p t).map nI) := law_took n h1 h2 ht m
/-- the checker on a pairing of the law -/
theorem acc_without (n : Nat) {ws : List Str} {T : List (Nat × Nat)} {ns : List Nat} {w : List Way} (h : WsOk ws) (hT : TOk ws.length T) (hn : ns.length = ws.length) (hns : ∀ k, ns.getD k 0 ≤ 6) (W : WOk T ns T.length w) {x : Way} (hx : x ∈ w) {U L : List Nat} (hU : U ∈ subL ws.length) (hL : L.Perm U) {p : Nat × Nat} (hpT : p ∈ T ∨ sw p ∈ T) {t : Nat} (ht : t ≤ room ns p) (m : Mem) :
    Ok (run PT (n + 6) 13 [.tup [.str "without", .str (textS ws T), .tup (ns.map nI), .str (wS ws p.1), .str (wS ws p.2), nI t], .tup [paperD ws T x.1, lotD ws L]]) m fun d m' => Ext m m' ∧ d = .bl (decide (((x.2.sum : Nat) : Int) < oval ws.length (offT T p) U (took ns p t))) := by
  obtain ⟨nd, hUq⟩ := sub_mem hU
  have hLq : ∀ k ∈ L, k < ws.length := fun k hk => hUq k (hL.mem_iff.mp hk)
  have ndL : L.Nodup := hL.nodup_iff.mpr nd
  have hT' : TOk ns.length T := hn ▸ hT
  have hc := (W.snd x hx).1
  have hu := way_use W hx
  have hb := cnt_le hT' hc hu hns
  have hB6 : 6 < BIG := by decide
  have hbn : ∀ a ∈ ns, a ≤ 10 ^ 30 := fun a ha => by
    obtain ⟨k, hk, rfl⟩ := List.mem_iff_getElem.mp ha
    have := hns k
    rw [List.getD_eq_getElem?_getD, List.getElem?_eq_getElem hk] at this
    simp at this
    omega
  have hrm : room ns p ≤ 6 := room_le hns
  refine accepts_wo n h hT ns hn hbn _ _ _ _ m fun m1 he1 => ?_
  refine (without_pair n h hT hpT hLq ndL ns hn x.1 hc (fun c hc => by have := hb c hc; omega) (fun k hk => hu k (by omega)) t ht (by omega) m1).mono ?_
  rintro d m' ⟨he, rfl⟩
  refine ⟨he1.trans he, ?_⟩
  rw [way_rest W hx, sum_cast, ← oval_eq (offT_ok hT p) nd hUq (nd_srtN ndL) (fun k => by rw [mem_srtN, hL.mem_iff]) (took ns p t)]
theorem acc_nil (n : Nat) {ws : List Str} {T : List (Nat × Nat)} {ns : List Nat} (h : WsOk ws) (hT : TOk ws.length T) (hn : ns.length = ws.length) (hns : ∀ k, ns.getD k 0 ≤ 6) {p : Nat × Nat} (hpT : p ∈ T ∨ sw p ∈ T) (t : Nat) (m : Mem) :
    Ok (run PT (n + 6) 13 [.tup [.str "without", .str (textS ws T), .tup (ns.map nI), .str (wS ws p.1), .str (wS ws p.2), nI t], .tup []]) m fun d m' => Ext m m' ∧ d = .bl (decide (room ns p < t)) := by
  have hbn : ∀ a ∈ ns, a ≤ 10 ^ 30 := fun a ha => by
    obtain ⟨k, hk, rfl⟩ := List.mem_iff_getElem.mp ha
    have := hns k
    rw [List.getD_eq_getElem?_getD, List.getElem?_eq_getElem hk] at this
    simp at this
    omega
  refine accepts_wo n h hT ns hn hbn _ _ _ _ m fun m1 he1 => ?_
  rw [without_nil (n + 2) h hT (pmem_sw hT hpT) hpT ns hn t]
  exact Ok.pure ⟨he1, rfl⟩
theorem tupO6 (a b c d e f : D) : tupO [a, b, c, d, e, f] = some (.tup [a, b, c, d, e, f]) := rfl
theorem right73 {n j K : Nat} {m : Mem} (hJ : Jar j K m) (hK : K ≤ 1000) : Ok (run PT (n + 9) 62 [.ref j]) m fun d m' => d = .bl true := by
  have hlim : 1000000 ≤ LIM := by decide
  rw [run_s (fn := f62) rfl]
  try simp -implicitDefEqProofs only [runF, exs, ex, ev, evT, evI, evs, evAnd, evOr, evAndT, evOrT, QL.t3, QL.s3, QL.tr, bind_pure, bind_assoc, List.length_cons, List.length_nil, if_true, List.map_cons, List.map_nil, List.cons_append, List.nil_append, Nat.reduceAdd, Nat.reduceSub, List.replicate, getM_zero, getM_succ, items_tup, items_lst, List.set, ofO_some, compF, compF2, setT, setU, setAll, wipeE, truth_bl, nox_pure, f62, recvX, recvA, recvE, recvNe, recvNB, recvG, recvI]
  refine Ok.seq (draw hJ (by omega) (by omega) (by omega)) ?_
  rintro _ m1 ⟨r0, rfl, hr0, _, hj1⟩
  try simp -implicitDefEqProofs only [runF, exs, ex, ev, evT, evI, evs, evAnd, evOr, evAndT, evOrT, QL.t3, QL.s3, QL.tr, bind_pure, bind_assoc, List.length_cons, List.length_nil, if_true, List.map_cons, List.map_nil, List.cons_append, List.nil_append, Nat.reduceAdd, Nat.reduceSub, List.replicate, getM_zero, getM_succ, items_tup, items_lst, List.set, ofO_some, compF, compF2, setT, setU, setAll, wipeE, truth_bl, nox_pure, m2_addN]
  rw [show D.int (1 + (r0 : Int)) = .int ((1 + r0 : Nat) : Int) by congr 1]
  refine Ok.seq (new_words hj1 (by omega) (by omega)) ?_
  rintro _ m2 ⟨ws, rfl, hwl, hwn, hwm, _, hj2⟩
  have h : WsOk ws := ⟨by omega, by omega, hwn, hwm⟩
  have hpos := h.pos
  have l3 : ws.length ≤ 3 := by omega
  try simp -implicitDefEqProofs only [runF, exs, ex, ev, evT, evI, evs, evAnd, evOr, evAndT, evOrT, QL.t3, QL.s3, QL.tr, bind_pure, bind_assoc, List.length_cons, List.length_nil, if_true, List.map_cons, List.map_nil, List.cons_append, List.nil_append, Nat.reduceAdd, Nat.reduceSub, List.replicate, getM_zero, getM_succ, items_tup, items_lst, List.set, ofO_some, compF, compF2, setT, setU, setAll, wipeE, truth_bl, nox_pure]
  refine Ok.seq (new_net hj2 (by omega) (by omega)) ?_
  rintro _ m3 ⟨T0, rfl, hT0, _, hj3⟩
  try simp -implicitDefEqProofs only [runF, exs, ex, ev, evT, evI, evs, evAnd, evOr, evAndT, evOrT, QL.t3, QL.s3, QL.tr, bind_pure, bind_assoc, List.length_cons, List.length_nil, if_true, List.map_cons, List.map_nil, List.cons_append, List.nil_append, Nat.reduceAdd, Nat.reduceSub, List.replicate, getM_zero, getM_succ, items_tup, items_lst, List.set, ofO_some, compF, compF2, setT, setU, setAll, wipeE, truth_bl, nox_pure, m1_len, List.length_map]
  refine Ok.seq (new_few (size := ws.length) (most := 6) hj3 (by omega) (by omega) (by omega) (by omega) (by omega)) ?_
  rintro _ m4 ⟨ns, rfl, hn, hs, _, hj4⟩
  try simp -implicitDefEqProofs only [runF, exs, ex, ev, evT, evI, evs, evAnd, evOr, evAndT, evOrT, QL.t3, QL.s3, QL.tr, bind_pure, bind_assoc, List.length_cons, List.length_nil, if_true, List.map_cons, List.map_nil, List.cons_append, List.nil_append, Nat.reduceAdd, Nat.reduceSub, List.replicate, getM_zero, getM_succ, items_tup, items_lst, List.set, ofO_some, compF, compF2, setT, setU, setAll, wipeE, truth_bl, nox_pure, tup2, netD_1, m1_lenT, List.length_map, m2_eqI]
  rw [eq_len0]
  refine Ok.seq (Q := fun fl m' => m' = m4 ∧ ∃ T, TOk ws.length T ∧ 1 ≤ T.length ∧ fl = .nx ([some (.ref j), some (.lst (ws.map .str)), some (netD ws T), some (.tup (ns.map nI))] ++ List.replicate 21 none)) ?_ ?_
  · by_cases h0 : T0.length = 0
    · rw [decide_eq_true h0]
      try simp -implicitDefEqProofs only [runF, exs, ex, ev, evT, evI, evs, evAnd, evOr, evAndT, evOrT, QL.t3, QL.s3, QL.tr, bind_pure, bind_assoc, List.length_cons, List.length_nil, if_true, List.map_cons, List.map_nil, List.cons_append, List.nil_append, Nat.reduceAdd, Nat.reduceSub, List.replicate, getM_zero, getM_succ, items_tup, items_lst, List.set, ofO_some, compF, compF2, setT, setU, setAll, wipeE, truth_bl, nox_pure, netD_0, m1_neg, ix_lastW hpos]
      rw [show doM2 .ix (.lst (ws.map .str)) (.int 0) = M.pure (.str (wS ws 0)) from ix_wsL (k := 0) (by omega)]
      try simp -implicitDefEqProofs only [runF, exs, ex, ev, evT, evI, evs, evAnd, evOr, evAndT, evOrT, QL.t3, QL.s3, QL.tr, bind_pure, bind_assoc, List.length_cons, List.length_nil, if_true, List.map_cons, List.map_nil, List.cons_append, List.nil_append, Nat.reduceAdd, Nat.reduceSub, List.replicate, getM_zero, getM_succ, items_tup, items_lst, List.set, ofO_some, compF, compF2, setT, setU, setAll, wipeE, truth_bl, nox_pure, tup2, tupO1, lsto2]
      refine Ok.pure ⟨rfl, [(ws.length - 1, 0)], ⟨fun p hp => ?_, by simp⟩, by simp, rfl⟩
      have : p = (ws.length - 1, 0) := by simpa using hp
      rw [this]
      exact ⟨by show ws.length - 1 < _; omega, by show 0 < _; omega⟩
    · rw [decide_eq_false h0]
      try simp -implicitDefEqProofs only [runF, exs, ex, ev, evT, evI, evs, evAnd, evOr, evAndT, evOrT, QL.t3, QL.s3, QL.tr, bind_pure, bind_assoc, List.length_cons, List.length_nil, if_true, List.map_cons, List.map_nil, List.cons_append, List.nil_append, Nat.reduceAdd, Nat.reduceSub, List.replicate, getM_zero, getM_succ, items_tup, items_lst, List.set, ofO_some, compF, compF2, setT, setU, setAll, wipeE, truth_bl, nox_pure, Bool.false_eq_true, if_false]
      exact Ok.pure ⟨rfl, T0, hT0, by omega, rfl⟩
  rintro _ _ ⟨rfl, T, hT, hT1, rfl⟩
  have hT6 := hT.len3 l3
  try simp -implicitDefEqProofs only [runF, exs, ex, ev, evT, evI, evs, evAnd, evOr, evAndT, evOrT, QL.t3, QL.s3, QL.tr, bind_pure, bind_assoc, List.length_cons, List.length_nil, if_true, List.map_cons, List.map_nil, List.cons_append, List.nil_append, Nat.reduceAdd, Nat.reduceSub, List.replicate, getM_zero, getM_succ, items_tup, items_lst, List.set, ofO_some, compF, compF2, setT, setU, setAll, wipeE, truth_bl, nox_pure]
  refine Ok.seq (pick_tie (n := n + 6) (ws := ws) (T := T) hj4 (by omega) hT1 (by omega)) ?_
  rintro _ m5 ⟨e, p, hep, rfl, hj5⟩
  have hpT : p ∈ T ∨ sw p ∈ T := by
    rcases hep.2 with rfl | rfl
    · exact .inl (tA_mem hep.1)
    · exact .inr (by rw [sw_sw]; exact tA_mem hep.1)
  have hp := pmem_sw hT hpT
  try simp -implicitDefEqProofs only [runF, exs, ex, ev, evT, evI, evs, evAnd, evOr, evAndT, evOrT, QL.t3, QL.s3, QL.tr, bind_pure, bind_assoc, List.length_cons, List.length_nil, if_true, List.map_cons, List.map_nil, List.cons_append, List.nil_append, Nat.reduceAdd, Nat.reduceSub, List.replicate, getM_zero, getM_succ, items_tup, items_lst, List.set, ofO_some, compF, compF2, setT, setU, setAll, wipeE, truth_bl, nox_pure, law_text (n + 7) h hT]
  refine Ok.seq (law_all_ways (n + 6) h hT hT6 hn (fun k => Nat.le_trans (sum_le_get ns k) hs) m5) ?_
  rintro _ m6 ⟨he6, w, rfl, W, wl⟩
  obtain ⟨hne, k⟩ := known_of h l3 hT hn hs W wl
  have hj6 := hj5.ext he6
  have hwpos : 1 ≤ w.length := List.length_pos_iff.mpr hne
  generalize hB : minL (w.map fun x => (x.2.sum : Int)) = B at k
  have hBn := k.nn
  try simp -implicitDefEqProofs only [runF, exs, ex, ev, evT, evI, evs, evAnd, evOr, evAndT, evOrT, QL.t3, QL.s3, QL.tr, bind_pure, bind_assoc, List.length_cons, List.length_nil, if_true, List.map_cons, List.map_nil, List.cons_append, List.nil_append, Nat.reduceAdd, Nat.reduceSub, List.replicate, getM_zero, getM_succ, items_tup, items_lst, List.set, ofO_some, compF, compF2, setT, setU, setAll, wipeE, truth_bl, nox_pure, tupO3, netD_0]
  rw [show linkD ws p = .tup [.str (wS ws p.1), .str (wS ws p.2)] from rfl]
  try simp -implicitDefEqProofs only [runF, exs, ex, ev, evT, evI, evs, evAnd, evOr, evAndT, evOrT, QL.t3, QL.s3, QL.tr, bind_pure, bind_assoc, List.length_cons, List.length_nil, if_true, List.map_cons, List.map_nil, List.cons_append, List.nil_append, Nat.reduceAdd, Nat.reduceSub, List.replicate, getM_zero, getM_succ, items_tup, items_lst, List.set, ofO_some, compF, compF2, setT, setU, setAll, wipeE, truth_bl, nox_pure, recvIx, ixT_0, ixT_1, index_ws h hp.1, index_ws h hp.2, tup2, netD_1, netD_0]
  rw [lim_ok (by rw [List.length_map]; omega), bind_pure, compL_map (c := linkD ws) (g := fun r => .bl (decide (p ∈ [r, sw r])))]
  rotate_left
  · intro r hr
    have h1 := hT.lt r hr
    try simp -implicitDefEqProofs only [runF, exs, ex, ev, evT, evI, evs, evAnd, evOr, evAndT, evOrT, QL.t3, QL.s3, QL.tr, bind_pure, bind_assoc, List.length_cons, List.length_nil, if_true, List.map_cons, List.map_nil, List.cons_append, List.nil_append, Nat.reduceAdd, Nat.reduceSub, List.replicate, getM_zero, getM_succ, items_tup, items_lst, List.set, ofO_some, compF, compF2, setT, setU, setAll, wipeE, truth_bl, nox_pure]
    rw [show linkD ws r = .tup [.str (wS ws r.1), .str (wS ws r.2)] from rfl]
    try simp -implicitDefEqProofs only [runF, exs, ex, ev, evT, evI, evs, evAnd, evOr, evAndT, evOrT, QL.t3, QL.s3, QL.tr, bind_pure, bind_assoc, List.length_cons, List.length_nil, if_true, List.map_cons, List.map_nil, List.cons_append, List.nil_append, Nat.reduceAdd, Nat.reduceSub, List.replicate, getM_zero, getM_succ, items_tup, items_lst, List.set, ofO_some, compF, compF2, setT, setU, setAll, wipeE, truth_bl, nox_pure, ixT_0, ixT_1, tup2, lsto2]
    rw [show doM2 .isIn (.tup [.str (wS ws p.1), .str (wS ws p.2)]) (.lst [.tup [.str (wS ws r.1), .str (wS ws r.2)], .tup [.str (wS ws r.2), .str (wS ws r.1)]]) = _ from in_linkL2 h hp h1]
    rfl
  try simp -implicitDefEqProofs only [runF, exs, ex, ev, evT, evI, evs, evAnd, evOr, evAndT, evOrT, QL.t3, QL.s3, QL.tr, bind_pure, bind_assoc, List.length_cons, List.length_nil, if_true, List.map_cons, List.map_nil, List.cons_append, List.nil_append, Nat.reduceAdd, Nat.reduceSub, List.replicate, getM_zero, getM_succ, items_tup, items_lst, List.set, ofO_some, compF, compF2, setT, setU, setAll, wipeE, truth_bl, nox_pure, show recvM .index (.lst (T.map fun r => D.bl (decide (p ∈ [r, sw r])))) = M.pure ⟨⟩ from rfl]
  have hkey : ∀ r : Nat × Nat, decide (p ∈ [r, sw r]) = decide (key p = key r) := fun r => by
    refine decide_eq_decide.mpr ⟨fun z => ?_, fun z => ?_⟩
    · have z : p = r ∨ p = sw r := by simpa using z
      rcases z with rfl | rfl
      · rfl
      · exact key_sw r
    · have := key_eq z
      simpa using this
  rw [show (T.map fun r => D.bl (decide (p ∈ [r, sw r]))) = (T.map fun r => decide (p ∈ [r, sw r])).map .bl by rw [List.map_map]; rfl]
  have hbits : ∀ i, i < T.length → (T.map fun r => decide (p ∈ [r, sw r]))[i]? = some (decide (key p = key (tA T i))) := fun i hi => by
    simp only [hkey]
    rw [List.getElem?_map, List.getElem?_eq_getElem hi, tA_get hi]
    rfl
  have hel : e < T.length := hep.1
  rw [m2_indexB (k := e) (by rw [hbits e hel, decide_eq_true hep.key]) (fun i hi => by
    rw [hbits i (by omega), decide_eq_false]
    intro z
    rw [hep.key] at z
    have := hT.kinj hel (show i < T.length by omega) z
    omega)]
  try simp -implicitDefEqProofs only [runF, exs, ex, ev, evT, evI, evs, evAnd, evOr, evAndT, evOrT, QL.t3, QL.s3, QL.tr, bind_pure, bind_assoc, List.length_cons, List.length_nil, if_true, List.map_cons, List.map_nil, List.cons_append, List.nil_append, Nat.reduceAdd, Nat.reduceSub, List.replicate, getM_zero, getM_succ, items_tup, items_lst, List.set, ofO_some, compF, compF2, setT, setU, setAll, wipeE, truth_bl, nox_pure]
  rw [lim_ok (by rw [List.length_map]; omega), bind_pure, compL_map (c := wayD) (g := fun x => .int (x.2.sum : Nat))]
  rotate_left
  · intro x hx
    unfold wayD
    try simp -implicitDefEqProofs only [runF, exs, ex, ev, evT, evI, evs, evAnd, evOr, evAndT, evOrT, QL.t3, QL.s3, QL.tr, bind_pure, bind_assoc, List.length_cons, List.length_nil, if_true, List.map_cons, List.map_nil, List.cons_append, List.nil_append, Nat.reduceAdd, Nat.reduceSub, List.replicate, getM_zero, getM_succ, items_tup, items_lst, List.set, ofO_some, compF, compF2, setT, setU, setAll, wipeE, truth_bl, nox_pure, m1_list, sum_nI]
  try simp -implicitDefEqProofs only [runF, exs, ex, ev, evT, evI, evs, evAnd, evOr, evAndT, evOrT, QL.t3, QL.s3, QL.tr, bind_pure, bind_assoc, List.length_cons, List.length_nil, if_true, List.map_cons, List.map_nil, List.cons_append, List.nil_append, Nat.reduceAdd, Nat.reduceSub, List.replicate, getM_zero, getM_succ, items_tup, items_lst, List.set, ofO_some, compF, compF2, setT, setU, setAll, wipeE, truth_bl, nox_pure]
  rw [show w.map (fun x => D.int (x.2.sum : Nat)) = (w.map fun x => ((x.2.sum : Nat) : Int)).map .int by rw [List.map_map]; rfl, m1_minL (fun z => hne (List.map_eq_nil_iff.mp z)), hB]
  try simp -implicitDefEqProofs only [runF, exs, ex, ev, evT, evI, evs, evAnd, evOr, evAndT, evOrT, QL.t3, QL.s3, QL.tr, bind_pure, bind_assoc, List.length_cons, List.length_nil, if_true, List.map_cons, List.map_nil, List.cons_append, List.nil_append, Nat.reduceAdd, Nat.reduceSub, List.replicate, getM_zero, getM_succ, items_tup, items_lst, List.set, ofO_some, compF, compF2, setT, setU, setAll, wipeE, truth_bl, nox_pure]
  have hwt := without_tie (n + 6) h hT p
  rw [show pD p = .tup [nI p.1, nI p.2] from rfl] at hwt
  have hoT := offT_ok hT p
  rw [show run PT (n + 8) 64 [netD ws T, .tup [nI p.1, nI p.2]] = _ from hwt]
  try simp -implicitDefEqProofs only [runF, exs, ex, ev, evT, evI, evs, evAnd, evOr, evAndT, evOrT, QL.t3, QL.s3, QL.tr, bind_pure, bind_assoc, List.length_cons, List.length_nil, if_true, List.map_cons, List.map_nil, List.cons_append, List.nil_append, Nat.reduceAdd, Nat.reduceSub, List.replicate, getM_zero, getM_succ, items_tup, items_lst, List.set, ofO_some, compF, compF2, setT, setU, setAll, wipeE, truth_bl, nox_pure, all_cuts (n + 6) h hoT, tup2]
  rw [compL_filter (c := wayD) (p := fun x => decide ((x.2.sum : Int) = B)) (g := fun x => .tup (x.1.map nI))]
  rotate_left
  · intro x hx
    unfold wayD
    try simp -implicitDefEqProofs only [runF, exs, ex, ev, evT, evI, evs, evAnd, evOr, evAndT, evOrT, QL.t3, QL.s3, QL.tr, bind_pure, bind_assoc, List.length_cons, List.length_nil, if_true, List.map_cons, List.map_nil, List.cons_append, List.nil_append, Nat.reduceAdd, Nat.reduceSub, List.replicate, getM_zero, getM_succ, items_tup, items_lst, List.set, ofO_some, compF, compF2, setT, setU, setAll, wipeE, truth_bl, nox_pure, m1_list, sum_nI, m2_eqI]
    cases decide ((x.2.sum : Int) = B) <;> rfl
  try simp -implicitDefEqProofs only [runF, exs, ex, ev, evT, evI, evs, evAnd, evOr, evAndT, evOrT, QL.t3, QL.s3, QL.tr, bind_pure, bind_assoc, List.length_cons, List.length_nil, if_true, List.map_cons, List.map_nil, List.cons_append, List.nil_append, Nat.reduceAdd, Nat.reduceSub, List.replicate, getM_zero, getM_succ, items_tup, items_lst, List.set, ofO_some, compF, compF2, setT, setU, setAll, wipeE, truth_bl, nox_pure, m1_len, List.length_map]
  generalize hG : w.filter (fun x => decide ((x.2.sum : Int) = B)) = G
  have hGm : ∀ x, x ∈ G ↔ x ∈ w ∧ (x.2.sum : Int) = B := fun x => by
    rw [← hG, List.mem_filter, decide_eq_true_eq]
  have hGl : G.length ≤ 117649 := by rw [← hG]; exact Nat.le_trans (List.length_filter_le _ _) wl
  have hGp : 1 ≤ G.length := by
    obtain ⟨x, hx, ex⟩ := k.eq
    exact List.length_pos_of_mem (a := x) ((hGm x).mpr ⟨hx, ex⟩)
  refine Ok.seq (draw hj6 (by omega) (by omega) (by omega)) ?_
  rintro _ m7 ⟨r1, rfl, hr1, _, hj7⟩
  obtain ⟨x, hx, ex⟩ := pick73 (c := fun x : Way => D.tup (x.1.map nI)) (l := G) (r := r1) (by omega)
  obtain ⟨hxw, hxB⟩ := (hGm x).mp hx
  rw [ex]
  try simp -implicitDefEqProofs only [runF, exs, ex, ev, evT, evI, evs, evAnd, evOr, evAndT, evOrT, QL.t3, QL.s3, QL.tr, bind_pure, bind_assoc, List.length_cons, List.length_nil, if_true, List.map_cons, List.map_nil, List.cons_append, List.nil_append, Nat.reduceAdd, Nat.reduceSub, List.replicate, getM_zero, getM_succ, items_tup, items_lst, List.set, ofO_some, compF, compF2, setT, setU, setAll, wipeE, truth_bl, nox_pure, as_paper (n + 7) h hT (W.snd x hxw).1, m1_len, List.length_map]
  refine Ok.seq (draw hj7 (by omega) (by omega) (by omega)) ?_
  rintro _ m8 ⟨r2, rfl, hr2, _, hj8⟩
  obtain ⟨y, hy, ey⟩ := pick73 (c := wayD) (l := w) (r := r2) (by omega)
  rw [ey]
  have hroom := law_room (n + 7) (rs := ns) (p := p) (by omega) (by omega)
  rw [show pD p = .tup [nI p.1, nI p.2] from rfl] at hroom
  have hrm6 : room ns p ≤ 6 := room_le k.hns
  try simp -implicitDefEqProofs only [runF, exs, ex, ev, evT, evI, evs, evAnd, evOr, evAndT, evOrT, QL.t3, QL.s3, QL.tr, bind_pure, bind_assoc, List.length_cons, List.length_nil, if_true, List.map_cons, List.map_nil, List.cons_append, List.nil_append, Nat.reduceAdd, Nat.reduceSub, List.replicate, getM_zero, getM_succ, items_tup, items_lst, List.set, ofO_some, compF, compF2, setT, setU, setAll, wipeE, truth_bl, nox_pure, hroom]
  rw [show doM2 .add (nI (room ns p)) (.int 3) = M.pure (nI (room ns p + 3)) from rfl]
  try simp -implicitDefEqProofs only [runF, exs, ex, ev, evT, evI, evs, evAnd, evOr, evAndT, evOrT, QL.t3, QL.s3, QL.tr, bind_pure, bind_assoc, List.length_cons, List.length_nil, if_true, List.map_cons, List.map_nil, List.cons_append, List.nil_append, Nat.reduceAdd, Nat.reduceSub, List.replicate, getM_zero, getM_succ, items_tup, items_lst, List.set, ofO_some, compF, compF2, setT, setU, setAll, wipeE, truth_bl, nox_pure]
  show Ok (M.bind (rangeM 0 ((room ns p + 3 : Nat) : Int)) _) m8 _
  rw [rangeM_nat (by omega), bind_pure]
  refine Ok.bind (Ok.forL (c := nI) (fun pre ρ m' => Jar j (K + 1000 + 200 * pre.length) m' ∧ ∃ (t12 t17 t18 t19 t20 t21 t22 t23 t24 : Option D), ρ = [some (.ref j), some (.lst (ws.map .str)), some (netD ws T), some (.tup (ns.map nI)), some (.tup [.str (wS ws p.1), .str (wS ws p.2)]), some (.str (textS ws T)), some (.lst (w.map wayD)), some (.tup [nI p.1, nI p.2]), some (nI e), none, some (.int B), some (.lst ((subL ws.length).map (cutL ws.length (offT T p)))), t12, none, some (.lst (G.map fun x => .tup (x.1.map nI))), some (paperD ws T x.1), some (wayD y), t17, t18, t19, t20, t21, t22, t23, t24]) ?_ ?_ ?_)
  · exact ⟨hj8.mono (by simp; omega), none, none, none, none, none, none, none, none, none, rfl⟩
  · rintro pre t post ρ m9 epre ⟨hj9, t12, t17, t18, t19, t20, t21, t22, t23, t24, rfl⟩
    obtain ⟨ht1, ht2⟩ := range_at epre
    try simp -implicitDefEqProofs only [runF, exs, ex, ev, evT, evI, evs, evAnd, evOr, evAndT, evOrT, QL.t3, QL.s3, QL.tr, bind_pure, bind_assoc, List.length_cons, List.length_nil, if_true, List.map_cons, List.map_nil, List.cons_append, List.nil_append, Nat.reduceAdd, Nat.reduceSub, List.replicate, getM_zero, getM_succ, items_tup, items_lst, List.set, ofO_some, compF, compF2, setT, setU, setAll, wipeE, truth_bl, nox_pure, ixT_0, ixT_1, tupO6, hroom, m2_gtN, show tupO [] = some (.tup []) from rfl]
    refine Ok.seq (acc_nil (n + 2) h hT hn k.hns hpT t m9) ?_
    rintro _ m10 ⟨he10, rfl⟩
    try simp -implicitDefEqProofs only [runF, exs, ex, ev, evT, evI, evs, evAnd, evOr, evAndT, evOrT, QL.t3, QL.s3, QL.tr, bind_pure, bind_assoc, List.length_cons, List.length_nil, if_true, List.map_cons, List.map_nil, List.cons_append, List.nil_append, Nat.reduceAdd, Nat.reduceSub, List.replicate, getM_zero, getM_succ, items_tup, items_lst, List.set, ofO_some, compF, compF2, setT, setU, setAll, wipeE, truth_bl, nox_pure, m1_repr, ne_repr, decide_true, Bool.not_true, Bool.false_eq_true, if_false]
    have hj10 := hj9.ext he10
    by_cases hless : room ns p < t
    · rw [decide_eq_true hless]
      try simp -implicitDefEqProofs only [runF, exs, ex, ev, evT, evI, evs, evAnd, evOr, evAndT, evOrT, QL.t3, QL.s3, QL.tr, bind_pure, bind_assoc, List.length_cons, List.length_nil, if_true, List.map_cons, List.map_nil, List.cons_append, List.nil_append, Nat.reduceAdd, Nat.reduceSub, List.replicate, getM_zero, getM_succ, items_tup, items_lst, List.set, ofO_some, compF, compF2, setT, setU, setAll, wipeE, truth_bl, nox_pure, Bool.not_true, Bool.false_eq_true, if_false, lsto0, QL.forL, m2_gt]
      rw [show decide ((0 : Int) < 0) = false from rfl]
      try simp -implicitDefEqProofs only [runF, exs, ex, ev, evT, evI, evs, evAnd, evOr, evAndT, evOrT, QL.t3, QL.s3, QL.tr, bind_pure, bind_assoc, List.length_cons, List.length_nil, if_true, List.map_cons, List.map_nil, List.cons_append, List.nil_append, Nat.reduceAdd, Nat.reduceSub, List.replicate, getM_zero, getM_succ, items_tup, items_lst, List.set, ofO_some, compF, compF2, setT, setU, setAll, wipeE, truth_bl, nox_pure, Bool.false_eq_true, if_false]
      rw [lim_ok (by rw [List.length_map]; omega), bind_pure, compL_map (c := fun x : Way => D.tup (x.1.map nI)) (g := fun x => nI (x.1.getD e 0))]
      rotate_left
      · intro z hz
        have hzl := (W.snd z ((hGm z).mp hz).1).1
        try simp -implicitDefEqProofs only [runF, exs, ex, ev, evT, evI, evs, evAnd, evOr, evAndT, evOrT, QL.t3, QL.s3, QL.tr, bind_pure, bind_assoc, List.length_cons, List.length_nil, if_true, List.map_cons, List.map_nil, List.cons_append, List.nil_append, Nat.reduceAdd, Nat.reduceSub, List.replicate, getM_zero, getM_succ, items_tup, items_lst, List.set, ofO_some, compF, compF2, setT, setU, setAll, wipeE, truth_bl, nox_pure, ix_nsT (show e < z.1.length by omega)]
      try simp -implicitDefEqProofs only [runF, exs, ex, ev, evT, evI, evs, evAnd, evOr, evAndT, evOrT, QL.t3, QL.s3, QL.tr, bind_pure, bind_assoc, List.length_cons, List.length_nil, if_true, List.map_cons, List.map_nil, List.cons_append, List.nil_append, Nat.reduceAdd, Nat.reduceSub, List.replicate, getM_zero, getM_succ, items_tup, items_lst, List.set, ofO_some, compF, compF2, setT, setU, setAll, wipeE, truth_bl, nox_pure]
      rw [show G.map (fun x : Way => nI (x.1.getD e 0)) = (G.map fun x => x.1.getD e 0).map nI by rw [List.map_map]; rfl, in_nL, decide_eq_false (show ¬ t ∈ G.map fun x => x.1.getD e 0 from fun z => by
        obtain ⟨y2, hy2, e2⟩ := List.mem_map.mp z
        have := way_room hT hn W hep hp ((hGm y2).mp hy2).1
        omega)]
      try simp -implicitDefEqProofs only [runF, exs, ex, ev, evT, evI, evs, evAnd, evOr, evAndT, evOrT, QL.t3, QL.s3, QL.tr, bind_pure, bind_assoc, List.length_cons, List.length_nil, if_true, List.map_cons, List.map_nil, List.cons_append, List.nil_append, Nat.reduceAdd, Nat.reduceSub, List.replicate, getM_zero, getM_succ, items_tup, items_lst, List.set, ofO_some, compF, compF2, setT, setU, setAll, wipeE, truth_bl, nox_pure, m2_eqB, show decide (true = false) = false from rfl, Bool.false_eq_true, if_false]
      exact Ok.pure ⟨_, rfl, hj10.mono (by simp; omega), _, _, _, _, _, _, _, _, _, rfl⟩
    · have htr : t ≤ room ns p := by omega
      rw [decide_eq_false hless]
      try simp -implicitDefEqProofs only [runF, exs, ex, ev, evT, evI, evs, evAnd, evOr, evAndT, evOrT, QL.t3, QL.s3, QL.tr, bind_pure, bind_assoc, List.length_cons, List.length_nil, if_true, List.map_cons, List.map_nil, List.cons_append, List.nil_append, Nat.reduceAdd, Nat.reduceSub, List.replicate, getM_zero, getM_succ, items_tup, items_lst, List.set, ofO_some, compF, compF2, setT, setU, setAll, wipeE, truth_bl, nox_pure, Bool.not_false]
      refine Ok.bind (Ok.forL (c := cutL ws.length (offT T p)) (fun preU ρ m' => Jar j (K + 1000 + 200 * pre.length + 5 * preU.length) m' ∧ ∃ (s : Int) (t21 t22 t23 t24 : Option D), ρ = [some (.ref j), some (.lst (ws.map .str)), some (netD ws T), some (.tup (ns.map nI)), some (.tup [.str (wS ws p.1), .str (wS ws p.2)]), some (.str (textS ws T)), some (.lst (w.map wayD)), some (.tup [nI p.1, nI p.2]), some (nI e), none, some (.int B), some (.lst ((subL ws.length).map (cutL ws.length (offT T p)))), t12, none, some (.lst (G.map fun x => .tup (x.1.map nI))), some (paperD ws T x.1), some (wayD y), some (nI t), some (.tup [.str "without", .str (textS ws T), .tup (ns.map nI), .str (wS ws p.1), .str (wS ws p.2), nI t]), some (.int s), some (.bl false), t21, t22, t23, t24] ∧ 0 ≤ s ∧ (∀ U ∈ preU, B < oval ws.length (offT T p) U (took ns p t) → 0 < s) ∧ (0 < s → ∃ U ∈ subL ws.length, B < oval ws.length (offT T p) U (took ns p t))) ?_ ?_ ?_)
      · exact ⟨hj10, 0, t21, t22, t23, t24, rfl, by omega, (fun _ h => by cases h), fun z => by omega⟩
      · rintro preU U postU ρ m11 eU ⟨hj11, s, t21, t22, t23, t24, rfl, hs0, hs1, hs2⟩
        have hU : U ∈ subL ws.length := by rw [eU]; simp
        obtain ⟨nd, hUq⟩ := sub_mem hU
        have hUl := nodup_le nd hUq
        have hpl : preU.length < 64 ∧ pre.length < 10 := by
          have h1 := sub_len_pow ws.length
          have : 2 ^ ws.length ≤ 2 ^ 3 := Nat.pow_le_pow_right (by omega) l3
          have : preU.length < (subL ws.length).length := by rw [eU]; simp
          omega
        try simp -implicitDefEqProofs only [runF, exs, ex, ev, evT, evI, evs, evAnd, evOr, evAndT, evOrT, QL.t3, QL.s3, QL.tr, bind_pure, bind_assoc, List.length_cons, List.length_nil, if_true, List.map_cons, List.map_nil, List.cons_append, List.nil_append, Nat.reduceAdd, Nat.reduceSub, List.replicate, getM_zero, getM_succ, items_tup, items_lst, List.set, ofO_some, compF, compF2, setT, setU, setAll, wipeE, truth_bl, nox_pure]
        rw [show doM2 .ix (cutL ws.length (offT T p) U) (.int 0) = M.pure (lD U) from ixL_0 _ _]
        try simp -implicitDefEqProofs only [runF, exs, ex, ev, evT, evI, evs, evAnd, evOr, evAndT, evOrT, QL.t3, QL.s3, QL.tr, bind_pure, bind_assoc, List.length_cons, List.length_nil, if_true, List.map_cons, List.map_nil, List.cons_append, List.nil_append, Nat.reduceAdd, Nat.reduceSub, List.replicate, getM_zero, getM_succ, items_tup, items_lst, List.set, ofO_some, compF, compF2, setT, setU, setAll, wipeE, truth_bl, nox_pure, items_lD]
        rw [lim_ok (by rw [List.length_map]; omega), bind_pure, compL_map (c := nI) (g := fun k => .str (wS ws k))]
        rotate_left
        · intro a ha
          try simp -implicitDefEqProofs only [runF, exs, ex, ev, evT, evI, evs, evAnd, evOr, evAndT, evOrT, QL.t3, QL.s3, QL.tr, bind_pure, bind_assoc, List.length_cons, List.length_nil, if_true, List.map_cons, List.map_nil, List.cons_append, List.nil_append, Nat.reduceAdd, Nat.reduceSub, List.replicate, getM_zero, getM_succ, items_tup, items_lst, List.set, ofO_some, compF, compF2, setT, setU, setAll, wipeE, truth_bl, nox_pure, netD_0, ix_wsT (hUq a ha)]
        try simp -implicitDefEqProofs only [runF, exs, ex, ev, evT, evI, evs, evAnd, evOr, evAndT, evOrT, QL.t3, QL.s3, QL.tr, bind_pure, bind_assoc, List.length_cons, List.length_nil, if_true, List.map_cons, List.map_nil, List.cons_append, List.nil_append, Nat.reduceAdd, Nat.reduceSub, List.replicate, getM_zero, getM_succ, items_tup, items_lst, List.set, ofO_some, compF, compF2, setT, setU, setAll, wipeE, truth_bl, nox_pure]
        refine Ok.seq (turned (n := n + 6) (row := U.map fun k => .str (wS ws k)) rfl hj11 (by rw [List.length_map]; omega) (by rw [List.length_map]; omega)) ?_
        rintro _ m12 ⟨found, rfl, hperm, _, hj12⟩
        obtain ⟨L, hL, rfl⟩ := perm_map_inv hperm U rfl
        rw [List.length_map] at hj12
        rw [show D.tup (L.map fun k => .str (wS ws k)) = lotD ws L from rfl]
        try simp -implicitDefEqProofs only [runF, exs, ex, ev, evT, evI, evs, evAnd, evOr, evAndT, evOrT, QL.t3, QL.s3, QL.tr, bind_pure, bind_assoc, List.length_cons, List.length_nil, if_true, List.map_cons, List.map_nil, List.cons_append, List.nil_append, Nat.reduceAdd, Nat.reduceSub, List.replicate, getM_zero, getM_succ, items_tup, items_lst, List.set, ofO_some, compF, compF2, setT, setU, setAll, wipeE, truth_bl, nox_pure]
        refine Ok.seq (took_run (n + 7) (rs := ns) (p := p) (t := t) (by omega) (by omega) htr m12) ?_
        rintro _ m13 ⟨he13, rfl⟩
        have hj13 := hj12.ext he13
        try simp -implicitDefEqProofs only [runF, exs, ex, ev, evT, evI, evs, evAnd, evOr, evAndT, evOrT, QL.t3, QL.s3, QL.tr, bind_pure, bind_assoc, List.length_cons, List.length_nil, if_true, List.map_cons, List.map_nil, List.cons_append, List.nil_append, Nat.reduceAdd, Nat.reduceSub, List.replicate, getM_zero, getM_succ, items_tup, items_lst, List.set, ofO_some, compF, compF2, setT, setU, setAll, wipeE, truth_bl, nox_pure, m1_lenT, List.length_map]
        rw [hn, m1_lrange (show ws.length ≤ 1000000 by omega)]
        try simp -implicitDefEqProofs only [runF, exs, ex, ev, evT, evI, evs, evAnd, evOr, evAndT, evOrT, QL.t3, QL.s3, QL.tr, bind_pure, bind_assoc, List.length_cons, List.length_nil, if_true, List.map_cons, List.map_nil, List.cons_append, List.nil_append, Nat.reduceAdd, Nat.reduceSub, List.replicate, getM_zero, getM_succ, items_tup, items_lst, List.set, ofO_some, compF, compF2, setT, setU, setAll, wipeE, truth_bl, nox_pure]
        rw [own_worth (n + 6) (by omega) hoT nd hUq (took ns p t) (by rw [took_len]; exact hn)]
        try simp -implicitDefEqProofs only [runF, exs, ex, ev, evT, evI, evs, evAnd, evOr, evAndT, evOrT, QL.t3, QL.s3, QL.tr, bind_pure, bind_assoc, List.length_cons, List.length_nil, if_true, List.map_cons, List.map_nil, List.cons_append, List.nil_append, Nat.reduceAdd, Nat.reduceSub, List.replicate, getM_zero, getM_succ, items_tup, items_lst, List.set, ofO_some, compF, compF2, setT, setU, setAll, wipeE, truth_bl, nox_pure, tup2]
        refine Ok.seq (acc_without (n + 2) h hT hn k.hns W hxw hU hL hpT htr m13) ?_
        rintro _ m14 ⟨he14, rfl⟩
        rw [hxB]
        try simp -implicitDefEqProofs only [runF, exs, ex, ev, evT, evI, evs, evAnd, evOr, evAndT, evOrT, QL.t3, QL.s3, QL.tr, bind_pure, bind_assoc, List.length_cons, List.length_nil, if_true, List.map_cons, List.map_nil, List.cons_append, List.nil_append, Nat.reduceAdd, Nat.reduceSub, List.replicate, getM_zero, getM_succ, items_tup, items_lst, List.set, ofO_some, compF, compF2, setT, setU, setAll, wipeE, truth_bl, nox_pure, m2_gt, m1_repr, ne_repr, decide_true, Bool.not_true, Bool.false_eq_true, if_false]
        rw [show wayD y = .lst [.tup (y.1.map nI), .tup (y.2.map nI)] from rfl]
        try simp -implicitDefEqProofs only [runF, exs, ex, ev, evT, evI, evs, evAnd, evOr, evAndT, evOrT, QL.t3, QL.s3, QL.tr, bind_pure, bind_assoc, List.length_cons, List.length_nil, if_true, List.map_cons, List.map_nil, List.cons_append, List.nil_append, Nat.reduceAdd, Nat.reduceSub, List.replicate, getM_zero, getM_succ, items_tup, items_lst, List.set, ofO_some, compF, compF2, setT, setU, setAll, wipeE, truth_bl, nox_pure, ixL_0, ixL_1, as_paper (n + 7) h hT (W.snd y hy).1, tup2]
        refine Ok.seq (acc_without (n + 2) h hT hn k.hns W hy hU hL hpT htr m14) ?_
        rintro _ m15 ⟨he15, rfl⟩
        try simp -implicitDefEqProofs only [runF, exs, ex, ev, evT, evI, evs, evAnd, evOr, evAndT, evOrT, QL.t3, QL.s3, QL.tr, bind_pure, bind_assoc, List.length_cons, List.length_nil, if_true, List.map_cons, List.map_nil, List.cons_append, List.nil_append, Nat.reduceAdd, Nat.reduceSub, List.replicate, getM_zero, getM_succ, items_tup, items_lst, List.set, ofO_some, compF, compF2, setT, setU, setAll, wipeE, truth_bl, nox_pure, m1_list, sum_nI, m2_gt, m1_repr, ne_repr, decide_true, Bool.not_true, Bool.false_eq_true, if_false, ixL_1, m1_intB, m2_add]
        refine Ok.pure ⟨_, rfl, ((hj13.ext he14).ext he15).mono (by simp; omega), _, _, _, _, _, rfl, ?_, fun V hV hVB => ?_, fun hpos => ?_⟩
        · split <;> omega
        · rcases List.mem_append.mp hV with hV | hV
          · have := hs1 V hV hVB
            split <;> omega
          · have : V = U := by simpa using hV
            subst this
            rw [decide_eq_true hVB]
            simp
            omega
        · by_cases hUB : B < oval ws.length (offT T p) U (took ns p t)
          · exact ⟨U, hU, hUB⟩
          · rw [decide_eq_false hUB] at hpos
            exact hs2 (by simpa using hpos)
      · rintro ρ m11 ⟨hj11, s, t21, t22, t23, t24, rfl, hs0, hs1, hs2⟩
        have hpl : (subL ws.length).length ≤ 8 := by
          have h1 := sub_len_pow ws.length
          have : 2 ^ ws.length ≤ 2 ^ 3 := Nat.pow_le_pow_right (by omega) l3
          omega
        have hmath := without_math hT hn W k.lb hep hp htr
        try simp -implicitDefEqProofs only [runF, exs, ex, ev, evT, evI, evs, evAnd, evOr, evAndT, evOrT, QL.t3, QL.s3, QL.tr, bind_pure, bind_assoc, List.length_cons, List.length_nil, if_true, List.map_cons, List.map_nil, List.cons_append, List.nil_append, Nat.reduceAdd, Nat.reduceSub, List.replicate, getM_zero, getM_succ, items_tup, items_lst, List.set, ofO_some, compF, compF2, setT, setU, setAll, wipeE, truth_bl, nox_pure, m2_gt]
        have hor : (if decide ((0 : Int) < s) = true then M.pure (D.bl true) else M.pure (D.bl false)) = (M.pure (.bl (decide ((0 : Int) < s))) : M D) := by
          cases decide ((0 : Int) < s) <;> rfl
        rw [hor]
        try simp -implicitDefEqProofs only [runF, exs, ex, ev, evT, evI, evs, evAnd, evOr, evAndT, evOrT, QL.t3, QL.s3, QL.tr, bind_pure, bind_assoc, List.length_cons, List.length_nil, if_true, List.map_cons, List.map_nil, List.cons_append, List.nil_append, Nat.reduceAdd, Nat.reduceSub, List.replicate, getM_zero, getM_succ, items_tup, items_lst, List.set, ofO_some, compF, compF2, setT, setU, setAll, wipeE, truth_bl, nox_pure]
        rw [lim_ok (by rw [List.length_map]; omega), bind_pure, compL_map (c := fun x : Way => D.tup (x.1.map nI)) (g := fun x => nI (x.1.getD e 0))]
        rotate_left
        · intro z hz
          have hzl := (W.snd z ((hGm z).mp hz).1).1
          try simp -implicitDefEqProofs only [runF, exs, ex, ev, evT, evI, evs, evAnd, evOr, evAndT, evOrT, QL.t3, QL.s3, QL.tr, bind_pure, bind_assoc, List.length_cons, List.length_nil, if_true, List.map_cons, List.map_nil, List.cons_append, List.nil_append, Nat.reduceAdd, Nat.reduceSub, List.replicate, getM_zero, getM_succ, items_tup, items_lst, List.set, ofO_some, compF, compF2, setT, setU, setAll, wipeE, truth_bl, nox_pure, ix_nsT (show e < z.1.length by omega)]
        try simp -implicitDefEqProofs only [runF, exs, ex, ev, evT, evI, evs, evAnd, evOr, evAndT, evOrT, QL.t3, QL.s3, QL.tr, bind_pure, bind_assoc, List.length_cons, List.length_nil, if_true, List.map_cons, List.map_nil, List.cons_append, List.nil_append, Nat.reduceAdd, Nat.reduceSub, List.replicate, getM_zero, getM_succ, items_tup, items_lst, List.set, ofO_some, compF, compF2, setT, setU, setAll, wipeE, truth_bl, nox_pure]
        rw [show G.map (fun x : Way => nI (x.1.getD e 0)) = (G.map fun x => x.1.getD e 0).map nI by rw [List.map_map]; rfl, in_nL]
        try simp -implicitDefEqProofs only [runF, exs, ex, ev, evT, evI, evs, evAnd, evOr, evAndT, evOrT, QL.t3, QL.s3, QL.tr, bind_pure, bind_assoc, List.length_cons, List.length_nil, if_true, List.map_cons, List.map_nil, List.cons_append, List.nil_append, Nat.reduceAdd, Nat.reduceSub, List.replicate, getM_zero, getM_succ, items_tup, items_lst, List.set, ofO_some, compF, compF2, setT, setU, setAll, wipeE, truth_bl, nox_pure, m2_eqB]
        have hne2 : decide (decide ((0 : Int) < s) = decide (t ∈ G.map fun x => x.1.getD e 0)) = false := decide_eq_false fun z => by
          have hmem : t ∈ (G.map fun x => x.1.getD e 0) ↔ ∃ x ∈ w, (x.2.sum : Int) = B ∧ x.1.getD e 0 = t := by
            rw [List.mem_map]
            constructor
            · rintro ⟨y2, hy2, e2⟩
              exact ⟨y2, ((hGm y2).mp hy2).1, ((hGm y2).mp hy2).2, e2⟩
            · rintro ⟨y2, h1, h2, h3⟩
              exact ⟨y2, (hGm y2).mpr ⟨h1, h2⟩, h3⟩
          have hz : (0 : Int) < s ↔ ∃ x ∈ w, (x.2.sum : Int) = B ∧ x.1.getD e 0 = t := by
            rw [← hmem]
            exact decide_eq_decide.mp z
          by_cases hsp : (0 : Int) < s
          · exact hmath.mp (hs2 hsp) (hz.mp hsp)
          · obtain ⟨U, hU, hUB⟩ := hmath.mpr fun y2 => hsp (hz.mpr y2)
            exact hsp (hs1 U hU hUB)
        rw [hne2]
        try simp -implicitDefEqProofs only [runF, exs, ex, ev, evT, evI, evs, evAnd, evOr, evAndT, evOrT, QL.t3, QL.s3, QL.tr, bind_pure, bind_assoc, List.length_cons, List.length_nil, if_true, List.map_cons, List.map_nil, List.cons_append, List.nil_append, Nat.reduceAdd, Nat.reduceSub, List.replicate, getM_zero, getM_succ, items_tup, items_lst, List.set, ofO_some, compF, compF2, setT, setU, setAll, wipeE, truth_bl, nox_pure, Bool.false_eq_true, if_false]
        exact Ok.pure ⟨_, rfl, hj11.mono (by simp; omega), _, _, _, _, _, _, _, _, _, rfl⟩
  · rintro ρ m9 ⟨hj9, t12, t17, t18, t19, t20, t21, t22, t23, t24, rfl⟩
    try simp -implicitDefEqProofs only [runF, exs, ex, ev, evT, evI, evs, evAnd, evOr, evAndT, evOrT, QL.t3, QL.s3, QL.tr, bind_pure, bind_assoc, List.length_cons, List.length_nil, if_true, List.map_cons, List.map_nil, List.cons_append, List.nil_append, Nat.reduceAdd, Nat.reduceSub, List.replicate, getM_zero, getM_succ, items_tup, items_lst, List.set, ofO_some, compF, compF2, setT, setU, setAll, wipeE, truth_bl, nox_pure]
    exact Ok.pure rfl
theorem law73 (n : Nat) (ns : List Int) (hl : ns.length ≤ 63) : ∃ m, run PT (n + 10) 61 [.scr ns] [] = .ok (.bl true) m := by
  have : Ok (run PT (n + 10) 61 [.scr ns]) [] fun d m' => d = .bl true := by
    rw [run_s (fn := f61) rfl]
    try simp -implicitDefEqProofs only [runF, exs, ex, ev, evT, evI, evs, evAnd, evOr, evAndT, evOrT, QL.t3, QL.s3, QL.tr, bind_pure, bind_assoc, List.length_cons, List.length_nil, if_true, List.map_cons, List.map_nil, List.cons_append, List.nil_append, Nat.reduceAdd, Nat.reduceSub, List.replicate, getM_zero, getM_succ, items_tup, items_lst, List.set, ofO_some, compF, compF2, setT, setU, setAll, wipeE, truth_bl, nox_pure, f61, recvMx, recvMn, show doM1 .len (.scr ns) = M.pure (.int ns.length) from rfl]
    have hmn : ∀ a b : Int, doM2 .min2 (.int a) (.int b) = M.pure (.int (if b < a then b else a)) := fun _ _ => rfl
    have hmx : ∀ a b : Int, doM2 .max2 (.int a) (.int b) = M.pure (.int (if b > a then b else a)) := fun _ _ => rfl
    try simp -implicitDefEqProofs only [runF, exs, ex, ev, evT, evI, evs, evAnd, evOr, evAndT, evOrT, QL.t3, QL.s3, QL.tr, bind_pure, bind_assoc, List.length_cons, List.length_nil, if_true, List.map_cons, List.map_nil, List.cons_append, List.nil_append, Nat.reduceAdd, Nat.reduceSub, List.replicate, getM_zero, getM_succ, items_tup, items_lst, List.set, ofO_some, compF, compF2, setT, setU, setAll, wipeE, truth_bl, nox_pure, hmn, hmx]
    generalize hq : (if (if (3 : Int) < (ns.length : Int) then 3 else (ns.length : Int)) > 2 then (if (3 : Int) < (ns.length : Int) then 3 else (ns.length : Int)) else 2) = q
    have hq1 : 0 ≤ q ∧ q ≤ 3 := by rw [← hq]; split <;> split <;> omega
    rw [rangeM_int hq1.1 (by omega)]
    try simp -implicitDefEqProofs only [runF, exs, ex, ev, evT, evI, evs, evAnd, evOr, evAndT, evOrT, QL.t3, QL.s3, QL.tr, bind_pure, bind_assoc, List.length_cons, List.length_nil, if_true, List.map_cons, List.map_nil, List.cons_append, List.nil_append, Nat.reduceAdd, Nat.reduceSub, List.replicate, getM_zero, getM_succ, items_tup, items_lst, List.set, ofO_some, compF, compF2, setT, setU, setAll, wipeE, truth_bl, nox_pure]
    refine Ok.bind (Ok.forL (c := nI) (fun pre ρ m' => ∃ t, ρ = [some (.scr ns), t]) ⟨none, rfl⟩ ?_ ?_)
    · rintro pre x post ρ m1 e ⟨t, rfl⟩
      have hx := range_at e
      try simp -implicitDefEqProofs only [runF, exs, ex, ev, evT, evI, evs, evAnd, evOr, evAndT, evOrT, QL.t3, QL.s3, QL.tr, bind_pure, bind_assoc, List.length_cons, List.length_nil, if_true, List.map_cons, List.map_nil, List.cons_append, List.nil_append, Nat.reduceAdd, Nat.reduceSub, List.replicate, getM_zero, getM_succ, items_tup, items_lst, List.set, ofO_some, compF, compF2, setT, setU, setAll, wipeE, truth_bl, nox_pure]
      refine Ok.seq (new_jar (n + 8) ns hl (k := x) (by omega) m1) ?_
      rintro _ m2 ⟨rfl, he, hJ⟩
      refine Ok.seq (right73 hJ (by omega)) ?_
      rintro _ m3 rfl
      try simp -implicitDefEqProofs only [runF, exs, ex, ev, evT, evI, evs, evAnd, evOr, evAndT, evOrT, QL.t3, QL.s3, QL.tr, bind_pure, bind_assoc, List.length_cons, List.length_nil, if_true, List.map_cons, List.map_nil, List.cons_append, List.nil_append, Nat.reduceAdd, Nat.reduceSub, List.replicate, getM_zero, getM_succ, items_tup, items_lst, List.set, ofO_some, compF, compF2, setT, setU, setAll, wipeE, truth_bl, nox_pure, Bool.not_true, Bool.false_eq_true, if_false]
      exact Ok.pure ⟨_, rfl, _, rfl⟩
    · rintro ρ m1 ⟨t, rfl⟩
      try simp -implicitDefEqProofs only [runF, exs, ex, ev, evT, evI, evs, evAnd, evOr, evAndT, evOrT, QL.t3, QL.s3, QL.tr, bind_pure, bind_assoc, List.length_cons, List.length_nil, if_true, List.map_cons, List.map_nil, List.cons_append, List.nil_append, Nat.reduceAdd, Nat.reduceSub, List.replicate, getM_zero, getM_succ, items_tup, items_lst, List.set, ofO_some, compF, compF2, setT, setU, setAll, wipeE, truth_bl, nox_pure]
      exact Ok.pure rfl
  obtain ⟨d, m, h, rfl⟩ := this
  exact ⟨m, h⟩
end QV
end
section
set_option linter.all false
set_option maxRecDepth 100000
set_option maxHeartbeats 0
namespace Hd
open PySem PySem.Spec PyProof.Rows L2 QL QC QP
def top (i : Nat) : Stmt := PySem.Challenge.pw_pairkinds_k73_whole_withouts_shown_by_ow.main.body.getD i (.Pass ⟨0, 0, 0, 0⟩)
def mem (s : Stmt) (j : Nat) : Stmt := match s with
  | .ClassDef _ _ _ b _ _ _ _ _ _ _ => b.getD j (.Pass ⟨0, 0, 0, 0⟩)
  | _ => .Pass ⟨0, 0, 0, 0⟩
def L0 : List QS.Dfn := [
  ⟨"subsets", ⟨("subsets", none), "subsets", "subsets", defArgs (top 1), defBody (top 1), defScope (top 1), [], []⟩, ["many", "found", "at", "row"], 23, 1⟩,
  ⟨"near_outside", ⟨("near_outside", none), "near_outside", "near_outside", defArgs (top 2), defBody (top 2), defScope (top 2), [], []⟩, ["many", "ties", "chosen", "both", "one", "two", "at"], 25, 3⟩,
  ⟨"lump_around", ⟨("lump_around", none), "lump_around", "lump_around", defArgs (top 3), defBody (top 3), defScope (top 3), [], []⟩, ["near", "start", "found", "turn", "one", "two"], 26, 2⟩,
  ⟨"cut_of", ⟨("cut_of", none), "cut_of", "cut_of", defArgs (top 4), defBody (top 4), defScope (top 4), [], []⟩, ["many", "ties", "chosen", "near", "lone", "at", "lumps", "lump"], 24, 3⟩,
  ⟨"cuts_of", ⟨("cuts_of", none), "cuts_of", "cuts_of", defArgs (top 5), defBody (top 5), defScope (top 5), [], []⟩, ["many", "ties", "chosen"], 22, 2⟩,
  ⟨"things_in", ⟨("things_in", none), "things_in", "things_in", defArgs (top 6), defBody (top 6), defScope (top 6), [], []⟩, ["numbers", "chosen", "at"], 39, 2⟩,
  ⟨"odd_lumps", ⟨("odd_lumps", none), "odd_lumps", "odd_lumps", defArgs (top 7), defBody (top 7), defScope (top 7), [], []⟩, ["cut", "numbers", "lump"], 40, 2⟩,
  ⟨"value_of", ⟨("value_of", none), "value_of", "value_of", defArgs (top 8), defBody (top 8), defScope (top 8), [], []⟩, ["cut", "numbers"], 37, 2⟩,
  ⟨"value_for", ⟨("value_for", none), "value_for", "value_for", defArgs (top 9), defBody (top 9), defScope (top 9), [], []⟩, ["cut", "numbers", "some", "lone", "at", "lumps", "lump"], 47, 3⟩,
  ⟨"moved", ⟨("moved", none), "moved", "moved", defArgs (top 10), defBody (top 10), defScope (top 10), [], []⟩, ["numbers", "kinds", "times", "at", "number"], 38, 3⟩,
  ⟨"is_integer", ⟨("is_integer", none), "is_integer", "is_integer", defArgs (top 25), defBody (top 25), defScope (top 25), [], []⟩, ["value"], 43, 1⟩,
  ⟨"is_within", ⟨("is_within", none), "is_within", "is_within", defArgs (top 26), defBody (top 26), defScope (top 26), [], []⟩, ["value", "least", "most"], 48, 3⟩,
  ⟨"is_name", ⟨("is_name", none), "is_name", "is_name", defArgs (top 27), defBody (top 27), defScope (top 27), [], []⟩, ["value", "sign"], 31, 1⟩,
  ⟨"wrong_kind", ⟨("wrong_kind", none), "wrong_kind", "wrong_kind", defArgs (top 29), defBody (top 29), defScope (top 29), [], []⟩, ["kinds", "at", "kind"], 30, 1⟩,
  ⟨"is_tie", ⟨("is_tie", none), "is_tie", "is_tie", defArgs (top 30), defBody (top 30), defScope (top 30), [], []⟩, ["value", "kinds"], 28, 2⟩,
  ⟨"is_told", ⟨("is_told", none), "is_told", "is_told", defArgs (top 31), defBody (top 31), defScope (top 31), [], []⟩, ["ties", "tie"], 29, 2⟩,
  ⟨"wrong_tie", ⟨("wrong_tie", none), "wrong_tie", "wrong_tie", defArgs (top 32), defBody (top 32), defScope (top 32), [], []⟩, ["ties", "kinds", "at", "tie"], 27, 2⟩,
  ⟨"place_of", ⟨("place_of", none), "place_of", "place_of", defArgs (top 33), defBody (top 33), defScope (top 33), [], []⟩, ["kinds", "kind", "at", "known"], 21, 2⟩,
  ⟨"check_new_kinds", ⟨("check_new_kinds", none), "check_new_kinds", "check_new_kinds", defArgs (top 34), defBody (top 34), defScope (top 34), [], []⟩, ["kinds", "wrong"], 19, 1⟩,
  ⟨"check_ties", ⟨("check_ties", none), "check_ties", "check_ties", defArgs (top 35), defBody (top 35), defScope (top 35), [], []⟩, ["ties", "kinds", "wrong"], 20, 2⟩]
def L1 : List QS.Dfn := [
  ⟨"read_tie", ⟨("read_tie", none), "read_tie", "read_tie", defArgs (top 36), defBody (top 36), defScope (top 36), [], []⟩, ["line", "words"], 44, 1⟩,
  ⟨"read_rule", ⟨("read_rule", none), "read_rule", "read_rule", defArgs (top 37), defBody (top 37), defScope (top 37), [], []⟩, ["text", "lines", "words", "kinds", "ties", "line"], 14, 1⟩,
  ⟨"Rule.__init__", ⟨("Rule", some ("__init__" : Str)), "__init__", "Rule.__init__", defArgs ((mem (top 38) 0)), defBody ((mem (top 38) 0)), defScope ((mem (top 38) 0)), [.adr (He.dflAt ("Rule", some ("__init__" : Str)) 0)], []⟩, ["self", "kinds", "ties", "one", "two"], 15, 3⟩,
  ⟨"room_for", ⟨("room_for", none), "room_for", "room_for", defArgs (top 40), defBody (top 40), defScope (top 40), [], []⟩, ["numbers", "tie", "one", "two"], 33, 2⟩,
  ⟨"without_pairs", ⟨("without_pairs", none), "without_pairs", "without_pairs", defArgs (top 41), defBody (top 41), defScope (top 41), [], []⟩, ["rule", "numbers", "counts", "tie", "count"], 42, 3⟩,
  ⟨"is_row", ⟨("is_row", none), "is_row", "is_row", defArgs (top 42), defBody (top 42), defScope (top 42), [], []⟩, ["value"], 41, 1⟩,
  ⟨"rest_behind", ⟨("rest_behind", none), "rest_behind", "rest_behind", defArgs (top 43), defBody (top 43), defScope (top 43), [], []⟩, ["rule", "numbers", "value", "row", "told", "tie", "places", "counts", "at", "rest"], 35, 3⟩,
  ⟨"is_count", ⟨("is_count", none), "is_count", "is_count", defArgs (top 45), defBody (top 45), defScope (top 45), [], []⟩, ["value"], 32, 1⟩,
  ⟨"is_some", ⟨("is_some", none), "is_some", "is_some", defArgs (top 46), defBody (top 46), defScope (top 46), [], []⟩, ["rule", "value", "kind", "at"], 34, 2⟩,
  ⟨"set_of", ⟨("set_of", none), "set_of", "set_of", defArgs (top 47), defBody (top 47), defScope (top 47), [], []⟩, ["rule", "value", "kind"], 36, 2⟩,
  ⟨"over_shown", ⟨("over_shown", none), "over_shown", "over_shown", defArgs (top 48), defBody (top 48), defScope (top 48), [], []⟩, ["rule", "numbers", "many", "rest", "border"], 45, 5⟩,
  ⟨"least_shown", ⟨("least_shown", none), "least_shown", "least_shown", defArgs (top 49), defBody (top 49), defScope (top 49), [], []⟩, ["rule", "numbers", "claim", "rest", "border", "kinds", "many", "some"], 46, 5⟩,
  ⟨"without_shown", ⟨("without_shown", none), "without_shown", "without_shown", defArgs (top 50), defBody (top 50), defScope (top 50), [], []⟩, ["rule", "numbers", "claim", "certificate", "kind", "other", "many", "tie", "rest", "others", "pair", "cut"], 18, 4⟩,
  ⟨"paired_shown", ⟨("paired_shown", none), "paired_shown", "paired_shown", defArgs (top 51), defBody (top 51), defScope (top 51), [], []⟩, ["rule", "numbers", "claim", "certificate", "rest"], 17, 4⟩,
  ⟨"is_right_size", ⟨("is_right_size", none), "is_right_size", "is_right_size", defArgs (top 52), defBody (top 52), defScope (top 52), [], []⟩, ["rule", "value", "number"], 16, 2⟩,
  ⟨"accepts", ⟨("accepts", none), "accepts", "accepts", defArgs (top 53), defBody (top 53), defScope (top 53), [], []⟩, ["claim", "certificate", "found", "rule"], 13, 2⟩,
  ⟨"_law_new_jar", ⟨("_law_new_jar", none), "_law_new_jar", "_law_new_jar", defArgs (top 55), defBody (top 55), defScope (top 55), [], []⟩, ["script", "k", "cell", "state", "each"], 2, 2⟩,
  ⟨"_law_draw", ⟨("_law_draw", none), "_law_draw", "_law_draw", defArgs (top 56), defBody (top 56), defScope (top 56), [], []⟩, ["jar", "below", "digit"], 5, 2⟩,
  ⟨"_law_new_words", ⟨("_law_new_words", none), "_law_new_words", "_law_new_words", defArgs (top 57), defBody (top 57), defScope (top 57), [], []⟩, ["jar", "size", "signs", "found", "spare", "at", "menu", "turn", "word", "size_here", "more", "each"], 4, 2⟩,
  ⟨"_law_new_net", ⟨("_law_new_net", none), "_law_new_net", "_law_new_net", defArgs (top 58), defBody (top 58), defScope (top 58), [], []⟩, ["jar", "words", "links", "share", "at", "later", "link", "place"], 3, 2⟩]
def L2 : List QS.Dfn := [
  ⟨"_law_new_few", ⟨("_law_new_few", none), "_law_new_few", "_law_new_few", defArgs (top 59), defBody (top 59), defScope (top 59), [], []⟩, ["jar", "size", "most", "row", "turn", "at"], 6, 3⟩,
  ⟨"_law_text", ⟨("_law_text", none), "_law_text", "_law_text", defArgs (top 60), defBody (top 60), defScope (top 60), [], []⟩, ["net", "one", "two"], 7, 1⟩,
  ⟨"_law_link_list", ⟨("_law_link_list", none), "_law_link_list", "_law_link_list", defArgs (top 61), defBody (top 61), defScope (top 61), [], []⟩, ["net", "one", "two"], 50, 1⟩,
  ⟨"_law_cut_by", ⟨("_law_cut_by", none), "_law_cut_by", "_law_cut_by", defArgs (top 62), defBody (top 62), defScope (top 62), [], []⟩, ["size", "links", "chosen", "inner", "link", "outer", "at", "lone", "lumps", "one", "two", "first", "lump", "last"], 53, 3⟩,
  ⟨"_law_all_cuts", ⟨("_law_all_cuts", none), "_law_all_cuts", "_law_all_cuts", defArgs (top 63), defBody (top 63), defScope (top 63), [], []⟩, ["net", "size", "links", "lots", "at", "lot"], 9, 1⟩,
  ⟨"_law_sum", ⟨("_law_sum", none), "_law_sum", "_law_sum", defArgs (top 64), defBody (top 64), defScope (top 64), [], []⟩, ["stock", "places", "at"], 49, 2⟩,
  ⟨"_law_worth_of", ⟨("_law_worth_of", none), "_law_worth_of", "_law_worth_of", defArgs (top 65), defBody (top 65), defScope (top 65), [], []⟩, ["cut", "stock", "some", "lone", "at", "lumps", "lump", "odd"], 12, 3⟩,
  ⟨"_law_took", ⟨("_law_took", none), "_law_took", "_law_took", defArgs (top 66), defBody (top 66), defScope (top 66), [], []⟩, ["stock", "link", "times", "row", "at"], 52, 3⟩,
  ⟨"_law_room_for", ⟨("_law_room_for", none), "_law_room_for", "_law_room_for", defArgs (top 67), defBody (top 67), defScope (top 67), [], []⟩, ["stock", "link", "one", "two"], 51, 2⟩,
  ⟨"_law_all_ways", ⟨("_law_all_ways", none), "_law_all_ways", "_law_all_ways", defArgs (top 68), defBody (top 68), defScope (top 68), [], []⟩, ["net", "stock", "found", "link", "later", "counts", "rest", "times"], 8, 2⟩,
  ⟨"_law_as_paper", ⟨("_law_as_paper", none), "_law_as_paper", "_law_as_paper", defArgs (top 69), defBody (top 69), defScope (top 69), [], []⟩, ["net", "counts", "rows", "at", "row"], 10, 2⟩,
  ⟨"_law_without_tie", ⟨("_law_without_tie", none), "_law_without_tie", "_law_without_tie", defArgs (top 70), defBody (top 70), defScope (top 70), [], []⟩, ["net", "link", "links", "kept", "at"], 64, 2⟩,
  ⟨"_law_turned", ⟨("_law_turned", none), "_law_turned", "_law_turned", defArgs (top 71), defBody (top 71), defScope (top 71), [], []⟩, ["jar", "row", "found", "each", "place"], 11, 2⟩,
  ⟨"_law_pick_tie", ⟨("_law_pick_tie", none), "_law_pick_tie", "_law_pick_tie", defArgs (top 72), defBody (top 72), defScope (top 72), [], []⟩, ["jar", "net", "one", "two"], 63, 2⟩,
  ⟨"_law_right", ⟨("_law_right", none), "_law_right", "_law_right", defArgs (top 73), defBody (top 73), defScope (top 73), [], []⟩, ["jar", "names", "net", "stock", "pair", "page", "ways", "link", "at", "tie", "best", "cuts", "counts", "rest", "good", "fair", "drawn", "times", "said", "shown", "is_less", "cut", "chosen", "spot", "worth"], 62, 1⟩,
  ⟨"law", ⟨("law", none), "law", "law", defArgs (top 74), defBody (top 74), defScope (top 74), [], []⟩, ["script", "k"], 61, 1⟩]
def S : QS.Spec := ⟨L0 ++ L1 ++ L2, [("DIGITS", .str "0123456789"), ("LETTERS", .str "abcdefghijklmnopqrstuvwxyz"), ("LONGEST_NAME", .int (8)), ("MOST_KINDS", .int (6)), ("MOST_THINGS", .int (1000000000000000000000000000000))], ["abs", "all", "any", "bool", "divmod", "enumerate", "int", "isinstance", "len", "list", "max", "min", "range", "repr", "set", "sorted", "str", "sum", "tuple", "zip"], ["Rule"], ["sorts", "links", "lines", "borders"], [("kinds", "sorts"), ("ties", "links"), ("pairs", "lines"), ("cuts", "borders")]⟩
abbrev R : PySem.W.OpenRow := PySem.W.OpenLaw.row PySem.Challenge.rw_pairkinds_k73_whole_withouts_shown_by_ow
def places : List PySem.Addr := [3,6,4,19,24,29,34,39,44,49,56,61,66,76,96,115,134,146,166,185,194,201,206,213,220,227,234,239,246,253,260,265,376,387,394,401,406,413,418,423,430,437,442,449,454,461,468,475,480,487,492,497,502,507,512,517,522,529,536,543,548,553,560,567,572,579,0,18,23,28,33,38,43,48,55,60,65,75,95,114,133,145,165,184,193,200,205,212,219,226,233,238,245,252,259,264,375,386,393,400,405,412,417,422,429,436,441,448,453,460,467,474,479,486,491,496,501,506,511,516,521,528,535,542,547,552,559,566,571,578,15,17,20,22,25,27,30,32,35,37,40,42,45,47,50,52,53,54,57,59,62,64,74,77,93,94,112,113,131,132,144,147,163,164,182,183,188,190,191,192,195,197,198,199,202,204,207,209,210,211,214,216,217,218,221,223,224,225,228,230,231,232,235,237,240,242,243,244,247,249,250,251,254,256,257,258,261,263,279,288,297,305,313,321,328,333,340,347,354,361,368,373,374,377,378,381,383,384,385,388,390,391,392,395,397,398,399,402,404,407,409,410,411,414,416,419,421,424,426,427,428,431,433,434,435,438,440,443,445,446,447,450,452,455,457,458,459,462,464,465,466,469,471,472,473,476,478,481,483,484,485,488,490,493,495,498,500,503,505,508,510,513,515,518,520,523,525,526,527,530,532,533,534,537,539,540,541,544,546,549,551,554,556,557,558,561,563,564,565,568,570,573,575,576,577,92,111,130,162,181,278,274,286,287,296,304,312,320,327,332,339,346,353,360,367,372,87,89,90,91,106,108,109,110,125,127,128,129,157,159,160,161,176,178,179,180,275,277,273,285,289,295,303,311,319,322,324,325,326,329,331,334,336,337,338,341,343,344,345,348,350,351,352,355,357,358,359,362,364,365,366,369,371,280,282,283,284,290,292,293,294,298,300,301,302,306,308,309,310,314,316,317,318]
abbrev hk : PySem.W.Hook := QS.hookY places S.fa S.fn S.ex
def ob (s : PySem.W.SharedT) : He.AlX := QS.obsY places S.fa S.fn S.ex (HandSHeadRun.getT s)
theorem ob_eq (s : PySem.W.SharedT) : ob s = hk.obs s.abs := QS.obsY_eq (HandSHeadRun.getT_eq s)
def names0 : List PySem.Str := [(PySem.Str.ofString "__name__"), (PySem.Str.ofString "subsets"), (PySem.Str.ofString "near_outside"), (PySem.Str.ofString "lump_around"), (PySem.Str.ofString "cut_of"), (PySem.Str.ofString "cuts_of"), (PySem.Str.ofString "things_in"), (PySem.Str.ofString "odd_lumps"), (PySem.Str.ofString "value_of"), (PySem.Str.ofString "value_for"), (PySem.Str.ofString "moved"), (PySem.Str.ofString "MOST_KINDS"), (PySem.Str.ofString "MOST_THINGS"), (PySem.Str.ofString "WrongValue"), (PySem.Str.ofString "InvalidText"), (PySem.Str.ofString "InvalidKinds"), (PySem.Str.ofString "InvalidTies"), (PySem.Str.ofString "WrongName"), (PySem.Str.ofString "NotTied"), (PySem.Str.ofString "TiedAlready"), (PySem.Str.ofString "LETTERS"), (PySem.Str.ofString "DIGITS"), (PySem.Str.ofString "LONGEST_NAME"), (PySem.Str.ofString "is_integer"), (PySem.Str.ofString "is_within"), (PySem.Str.ofString "is_name"), (PySem.Str.ofString "wrong_kind"), (PySem.Str.ofString "is_tie"), (PySem.Str.ofString "is_told"), (PySem.Str.ofString "wrong_tie")]
def names1 : List PySem.Str := [(PySem.Str.ofString "place_of"), (PySem.Str.ofString "check_new_kinds"), (PySem.Str.ofString "check_ties"), (PySem.Str.ofString "read_tie"), (PySem.Str.ofString "read_rule"), (PySem.Str.ofString "Rule"), (PySem.Str.ofString "room_for"), (PySem.Str.ofString "without_pairs"), (PySem.Str.ofString "is_row"), (PySem.Str.ofString "rest_behind"), (PySem.Str.ofString "is_count"), (PySem.Str.ofString "is_some"), (PySem.Str.ofString "set_of"), (PySem.Str.ofString "over_shown"), (PySem.Str.ofString "least_shown"), (PySem.Str.ofString "without_shown"), (PySem.Str.ofString "paired_shown"), (PySem.Str.ofString "is_right_size"), (PySem.Str.ofString "accepts"), (PySem.Str.ofString "_law_new_jar"), (PySem.Str.ofString "_law_draw"), (PySem.Str.ofString "_law_new_words"), (PySem.Str.ofString "_law_new_net"), (PySem.Str.ofString "_law_new_few"), (PySem.Str.ofString "_law_text"), (PySem.Str.ofString "_law_link_list"), (PySem.Str.ofString "_law_cut_by"), (PySem.Str.ofString "_law_all_cuts"), (PySem.Str.ofString "_law_sum"), (PySem.Str.ofString "_law_worth_of")]
def names2 : List PySem.Str := [(PySem.Str.ofString "_law_took"), (PySem.Str.ofString "_law_room_for"), (PySem.Str.ofString "_law_all_ways"), (PySem.Str.ofString "_law_as_paper"), (PySem.Str.ofString "_law_without_tie"), (PySem.Str.ofString "_law_turned"), (PySem.Str.ofString "_law_pick_tie"), (PySem.Str.ofString "_law_right")]
def names : List PySem.Str := names0 ++ names1 ++ names2
theorem sok : S.ok PT = true := by decide +kernel
theorem run (w : World) : HandSHeadRun.RunEq R (PySem.W.view R.prog [74]) hk ob 5000 names w := by
  intro os
  kernel_rfl
def dLaw : QS.Dfn := ⟨"law", ⟨("law", none), "law", "law", defArgs (top 74), defBody (top 74), defScope (top 74), [], []⟩, ["script", "k"], 61, 1⟩
theorem law_ok : QS.LawOk S PT dLaw := ⟨sok, by simp [S, dLaw, L0, L1, L2], rfl, rfl, rfl, rfl, rfl⟩
end Hd
open PySem PySem.W PySem.Calls PyProof.Rows
theorem holds_of (hlaw : ∀ ns : List Int, ns.length ≤ 63 → ∃ m, QL.run QP.PT 40 61 [.scr ns] [] = .ok (.bl true) m) : PySem.Challenge.rw_pairkinds_k73_whole_withouts_shown_by_ow.Holds := by
  w_on; o_law
  refine HandSHeadRun.head_any (r := OpenLaw.row PySem.Challenge.rw_pairkinds_k73_whole_withouts_shown_by_ow) (q := view (OpenLaw.row PySem.Challenge.rw_pairkinds_k73_whole_withouts_shown_by_ow).prog [74]) (H := Hd.hk) (ob := Hd.ob) (M := 5000) (loose := Hd.names) (d := HandSHeadRun.topDef (OpenLaw.row PySem.Challenge.rw_pairkinds_k73_whole_withouts_shown_by_ow).prog 74) (kwd := []) Hd.ob_eq
    (by kernel_rfl) (fun s => by kernel_rfl) Hd.run (by kernel_rfl) (by kernel_rfl) (by kernel_rfl) (by rfl) (by first | assumption | decide +kernel) (by decide +kernel) ⟨rfl, rfl, rfl, rfl, rfl, by decide +kernel⟩ ?hw ?hc
  case hw => w_witness2
  case hc =>
    refine L2.walk_ofE (l := PySem.Challenge.rw_pairkinds_k73_whole_withouts_shown_by_ow) (n := 63) (k := 2 * 40 + 1) (x := "script") (CX := L2.CX0) rfl (by decide) (by kernel_rfl) ⟨rfl, by decide, by decide⟩ ?F (fun _ _ _ _ z => z)
    exact QS.law_F Hd.law_ok hlaw (by kernel_rfl)
end
set_option maxRecDepth 100000 in
set_option maxHeartbeats 8000000 in
theorem PySem.Challenge.cw_pairkinds_k73_whole_withouts_shown_by_ow_holds : PySem.Challenge.rw_pairkinds_k73_whole_withouts_shown_by_ow.Holds := by
  exact holds_of fun ns hl => QV.law73 30 ns hl
