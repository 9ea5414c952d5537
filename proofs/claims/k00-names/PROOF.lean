import PyProof.Rows.All
import HandS.Comp
import HandS.Conv
import HandS.Deep
import HandS.Defaults
import HandS.ExcField
import HandS.ExcInit
import HandS.ExcOwn
import HandS.ExcSuper
import HandS.ForExc
import HandS.ForMost
import HandS.Head0
import HandS.Head1
import HandS.Head2
import HandS.HeadEnd
import HandS.HeadHook1
import HandS.HeadHook2
import HandS.IsInst
import HandS.Iter
import HandS.More
import HandS.Nested
import HandS.Rev
import HandS.SetFor
import HandS.SortInts
import HandS.Strs
import HandS.Style
import HandS.Text
import HandS.TryMany
import HandS.TupAny
import HandS.TupMul
import HandS.TupSets
import HandS.Zip
import KE.GoesEnum
import KE.KExcSuper
import KE.SortData
import OpenK.AllK
import PyProof.ListMulAny
import PyProof.StrBlock2
import Wide.All
import Wide.FinOn
import PySem.Challenge.RW_rowsrise_k00_names
set_option Elab.async false
set_option linter.all false
set_option maxRecDepth 100000
set_option maxHeartbeats 0
/-! Dn, part 1: a small tree of Python's expressions and statements, and what it computes over plain nested data.
Values: p d, data that never changes (d a PyData); r k, the k-th changing object of the store. -/
namespace Dn
open PySem

inductive D where
  | p (d : PyData)
  | r (k : Nat)
inductive Ob where
  | lst (ds : List D)
  | dic (kvs : List (PyData × D))
  | gone
abbrev Store := List Ob
inductive Res (α : Type) where
  | ok (a : α) (st : Store)
  | ex (c : Nat) (fs : List PyData) (st : Store)
  | bad
namespace Res
def bind {α β : Type} (m : Res α) (f : α → Store → Res β) : Res β := match m with
  | .ok a st => f a st
  | .ex c fs st => .ex c fs st
  | .bad => .bad
@[simp] theorem bind_ok {α β : Type} (a : α) (st : Store) (f : α → Store → Res β) : Res.bind (.ok a st) f = f a st := rfl
@[simp] theorem bind_ex {α β : Type} (c : Nat) (fs : List PyData) (st : Store) (f : α → Store → Res β) : Res.bind (.ex c fs st) f = .ex c fs st := rfl
@[simp] theorem bind_bad {α β : Type} (f : α → Store → Res β) : Res.bind .bad f = .bad := rfl
def of {α : Type} (st : Store) : Option α → Res α
  | some a => .ok a st
  | none => .bad
@[simp] theorem of_some {α : Type} (st : Store) (a : α) : Res.of st (some a) = .ok a st := rfl
@[simp] theorem of_none {α : Type} (st : Store) : (Res.of st none : Res α) = .bad := rfl
/-- exceptions do not pass -/
def nox {α : Type} : Res α → Res α
  | .ok a st => .ok a st
  | _ => .bad
@[simp] theorem nox_ok {α : Type} (a : α) (st : Store) : (Res.ok a st).nox = .ok a st := rfl
@[simp] theorem nox_bad {α : Type} : (Res.bad : Res α).nox = .bad := rfl
end Res

/-! ### names of operations -/
inductive Ty where
  | str | tuple | list | int | bool | dict | none
  deriving DecidableEq
inductive O1 where
  | nt | neg | len | abs | int | all | any | sum | tup | lst (m : Bool) | isin (ts : List Ty) | isN | niN | srt | upper | pop | rev | str | mn | mx | frz | tupr | sst
  deriving DecidableEq
inductive O2 where
  | add | sub | mul | mod | fdv | pow | shl | eq | ne | lt | le | gt | ge | inn | nin | ix | app | ext | popi | indx | mx2 | mn2 | get | join | split | band | shr
  deriving DecidableEq
inductive O3 where
  | ins | get2
  deriving DecidableEq
inductive Tg where
  | one (i : Nat)
  | many (is : List Nat)
def Tg.slots : Tg → List Nat
  | .one i => [i]
  | .many is => is

/-- expressions -/
inductive E where
  | var (i : Nat)
  | c (d : PyData)
  | g (x : Str) (d : PyData)
  | o1 (o : O1) (a : E)
  | o2 (o : O2) (a b : E)
  | o3 (o : O3) (a b c : E)
  | an (es : List E)
  | orr (es : List E)
  | ite (c a b : E)
  | chain (o o' : O2) (a b c : E)
  | tup (es : List E)
  | lst (m : Bool) (es : List E)
  | dic (kvs : List E)
  | sl (m : Bool) (a : E) (lo hi : Option E)
  | rv (m : Bool) (a : E)
  | call (pu : Bool) (f : Nat) (es : List E)
  | callk (pu : Bool) (f : Nat) (ps : List Nat) (es : List E)
  | comp (m : Bool) (elt : E) (tg : Tg) (k : Nat) (its : List E) (ifs : List E)
-- what a comprehension or a loop walks (k): 0 a sequence or text, 1 range, 2 enumerate, 3 zip, 4 d.items(), 5 d (keys), 6 d.values(), 7 reversed
/-- what an except clause hands back: a written thing, or a tuple of written things and of the exception's fields -/
inductive Ri where
  | c (d : PyData)
  | f (j : Nat)
inductive Rx where
  | c (d : PyData)
  | t (its : List Ri)
/-- a clause: which exceptions it takes, its name's slot, what it hands back -/
structure Hd where
  cs : List Nat
  slot : Option Nat
  res : Rx
def Ri.val (fs : List PyData) : Ri → Option PyData
  | .c d => some d
  | .f j => fs[j]?
def Rx.val (fs : List PyData) : Rx → Option PyData
  | .c d => some d
  | .t its => (its.mapM (Ri.val fs)).bind fun ds => if ds.length ≤ 1000 then some (.tuple ds) else none
/-- statements -/
inductive S where
  | set (i : Nat) (e : E)
  | unp (is : List Nat) (e : E)
  | par (is : List Nat) (es : List E)
  | setix (o i v : E)
  | aug (i : Nat) (o : O2) (e : E)
  | augix (o i : E) (op : O2) (e : E)
  | ex (e : E)
  | ret (e : E)
  | retN
  | iff (c : E) (a b : List S)
  | for_ (tg : Tg) (k : Nat) (its : List E) (body : List S)
  | whl (c : E) (body : List S)
  | brk
  | cont
  | pass
  | raise (c : Nat) (es : List E)
  | try_ (body : List S) (hs : List Hd)

abbrev Sl := List (Option D)
inductive Flow where
  | nx | bk | ct
  | rt (d : D)

/-! ### data -/
def pOf : D → Option PyData
  | .p d => some d
  | .r _ => none
def allP : List D → Option (List PyData)
  | [] => some []
  | .p d :: ds => (allP ds).map (d :: ·)
  | .r _ :: _ => none
def seqD (d : D) (st : Store) : Option (List D) := match d with
  | .p (.list ds) => some (ds.map .p)
  | .p (.tuple ds) => some (ds.map .p)
  | .r k => match st[k]? with
    | some (.lst ds) => some ds
    | _ => none
  | _ => none
/-- a list's items as data -/
def listP (d : D) (st : Store) : Option (List PyData) := match d with
  | .p (.list ds) => some ds
  | .r k => match st[k]? with
    | some (.lst ds) => allP ds
    | _ => none
  | _ => none
def alloc (o : Ob) (st : Store) : Res D := .ok (.r st.length) (st ++ [o])
/-- a new list -/
def newL (m : Bool) (ds : List D) (st : Store) : Res D :=
  if sizeLine < ds.length then .bad else
  if m then alloc (.lst ds) st else Res.of st ((allP ds).map fun xs => .p (.list xs))
def tyOf (d : D) (st : Store) : Option Ty := match d with
  | .p .none => some .none
  | .p (.bool _) => some .bool
  | .p (.int _) => some .int
  | .p (.str _) => some .str
  | .p (.list _) => some .list
  | .p (.tuple _) => some .tuple
  | .p (.dict _) => none
  | .r k => match st[k]? with
    | some (.lst _) => some .list
    | some (.dic _) => some .dict
    | _ => none
def isTy (a b : Ty) : Bool := decide (a = b) || (decide (a = .bool) && decide (b = .int))
def boolsOf : List PyData → Option (List Bool)
  | [] => some []
  | .bool b :: r => (boolsOf r).map (b :: ·)
  | _ => none
def intsOf : List PyData → Option (List Int)
  | [] => some []
  | .int i :: r => (intsOf r).map (i :: ·)
  | _ => none
def strsOf : List PyData → Option (List Str)
  | [] => some []
  | .str x :: r => (strsOf r).map (x :: ·)
  | _ => none
def strLt (x y : Str) : Bool := decide (x.cps.toList < y.cps.toList)
def strLe (x y : Str) : Bool := !strLt y x
def upC (c : Nat) : Nat := if 97 ≤ c ∧ c ≤ 122 then c - 32 else c
def upS (x : Str) : Option Str := if x.cps.toList.all (· < 128) && decide (x.length ≤ 5592405) then some ⟨(x.cps.toList.map upC).toArray⟩ else none

def insL {α : Type} (le : α → α → Bool) (x : α) : List α → List α
  | [] => [x]
  | y :: r => if le x y then x :: y :: r else y :: insL le x r
def srtL {α : Type} (le : α → α → Bool) : List α → List α
  | [] => []
  | x :: r => insL le x (srtL le r)
def minL (n : Int) : List Int → Int
  | [] => n
  | m :: r => minL (if m < n then m else n) r
def maxL (n : Int) : List Int → Int
  | [] => n
  | m :: r => maxL (if m > n then m else n) r
/-! ### sorted lists of tuples: what is compared are numbers and texts -/
def itemsP : PyData → List PyData
  | .tuple xs => xs
  | _ => []
/-- the items of two tuples, one by one: the first unlike ones decide -/
def ltIt : List PyData → List PyData → Option Bool
  | [], [] => some false
  | [], _ :: _ => some true
  | _ :: _, [] => some false
  | .int i :: r, .int j :: q => if i = j then ltIt r q else some (decide (i < j))
  | .str u :: r, .str v :: q => if u = v then ltIt r q else some (strLt u v)
  | _ :: _, _ :: _ => none
def rkT (ds : List PyData) (d : PyData) : Nat := (ds.filter fun z => ltIt (itemsP z) (itemsP d) == some true).length
def leT (ds : List PyData) (a b : PyData) : Bool := decide (rkT ds a ≤ rkT ds b)
def headS : PyData → Bool
  | .tuple (.str _ :: _) => true
  | _ => false
def headI : PyData → Bool
  | .tuple (.int _ :: _) => true
  | _ => false
mutual
def sameQ : PyData → PyData → Bool
  | .none, .none => true
  | .bool a, .bool b => decide (a = b)
  | .int a, .int b => decide (a = b)
  | .str a, .str b => decide (a = b)
  | .list a, .list b => sameQs a b
  | .tuple a, .tuple b => sameQs a b
  | _, _ => false
def sameQs : List PyData → List PyData → Bool
  | [], [] => true
  | a :: r, b :: q => sameQ a b && sameQs r q
  | _, _ => false
end
/-- of two of these tuples the ranks tell the order -/
def rkOk (ds : List PyData) (a b : PyData) : Bool := decide (ltIt (itemsP a) (itemsP b) = some (decide (rkT ds a < rkT ds b))) && decide (ltIt (itemsP b) (itemsP a) = some (decide (rkT ds b < rkT ds a))) && (decide (rkT ds a ≠ rkT ds b) || sameQ a b)
def twoByTwo (f : PyData → PyData → Bool) : List PyData → Bool
  | [] => true
  | a :: r => r.all (f a) && twoByTwo f r
/-- the order of these tuples is told by their ranks -/
def srtOk (ds : List PyData) : Bool := decide (ds.length < 64) && (ds.all headS || ds.all headI) && twoByTwo (rkOk ds) ds
/-- data that Python can sort: alike place by place -/
def firstT : PyData → Bool
  | .tuple (_ :: _) => true
  | _ => false
def noT : PyData → Bool
  | .tuple _ => false
  | .none => false
  | _ => true
def srtD (ds : List PyData) : Bool := decide (ds.length ≤ 1000000) && (ds.all firstT || ds.all noT) && (ds.all fun a => ds.all fun b => PySem.W.alike a b) && ds.all fun a => decide (a.depth ≤ 60)
def leD : PyData → PyData → Bool := PySem.W.dataLe false id
/-- the things of a list, each once -/
def sdF {T : Type} [DecidableEq T] (ks : List T) (k : T) : List T := if k ∈ ks then ks else k :: ks
def sd {T : Type} [DecidableEq T] (xs : List T) : List T := xs.foldl sdF []
def op1 (o : O1) (d : D) (st : Store) : Res D := match o with
  | .nt => match d with
    | .p (.bool b) => .ok (.p (.bool (!b))) st
    | _ => .bad
  | .neg => match d with
    | .p (.int i) => .ok (.p (.int (-i))) st
    | _ => .bad
  | .len => match d with
    | .p (.str x) => .ok (.p (.int x.length)) st
    | .r k => match st[k]? with
      | some (.lst ds) => .ok (.p (.int ds.length)) st
      | some (.dic kvs) => .ok (.p (.int kvs.length)) st
      | _ => .bad
    | .p (.list ds) => .ok (.p (.int ds.length)) st
    | .p (.tuple ds) => .ok (.p (.int ds.length)) st
    | _ => .bad
  | .abs => match d with
    | .p (.int i) => .ok (.p (.int (if i < 0 then -i else i))) st
    | _ => .bad
  | .int => match d with
    | .p (.int i) => .ok (.p (.int i)) st
    | .p (.bool b) => .ok (.p (.int (if b then 1 else 0))) st
    | _ => .bad
  | .all => Res.of st (((listP d st).bind boolsOf).map fun bs => .p (.bool (bs.all id)))
  | .any => Res.of st (((listP d st).bind boolsOf).map fun bs => .p (.bool (bs.any id)))
  | .sum => Res.of st (((listP d st).bind intsOf).map fun ns => .p (.int ns.sum))
  | .tup => match d with
    | .p (.tuple ds) => .ok (.p (.tuple ds)) st
    | _ => Res.of st ((listP d st).map fun ds => .p (.tuple ds))
  | .lst m => match seqD d st with
    | some ds => newL m ds st
    | none => .bad
  | .isin ts => Res.of st ((tyOf d st).map fun t => .p (.bool (ts.any fun u => isTy t u)))
  | .isN => match d with
    | .p .none => .ok (.p (.bool true)) st
    | _ => .ok (.p (.bool false)) st
  | .niN => match d with
    | .p .none => .ok (.p (.bool false)) st
    | _ => .ok (.p (.bool true)) st
  | .srt => match listP d st with
    | some ds => (match intsOf ds with
      | some ns => if ns.length < 64 then .ok (.p (.list ((srtL (fun a b => decide (a ≤ b)) ns).map .int))) st else .bad
      | none => (match strsOf ds with
        | some xs => if xs.length < 64 then .ok (.p (.list ((srtL strLe xs).map .str))) st else .bad
        | none => if srtOk ds then .ok (.p (.list (srtL (leT ds) ds))) st else if srtD ds then .ok (.p (.list (ds.mergeSort leD))) st else .bad))
    | none => .bad
  | .upper => match d with
    | .p (.str x) => Res.of st ((upS x).map fun y => .p (.str y))
    | _ => .bad
  | .pop => match d with
    | .r k => match st[k]? with
      | some (.lst ds) => (match ds.getLast? with
        | some x => .ok x (st.set k (.lst ds.dropLast))
        | none => .bad)
      | _ => .bad
    | _ => .bad
  | .rev => match d with
    | .r k => match st[k]? with
      | some (.lst ds) => .ok (.p .none) (st.set k (.lst ds.reverse))
      | _ => .bad
    | _ => .bad
  | .str => match d with
    | .p (.int i) => if i.natAbs.log2 < 1920 ∧ PyData.strOk (toString i) = true ∧ Str.length (toString i) ≤ sizeLine then .ok (.p (.str (toString i))) st else .bad
    | _ => .bad
  | .mn => match (listP d st).bind intsOf with
    | some (n :: r) => .ok (.p (.int (minL n r))) st
    | _ => .bad
  | .mx => match (listP d st).bind intsOf with
    | some (n :: r) => .ok (.p (.int (maxL n r))) st
    | _ => .bad
  | .frz => match d with
    | .r k => (match listP d st with
      | some ds => .ok (.p (.list ds)) (st.set k .gone)
      | none => .bad)
    | d => .ok d st
  | .sst => match (listP d st).bind strsOf with
    | some xs => if xs.length ≤ 1000 then .ok (.p (.list ((srtL strLe (sd xs)).map .str))) st else .bad
    | none => .bad
  | .tupr => match d with
    | .p (.int n) => if 0 ≤ n ∧ n ≤ 1000000 then .ok (.p (.tuple ((List.range n.toNat).map fun (i : Nat) => PyData.int (i : Int)))) st else .bad
    | _ => .bad

@[irreducible] def repOk (xs : List PyData) (k : Int) : Bool := !xs.isEmpty && decide (-1000 ≤ k) && decide (k ≤ 1000) && decide (xs.length ≤ 1000)
def mulOk (i j : Int) : Bool := (decide (i.natAbs < 18446744073709551616)) || (decide (j.natAbs < 18446744073709551616))
/-- the place of an index -/
def ixOf (n : Nat) (i : Int) : Option Nat := if 0 ≤ i then (if i < n then some i.toNat else none) else if -(n : Int) ≤ i then some (i + n).toNat else none
def cmpI (o : O2) (i j : Int) : Option Bool := match o with
  | .lt => some (decide (i < j))
  | .le => some (decide (i ≤ j))
  | .gt => some (decide (j < i))
  | .ge => some (decide (j ≤ i))
  | _ => none
def cmpS (o : O2) (x y : Str) : Option Bool := match o with
  | .lt => some (strLt x y)
  | .le => some (!strLt y x)
  | .gt => some (strLt y x)
  | .ge => some (!strLt x y)
  | _ => none
def eqD (d e : PyData) : Option Bool := if min d.depth e.depth ≤ 64 then some (PyData.eqv d e) else none
def inP (x : PyData) (ds : List PyData) : Option Bool := if min (PyData.depthAll ds) x.depth ≤ 64 then some (ds.any fun z => PyData.eqv z x) else none
def inStr (x y : Str) : Bool := !(Builtin.Str.occurrences y x 0 y.length 1).isEmpty
def keyOk : PyData → Bool
  | .int _ => true
  | .str _ => true
  | _ => false
def keyEq : PyData → PyData → Bool
  | .int a, .int b => decide (a = b)
  | .str a, .str b => decide (a = b)
  | _, _ => false
def dGet (kvs : List (PyData × D)) (k : PyData) : Option D := (kvs.find? fun q => keyEq q.1 k).map (·.2)
def dPut (kvs : List (PyData × D)) (k : PyData) (v : D) : List (PyData × D) :=
  if kvs.any fun q => keyEq q.1 k then kvs.map fun q => if keyEq q.1 k then (q.1, v) else q else kvs ++ [(k, v)]
def inD (x d : D) (st : Store) : Option Bool := match x with
  | .p x => (match d with
    | .p (.str y) => (match x with
      | .str z => some (inStr z y)
      | _ => none)
    | .p (.list ds) => inP x ds
    | .p (.tuple ds) => inP x ds
    | .r k => (match st[k]? with
      | some (.lst ds) => (allP ds).bind (inP x)
      | some (.dic kvs) => if keyOk x then some (dGet kvs x).isSome else none
      | _ => none)
    | _ => none)
  | .r _ => none
def idxOf (x : PyData) : List PyData → Option Nat
  | [] => none
  | z :: r => if PyData.eqv z x then some 0 else (idxOf x r).map (· + 1)
def repD (n : Nat) (ds : List PyData) : List PyData := (List.replicate n ds).flatten
def repS (n : Nat) (x : Str) : Str := ⟨((List.replicate n x.cps.toList).flatten).toArray⟩
def mulS (x : Str) (k : Int) : Str := if k < 1 then Str.empty else if (k == 1 || x.length == 0) = true then x else ⟨(List.replicate k.toNat x.cps).foldl (· ++ ·) #[]⟩
def getIx (x y : D) (st : Store) : Option D := match x with
  | .p (.str s) => (match y with
    | .p (.int i) => ((ixOf s.cps.toList.length i).bind fun j => s.cps.toList[j]?).map fun c => .p (.str ⟨#[c]⟩)
    | _ => none)
  | .p (.list ds) => (match y with
    | .p (.int i) => ((ixOf ds.length i).bind fun j => ds[j]?).map .p
    | _ => none)
  | .p (.tuple ds) => (match y with
    | .p (.int i) => ((ixOf ds.length i).bind fun j => ds[j]?).map .p
    | _ => none)
  | .r k => (match st[k]? with
    | some (.lst ds) => (match y with
      | .p (.int i) => (ixOf ds.length i).bind fun j => ds[j]?
      | _ => none)
    | some (.dic kvs) => (match y with
      | .p q => if keyOk q then dGet kvs q else none
      | _ => none)
    | _ => none)
  | _ => none
def setIx (x y v : D) (st : Store) : Option Store := match x with
  | .r k => (match st[k]? with
    | some (.lst ds) => (match y with
      | .p (.int i) => (ixOf ds.length i).map fun j => st.set k (.lst (ds.set j v))
      | _ => none)
    | some (.dic kvs) => (match y with
      | .p q => if keyOk q && decide (kvs.length < sizeLine) then some (st.set k (.dic (dPut kvs q v))) else none
      | _ => none)
    | _ => none)
  | _ => none
def bz (b : Bool) : D := .p (.bool b)
def op2 (o : O2) (x y : D) (st : Store) : Res D := match o with
  | .add => (match x, y with
    | .p (.int i), .p (.int j) => .ok (.p (.int (i + j))) st
    | .p (.str a), .p (.str b) => if a.length + b.length ≤ sizeLine then .ok (.p (.str (a ++ b))) st else .bad
    | .p (.tuple a), .p (.tuple b) => if a.length + b.length ≤ sizeLine then .ok (.p (.tuple (a ++ b))) st else .bad
    | x, y => Res.of st ((listP x st).bind fun a => (listP y st).bind fun b => if a.length + b.length ≤ sizeLine then some (.p (.list (a ++ b))) else none))
  | .sub => (match x, y with
    | .p (.int i), .p (.int j) => .ok (.p (.int (i - j))) st
    | _, _ => .bad)
  | .mul => (match x, y with
    | .p (.int i), .p (.int j) => if mulOk i j then .ok (.p (.int (i * j))) st else .bad
    | .p (.tuple xs), .p (.int k) => if repOk xs k then .ok (.p (.tuple (List.replicate k.toNat xs).flatten)) st else .bad
    | .p (.list xs), .p (.int k) => if decide (-1000 ≤ k) && decide (k ≤ 1000) && decide (xs.length ≤ 1000) then .ok (.p (.list (List.replicate k.toNat xs).flatten)) st else .bad
    | .p (.str x), .p (.int k) => if decide (0 ≤ k) && decide (k ≤ 1000) && decide (x.length ≤ 1000) then .ok (.p (.str (mulS x k))) st else .bad
    | _, _ => .bad)
  | .mod => (match x, y with
    | .p (.int i), .p (.int j) => if 0 < j then .ok (.p (.int (i % j))) st else .bad
    | _, _ => .bad)
  | .fdv => (match x, y with
    | .p (.int i), .p (.int j) => if 0 < j ∧ j < 1073741824 then .ok (.p (.int (i / j))) st else .bad
    | _, _ => .bad)
  | .pow => (match x, y with
    | .p (.int i), .p (.int j) => if 0 ≤ j ∧ j ≤ 1000000 ∧ i.natAbs < 18446744073709551616 then .ok (.p (.int (i ^ j.toNat))) st else .bad
    | _, _ => .bad)
  | .band => (match x, y with
    | .p (.int i), .p (.int j) => .ok (.p (.int (Builtin.bitAnd i j))) st
    | _, _ => .bad)
  | .shr => (match x, y with
    | .p (.int i), .p (.int j) => if 0 ≤ j then .ok (.p (.int (i / 2 ^ j.toNat))) st else .bad
    | _, _ => .bad)
  | .shl => (match x, y with
    | .p (.int i), .p (.int j) => if 0 ≤ j ∧ j ≤ 1000000 ∧ i.natAbs < 18446744073709551616 then .ok (.p (.int (i * ((2 ^ j.toNat : Nat) : Int)))) st else .bad
    | _, _ => .bad)
  | .eq => (match x, y with
    | .p a, .p b => Res.of st ((eqD a b).map bz)
    | _, _ => .bad)
  | .ne => (match x, y with
    | .p a, .p b => Res.of st ((eqD a b).map fun k => bz (!k))
    | _, _ => .bad)
  | .inn => Res.of st ((inD x y st).map bz)
  | .nin => Res.of st ((inD x y st).map fun k => bz (!k))
  | .ix => Res.of st (getIx x y st)
  | .app => (match x with
    | .r k => (match st[k]? with
      | some (.lst ds) => if ds.length < sizeLine then .ok (.p .none) (st.set k (.lst (ds ++ [y]))) else .bad
      | _ => .bad)
    | _ => .bad)
  | .ext => (match x with
    | .r k => (match st[k]? with
      | some (.lst ds) => (match listP y st with
        | some es => if ds.length + es.length ≤ sizeLine then .ok (.p .none) (st.set k (.lst (ds ++ es.map .p))) else .bad
        | none => .bad)
      | _ => .bad)
    | _ => .bad)
  | .popi => (match x, y with
    | .r k, .p (.int i) => (match st[k]? with
      | some (.lst ds) => (match ixOf ds.length i with
        | some j => (match ds[j]? with
          | some d => .ok d (st.set k (.lst (ds.eraseIdx j)))
          | none => .bad)
        | none => .bad)
      | _ => .bad)
    | _, _ => .bad)
  | .indx => (match x, y with
    | .p (.tuple ds), .p d => if (inP d ds).isSome then Res.of st ((idxOf d ds).map fun (j : Nat) => .p (.int (j : Int))) else .bad
    | x, .p d => (match listP x st with
      | some ds => if (inP d ds).isSome then Res.of st ((idxOf d ds).map fun (j : Nat) => .p (.int (j : Int))) else .bad
      | none => .bad)
    | _, _ => .bad)
  | .mx2 => (match x, y with
    | .p (.int i), .p (.int j) => .ok (.p (.int (if j > i then j else i))) st
    | _, _ => .bad)
  | .mn2 => (match x, y with
    | .p (.int i), .p (.int j) => .ok (.p (.int (if j < i then j else i))) st
    | _, _ => .bad)
  | .get => .bad
  | .join => .bad
  | .split => .bad
  | o => (match x, y with
    | .p (.int i), .p (.int j) => Res.of st ((cmpI o i j).map bz)
    | .p (.str i), .p (.str j) => Res.of st ((cmpS o i j).map bz)
    | _, _ => .bad)
def op3 (o : O3) (x y z : D) (st : Store) : Res D := match o with
  | .ins => (match x, y with
    | .r k, .p (.int i) => (match st[k]? with
      | some (.lst ds) => if i = 0 ∧ ds.length < sizeLine then .ok (.p .none) (st.set k (.lst (z :: ds))) else .bad
      | _ => .bad)
    | _, _ => .bad)
  | .get2 => .bad

/-- the old thing at a place that changes -/
def getM (x y : D) (st : Store) : Option D := match x with
  | .r k => getIx (.r k) y st
  | _ => none
/-- a op= b -/
def opA (o : O2) (x y : D) (st : Store) : Res D := match o, x, y with
  | .add, .p (.int i), .p (.int j) => .ok (.p (.int (i + j))) st
  | .add, .p (.str a), .p (.str b) => if a.length + b.length ≤ sizeLine then .ok (.p (.str (a ++ b))) st else .bad
  | .sub, .p (.int i), .p (.int j) => .ok (.p (.int (i - j))) st
  | _, _, _ => .bad
/-! ### slices -/
def clip (n d : Nat) : Option Int → Nat
  | none => d
  | some i => if i < 0 then (i + n).toNat else min i.toNat n
def cut {α : Type} (xs : List α) (lo hi : Option Int) : List α := (xs.drop (clip xs.length 0 lo)).take (clip xs.length xs.length hi - clip xs.length 0 lo)
def cutD (x : D) (lo hi : Option Int) (st : Store) : Option D := match x with
  | .p (.str s) => some (.p (.str ⟨(cut s.cps.toList lo hi).toArray⟩))
  | .p (.tuple ds) => some (.p (.tuple (cut ds lo hi)))
  | x => (listP x st).map fun ds => .p (.list (cut ds lo hi))
def revD (x : D) (st : Store) : Option D := match x with
  | .p (.tuple ds) => some (.p (.tuple ds.reverse))
  | .p (.str _) => none
  | x => (listP x st).map fun ds => .p (.list ds.reverse)

/-! ### what is walked -/
inductive It where
  | one (d : D)
  | two (d e : D)
def zipI : List D → List D → List It
  | d :: ds, e :: es => .two d e :: zipI ds es
  | _, _ => []
def enumI (n : Nat) : List D → List It
  | [] => []
  | d :: ds => .two (.p (.int n)) d :: enumI (n + 1) ds
def rangeI (a : Int) (c : Int) : Nat → List It
  | 0 => []
  | n + 1 => .one (.p (.int a)) :: rangeI (a + c) c n
@[irreducible] def near (i : Int) : Bool := decide (-1073741824 < i) && decide (i < 1073741824)
def isL (d : D) (st : Store) : Bool := match d with
  | .p (.list _) => true
  | .r k => (match st[k]? with
    | some (.lst _) => true
    | _ => false)
  | _ => false
def isT (d : D) : Bool := match d with
  | .p (.tuple _) => true
  | _ => false
def walkOf (k : Nat) (ds : List D) (st : Store) : Option (List It) := match k, ds with
  | 0, [.p (.str s)] => some (s.cps.toList.map fun c => .one (.p (.str ⟨#[c]⟩)))
  | 0, [d] => (seqD d st).map (·.map .one)
  | 1, [.p (.int n)] => if near n then some (rangeI 0 1 n.toNat) else none
  | 1, [.p (.int a), .p (.int b)] => if near a && near b then some (rangeI a 1 (b - a).toNat) else none
  | 1, [.p (.int a), .p (.int b), .p (.int c)] => if near a && near b && decide (c = -1) then some (rangeI a (-1) (a - b).toNat) else none
  | 2, [d] => (seqD d st).map (enumI 0)
  | 3, [d, e] => if (isL d st && isL e st) || (isT d && isT e) then (seqD d st).bind fun ds => (seqD e st).map fun es => zipI ds es else none
  | 7, [d] => (seqD d st).map fun ds => ds.reverse.map .one
  | _, _ => none
mutual
def sameP : PyData → PyData → Bool
  | .none, .none => true
  | .bool a, .bool b => decide (a = b)
  | .int a, .int b => decide (a = b)
  | .str a, .str b => decide (a = b)
  | .list a, .list b => sameA a b
  | .tuple a, .tuple b => sameA a b
  | .dict a, .dict b => sameK a b
  | _, _ => false
def sameA : List PyData → List PyData → Bool
  | [], [] => true
  | a :: r, b :: q => sameP a b && sameA r q
  | _, _ => false
def sameK : List (PyData × PyData) → List (PyData × PyData) → Bool
  | [], [] => true
  | (a, c) :: r, (b, d) :: q => sameP a b && sameP c d && sameK r q
  | _, _ => false
end
def sameD : List D → List D → Bool
  | [], [] => true
  | .p a :: r, .p b :: q => sameP a b && sameD r q
  | .r a :: r, .r b :: q => decide (a = b) && sameD r q
  | _, _ => false
/-- what the walk leans on: a changing list that is walked stays as it is -/
def still (ds : List D) (st st' : Store) : Bool := ds.all fun d => match d with
  | .r k => match st[k]?, st'[k]? with
    | some (.lst a), some (.lst b) => sameD a b
    | _, _ => false
  | _ => true
mutual
theorem sameP_eq : ∀ {a b : PyData}, sameP a b = true → a = b
  | .none, .none, _ => rfl
  | .bool a, .bool b, h => by rw [of_decide_eq_true h]
  | .int a, .int b, h => by rw [of_decide_eq_true h]
  | .str a, .str b, h => by rw [of_decide_eq_true h]
  | .list a, .list b, h => by rw [sameA_eq (a := a) (b := b) h]
  | .tuple a, .tuple b, h => by rw [sameA_eq (a := a) (b := b) h]
  | .dict a, .dict b, h => by rw [sameK_eq (a := a) (b := b) h]
theorem sameA_eq : ∀ {a b : List PyData}, sameA a b = true → a = b
  | [], [], _ => rfl
  | a :: r, b :: q, h => by
    have h := Bool.and_eq_true_iff.mp h
    rw [sameP_eq h.1, sameA_eq h.2]
theorem sameK_eq : ∀ {a b : List (PyData × PyData)}, sameK a b = true → a = b
  | [], [], _ => rfl
  | (a, c) :: r, (b, d) :: q, h => by
    have h := Bool.and_eq_true_iff.mp h
    have h1 := Bool.and_eq_true_iff.mp h.1
    rw [sameP_eq h1.1, sameP_eq h1.2, sameK_eq h.2]
end
theorem sameD_eq : ∀ {a b : List D}, sameD a b = true → a = b
  | [], [], _ => rfl
  | .p a :: r, .p b :: q, h => by
    have h := Bool.and_eq_true_iff.mp h
    rw [sameP_eq h.1, sameD_eq h.2]
  | .r a :: r, .r b :: q, h => by
    have h := Bool.and_eq_true_iff.mp h
    rw [of_decide_eq_true h.1, sameD_eq h.2]
mutual
theorem sameP_rfl : ∀ a : PyData, sameP a a = true
  | .none => rfl
  | .bool a => by simp [sameP]
  | .int a => by simp [sameP]
  | .str a => by simp [sameP]
  | .list a => by simp [sameP, sameA_rfl a]
  | .tuple a => by simp [sameP, sameA_rfl a]
  | .dict a => by simp [sameP, sameK_rfl a]
theorem sameA_rfl : ∀ a : List PyData, sameA a a = true
  | [] => rfl
  | a :: r => by simp [sameA, sameP_rfl a, sameA_rfl r]
theorem sameK_rfl : ∀ a : List (PyData × PyData), sameK a a = true
  | [] => rfl
  | (a, c) :: r => by simp [sameK, sameP_rfl a, sameP_rfl c, sameK_rfl r]
end
theorem sameD_rfl : ∀ a : List D, sameD a a = true
  | [] => rfl
  | .p a :: r => by simp [sameD, sameP_rfl a, sameD_rfl r]
  | .r a :: r => by simp [sameD, sameD_rfl r]
def setAll : List Nat → List D → Sl → Option Sl
  | [], [], env => some env
  | i :: is, d :: ds, env => if i < env.length then setAll is ds (env.set i (some d)) else none
  | _, _, _ => none
def bindT (tg : Tg) (it : It) (env : Sl) : Option Sl := match tg, it with
  | .one i, .one d => setAll [i] [d] env
  | .many is, .two d e => setAll is [d, e] env
  | .many is, .one (.p (.tuple ds)) => setAll is (ds.map .p) env
  | _, _ => none
def wipeE (env : Sl) : List Nat → Sl
  | [] => env
  | v :: vs => (wipeE env vs).set v none

/-- a changing list -/
def isLst (x : D) (st : Store) : Bool := match x with
  | .r k => (match st[k]? with
    | some (.lst _) => true
    | _ => false)
  | _ => false
/-- what a method's receiver is, told ahead of the arguments -/
def pre (o : O2) (x : D) (st : Store) : Bool := match o with
  | .app => isLst x st
  | .ext => isLst x st
  | .popi => isLst x st
  | .indx => (match x with
    | .p (.tuple _) => true
    | .p (.list _) => true
    | x => isLst x st)
  | .get => false
  | .join => (match x with
    | .p (.str _) => true
    | _ => false)
  | .split => (match x with
    | .p (.str _) => true
    | _ => false)
  | _ => true
/-! ### evaluation -/
abbrev Calls := Nat → List D → Store → Res D
/-- a list that a call hands back, as data -/
def thaw (d : D) (st : Store) : Option PyData := match d with
  | .p d => some d
  | .r k => (match st[k]? with
    | some (.lst ds) => (allP ds).map .list
    | _ => none)
def runP (Φ : Calls) (f : Nat) (xs : List PyData) (st : Store) : Res D := match Φ f (xs.map .p) [] with
  | .ok d st' => Res.of st ((thaw d st').map .p)
  | .ex c fs _ => .ex c fs st
  | .bad => .bad
/-- objects that name objects below n alone -/
def refLt (n : Nat) : D → Bool
  | .p _ => true
  | .r k => decide (k < n)
def obLt (n : Nat) : Ob → Bool
  | .lst ds => ds.all (refLt n)
  | .dic kvs => kvs.all fun q => refLt n q.2
  | .gone => true
/-- behind a call that hands back data, what it made is forgotten -/
def trimR (n : Nat) : Res D → Res D
  | .ok (.p d) st => .ok (.p d) (if (st.take n).all (obLt n) then st.take n else st)
  | r => r
def callD (Φ : Calls) (pu : Bool) (f : Nat) (ds : List D) (st : Store) : Res D :=
  if pu then (match allP ds with
    | some xs => runP Φ f xs st
    | none => .bad)
  else trimR st.length (Φ f ds st)
def permD (ps : List Nat) (ds : List D) : Option (List D) := ps.mapM fun i => ds[i]?
def truth (d : D) : Option Bool := match d with
  | .p (.bool b) => some b
  | _ => none
def dicOf : List D → List (PyData × D) → Option (List (PyData × D))
  | [], acc => some acc
  | .p k :: v :: r, acc => if keyOk k then dicOf r (dPut acc k v) else none
  | _, _ => none
def compM (ok : Store → Bool) (f : It → Store → Res (Option D)) : List It → Store → Res (List D)
  | [], st => if ok st then .ok [] st else .bad
  | x :: xs, st => if ok st then (f x st).bind fun o st => (compM ok f xs st).bind fun ds st => .ok (match o with
    | some d => d :: ds
    | none => ds) st else .bad
/-- a new list as a changing one -/
def asNew (m : Bool) (o : Option D) (st : Store) : Res D := match o with
  | some (.p (.list ds)) => newL m (ds.map .p) st
  | some d => if m then .bad else .ok d st
  | none => .bad
mutual
def ev (Φ : Calls) : E → Sl → Store → Res D
  | .var i, env, st => match env[i]? with
    | some (some d) => .ok d st
    | _ => .bad
  | .c d, _, st => .ok (.p d) st
  | .g _ d, _, st => .ok (.p d) st
  | .o1 o a, env, st => (ev Φ a env st).bind fun x st => (op1 o x st).nox
  | .o2 o a b, env, st => (ev Φ a env st).bind fun x st => if pre o x st then (ev Φ b env st).bind fun y st => (op2 o x y st).nox else .bad
  | .o3 o a b c, env, st => (ev Φ a env st).bind fun x st => if isLst x st then (ev Φ b env st).bind fun y st => (ev Φ c env st).bind fun z st => (op3 o x y z st).nox else .bad
  | .an es, env, st => evAn Φ es env st
  | .orr es, env, st => evOr Φ es env st
  | .ite c a b, env, st => (ev Φ c env st).bind fun x st => match truth x with
    | some true => ev Φ a env st
    | some false => ev Φ b env st
    | none => .bad
  | .chain o o' a b c, env, st => (ev Φ a env st).bind fun x st => (ev Φ b env st).bind fun y st => (op2 o x y st).nox.bind fun k st => match truth k with
    | some true => (ev Φ c env st).bind fun z st => (op2 o' y z st).nox
    | some false => .ok (bz false) st
    | none => .bad
  | .tup es, env, st => (evs Φ es env st).bind fun ds st => Res.of st ((allP ds).bind fun xs => if xs.length ≤ sizeLine then some (.p (.tuple xs)) else none)
  | .lst m es, env, st => (evs Φ es env st).bind fun ds st => newL m ds st
  | .dic kvs, env, st => ((evs Φ kvs env st).bind fun ds st => if ds.length ≤ 30 then (match dicOf ds [] with
    | some kvs => alloc (.dic kvs) st
    | none => .bad) else .bad).nox
  | .sl m a lo hi, env, st => (ev Φ a env st).bind fun x st => (evO Φ lo env st).bind fun l st => (evO Φ hi env st).bind fun h st => (asNew m (cutD x l h st) st).nox
  | .rv m a, env, st => (ev Φ a env st).bind fun x st => (asNew m (revD x st) st).nox
  | .call pu f es, env, st => (evs Φ es env st).bind fun ds st => callD Φ pu f ds st
  | .callk pu f ps es, env, st => (evs Φ es env st).bind fun ds st => match permD ps ds with
    | some ds => callD Φ pu f ds st
    | none => .bad
  | .comp m elt tg k its ifs, env, st => (evs Φ its env st).bind fun ds st => match walkOf k ds st with
    | some xs => ((compM (fun st1 => still ds st st1) (fun x st1 => match bindT tg x (wipeE env tg.slots) with
        | some env' => (evAn Φ ifs env' st1).bind fun c st1 => match truth c with
          | some true => (ev Φ elt env' st1).bind fun d st1 => .ok (some d) st1
          | some false => .ok none st1
          | none => .bad
        | none => .bad) xs st).bind fun ds st => newL m ds st).nox
    | none => .bad
def evs (Φ : Calls) : List E → Sl → Store → Res (List D)
  | [], _, st => .ok [] st
  | e :: es, env, st => (ev Φ e env st).bind fun d st => (evs Φ es env st).bind fun ds st => .ok (d :: ds) st
def evO (Φ : Calls) : Option E → Sl → Store → Res (Option Int)
  | none, _, st => .ok none st
  | some e, env, st => (ev Φ e env st).bind fun d st => match d with
    | .p (.int i) => .ok (some i) st
    | _ => .bad
/-- and: each but the last a truth value -/
def evAn (Φ : Calls) : List E → Sl → Store → Res D
  | [], _, st => .ok (bz true) st
  | e :: es, env, st => match es with
    | [] => ev Φ e env st
    | _ :: _ => (ev Φ e env st).bind fun x st => match truth x with
      | some true => evAn Φ es env st
      | some false => .ok (bz false) st
      | none => .bad
def evOr (Φ : Calls) : List E → Sl → Store → Res D
  | [], _, st => .ok (bz false) st
  | e :: es, env, st => match es with
    | [] => ev Φ e env st
    | _ :: _ => (ev Φ e env st).bind fun x st => match truth x with
      | some true => .ok (bz true) st
      | some false => evOr Φ es env st
      | none => .bad
end

/-! ### statements -/
abbrev SR := Res (Flow × Sl)
def forM' (ok : Store → Bool) (f : It → Sl → Store → SR) : List It → Sl → Store → SR
  | [], env, st => if ok st then .ok (.nx, env) st else .bad
  | x :: xs, env, st => if ok st then (f x env st).bind fun r st => (match r.1 with
    | .nx => forM' ok f xs r.2 st
    | .ct => forM' ok f xs r.2 st
    | .bk => .ok (.nx, r.2) st
    | .rt d => .ok (.rt d, r.2) st) else .bad
def whlM (c : Sl → Store → Res D) (f : Sl → Store → SR) : Nat → Sl → Store → SR
  | 0, _, _ => .bad
  | n + 1, env, st => (c env st).bind fun k st => match truth k with
    | some false => .ok (.nx, env) st
    | some true => (f env st).bind fun r st => (match r.1 with
      | .nx => whlM c f n r.2 st
      | .ct => whlM c f n r.2 st
      | .bk => .ok (.nx, r.2) st
      | .rt d => .ok (.rt d, r.2) st)
    | none => .bad
def fuel : Nat := 1099511627776
def setE (i : Nat) (d : D) (env : Sl) : Option Sl := if i < env.length then some (env.set i (some d)) else none
def Hd.fits (h : Hd) (env : Sl) : Bool := match h.slot with
  | some i => decide (i < env.length)
  | none => true
/-- what a try makes of its body's end -/
def tryR (hs : List Hd) (r : SR) (env : Sl) : SR := match r with
  | .ok a st => .ok a st
  | .ex k fs st => (match hs.find? fun h => h.cs.contains k with
    | some h => (match h.res.val fs with
      | some d => if h.fits env then .ok (.rt (.p d), env.map fun _ => none) st else .bad
      | none => .bad)
    | none => .ex k fs st)
  | .bad => .bad
mutual
def exS (Φ : Calls) : S → Sl → Store → SR
  | .set i e, env, st => (ev Φ e env st).bind fun d st => Res.of st ((setE i d env).map fun env => (.nx, env))
  | .unp is e, env, st => (ev Φ e env st).bind fun d st => match d with
    | .p (.tuple ds) => Res.of st ((setAll is (ds.map .p) env).map fun env => (.nx, env))
    | _ => .bad
  | .par is es, env, st => (evs Φ es env st).bind fun ds st => Res.of st ((setAll is ds env).map fun env => (.nx, env))
  | .setix o i v, env, st => (ev Φ v env st).bind fun d st => (ev Φ o env st).bind fun x st => (ev Φ i env st).bind fun y st => match setIx x y d st with
    | some st => .ok (.nx, env) st
    | none => .bad
  | .aug i o e, env, st => match env[i]? with
    | some (some x) => (ev Φ e env st).bind fun y st => (opA o x y st).nox.bind fun d st => Res.of st ((setE i d env).map fun env => (.nx, env))
    | _ => .bad
  | .augix o i op e, env, st => (ev Φ o env st).bind fun x st => (ev Φ i env st).bind fun y st => match getM x y st with
    | some old => (ev Φ e env st).bind fun z st => (opA op old z st).nox.bind fun d st => (match setIx x y d st with
      | some st => .ok (.nx, env) st
      | none => .bad)
    | none => .bad
  | .ex e, env, st => (ev Φ e env st).bind fun _ st => .ok (.nx, env) st
  | .ret e, env, st => (ev Φ e env st).bind fun d st => .ok (.rt d, env) st
  | .retN, env, st => .ok (.rt (.p .none), env) st
  | .iff c a b, env, st => (ev Φ c env st).bind fun k st => match truth k with
    | some true => exB Φ a env st
    | some false => exB Φ b env st
    | none => .bad
  | .for_ tg k its body, env, st => (evs Φ its env st).bind fun ds st => match walkOf k ds st with
    | some xs => forM' (fun st1 => still ds st st1) (fun x env1 st1 => match bindT tg x env1 with
      | some env2 => exB Φ body env2 st1
      | none => .bad) xs env st
    | none => .bad
  | .whl c body, env, st => whlM (fun env st => ev Φ c env st) (fun env st => exB Φ body env st) fuel env st
  | .brk, env, st => .ok (.bk, env) st
  | .cont, env, st => .ok (.ct, env) st
  | .pass, env, st => .ok (.nx, env) st
  | .raise k es, env, st => (evs Φ es env st).bind fun ds st => match allP ds with
    | some fs => .ex k fs st
    | none => .bad
  | .try_ body hs, env, st => tryR hs (exB Φ body env st) env
def exB (Φ : Calls) : List S → Sl → Store → SR
  | [], env, st => .ok (.nx, env) st
  | s :: ss, env, st => (exS Φ s env st).bind fun r st => match r.1 with
    | .nx => exB Φ ss r.2 st
    | .bk => .ok (.bk, r.2) st
    | .ct => .ok (.ct, r.2) st
    | .rt d => .ok (.rt d, r.2) st
end

structure FDef where
  nm : Str
  N : List Str
  pars : Nat
  body : List S
def startE (d : FDef) (args : List D) : Sl := args.map some ++ List.replicate (d.N.length - d.pars) none
def bodyR (Φ : Calls) (d : FDef) (args : List D) (st : Store) : Res D :=
  if args.length = d.pars ∧ d.pars ≤ d.N.length then (exB Φ d.body (startE d args) st).bind fun r st => match r.1 with
    | .rt v => .ok v st
    | .nx => .ok (.p .none) st
    | _ => .bad
  else .bad
/-- calls, so many deep at most -/
def callF (F : List FDef) : Nat → Calls
  | 0 => fun _ _ _ => .bad
  | n + 1 => fun f args st => match F[f]? with
    | some d => bodyR (callF F n) d args st
    | none => .bad
def isTrueR : Res D → Bool
  | .ok (.p (.bool true)) _ => true
  | _ => false
end Dn
/-! Dn, part 2: what the data stand for in the abstract heap. -/
namespace Dn
open PySem PySem.Spec PyProof.Rows L2

abbrev Sg := List (Option V)
abbrev Off1 := Addr → Prop
abbrev Lc := List (Option Addr)
def Live (L : Lc) (a : Addr) : Prop := ∃ i : Nat, L[i]? = some (some a)
def Off (G : Off1) (L : Lc) : Off1 := fun a => G a ∨ Live L a
def hNone : Hp := fun _ => none
/-- a list at a that nothing here changes -/
def LstO (K : PySem.W.Frag) (O : Off1) (H : Hp) (a : Addr) (xs : List V) : Prop := (Rd H a (.lst xs) ∧ ¬ O a) ∨ SqL K hNone a xs
/-- a tuple at a, its object without a dict of its own -/
def TupK (K : PySem.W.Frag) (a : Addr) (xs : List V) : Prop := ∃ (o : Obj) (its : Array Value) (n : Nat), K.lookup a = some o ∧ o.cls = .type "tuple" ∧ o.dict = none ∧ o.data = .seq its n ∧ its.size ≤ sizeLine ∧ Vals xs its.toList
def TupO (K : PySem.W.Frag) (O : Off1) (H : Hp) (a : Addr) (xs : List V) : Prop := (∃ o : Obj, H a = some (.frz o (.tup xs)) ∧ o.dict = none ∧ ¬ O a) ∨ TupK K a xs
theorem noRd {a : Addr} {u : HO} : ¬ Rd hNone a u := by
  rintro (h | ⟨o, h⟩) <;> cases h
theorem LstO.sq {K : PySem.W.Frag} {O : Off1} {H : Hp} {a : Addr} {xs : List V} (h : LstO K O H a xs) : SqL K H a xs := by
  rcases h with ⟨h, _⟩ | h
  · exact .inl h
  · rcases h with h | h
    · exact absurd h noRd
    · exact .inr h
theorem TupO.sq {K : PySem.W.Frag} {O : Off1} {H : Hp} {a : Addr} {xs : List V} (h : TupO K O H a xs) : SqT K H a xs := by
  rcases h with ⟨o, h, _, _⟩ | ⟨o, its, n, h1, h2, _, h3, h4, h5⟩
  · exact .inl (.inr ⟨o, h⟩)
  · exact .inr ⟨o, its, n, h1, h2, h3, h4, h5⟩
/-- what stood stays, but what is off limits; what is newly off limits was free -/
structure Keep (O : Off1) (H : Hp) (O' : Off1) (H' : Hp) : Prop where
  kp : ∀ b u, H b = some u → ¬ O b → H' b = some u
  no : ∀ b, O' b → O b ∨ H b = none
theorem Keep.rd {O O' : Off1} {H H' : Hp} (k : Keep O H O' H') {a : Addr} {u : HO} (h : Rd H a u) (n : ¬ O a) : Rd H' a u ∧ ¬ O' a := by
  rcases h with h | ⟨o, h⟩
  · refine ⟨.inl (k.kp a u h n), fun z => ?_⟩
    rcases k.no a z with q | q
    · exact n q
    · rw [h] at q; cases q
  · refine ⟨.inr ⟨o, k.kp a _ h n⟩, fun z => ?_⟩
    rcases k.no a z with q | q
    · exact n q
    · rw [h] at q; cases q
theorem LstO.mono {K : PySem.W.Frag} {O O' : Off1} {H H' : Hp} (k : Keep O H O' H') {a : Addr} {xs : List V} (h : LstO K O H a xs) : LstO K O' H' a xs := by
  rcases h with ⟨h, n⟩ | h
  · exact .inl (k.rd h n)
  · exact .inr h
theorem TupO.mono {K : PySem.W.Frag} {O O' : Off1} {H H' : Hp} (k : Keep O H O' H') {a : Addr} {xs : List V} (h : TupO K O H a xs) : TupO K O' H' a xs := by
  rcases h with ⟨o, h, d, n⟩ | h
  · refine .inl ⟨o, k.kp a _ h n, d, fun z => ?_⟩
    rcases k.no a z with q | q
    · exact n q
    · rw [h] at q; cases q
  · exact .inr h
def sOk (x : Str) : Prop := PyData.strOk x = true ∧ x.length ≤ sizeLine
mutual
inductive Fz (K : PySem.W.Frag) (O : Off1) (H : Hp) : V → PyData → Prop
  | non : Fz K O H .non .none
  | bl (b : Bool) : Fz K O H (.bl b) (.bool b)
  | int (i : Int) : Fz K O H (.int i) (.int i)
  | str (x : Str) : sOk x → Fz K O H (.str x) (.str x)
  | lst {a : Addr} {xs : List V} {ds : List PyData} : LstO K O H a xs → FzA K O H xs ds → Fz K O H (.ref a) (.list ds)
  | tup {a : Addr} {xs : List V} {ds : List PyData} : TupO K O H a xs → FzA K O H xs ds → Fz K O H (.ref a) (.tuple ds)
inductive FzA (K : PySem.W.Frag) (O : Off1) (H : Hp) : List V → List PyData → Prop
  | nil : FzA K O H [] []
  | cons {v : V} {vs : List V} {d : PyData} {ds : List PyData} : Fz K O H v d → FzA K O H vs ds → FzA K O H (v :: vs) (d :: ds)
end
section
variable {K : PySem.W.Frag} {O O' : Off1} {H H' : Hp}
mutual
theorem Fz.mono (k : Keep O H O' H') : ∀ (d : PyData) (v : V), Fz K O H v d → Fz K O' H' v d
  | .none, _, h => by cases h; exact .non
  | .bool b, _, h => by cases h; exact .bl b
  | .int i, _, h => by cases h; exact .int i
  | .str x, _, h => by cases h with | str _ o => exact .str x o
  | .list ds, _, h => by cases h with | lst s a => exact .lst (s.mono k) (FzA.mono k ds _ a)
  | .tuple ds, _, h => by cases h with | tup s a => exact .tup (s.mono k) (FzA.mono k ds _ a)
  | .dict _, _, h => by cases h
theorem FzA.mono (k : Keep O H O' H') : ∀ (ds : List PyData) (vs : List V), FzA K O H vs ds → FzA K O' H' vs ds
  | [], _, h => by cases h; exact .nil
  | d :: ds, _, h => by cases h with | cons a b => exact .cons (Fz.mono k d _ a) (FzA.mono k ds _ b)
end
mutual
theorem Fz.dp : ∀ (d : PyData) (v : V), Fz K O H v d → Dp K H v d
  | .none, _, h => by cases h; exact .non
  | .bool b, _, h => by cases h; exact .bl b
  | .int i, _, h => by cases h; exact .int i
  | .str x, _, h => by cases h; exact .str x
  | .list ds, _, h => by cases h with | lst s a => exact .lst s.sq (FzA.dp ds _ a)
  | .tuple ds, _, h => by cases h with | tup s a => exact .tup s.sq (FzA.dp ds _ a)
  | .dict _, _, h => by cases h
theorem FzA.dp : ∀ (ds : List PyData) (vs : List V), FzA K O H vs ds → DpAll K H vs ds
  | [], _, h => by cases h; exact .nil
  | d :: ds, _, h => by cases h with | cons a b => exact .cons (Fz.dp d _ a) (FzA.dp ds _ b)
end
mutual
theorem Fz.lay : ∀ (d : PyData) (v : V), Fz K O H v d → d.canLay0 = true
  | .none, _, h => by simp only [PyData.canLay0]
  | .bool b, _, h => by simp only [PyData.canLay0]
  | .int i, _, h => by simp only [PyData.canLay0]
  | .str x, _, h => by cases h with | str _ o => simp only [PyData.canLay0]; exact o.1
  | .list ds, _, h => by cases h with | lst s a => simp only [PyData.canLay0]; exact FzA.lay ds _ a
  | .tuple ds, _, h => by cases h with | tup s a => simp only [PyData.canLay0]; exact FzA.lay ds _ a
  | .dict _, _, h => by cases h
theorem FzA.lay : ∀ (ds : List PyData) (vs : List V), FzA K O H vs ds → PyData.canLayAll0 ds = true
  | [], _, h => by simp only [PyData.canLayAll0]
  | d :: ds, _, h => by
    cases h with
    | cons a b =>
      simp only [PyData.canLayAll0, Bool.and_eq_true]
      exact ⟨Fz.lay d _ a, FzA.lay ds _ b⟩
end
theorem FzA.len : ∀ {ds : List PyData} {vs : List V}, FzA K O H vs ds → vs.length = ds.length
  | [], _, h => by cases h; rfl
  | d :: ds, _, h => by cases h with | cons a b => simp [FzA.len b]
theorem FzA.app : ∀ {ds es : List PyData} {vs us : List V}, FzA K O H vs ds → FzA K O H us es → FzA K O H (vs ++ us) (ds ++ es)
  | [], _, _, _, .nil, h => h
  | d :: ds, _, _, _, .cons a b, h => .cons a (FzA.app b h)
theorem FzA.get : ∀ {ds : List PyData} {vs : List V} {i : Nat} {d : PyData}, FzA K O H vs ds → ds[i]? = some d → ∃ v, vs[i]? = some v ∧ Fz K O H v d
  | [], _, _, _, .nil, e => by simp at e
  | _ :: _, _, 0, _, .cons a b, e => by simp at e; subst e; exact ⟨_, rfl, a⟩
  | _ :: _, _, i + 1, _, .cons a b, e => by
    obtain ⟨v, h1, h2⟩ := FzA.get (i := i) b (by simpa using e)
    exact ⟨v, by simpa using h1, h2⟩
theorem FzA.take : ∀ {ds : List PyData} {vs : List V} (n : Nat), FzA K O H vs ds → FzA K O H (vs.take n) (ds.take n)
  | _, _, 0, _ => by simp; exact .nil
  | [], _, n + 1, .nil => by simp; exact .nil
  | _ :: _, _, n + 1, .cons a b => by simp; exact .cons a (FzA.take n b)
theorem FzA.drop : ∀ {ds : List PyData} {vs : List V} (n : Nat), FzA K O H vs ds → FzA K O H (vs.drop n) (ds.drop n)
  | _, _, 0, h => by simpa using h
  | [], _, n + 1, .nil => by simp; exact .nil
  | _ :: _, _, n + 1, .cons a b => by simp; exact FzA.drop n b
theorem FzA.rev : ∀ {ds : List PyData} {vs : List V}, FzA K O H vs ds → FzA K O H vs.reverse ds.reverse
  | [], _, .nil => by simp; exact .nil
  | d :: ds, _, .cons a b => by
    simp only [List.reverse_cons]
    exact (FzA.rev b).app (.cons a .nil)
theorem FzA.rep {ds : List PyData} {vs : List V} (h : FzA K O H vs ds) : ∀ n : Nat, FzA K O H (List.replicate n vs).flatten (repD n ds)
  | 0 => by simp [repD]; exact .nil
  | n + 1 => by
    have ih := FzA.rep h n
    unfold repD at ih ⊢
    simp only [List.replicate_succ, List.flatten_cons]
    exact h.app ih
theorem FzA.nil_iff {ds : List PyData} {vs : List V} (h : FzA K O H vs ds) : vs = [] ↔ ds = [] := by
  cases h <;> simp
end

/-! ### values, objects -/
def RD (K : PySem.W.Frag) (G : Off1) (L : Lc) (H : Hp) : V → D → Prop
  | v, .p d => Fz K (Off G L) H v d
  | v, .r k => ∃ a, v = .ref a ∧ k < L.length ∧ ∀ b, L[k]? = some (some b) → b = a
abbrev RDs (K : PySem.W.Frag) (G : Off1) (L : Lc) (H : Hp) : List V → List D → Prop := Paired (RD K G L H)
def KeyR : Key → PyData → Prop
  | .inl i, .int j => i = j
  | .inr x, .str y => x = y ∧ sOk x
  | _, _ => False
def OR (K : PySem.W.Frag) (G : Off1) (L : Lc) (H : Hp) (a : Addr) : Ob → Prop
  | .lst ds => ∃ xs, H a = some (.lst xs) ∧ RDs K G L H xs ds
  | .dic kvs => ∃ ks, H a = some (.dK ks) ∧ Paired (fun p q => KeyR p.1 q.1 ∧ RD K G L H p.2 q.2) ks kvs
  | .gone => True
structure Rl (K : PySem.W.Frag) (G : Off1) (L : Lc) (st : Store) (H : Hp) : Prop where
  len : L.length = st.length
  inj : ∀ (i j : Nat) (a : Addr), L[i]? = some (some a) → L[j]? = some (some a) → i = j
  obj : ∀ (i : Nat) (a : Addr) (o : Ob), L[i]? = some (some a) → st[i]? = some o → OR K G L H a o
  gtr : ∀ a, Off G L a → ∃ o, H a = some o
  out : ∀ a, Live L a → ¬ G a
  ded : ∀ i : Nat, L[i]? = some none → st[i]? = some .gone
structure Po (L : Lc) (H : Hp) (L' : Lc) (H' : Hp) : Prop where
  kp : ∀ b u, H b = some u → ¬ Live L b → H' b = some u
  st : ∀ b u, H b = some u → ∃ u', H' b = some u'
  le : L.length ≤ L'.length
  old : ∀ (k : Nat) (b : Addr), k < L.length → L'[k]? = some (some b) → L[k]? = some (some b)
  new : ∀ (k : Nat) (b : Addr), L.length ≤ k → L'[k]? = some (some b) → H b = none
section
variable {K : PySem.W.Frag} {G : Off1} {L L1 L2 : Lc} {H H1 H2 : Hp} {st st1 : Store}
theorem Po.refl : Po L H L H := ⟨fun _ _ h _ => h, fun _ u h => ⟨u, h⟩, Nat.le_refl _, fun _ _ _ h => h, fun k b h e => by
  have := (List.getElem?_eq_some_iff.mp e).1
  omega⟩
theorem Po.live (p : Po L H L1 H1) {b : Addr} (h : Live L1 b) : Live L b ∨ H b = none := by
  obtain ⟨i, e⟩ := h
  by_cases hi : i < L.length
  · exact .inl ⟨i, p.old i b hi e⟩
  · exact .inr (p.new i b (by omega) e)
theorem Po.trans (p : Po L H L1 H1) (q : Po L1 H1 L2 H2) : Po L H L2 H2 where
  kp := fun b u e n => q.kp b u (p.kp b u e n) fun z => by
    rcases p.live z with r | r
    · exact n r
    · rw [e] at r; cases r
  st := fun b u e => by
    obtain ⟨u1, e1⟩ := p.st b u e
    exact q.st b u1 e1
  le := Nat.le_trans p.le q.le
  old := fun k b h e => p.old k b h (q.old k b (Nat.lt_of_lt_of_le h p.le) e)
  new := fun k b h e => by
    by_cases hk : k < L1.length
    · exact p.new k b h (q.old k b hk e)
    · cases z : H b with
      | none => rfl
      | some u =>
        obtain ⟨u1, e1⟩ := p.st b u z
        rw [q.new k b (by omega) e] at e1; cases e1
theorem Po.keep (p : Po L H L1 H1) : Keep (Off G L) H (Off G L1) H1 where
  kp := fun b u e n => p.kp b u e fun z => n (.inr z)
  no := fun b h => by
    rcases h with h | h
    · exact .inl (.inl h)
    · rcases p.live h with r | r
      · exact .inl (.inr r)
      · exact .inr r
theorem RD.mono (p : Po L H L1 H1) : ∀ {v : V} {d : D}, RD K G L H v d → RD K G L1 H1 v d
  | v, .p d, h => Fz.mono p.keep d v h
  | v, .r k, h => by
    obtain ⟨a, e, hk, hb⟩ := h
    exact ⟨a, e, Nat.lt_of_lt_of_le hk p.le, fun b z => hb b (p.old k b hk z)⟩
theorem RDs.mono (p : Po L H L1 H1) {vs : List V} {ds : List D} (h : RDs K G L H vs ds) : RDs K G L1 H1 vs ds := Paired.mono (fun _ _ x => RD.mono p x) h
/-- the frame's names -/
structure RE (K : PySem.W.Frag) (G : Off1) (L : Lc) (H : Hp) (σ : Sg) (env : Sl) : Prop where
  len : env.length = σ.length
  at_ : ∀ (i : Nat) (d : D), env[i]? = some (some d) → ∃ v, σ[i]? = some (some v) ∧ RD K G L H v d
theorem RE.mono (p : Po L H L1 H1) {σ : Sg} {env : Sl} (h : RE K G L H σ env) : RE K G L1 H1 σ env := ⟨h.len, fun i d e => by
  obtain ⟨v, e1, r⟩ := h.at_ i d e
  exact ⟨v, e1, RD.mono p r⟩⟩
theorem RE.set {σ : Sg} {env : Sl} (h : RE K G L H σ env) {i : Nat} {d : D} {v : V} (r : RD K G L H v d) : RE K G L H (σ.set i (some v)) (env.set i (some d)) := ⟨by simpa using h.len, fun j e hj => by
  by_cases q : i = j
  · subst q
    have hl : i < env.length := by
      have := (List.getElem?_eq_some_iff.mp hj).1
      simpa using this
    rw [List.getElem?_set_self hl] at hj
    cases hj
    exact ⟨v, List.getElem?_set_self (by rw [← h.len]; exact hl), r⟩
  · rw [List.getElem?_set_ne q] at hj ⊢
    exact h.at_ j e hj⟩
theorem RE.unset {σ : Sg} {env : Sl} (h : RE K G L H σ env) {i : Nat} : RE K G L H (σ.set i none) (env.set i none) := ⟨by simpa using h.len, fun j e hj => by
  by_cases q : i = j
  · subst q
    have hl : i < env.length := by
      have := (List.getElem?_eq_some_iff.mp hj).1
      simpa using this
    rw [List.getElem?_set_self hl] at hj
    cases hj
  · rw [List.getElem?_set_ne q] at hj ⊢
    exact h.at_ j e hj⟩
theorem RE.wipe {σ : Sg} {env : Sl} (h : RE K G L H σ env) : ∀ vs : List Nat, RE K G L H (wipe σ vs) (wipeE env vs)
  | [] => h
  | v :: vs => (RE.wipe h vs).unset

/-! ### the store's steps -/
theorem Rl.none (r : Rl K G L st H) {a : Addr} (h : H a = none) : ¬ Off G L a := fun z => by
  obtain ⟨o, e⟩ := r.gtr a z
  rw [h] at e; cases e
/-- something new is tracked that nothing here changes -/
theorem Po.new1 (r : Rl K G L st H) {p : Addr} {o : HO} (h : H p = .none) : Po L H L (upd H p o) := ⟨fun b u e _ => by rw [upd_ne (ne_of_none e h)]; exact e, fun b u e => ⟨u, by rw [upd_ne (ne_of_none e h)]; exact e⟩, Nat.le_refl _, fun _ _ _ e => e, fun k b h e => by
  have := (List.getElem?_eq_some_iff.mp e).1
  omega⟩
theorem OR.mono (p : Po L H L1 H1) {a : Addr} {o : Ob} (h : OR K G L H a o) (e : ∀ u, H a = some u → H1 a = some u) : OR K G L1 H1 a o := by
  cases o with
  | lst ds =>
    obtain ⟨xs, e1, r⟩ := h
    exact ⟨xs, e _ e1, r.mono p⟩
  | dic kvs =>
    obtain ⟨ks, e1, r⟩ := h
    exact ⟨ks, e _ e1, Paired.mono (fun _ _ x => ⟨x.1, RD.mono p x.2⟩) r⟩
  | gone => trivial
theorem Rl.new1 (r : Rl K G L st H) {p : Addr} {o : HO} (h : H p = .none) : Rl K G L st (upd H p o) where
  len := r.len
  inj := r.inj
  obj := fun i a o e1 e2 => (r.obj i a o e1 e2).mono (Po.new1 r h) fun u e => by rw [upd_ne (ne_of_none e h)]; exact e
  gtr := fun a z => by
    obtain ⟨o', e⟩ := r.gtr a z
    exact ⟨o', by rw [upd_ne (ne_of_none e h)]; exact e⟩
  out := r.out
  ded := r.ded
/-- a live object is written -/
theorem Po.write {a : Addr} {o : HO} {L : Lc} (hl : Live L a) : Po L H L (upd H a o) := ⟨fun b u e n => by
  rw [upd_ne (fun z => n (by rw [z]; exact hl))]; exact e, fun b u e => by
  by_cases q : b = a
  · exact ⟨o, by rw [q]; exact upd_same⟩
  · exact ⟨u, by rw [upd_ne q]; exact e⟩, Nat.le_refl _, fun _ _ _ e => e, fun k b h e => by
  have := (List.getElem?_eq_some_iff.mp e).1
  omega⟩
theorem Rl.write (r : Rl K G L st H) {k : Nat} {a : Addr} {o : HO} {ob : Ob} (hk : L[k]? = some (some a)) (h : OR K G L (upd H a o) a ob) : Rl K G L (st.set k ob) (upd H a o) where
  len := by simpa using r.len
  inj := r.inj
  obj := fun i b u e1 e2 => by
    by_cases q : k = i
    · subst q
      rw [hk] at e1; cases e1
      have hl : k < st.length := by rw [← r.len]; exact (List.getElem?_eq_some_iff.mp hk).1
      rw [List.getElem?_set_self hl] at e2; cases e2
      exact h
    · rw [List.getElem?_set_ne q] at e2
      have ne : b ≠ a := fun z => q (r.inj k i a hk (by rw [← z]; exact e1))
      exact (r.obj i b u e1 e2).mono (Po.write ⟨k, hk⟩) fun w e => by rw [upd_ne ne]; exact e
  gtr := fun b z => by
    by_cases q : b = a
    · exact ⟨o, by rw [q]; exact upd_same⟩
    · obtain ⟨u, e⟩ := r.gtr b z
      exact ⟨u, by rw [upd_ne q]; exact e⟩
  out := r.out
  ded := fun i e => by
    by_cases q : k = i
    · subst q
      rw [hk] at e; cases e
    · rw [List.getElem?_set_ne q]
      exact r.ded i e
/-- a new object -/
theorem live_app {L : Lc} {p : Addr} {b : Addr} : Live (L ++ [some p]) b ↔ Live L b ∨ b = p := by
  constructor
  · rintro ⟨i, e⟩
    by_cases h : i < L.length
    · rw [List.getElem?_append_left h] at e
      exact .inl ⟨i, e⟩
    · rw [List.getElem?_append_right (by omega)] at e
      have hz : i - L.length = 0 := by
        have := (List.getElem?_eq_some_iff.mp e).1
        simp at this; omega
      rw [hz] at e
      simp at e
      exact .inr e.symm
  · rintro (⟨i, e⟩ | e)
    · exact ⟨i, by rw [List.getElem?_append_left (List.getElem?_eq_some_iff.mp e).1]; exact e⟩
    · subst e
      exact ⟨L.length, by simp⟩
theorem Po.alloc (r : Rl K G L st H) {p : Addr} {o : HO} (h : H p = .none) : Po L H (L ++ [some p]) (upd H p o) where
  kp := fun b u e _ => by rw [upd_ne (ne_of_none e h)]; exact e
  st := fun b u e => ⟨u, by rw [upd_ne (ne_of_none e h)]; exact e⟩
  le := by simp
  old := fun k b hk e => by rw [List.getElem?_append_left hk] at e; exact e
  new := fun k b hk e => by
    rw [List.getElem?_append_right hk] at e
    have hz : k - L.length = 0 := by
      have := (List.getElem?_eq_some_iff.mp e).1
      simp at this; omega
    rw [hz] at e
    simp at e
    rw [← e]; exact h
theorem Rl.alloc (r : Rl K G L st H) {p : Addr} {o : HO} {ob : Ob} (h : H p = .none) (ho : OR K G (L ++ [some p]) (upd H p o) p ob) : Rl K G (L ++ [some p]) (st ++ [ob]) (upd H p o) where
  len := by simp [r.len]
  inj := fun i j a e1 e2 => by
    have key : ∀ (i : Nat), (L ++ [some p])[i]? = some (some a) → (i < L.length ∧ L[i]? = some (some a)) ∨ (i = L.length ∧ a = p) := fun i e => by
      by_cases hi : i < L.length
      · rw [List.getElem?_append_left hi] at e
        exact .inl ⟨hi, e⟩
      · rw [List.getElem?_append_right (by omega)] at e
        have hz : i - L.length = 0 := by
          have := (List.getElem?_eq_some_iff.mp e).1
          simp at this; omega
        rw [hz] at e
        simp at e
        exact .inr ⟨by omega, e.symm⟩
    have nl : ∀ (i : Nat), L[i]? = some (some p) → False := fun i e => r.none h (.inr ⟨i, e⟩)
    rcases key i e1 with ⟨h1, q1⟩ | ⟨h1, q1⟩ <;> rcases key j e2 with ⟨h2, q2⟩ | ⟨h2, q2⟩
    · exact r.inj i j a q1 q2
    · subst q2; exact (nl i q1).elim
    · subst q1; exact (nl j q2).elim
    · omega
  obj := fun i a u e1 e2 => by
    by_cases hi : i < L.length
    · rw [List.getElem?_append_left hi] at e1
      rw [List.getElem?_append_left (by rw [← r.len]; exact hi)] at e2
      refine (r.obj i a u e1 e2).mono (Po.alloc r h) fun w e => ?_
      rw [upd_ne (ne_of_none e h)]; exact e
    · rw [List.getElem?_append_right (by omega)] at e1
      rw [List.getElem?_append_right (by rw [← r.len]; omega)] at e2
      have hz : i - L.length = 0 := by
        have := (List.getElem?_eq_some_iff.mp e1).1
        simp at this; omega
      rw [hz] at e1
      rw [← r.len, hz] at e2
      simp at e1 e2
      subst e1 e2
      exact ho
  gtr := fun b z => by
    have old : Off G L b → ∃ u, upd H p o b = some u := fun z => by
      obtain ⟨u, e⟩ := r.gtr b z
      exact ⟨u, by rw [upd_ne (ne_of_none e h)]; exact e⟩
    rcases z with z | z
    · exact old (.inl z)
    · rcases live_app.mp z with z | z
      · exact old (.inr z)
      · subst z; exact ⟨o, upd_same⟩
  out := fun b z => by
    rcases live_app.mp z with z | z
    · exact r.out b z
    · subst z
      exact fun g => r.none h (.inl g)
  ded := fun i e => by
    by_cases hi : i < L.length
    · rw [List.getElem?_append_left hi] at e
      rw [List.getElem?_append_left (by rw [← r.len]; exact hi)]
      exact r.ded i e
    · rw [List.getElem?_append_right (by omega)] at e
      have hz : i - L.length = 0 := by
        have := (List.getElem?_eq_some_iff.mp e).1
        simp at this; omega
      rw [hz] at e
      simp at e
/-- a live list is frozen -/
theorem Rl.freeze (r : Rl K G L st H) {k : Nat} {a : Addr} (hk : L[k]? = some (some a)) : Rl K G (L.set k .none) (st.set k .gone) H ∧ Po L H (L.set k .none) H ∧ ¬ Off G (L.set k .none) a := by
  have get : ∀ (i : Nat) (b : Addr), (L.set k .none)[i]? = some (some b) → i ≠ k ∧ L[i]? = some (some b) := fun i b e => by
    by_cases q : k = i
    · subst q
      rw [List.getElem?_set_self (List.getElem?_eq_some_iff.mp hk).1] at e
      cases e
    · rw [List.getElem?_set_ne q] at e
      exact ⟨Ne.symm q, e⟩
  have po : Po L H (L.set k .none) H := ⟨fun _ _ e _ => e, fun _ u e => ⟨u, e⟩, by simp, fun i b _ e => (get i b e).2, fun i b h e => by
    have := (List.getElem?_eq_some_iff.mp e).1
    simp at this; omega⟩
  refine ⟨⟨by simpa using r.len, fun i j b e1 e2 => r.inj i j b (get i b e1).2 (get j b e2).2, fun i b o e1 e2 => ?_, fun b z => ?_, fun b z => ?_, fun i e => ?_⟩, po, fun z => ?_⟩
  · obtain ⟨n, e1⟩ := get i b e1
    rw [List.getElem?_set_ne (Ne.symm n)] at e2
    exact (r.obj i b o e1 e2).mono po fun _ e => e
  · rcases z with z | ⟨i, e⟩
    · exact r.gtr b (.inl z)
    · exact r.gtr b (.inr ⟨i, (get i b e).2⟩)
  · obtain ⟨i, e⟩ := z
    exact r.out b ⟨i, (get i b e).2⟩
  · by_cases q : k = i
    · subst q
      exact List.getElem?_set_self (by rw [← r.len]; exact (List.getElem?_eq_some_iff.mp hk).1)
    · rw [List.getElem?_set_ne q] at e ⊢
      exact r.ded i e
  · rcases z with z | ⟨i, e⟩
    · exact r.out a ⟨k, hk⟩ z
    · obtain ⟨n, e⟩ := get i a e
      exact n (r.inj i k a e hk)
end
end Dn
/-! Dn: own exceptions: an __init__ that says super().__init__(..) and then stores its fields. -/
namespace Dn
open PySem PySem.Spec PySem.Calls PySem.W PyProof.Rows L2
abbrev supEnv (q : Str) (scope : Scope) (L f cda cc : Addr) : Env := envX q scope L f (.ref cda) [("__class__", cc)]
/-- names, one behind another -/
def nmL : List Str → List Expr → Bool
  | [], [] => true
  | n :: ns, .Name x _ :: es => decide (x = n) && nmL ns es
  | _, _ => false
/-- self.x = x, one behind another -/
def stL : List Str → List Stmt → Bool
  | [], [] => true
  | n :: ns, .Assign [.Attribute (.Name y _) f _] (.Name x _) _ :: ss => decide (y = "self") && decide (f = n) && decide (x = n) && stL ns ss
  | _, _ => false
theorem stL_cons {n : Str} {ns : List Str} {s0 : Stmt} {ss : List Stmt} (h : stL (n :: ns) (s0 :: ss) = true) : ∃ p1 p2 p3 p4 : Pos, s0 = .Assign [.Attribute (.Name "self" p1) n p2] (.Name n p3) p4 ∧ stL ns ss = true := by
  unfold stL at h
  split at h
  · rename_i q1 q2
    cases q1
  · rename_i q1 q2
    cases q1
    cases q2
    simp only [Bool.and_eq_true, decide_eq_true_eq] at h
    obtain ⟨⟨⟨rfl, rfl⟩, rfl⟩, h⟩ := h
    exact ⟨_, _, _, _, rfl, h⟩
  · cases h
section
variable {prog : Program} {w : World} {M : Model} {A : Around} {E : Value → Shared → Prop} {h : Heap} {g : Array GenState} {d : Drawn} {t : Nat} {os : OsState}
theorem ld_loc {s : Shared} {env : Env} {m : Str → Option Value} {x : Str} {p : Pos} {v : Value} {Q : Value → Shared → Prop} (hk : env.scope.kind = .function) (hl : env.kindOf x = some .local) (hd : (x == ("__debug__" : Str)) = false) (hn : s.heap.Ns env.locals m) (hv : m x = some v) (q : Q v s) : wpAny M A (eval (.Name x p) env) Q E s :=
  wpAny_Name (wpAny_loadName_local hk hl hn hv q) hd
theorem names_ok {env : Env} {pos : Pos} {s : Shared} {m : Str → Option Value} (hk : env.scope.kind = .function) (hn : s.heap.Ns env.locals m) : ∀ {ns : List Str} {es : List Expr} {us : List Value} {Q : List Value → Shared → Prop}, nmL ns es = true → (∀ x ∈ ns, env.kindOf x = some .local ∧ (x == ("__debug__" : Str)) = false) → ns.map m = us.map some → Q us s → wpAny M A (spliced (backTo pos (starEach es env))) Q E s
  | [], [], us, Q, _, _, e, q => by
    cases us with
    | nil => exact spliced_none q
    | cons _ _ => cases e
  | [], _ :: _, _, _, h, _, _, _ => by cases h
  | n :: ns, [], _, _, h, _, _, _ => by cases h
  | n :: ns, e0 :: es, us, Q, h, hl, e, q => by
    cases e0 with
    | Name x p =>
      simp only [nmL, Bool.and_eq_true, decide_eq_true_eq] at h
      obtain ⟨rfl, h⟩ := h
      cases us with
      | nil => cases e
      | cons u us =>
        simp only [List.map_cons, List.cons.injEq] at e
        have hx := hl x (by simp)
        exact spliced_more (ld_loc hk hx.1 hx.2 hn e.1 (names_ok hk hn h (fun y hy => hl y (by simp [hy])) e.2 q))
    | _ => cases h
/-- the wrapper of ValueError.__init__, called -/
theorem call_mw {u e t0 C N : Addr} {nm q : Str} {bs bm : List Value} {hdct : Bool} {sn : List Str} {sub : List Value} {ab : Bool} {col : Option Bool} {dd : Option Addr} {k0 k1 k2 k3 k5 : Option Value} {rest : List Value} {Q : Value → Shared → Prop}
    (hC : h.get? C = some (excClassObj nm q C N bs bm hdct sn sub ab col dd k0 k1 k2 k3 k5 "ValueError.__new__")) (he : h.get? e = some (HandSPX.excO C t0)) (hu : h.get? u = some (kxs_mw "ValueError.__init__" e)) (hrest : rest.length ≤ sizeLine)
    (hq : ∀ h' t1, (∀ b o, b ≠ e → h.get? b = some o → h'.get? b = some o) → h'.get? e = some (HandSPX.excO C t1) → Q .none ⟨h', g, d, t, os⟩) :
    wpAny (model prog w) A (call (.ref u) rest) Q E ⟨h, g, d, t, os⟩ := by
  refine wpAny_call (codeAny_of_tree ?_)
  show wpAny _ A.in1 (callAny (.ref u) ⟨rest, []⟩) _ _ _
  simp only [callAny]
  refine wpAny_bind (wpAny_load hu ?_)
  simp only [kxs_mw, show (Value.type "method-wrapper" == Value.type "method" || Value.type "method-wrapper" == Value.type "builtin_function_or_method" || Value.type "method-wrapper" == Value.type "method-wrapper") = true by decide, if_true]
  refine W.KFB.if_so (by decide) ?_
  refine wpAny_bind (ESX.check_bound F.excBase_ValueError hC he rfl ?_)
  refine wpAny_bind (wpAny_pure (wpAny_pure ?_))
  refine ⟨Code.quiet_builtin _ (by decide +kernel), codeAny_builtin F.excBase_ValueError.initEntry ?_⟩
  rw [Around.under_plainId F.excBase_ValueError.init.plain _]
  wp_walk
  refine hq _ h.objs.size (fun b o hb ho => ?_) ?_
  · rw [Heap.get?_update_other _ _ (Ne.symm hb)]
    exact Heap.get?_push_of_some _ ho
  · rw [Heap.get?_update_self _ (Heap.get?_push_of_some _ he) rfl]
    rfl
/-- how the call of super().__init__ is read -/
def SupEv (p0 p1 p2 pos : Pos) (es : List Expr) : Prop := ∀ env : Env, ∃ pl : Sem Bool, eval (.Call (.Attribute (.Call (.Name "super" p0) [] [] p1) "__init__" p2) es [] pos) env = (do
      let ov ← attributeBase (.Call (.Name "super" p0) [] [] p1) "__init__" env (eval (.Call (.Name "super" p0) [] [] p1) env)
      standAt p2.atName
      let (f, first) ← holding [ov] (getMethod ov "__init__" pl)
      callWith pos f first (backTo pos (starEach es env)) [])
/-- what is asked of the class and its __init__ -/
structure SupC (K : Frag) (prog : Program) (mg : Str → Option Value) (C f cda cc : Addr) (fd : FuncData) (qual : Str) (scope : Scope) : Prop where
  T : OexC K C
  lk : ∃ oc od osl, K.lookup f = some ⟨oc, od, .func fd, osl⟩
  cell : ∃ cl cld csl, K.lookup cc = some ⟨cl, cld, .cell (some (.ref C)), csl⟩
  code : ∃ ccl cdd ccs vs file tf, K.lookup cda = some ⟨ccl, cdd, .fields vs, ccs⟩ ∧ vs[2]? = some (.str file tf) ∧ ((prog.main.file : Str) == file) = true
  ms : mg "super" = none
  top : (prog.main.scope.names.lookup ("super" : Str)).isSome = false
  hks : scope.names.lookup ("super" : Str) = some .globalImplicit
  hkc : scope.names.lookup ("__class__" : Str) = some .free
  kself : scope.names.lookup ("self" : Str) = some .local
  par : ∃ ar, (fd.params.posonlyargs ++ fd.params.args).head? = some ar ∧ ar.arg = "self"
  opq : nsIn K cStatics "thirdparty.any" = some none
  sup : ks_superIn K C C "__init__" = some (some (.builtin "ValueError.__init__"))
theorem sup_init {mg : Str → Option Value} {base : Heap} {C f cda cc L a t0 : Addr} {K : Frag} {fd : FuncData} {qual : Str} {scope : Scope} {body : List Stmt} {ns : List Str} {es : List Expr} {us : List Value} {p0 p1 p2 pos : Pos} {m : Str → Option Value} {Q : Value → Shared → Prop}
    (S : SupC K prog mg C f cda cc fd qual scope) (md : Mod K mg base) (bk : ∀ b o, base.get? b = some o → h.get? b = some o) (hk : scope.kind = .function) (hn : h.Ns L m) (hself : m "self" = some (.ref a)) (hx : h.get? a = some (HandSPX.excO C t0))
    (hes : nmL ns es = true) (hns : ∀ x ∈ ns, scope.names.lookup x = some .local ∧ (x == ("__debug__" : Str)) = false) (hus : ns.map m = us.map some) (hl : us.length ≤ 1000) (hne : ns ≠ []) (hev : SupEv p0 p1 p2 pos es)
    (hq : ∀ h' t' t1, (∀ b o, b ≠ a → h.get? b = some o → h'.get? b = some o) → h'.get? a = some (HandSPX.excO C t1) → Q .none ⟨h', g, d, t', os⟩) :
    _root_.PySem.wpAt (model prog w) A (.func body (supEnv qual scope L f cda cc)) (eval (.Call (.Attribute (.Call (.Name "super" p0) [] [] p1) "__init__" p2) es [] pos) (supEnv qual scope L f cda cc)) Q E ⟨h, g, d, t, os⟩ := by
  have X : K.In h := md.kin.keeps bk
  obtain ⟨nm, q, N, bs, bm, sn, sub, ab, col, dd, k0, k1, k2, k3, k5, hC, hbm⟩ := S.T.cls
  have hcd : clsIn K C = some { name := nm, bases := bs, mro := .ref C :: bm, ns := N, qualname := q, hasDict := true, slotNames := sn, subclasses := sub, abstract := ab, collection := col, hasDel := false } := by unfold clsIn; rw [hC] <;> rfl
  obtain ⟨oc, od, osl, lk⟩ := S.lk
  obtain ⟨cl, cld, csl, lc⟩ := S.cell
  obtain ⟨ccl, cdd, ccs, vs, file, tf, lcode, hvs, hfile⟩ := S.code
  obtain ⟨ar, hp, har⟩ := S.par
  obtain ⟨mb, hb1, hb2⟩ := md.blt
  have I : InstAt h a (HandSPX.excO C t0) C none := ⟨hx, rfl, rfl, trivial⟩
  obtain ⟨pl, hev⟩ := hev (supEnv qual scope L f cda cc)
  refine ks_wpAt_MethodCall (pl := pl) ?_ hev
  refine ks_wpAt_super_base (env := supEnv qual scope L f cda cc) S.hks S.hkc (by decide) rfl (X _ _ lk) rfl hp rfl (X _ _ lcode) rfl hvs hfile S.top ?_
  refine ks_loadName_global hk S.hks (loadGlobal_builtin (env := supEnv qual scope L f cda cc) (md.glob.keeps bk) S.ms (hb1.keeps bk) ((hb2 _ (by decide)).trans (show bootBuiltins "super" = some (.type "super") by decide +kernel)) ⟨rfl, ?_⟩)
  refine wpAny_loadName_free hk S.hkc rfl ⟨_, X _ _ lc, rfl⟩ ?_
  rw [har]
  refine wpAny_loadName_local hk S.kself hn hself ?_
  refine ks_wpAny_isType_cls (X _ _ hC) rfl ⟨rfl, ?_⟩
  refine ks_wpAny_call_super (X _ _ hC) rfl hx rfl (fun c e => ?_) (looks_mroIn X ?_) (fun h1 e1 k1 => ?_)
  · cases e
  · unfold mroIn
    rw [hcd]
    simp
  have X1 : K.In h1 := X.keeps k1
  have hsup := S.sup
  unfold ks_superIn at hsup
  rw [hcd] at hsup
  have hI : Looks (model prog w) h1 (isInstance (.ref a) (.type "ValueError")) true := by
    have I1 : InstAt h1 a (HandSPX.excO C t0) C none := ⟨k1 _ _ hx, rfl, rfl, trivial⟩
    refine I1.type.andThen (looks_subIn X1 ?_)
    show mroIn K C _ = _
    unfold mroIn
    rw [hcd]
    show (if (Value.ref C :: bm).isEmpty = true then none else some ((Value.ref C :: bm).contains (.type "ValueError"))) = _
    rw [if_neg (by simp), show (Value.ref C :: bm).contains (.type "ValueError") = true from (HandSPX.refsVE_contains "ValueError" (.ref C :: bm) hbm).trans (by decide +kernel)]
  refine kxs_getMethod (l₀ := .ref C :: bm) kxs_ValueError e1 (looks_opaque X1 S.opq) ?_ rfl X1 hsup hI (fun z => ?_) (by decide) ?_
  · exact fun A Q E s k q => wpAny_bind ((looks_clsIn X1 hcd) A _ E s k (wpAny_pure q))
  · rw [z, X _ _ hC] at hx
    cases hx
  have k2 : ∀ b o, h.get? b = some o → (h1.push (kxs_mw "ValueError.__init__" a)).get? b = some o := fun b o e => Heap.get?_push_of_some _ (k1 b o e)
  have hu : (h1.push (kxs_mw "ValueError.__init__" a)).get? h1.objs.size = some (kxs_mw "ValueError.__init__" a) := Heap.get?_push_at rfl rfl
  refine kxs_callWith (i := "ValueError.__init__") (x := a) ?_ ?_
  · have : ∀ {ns : List Str} {es : List Expr}, nmL ns es = true → (backTo pos (starEach es (supEnv qual scope L f cda cc))).any (·.1) = false := by
      intro ns
      induction ns with
      | nil =>
        intro es h
        cases es with
        | nil => rfl
        | cons _ _ => cases h
      | cons n ns ih =>
        intro es h
        cases es with
        | nil => cases h
        | cons e0 es =>
          cases e0 with
          | Name x p =>
            simp only [nmL, Bool.and_eq_true] at h
            show (false || (backTo pos (starEach es (supEnv qual scope L f cda cc))).any (·.1)) = false
            rw [ih h.2]
            rfl
          | _ => cases h
    exact this hes
  · cases es with
    | nil => cases ns with
      | nil => exact absurd rfl hne
      | cons _ _ => cases hes
    | cons e0 es =>
      have he0 : starEach (e0 :: es) (supEnv qual scope L f cda cc) = (false, eval e0 (supEnv qual scope L f cda cc)) :: starEach es (supEnv qual scope L f cda cc) := by
        cases ns with
        | nil => cases hes
        | cons n ns =>
          cases e0 with
          | Name x p => rfl
          | _ => cases hes
      rw [he0]
      refine evalArgs_plain ?_
      have hb : backTo pos ((false, eval e0 (supEnv qual scope L f cda cc)) :: starEach es (supEnv qual scope L f cda cc)) = backTo pos (starEach (e0 :: es) (supEnv qual scope L f cda cc)) := by rw [he0]
      show wpAny _ _ (spliced (backTo pos ((false, eval e0 (supEnv qual scope L f cda cc)) :: starEach es (supEnv qual scope L f cda cc)))) _ _ _
      rw [hb]
      refine names_ok (s := ⟨h1.push (kxs_mw "ValueError.__init__" a), g, d, t + 1, os⟩) (us := us) hk (hn.keeps k2) hes hns hus ⟨hu, ?_⟩
      have hC' := k2 _ _ (X _ _ hC)
      refine call_mw hC' (k2 _ _ hx) hu (by rw [sizeLine_eq]; simp; omega) fun h' t1 kk e => ?_
      exact hq h' _ t1 (fun b o hb ho => kk b o hb (k2 b o ho)) e

/-- the fields, stored one behind another: the exception has its dict -/
theorem st_more {body : List Stmt} {K : Frag} {base : Heap} {mg : Str → Option Value} {C a dx L f cda cc t1 : Addr} {qual : Str} {scope : Scope} {m : Str → Option Value} {Q : PySem.Flow → Shared → Prop} (T : OexC K C) (md : Mod K mg base) (hk : scope.kind = .function) (hself : m "self" = some (.ref a)) (ks : scope.names.lookup ("self" : Str) = some .local) (haL : a ≠ L) (hdL : dx ≠ L) (hda : dx ≠ a) (hba : base.get? a = none) (hbd : base.get? dx = none) :
    ∀ {ns : List Str} {ss : List Stmt} {us : List Value} {done : List (Str × Value)} {h : Heap} {t : Nat}, stL ns ss = true → (∀ x ∈ ns, (scope.names.lookup x = some .local ∧ (x == ("__debug__" : Str)) = false) ∧ findIn K (.ref C) x = some none) → ns.map m = us.map some → us.length = ns.length → done.length + ns.length ≤ 900 →
      (∀ b o, base.get? b = some o → h.get? b = some o) → h.Ns L m → h.get? a = some ({ cls := .ref C, dict := some dx, data := .fields #[.ref t1, .none, .none, .none, .bool false, .none] } : Obj) → (∃ mA, h.Ns1 dx mA ∧ ∀ y, mA y = done.lookup y) →
      (∀ h' t', (∀ b o, b ≠ a → b ≠ dx → h.get? b = some o → h'.get? b = some o) → h'.get? a = some ({ cls := .ref C, dict := some dx, data := .fields #[.ref t1, .none, .none, .none, .bool false, .none] } : Obj) → (∃ mA, h'.Ns1 dx mA ∧ ∀ y, mA y = ((ns.zip us).reverse ++ done).lookup y) → Q .next ⟨h', g, d, t', os⟩) →
      _root_.PySem.wpAt (model prog w) A (.func body (supEnv qual scope L f cda cc)) (execs ss (supEnv qual scope L f cda cc)) Q E ⟨h, g, d, t, os⟩
  | [], [], us, done, h, t, _, _, _, _, _, hbk, hn, hx, hd, q => by
    refine wpAt_of_wpAny (wpAny_execs_nil (q h t (fun _ _ _ _ e => e) hx ?_))
    simpa using hd
  | [], _ :: _, _, _, _, _, hh, _, _, _, _, _, _, _, _, _ => by cases hh
  | n :: ns, [], _, _, _, _, hh, _, _, _, _, _, _, _, _, _ => by cases hh
  | n :: ns, s0 :: ss, us, done, h, t, hh, hns, e, hlu, hl, hbk, hn, hx, hd, q => by
    cases us with
    | nil => cases e
    | cons u us =>
      simp only [List.map_cons, List.cons.injEq] at e
      have hx0 := hns n (by simp)
      obtain ⟨nm, qn, N, bs, bm, sn, sub, ab, col, dd, k0, k1, k2, k3, k5, hC, hbm⟩ := T.cls
      have hcd : clsIn K C = some { name := nm, bases := bs, mro := .ref C :: bm, ns := N, qualname := qn, hasDict := true, slotNames := sn, subclasses := sub, abstract := ab, collection := col, hasDel := false } := by unfold clsIn; rw [hC] <;> rfl
      obtain ⟨mA, hmA, hlk⟩ := hd
      have hw : Within mA (done.map (·.1)) := fun y hy => by
        rw [hlk y] at hy
        cases hl2 : done.lookup y with
        | none => exact absurd hl2 hy
        | some v =>
          have := mem_of_lookup hl2
          exact List.mem_map.mpr ⟨_, this, rfl⟩
      obtain ⟨oD, _, _, hoD, _, _⟩ := hmA.count hw
      obtain ⟨p1, p2, p3, p4, rfl, hh2⟩ := stL_cons hh
      refine ks_wpAt_execs_cons (ks_wpAt_Assign_Attr (wpAt_of_wpAny (ld_loc (env := supEnv qual scope L f cda cc) hk hx0.1.1 hx0.1.2 hn e.1 (ld_loc (env := supEnv qual scope L f cda cc) hk ks (by decide) hn hself ?_))))
      refine set_plain (md.kin.keeps hbk) (ox := { cls := .ref C, dict := some dx, data := .fields #[.ref t1, .none, .none, .none, .bool false, .none] }) (od := some oD) ⟨hx, rfl, rfl, hoD⟩ T.sa ?_
      refine OEX.osa_old (md.kin.keeps hbk) hx hmA hw (by rw [List.length_map]; simp only [List.length_cons] at hl; omega) hcd (show HandSPX.refsVE (.ref C :: bm) = true from hbm) rfl hx0.2 (fun h' tk' kk hn' => ?_)
      refine st_more T md hk hself ks haL hdL hda hba hbd (done := (n, u) :: done) hh2 (fun z hz => hns z (by simp [hz])) e.2 (by simpa using hlu) (by simp only [List.length_cons] at hl ⊢; omega) (fun b o hb => kk b o (fun z => by rw [z, hbd] at hb; cases hb) (hbk b o hb)) ?_ (kk _ _ (Ne.symm hda) hx) ⟨_, hn', fun y => ?_⟩ fun h2 t2 k2 e2 d2 => ?_
      · obtain ⟨oL, es, ep, hL, r⟩ := hn
        exact ⟨oL, es, ep, kk _ _ (Ne.symm hdL) hL, r⟩
      · rw [hlk y]
        by_cases hy : y = n
        · subst hy; simp [List.lookup]
        · have : (y == n) = false := by simpa using hy
          simp [List.lookup, this, hy]
      · refine q h2 t2 (fun b o h1 h2 h3 => k2 b o h1 h2 (kk b o h2 h3)) e2 ?_
        obtain ⟨mB, hB, hl3⟩ := d2
        refine ⟨mB, hB, fun y => ?_⟩
        rw [hl3 y]
        simp
end
theorem relO_zip : ∀ {ns : List Str} {ws : List V} {us : List Value}, Vals ws us → ∀ f, RelO (((ns.zip ws).reverse).lookup f) (((ns.zip us).reverse).lookup f)
  | [], _, _, _, f => True.intro
  | _ :: _, _, _, .nil, f => True.intro
  | n :: ns, _, _, @Paired.cons _ _ _ w u ws us r rs, f => by
    have ih := relO_zip (ns := ns) rs f
    simp only [List.zip_cons_cons, List.reverse_cons, List.lookup_append]
    cases h1 : ((ns.zip ws).reverse).lookup f with
    | some v =>
      rw [h1] at ih
      cases h2 : ((ns.zip us).reverse).lookup f with
      | some u2 => rw [h2] at ih; exact ih
      | none => rw [h2] at ih; exact ih.elim
    | none =>
      rw [h1] at ih
      cases h2 : ((ns.zip us).reverse).lookup f with
      | some u2 => rw [h2] at ih; exact ih.elim
      | none =>
        by_cases e : f = n
        · subst e
          have r' : RelO (some w) (some u) := r
          simpa [List.lookup] using r'
        · have : (f == n) = false := by simpa using e
          simp only [List.lookup, this, Option.none_or]
          exact True.intro
/-- what C.__init__ promises -/
def spI (C : Addr) (ns : List Str) : Sp := fun vs H Q _ => ∃ (a : Addr) (ws : List V), vs = .ref a :: ws ∧ ws.length = ns.length ∧ H a = some (exo a C none) ∧ ∀ dx, H dx = none → dx ≠ a → Q .non (upd (upd H dx (exd dx (ns.zip ws).reverse)) a (exo a C (some dx)))
theorem init_ok {P : Program} {w : World} {K : Frag} {mg : Str → Option Value} {base : Heap} {CX : CXT} {k : Nat} {C f cda cc : Addr} {qual : Str} {params : Arguments} {scope : Scope} {doc pm ct : Value} {an : Option Addr} {ns : List Str} {es : List Expr} {ss : List Stmt} {p0 p1 p2 pos p3 : Pos}
    (S : SupC K P mg C f cda cc (fnX "__init__" qual params (.Expr (.Call (.Attribute (.Call (.Name "super" p0) [] [] p1) "__init__" p2) es [] pos) p3 :: ss) scope [("__class__", cc)] .none .none doc pm an (.ref cda) ct) qual scope)
    (hcd : codeIn K (.ref cda) qual = true) (hk : scope.kind = .function) (hco : scope.isCoroutine = false) (hgen : scope.isGenerator = false) (hcell : ∀ x ∈ scope.names, x.2 ≠ .cell) (hns : ∀ x ∈ ns, (scope.names.lookup x = some .local ∧ (x == ("__debug__" : Str)) = false) ∧ findIn K (.ref C) x = some none) (nd : (("self" : Str) :: ns).Nodup)
    (hes : nmL ns es = true) (hss : stL ns ss = true) (hne : ns ≠ []) (hl : ns.length ≤ 100) (hev : SupEv p0 p1 p2 pos es) (hsw : ∀ env, swapsWith (.Call (.Attribute (.Call (.Name "super" p0) [] [] p1) "__init__" p2) es [] pos) none p3.line env = pure false) :
    FnOk P w K mg base CX (k + 1) f (fnX "__init__" qual params (.Expr (.Call (.Attribute (.Call (.Name "super" p0) [] [] p1) "__init__" p2) es [] pos) p3 :: ss) scope [("__class__", cc)] .none .none doc pm an (.ref cda) ct) (("self" : Str) :: ns) (spI C ns) := by
  refine ⟨fun vs H Q E h => ?_, fun A outer s H args us vs Q E hr e0 hb r hsp => ?_⟩
  · obtain ⟨a, ws, rfl, h1, _⟩ := h
    simp [h1]
  obtain ⟨a, ws, rfl, hlw, ha, hq⟩ := hsp
  have bk0 : ∀ b o, base.get? b = some o → s.heap.get? b = some o := fun b o e => (e0.bs b o e).1
  have KX : K.In s.heap := e0.mod.kin.keeps bk0
  have lim : s.heap.NoLimit := e0.mod.nolimit.keeps bk0
  obtain ⟨oc, od, osl, lk⟩ := S.lk
  obtain ⟨t0, hx⟩ := exo_at e0.hok ha
  have hba : base.get? a = none := by
    cases z : base.get? a with
    | none => rfl
    | some o => rw [(e0.bs a o z).2] at ha; cases ha
  cases r with
  | @cons _ u0 _ ur ra rr =>
    obtain rfl : u0 = Value.ref a := ra
    have hlu : ur.length = ns.length := by rw [← rr.length, hlw]
    have hloc : ∀ y ∈ (("self" : Str) :: ns).zip (Value.ref a :: ur), scope.names.lookup y.1 = some .local := fun ⟨x, v⟩ hy => by
      rcases List.mem_cons.mp (List.of_mem_zip hy).1 with e | e
      · show scope.names.lookup x = _
        rw [e]; exact S.kself
      · exact (hns x e).1.1
    refine ks_codeAny_call_defAt hr.depth (KX _ _ lk) rfl lim (codeRec_of KX hcd) rfl hb hcell hloc (fun h₀ hn0 hk0 => ?_) hco hgen hk
    have look : ∀ (i : Nat) (x : Str) (u : Value), (("self" : Str) :: ns)[i]? = some x → (Value.ref a :: ur)[i]? = some u → ((("self" : Str) :: ns).zip (Value.ref a :: ur)).reverse.lookup x = some u := fun i x u h1 h2 => NdefX.zip_look nd h1 h2
    obtain ⟨m, hm⟩ : ∃ m : Str → Option Value, m = fun x => ((("self" : Str) :: ns).zip (Value.ref a :: ur)).reverse.lookup x := ⟨_, rfl⟩
    have hnm : h₀.Ns s.heap.objs.size m := by rw [hm]; exact hn0
    have hself : m "self" = some (.ref a) := by rw [hm]; exact look 0 _ _ rfl rfl
    have hus : ns.map m = ur.map some := by
      refine List.ext_getElem? fun i => ?_
      rw [List.getElem?_map, List.getElem?_map]
      by_cases hi : i < ns.length
      · have hi2 : i < ur.length := by omega
        rw [List.getElem?_eq_getElem hi, List.getElem?_eq_getElem hi2]
        show some (m ns[i]) = some (some ur[i])
        rw [hm]
        congr 1
        exact look (i + 1) _ _ (by rw [List.getElem?_cons_succ, List.getElem?_eq_getElem hi]) (by rw [List.getElem?_cons_succ, List.getElem?_eq_getElem hi2])
      · rw [List.getElem?_eq_none (by omega), List.getElem?_eq_none (by omega)]
        rfl
    obtain ⟨hp, g, d, tk, os⟩ := s
    have haL : a ≠ hp.objs.size := Nat.ne_of_lt (Heap.lt_size hx)
    show _root_.PySem.wpAt _ _ (.func _ (supEnv qual scope hp.objs.size f cda cc)) (execs _ (supEnv qual scope hp.objs.size f cda cc)) _ _ _
    refine ks_wpAt_execs_cons (ks_wpAt_Expr_any ?_ (by unfold interactive; rw [show (supEnv qual scope hp.objs.size f cda cc).scope.kind = .function from hk]; rfl) (hsw _))
    refine sup_init S e0.mod (fun b o e => hk0 b o (bk0 b o e)) hk hnm hself (hk0 _ _ hx) hes (fun x hx => (hns x hx).1) hus (by omega) hne hev fun h1 t1 tx k1 e1 => ?_
    cases ns with
    | nil => exact absurd rfl hne
    | cons n ns =>
      cases ss with
      | nil => cases hss
      | cons s1 ss =>
        cases ur with
        | nil => cases hlu
        | cons u ur =>
          obtain ⟨q1, q2, q3, q4, rfl, hss2⟩ := stL_cons hss
          simp only [List.map_cons, List.cons.injEq] at hus
          have hx0 := hns n (by simp)
          obtain ⟨nm, qn, N, bs, bm, sn, sub, ab, col, dd, k0, k2, k3, k4, k5, hC, hbm⟩ := S.T.cls
          have hcl : clsIn K C = some { name := nm, bases := bs, mro := .ref C :: bm, ns := N, qualname := qn, hasDict := true, slotNames := sn, subclasses := sub, abstract := ab, collection := col, hasDel := false } := by unfold clsIn; rw [hC] <;> rfl
          have bk1 : ∀ b o, base.get? b = some o → h1.get? b = some o := fun b o e => k1 b o (fun z => by rw [z, hba] at e; cases e) (hk0 b o (bk0 b o e))
          have hn1 : h1.Ns hp.objs.size m := by
            obtain ⟨oL, es, ep, hL, r⟩ := hnm
            exact ⟨oL, es, ep, k1 _ _ (Ne.symm haL) hL, r⟩
          have hL1 : hp.objs.size < h1.objs.size := by
            obtain ⟨oL, es, ep, hL, r⟩ := hn1
            exact Heap.lt_size hL
          refine ks_wpAt_execs_cons (ks_wpAt_Assign_Attr (wpAt_of_wpAny (ld_loc (env := supEnv qual scope hp.objs.size f cda cc) hk hx0.1.1 hx0.1.2 hn1 hus.1 (ld_loc (env := supEnv qual scope hp.objs.size f cda cc) hk S.kself (by decide) hn1 hself ?_))))
          refine set_plain (e0.mod.kin.keeps bk1) (ox := HandSPX.excO C tx) (od := none) ⟨e1, rfl, rfl, trivial⟩ S.T.sa ?_
          refine HandSPX.exc_osa (e0.mod.kin.keeps bk1) e1 hcl (show HandSPX.refsVE (.ref C :: bm) = true from hbm) rfl hx0.2 fun h2 t2 dx k6 dn dne e2 n2 => ?_
          have dn : h1.objs.size ≤ dx := dn
          have hdL : dx ≠ hp.objs.size := by omega
          have hbd : base.get? dx = none := by
            cases z : base.get? dx with
            | none => rfl
            | some o => exact absurd (Heap.lt_size (bk1 _ _ z)) (Nat.not_lt.mpr dn)
          refine st_more S.T e0.mod hk hself S.kself haL hdL dne hba hbd (done := [(n, u)]) hss2 (fun z hz => hns z (by simp [hz])) hus.2 (by simpa using hlu) (by simp at hl ⊢; omega) (fun b o hb => k6 b o (fun z => by rw [z, hba] at hb; cases hb) (bk1 b o hb)) ?_ e2 ⟨_, n2, fun y => ?_⟩ fun h3 t3 k7 e3 d3 => ?_
          · obtain ⟨oL, es, ep, hL, r⟩ := hn1
            exact ⟨oL, es, ep, k6 _ _ (Ne.symm haL) hL, r⟩
          · by_cases hy : y = n
            · subst hy; simp [List.lookup]
            · have : (y == n) = false := by simpa using hy
              simp [List.lookup, this, hy]
          · obtain ⟨mA, nA, lA⟩ := d3
            have keep : ∀ b o, b ≠ a → hp.get? b = some o → h3.get? b = some o := fun b o hb e => by
              have e1 := k1 b o hb (hk0 b o e)
              exact k7 b o hb (fun z => absurd (Heap.lt_size e1) (by rw [z]; exact Nat.not_lt.mpr dn)) (k6 b o hb e1)
            have hnd : H dx = none := e0.hok.fresh (Nat.le_trans (Nat.le_of_lt hL1) dn)
            have nd2 : ∀ {b : Addr} {o : Obj}, hp.get? b = some o → b ≠ dx := fun {b o} z e => absurd (Heap.lt_size z) (by rw [e]; exact Nat.not_lt.mpr (Nat.le_trans (Nat.le_of_lt hL1) dn))
            have na : ∀ {b : Addr}, H b = none → b ≠ a := fun {b} n z => by
              rw [z, ha] at n
              cases n
            refine ⟨.non, _, rfl, e0.bare, ?_, fun b o q => ?_, rfl, hq dx hnd dne⟩
            · exact {
                keep := fun b o q n _ _ => keep b o (na n) q
                slot := fun b o q n _ _ => ⟨o.slots, keep b o (na n) q⟩
                free := fun b o q n _ => by rw [upd_ne (na n), upd_ne (nd2 q)]; exact n
                there := fun b o q _ => by
                  by_cases hb : b = a
                  · exact ⟨_, by rw [hb]; exact e3⟩
                  · exact ⟨o, keep b o hb q⟩
                tups := fun b xs q => by rw [upd_ne (at_ne ha q exo_tup), upd_ne (ne_of_none q hnd)]; exact q
                frzs := fun b o v q => by rw [upd_ne (at_ne ha q exo_frz), upd_ne (ne_of_none q hnd)]; exact q
                tbls := fun b ps q => ⟨#[], by rw [upd_ne (at_ne ha q exo_tbl), upd_ne (ne_of_none q hnd), q]; simp⟩ }
            · by_cases hb : b = a
              · subst hb
                rw [upd_same] at q
                cases q
                exact exo_ok e3
              · rw [upd_ne hb] at q
                by_cases hd : b = dx
                · subst hd
                  rw [upd_same] at q
                  cases q
                  refine exd_ok nA fun f => ?_
                  rw [lA f]
                  have : (ns.zip ur).reverse ++ [(n, u)] = ((n :: ns).zip (u :: ur)).reverse := by simp
                  rw [this]
                  exact relO_zip rr f
                · rw [upd_ne hd] at q
                  exact (e0.hok b o q).stay (fun c v hc z => keep c v (by
                      rcases hc with hc | hc
                      · rw [hc]
                        exact hb
                      · exact at_ne ha hc exo_own) z)
                    (fun c hc => by rw [upd_ne (at_ne ha hc exo_own), upd_ne (ne_of_none hc hnd)]; exact hc) (fun c xs hc => by rw [upd_ne (at_ne ha hc exo_tup), upd_ne (ne_of_none hc hnd)]; exact hc)
end Dn
/-! Dn: several except clauses, each with a name of its own or without. -/
namespace Dn
open PySem PySem.Spec PyProof.Rows L2
abbrev Ts := Addr → Value → Option Addr → TS
/-- a clause's wish with its name's slot i -/
def tsAs (i : Nat) (ts : Ts) : Ts := fun a cls d D σ H => ts a cls d { nx := fun σ' H' => D.nx (σ'.set i none) H', rt := D.rt, bk := fun σ' H' => D.bk (σ'.set i none) H', ct := fun σ' H' => D.ct (σ'.set i none) H' } (σ.set i (some (.ref a))) H
abbrev SuOk (X : Cx) (suite : List Stmt) (ts : Ts) : Prop := ∀ (a : Addr) (oe : Obj) (cls : Value) (d : Option Addr) (pn : List (Addr × Obj)), Zc cls d oe → (∃ vs, oe.data = .fields vs) → PSs (X.suite a ((a, oe) :: pn)) suite (ts a cls d)
inductive Hs (X : Cx) : List ExceptHandler → List (Value × Ts) → Prop
  | nil : Hs X [] []
  | bare {x : Str} {c : Value} {ts : Ts} {suite : List Stmt} {np pos' : Pos} {hds : List ExceptHandler} {l : List (Value × Ts)} (hc : Names X x c) (hne : suite ≠ []) (hsu : SuOk X suite ts) (r : Hs X hds l) : Hs X (.ExceptHandler (some (.Name x np)) none suite pos' :: hds) ((c, ts) :: l)
  | named {x n : Str} {i : Nat} {c : Value} {ts : Ts} {suite : List Stmt} {np pos' : Pos} {hds : List ExceptHandler} {l : List (Value × Ts)} (hc : Names X x c) (hne : suite ≠ []) (hi : X.N[i]? = some n) (hln : X.env.kindOf n = some .local) (hsu : SuOk X suite ts) (r : Hs X hds l) :
      Hs X (.ExceptHandler (some (.Name x np)) (some n) suite pos' :: hds) ((c, tsAs i ts) :: l)
section
variable {X : Cx} {body : List Stmt} {h₀ : ExceptHandler} {hds : List ExceptHandler} {l : List (Value × Ts)} {pos : Pos} {tb : WX → TS} {Wout : WX}
/-- an exception that was noted here -/
structure Caught (X : Cx) (pins : List (Addr × Obj)) (B : Heap) (a : Addr) (cls : Value) (d : Option Addr) (σ : L2.St) (H : Hp) (sI s' : Shared) (h3 : Heap) : Prop where
  J : Inv X pins σ H sI
  nb : ∀ b o, sI.heap.get? b = some o → b ∉ frs X.stack → B.get? b = some o
  up : sI.heap.UpToSlots h3
  fly : HandSPX.FlyingZ B (X.env :: X.outer) a (Zc cls d) h3
  na : H a = none
  os : s'.os = sI.os
  ag : AllBare s'.gens
  nL : a ≠ X.env.locals
  nF : a ∉ X.fs
theorem hds_go {pins : List (Addr × Obj)} {D : Ends} {B : Heap} {a : Addr} {cls : Value} {d : Option Addr} {σ : L2.St} {H : Hp} {sI s' : Shared} {h3 : Heap} (hs : X.stack = X.env :: X.outer) (hf : X.env.frame = some X.env.locals) (hN : X.N.Nodup) (tk : Takes X Wout) (C : Caught X pins B a cls d σ H sI s' h3) :
    ∀ {hds : List ExceptHandler} {l : List (Value × Ts)}, Hs X hds l → wMany X.K Wout D l cls d σ H → wpAny (model X.prog X.w) X.A (handleBy (.ref a) X.env hds) (SP X pins D) X.xe { s' with heap := h3 } := by
  intro hds l hk
  obtain ⟨J, nb, up, fl3, na, os, ag, nL, nF⟩ := C
  have ok := J.ok
  have J3 : Inv X pins σ H { s' with heap := h3 } := J.landed nb fl3.1 up os ag
  obtain ⟨oe3, vs3, he3, hz3, hd3⟩ := fl3.there
  have S3 := J3.suite he3 hd3 na nL nF
  have LT : PySem.W.Looks (model X.prog X.w) h3 (typeOf (.ref a)) cls := fun A Q E s k q => wpAny_typeOf_ref (k _ _ he3) (by rw [hz3.1]; exact q)
  have test : ∀ {x : Str} {c : Value} {np : Pos} {Q : Value → Shared → Prop} {E : Value → Shared → Prop}, Names X x c → Q c { s' with heap := h3 } → wpAny (model X.prog X.w) (X.A.mark (some (.ref a))) (eval (.Name x np) X.env) Q E { s' with heap := h3 } := fun {x c np Q E} hc q => by
    obtain ⟨hg, hdbg, hm | ⟨hm, hv, hnn⟩⟩ := hc
    · exact ld_glob (X := X.suite a ((a, oe3) :: (X.pn ++ pins))) S3 hg hm q hdbg
    · exact ld_blt (X := X.suite a ((a, oe3) :: (X.pn ++ pins))) S3 hg hm hv q hnn hdbg
  induction hk with
  | nil =>
    intro w
    refine wpAny_handleBy_nil ?_
    obtain ⟨k1, k2, k3, oe, vs, T, oT, ts', he, hz, hd, h1, hr⟩ := id fl3
    unfold PySem.passOn
    refine wpAny_bind (wpAny_field he hd h1 ?_)
    rw [if_neg (show ¬ ((Value.ref T == Value.none) = true) from by simp)]
    have fin : wpAny (model X.prog X.w) X.A (setFlight (.ref a) X.env.frame) (fun _ s4 => wpAny (model X.prog X.w) X.A (throw (.ref a) : Sem PySem.Flow) (SP X pins D) X.xe s4) X.xe { s' with heap := h3 } := by
      rw [hf]
      refine HandSPX.setFlight_upZ fl3 fun h4 hh4 up4 => wpAny_throw (tk _ _ ?_)
      exact ⟨a, B, sI, pins, σ, H, cls, d, rfl, J, nb, up.trans up4, .inr (.inr (by rw [hs]; exact hh4)), na, os, ag, w⟩
    first
      | exact wpAny_bind (wpAny_pure (wpAny_bind fin))
      | exact wpAny_bind fin
  | @bare x c ts suite np pos' hds2 l2 hc hne hsu r ih =>
    intro w
    obtain ⟨b, hb1, hyes, hno⟩ := w
    obtain ⟨b₀, suite', rfl⟩ : ∃ b₀ s', suite = b₀ :: s' := by
      cases suite with
      | nil => exact absurd rfl hne
      | cons b₀ s' => exact ⟨_, _, rfl⟩
    refine wpAny_handleBy_cons (codeAny_handlers_test ?_) (by intro q; cases q)
    refine test hc ((PySem.W.exm_one (M := model X.prog X.w) J3.kIn LT hb1).here ?_)
    cases b with
    | true =>
      refine codeAny_handlers_suite ?_
      refine HandSPX.lands_againZ fl3 fun h4 fl4 up4 => ?_
      have J4 : Inv X pins σ H { s' with heap := h4 } := J.landed nb fl4.1 (up.trans up4) os ag
      obtain ⟨oe4, vs4, he4, hz4, hd4⟩ := fl4.there
      refine wpAny_mono ((hsu a oe4 cls d (X.pn ++ pins) hz4 ⟨_, hd4⟩).run [] _ _ H _ (J4.suite he4 hd4 na nL nF) (hyes rfl a na)) (fun f s6 hsp => ?_) (fun _ _ z => False.elim z)
      cases f with
      | next => obtain ⟨σ6, H6, S6, q6⟩ := hsp; exact ⟨_, _, S6.unsuite ok, q6⟩
      | brk => obtain ⟨σ6, H6, S6, q6⟩ := hsp; exact ⟨_, _, S6.unsuite ok, q6⟩
      | cont => obtain ⟨σ6, H6, S6, q6⟩ := hsp; exact ⟨_, _, S6.unsuite ok, q6⟩
      | ret u => obtain ⟨v6, σ6, H6, S6, r6, q6⟩ := hsp; exact ⟨_, _, _, S6.unsuite ok, r6, q6⟩
    | false =>
      show wpAny _ X.A (handleBy (.ref a) X.env hds2) _ _ _
      exact ih (hno rfl)
  | @named x n i c ts suite np pos' hds2 l2 hc hne hi hln hsu r ih =>
    intro w
    obtain ⟨b, hb1, hyes, hno⟩ := w
    obtain ⟨b₀, suite', rfl⟩ : ∃ b₀ s', suite = b₀ :: s' := by
      cases suite with
      | nil => exact absurd rfl hne
      | cons b₀ s' => exact ⟨_, _, rfl⟩
    refine wpAny_handleBy_cons (codeAny_handlers_test ?_) (by intro q; cases q)
    refine test hc ((PySem.W.exm_one (M := model X.prog X.w) J3.kIn LT hb1).here ?_)
    cases b with
    | true =>
      refine codeAny_handlers_suite_as ?_
      refine HandSPX.lands_againZ fl3 fun h4 fl4 up4 => ?_
      have J4 : Inv X pins σ H { s' with heap := h4 } := J.landed nb fl4.1 (up.trans up4) os ag
      obtain ⟨oe4, vs4, he4, hz4, hd4⟩ := fl4.there
      refine store_ok (X := X.suite a ((a, oe4) :: (X.pn ++ pins))) (v := .ref a) (J4.suite he4 hd4 na nL nF) hN hi (.inl hln) rfl (fun s5 S5 => ?_) (.inr hln)
      refine wpAny_mono ((hsu a oe4 cls d (X.pn ++ pins) hz4 ⟨_, hd4⟩).run [] s5 _ H _ S5 (hyes rfl a na)) (fun f s6 hsp => ?_) (fun _ _ z => False.elim z)
      have end_ : ∀ {σ6 : L2.St} {H6 : Hp} {Q : Shared → Prop}, Inv (X.suite a ((a, oe4) :: (X.pn ++ pins))) [] σ6 H6 s6 → (∀ s7, Inv X pins (σ6.set i none) H6 s7 → Q s7) →
          wpAny (model X.prog X.w) X.A (do bindName X.env n .none; unbindBehindTheSuite X.env n pos') (fun _ s7 => Q s7) X.xe s6 := fun {σ6 H6 Q} S6 hq => gone_ok (S6.unsuite ok) hN hi hln hq
      cases f with
      | next => obtain ⟨σ6, H6, S6, q6⟩ := hsp; exact end_ S6 fun s7 J7 => ⟨_, _, J7, q6⟩
      | brk => obtain ⟨σ6, H6, S6, q6⟩ := hsp; exact end_ S6 fun s7 J7 => ⟨_, _, J7, q6⟩
      | cont => obtain ⟨σ6, H6, S6, q6⟩ := hsp; exact end_ S6 fun s7 J7 => ⟨_, _, J7, q6⟩
      | ret u => obtain ⟨v6, σ6, H6, S6, r6, q6⟩ := hsp; exact end_ S6 fun s7 J7 => ⟨_, _, _, J7, r6, q6⟩
    | false =>
      show wpAny _ X.A (handleBy (.ref a) X.env hds2) _ _ _
      exact ih (hno rfl)
theorem ps_try_hs (hs : X.stack = X.env :: X.outer) (hf : X.env.frame = some X.env.locals) (hN : X.N.Nodup) (tk : Takes X Wout)
    (hb : ∀ (W : WX) (pn : List (Addr × Obj)) (xe : Value → Shared → Prop), Takes (X.tr pn xe) W → PassesOwn (model X.prog X.w) X.A X.env xe → PSs (X.tr pn xe) body (tb W))
    (hh : Hs X (h₀ :: hds) l) : PS X (.Try body (h₀ :: hds) [] [] pos) (fun D σ H => tb (wMany X.K Wout D l) D σ H) := by
  refine ⟨fun pins s σ H D I h => ?_⟩
  have ok := I.ok
  have hfr : X.A.frames = some (X.env :: X.outer) := by rw [ok.frames, hs]
  refine wpAny_Try_except ?_
  refine wpAny_mono ((hb (wMany X.K Wout D l) (X.pn ++ pins) (fun e s₁ => wpAny (model X.prog X.w) X.A (noteFrame e X.env) (fun _ s₂ => wpAny (model X.prog X.w) X.A (setFlight e none) (fun _ s₃ =>
    wpAny (model X.prog X.w) X.A (handleBy e X.env (h₀ :: hds)) (SP X pins D) X.xe s₃) X.xe s₂) X.xe s₁) (fun u s' xx => ?_) PassesOwn.looking).run [] s σ H D (I.toTry _) h) (fun f s1 hsp => ?_) (fun e s1 he => he)
  · obtain ⟨a, B, sI, pins', σ', H', cls, d, rfl, J', nb, up, sky, na, os, ag, w⟩ := xx
    have J : Inv X pins σ' H' sI := J'.ofTry ok
    have sky' : Sky B (X.env :: X.outer) a (Zc cls d) X.env.locals s'.heap := by rw [← hs]; exact sky
    show wpAny (model X.prog X.w) X.A (noteFrame (.ref a) X.env) _ _ _
    refine Sky.land Zc.steady hfr hf sky' fun h3 fl3 up3 => ?_
    obtain ⟨oe3, vs3, he3, hz3, hd3⟩ := fl3.there
    have nfr : a ∉ frs (X.env :: X.outer) := fun hm => by
      obtain ⟨_, o', e', hnf⟩ := fl3.2.2.1.mem hm
      rw [he3] at e'; cases e'
      exact hnf _ hd3
    refine hds_go hs hf hN tk ⟨J, nb, up.trans up3, fl3, na, os, ag, fun z => nfr (List.mem_filterMap.mpr ⟨X.env, List.mem_cons_self, by rw [hf, z]⟩), fun hm => ?_⟩ hh w
    obtain ⟨e, he, q⟩ := List.mem_filterMap.mp hm
    exact nfr (List.mem_filterMap.mpr ⟨e, List.mem_cons_of_mem _ he, q⟩)
  · cases f with
    | next => obtain ⟨σ', H', J', q⟩ := hsp; exact wpAny_execs_nil ⟨σ', H', J'.ofTry ok, q⟩
    | brk => obtain ⟨σ', H', J', q⟩ := hsp; exact ⟨σ', H', J'.ofTry ok, q⟩
    | cont => obtain ⟨σ', H', J', q⟩ := hsp; exact ⟨σ', H', J'.ofTry ok, q⟩
    | ret u => obtain ⟨v, σ', H', J', r, q⟩ := hsp; exact ⟨v, σ', H', J'.ofTry ok, r, q⟩
end
end Dn
/-! Dn, part 3: the operations by values. -/
namespace Dn
open PySem PySem.Spec PyProof.Rows L2

/-- what follows a result (no exception) -/
def Nw {α β : Type} (K : PySem.W.Frag) (G : Off1) (L : Lc) (H : Hp) (res : Res α) (Rel : Lc → Hp → β → α → Prop) (Q : β → Hp → Prop) : Prop := match res with
  | .ok a st' => ∀ b L' H', Po L H L' H' → Rl K G L' st' H' → Rel L' H' b a → Q b H'
  | _ => False
section
variable {K : PySem.W.Frag} {G : Off1} {L : Lc} {H : Hp} {st : Store} {Q : VK}
theorem Nw.pure {d : D} {v : V} (h : Nw K G L H (.ok d st) (RD K G) Q) (r : Rl K G L st H) (f : RD K G L H v d) : Q v H := h v L H .refl r f
theorem Nw.newT {ds : List PyData} {xs : List V} {p : Addr} {o : Obj} (h : Nw K G L H (.ok (.p (.tuple ds)) st) (RD K G) Q) (r : Rl K G L st H) (f : FzA K (Off G L) H xs ds) (hp : H p = none) (hd : o.dict = none) : Q (.ref p) (upd H p (.frz o (.tup xs))) :=
  h _ _ _ (Po.new1 r hp) (r.new1 hp) (Fz.tup (.inl ⟨o, upd_same, hd, r.none hp⟩) (FzA.mono (Po.new1 r hp).keep _ _ f))
theorem Nw.newL {ds : List PyData} {xs : List V} {p : Addr} (h : Nw K G L H (.ok (.p (.list ds)) st) (RD K G) Q) (r : Rl K G L st H) (f : FzA K (Off G L) H xs ds) (hp : H p = none) : Q (.ref p) (upd H p (.lst xs)) :=
  h _ _ _ (Po.new1 r hp) (r.new1 hp) (Fz.lst (.inl ⟨.inl upd_same, r.none hp⟩) (FzA.mono (Po.new1 r hp).keep _ _ f))
theorem Nw.newM {ds : List D} {xs : List V} {p : Addr} (h : Nw K G L H (alloc (.lst ds) st) (RD K G) Q) (r : Rl K G L st H) (f : RDs K G L H xs ds) (hp : H p = none) : Q (.ref p) (upd H p (.lst xs)) :=
  h _ _ _ (Po.alloc r hp) (r.alloc hp ⟨xs, upd_same, f.mono (Po.alloc r hp)⟩) ⟨p, rfl, by rw [← r.len]; simp, fun b e => by
    rw [← r.len] at e
    simp at e
    exact e.symm⟩
/-- a written object -/
theorem Nw.put {k : Nat} {a : Addr} {o : HO} {ob : Ob} {d : D} {v : V} (h : Nw K G L H (.ok d (st.set k ob)) (RD K G) Q) (r : Rl K G L st H) (hk : L[k]? = some (some a)) (ho : OR K G L (upd H a o) a ob) (f : RD K G L (upd H a o) v d) : Q v (upd H a o) :=
  h _ _ _ (Po.write ⟨k, hk⟩) (r.write hk ho) f

/-! ### reading the relations -/
theorem allP_rel : ∀ {ds : List D} {es : List PyData} {xs : List V}, RDs K G L H xs ds → allP ds = some es → FzA K (Off G L) H xs es
  | [], es, _, .nil, h => by simp [allP] at h; subst h; exact .nil
  | .p d :: ds, es, _, .cons a b, h => by
    simp only [allP, Option.map_eq_some_iff] at h
    obtain ⟨fs, h1, h2⟩ := h
    subst h2
    exact .cons a (allP_rel b h1)
  | .r k :: ds, es, _, _, h => by simp [allP] at h
theorem mapP_rel : ∀ {es : List PyData} {xs : List V}, FzA K (Off G L) H xs es → RDs K G L H xs (es.map .p)
  | [], _, .nil => .nil
  | _ :: _, _, .cons a b => .cons a (mapP_rel b)
theorem allP_map : ∀ (es : List PyData), allP (es.map .p) = some es
  | [] => rfl
  | e :: es => by simp [allP, allP_map es]
/-- a reference to a changing object that stands -/
theorem ref_rel (r : Rl K G L st H) {v : V} {k : Nat} {o : Ob} (h : RD K G L H v (.r k)) (e : st[k]? = some o) (n : o ≠ .gone) : ∃ a, v = .ref a ∧ L[k]? = some (some a) ∧ OR K G L H a o := by
  obtain ⟨a, e1, hk, hb⟩ := h
  obtain ⟨w, hw⟩ : ∃ w, L[k]? = some w := ⟨_, List.getElem?_eq_getElem hk⟩
  cases w with
  | none =>
    have := r.ded k hw
    rw [e] at this; cases this; exact absurd rfl n
  | some b =>
    have := hb b hw
    subst this
    exact ⟨b, e1, hw, r.obj k b o hw e⟩
theorem listP_rel (r : Rl K G L st H) {x : V} {d : D} {es : List PyData} (hd : RD K G L H x d) (h : listP d st = some es) : ∃ a xs, x = .ref a ∧ SqL K H a xs ∧ FzA K (Off G L) H xs es := by
  unfold listP at h
  split at h
  · cases h
    cases hd with
    | lst s f => exact ⟨_, _, rfl, s.sq, f⟩
  · split at h
    · rename_i ds e
      obtain ⟨a, e1, e2, xs, e3, f⟩ := ref_rel r hd e (by simp)
      exact ⟨a, xs, e1, SqL.of e3, allP_rel f h⟩
    · cases h
  · cases h
theorem seqD_rel (r : Rl K G L st H) {x : V} {d : D} {es : List D} (hd : RD K G L H x d) (h : seqD d st = some es) : ∃ a xs, x = .ref a ∧ (SqL K H a xs ∨ SqT K H a xs) ∧ RDs K G L H xs es := by
  unfold seqD at h
  split at h
  · cases h
    cases hd with
    | lst s f => exact ⟨_, _, rfl, .inl s.sq, mapP_rel f⟩
  · cases h
    cases hd with
    | tup s f => exact ⟨_, _, rfl, .inr s.sq, mapP_rel f⟩
  · split at h
    · rename_i ds e
      cases h
      obtain ⟨a, e1, e2, xs, e3, f⟩ := ref_rel r hd e (by simp)
      exact ⟨a, xs, e1, .inl (SqL.of e3), f⟩
    · cases h
  · cases h
theorem fz_int {O : Off1} {x : V} {i : Int} (h : Fz K O H x (.int i)) : x = .int i := by cases h; rfl
theorem fz_str {O : Off1} {x : V} {i : Str} (h : Fz K O H x (.str i)) : x = .str i ∧ sOk i := by cases h with | str _ o => exact ⟨rfl, o⟩
theorem fz_bool {O : Off1} {x : V} {i : Bool} (h : Fz K O H x (.bool i)) : x = .bl i := by cases h; rfl
theorem fz_tup {O : Off1} {x : V} {ds : List PyData} (h : Fz K O H x (.tuple ds)) : ∃ a xs, x = .ref a ∧ TupO K O H a xs ∧ FzA K O H xs ds := by cases h with | tup s f => exact ⟨_, _, rfl, s, f⟩
theorem fz_lst {O : Off1} {x : V} {ds : List PyData} (h : Fz K O H x (.list ds)) : ∃ a xs, x = .ref a ∧ LstO K O H a xs ∧ FzA K O H xs ds := by cases h with | lst s f => exact ⟨_, _, rfl, s, f⟩
/-! ### texts -/
theorem sOk.all {x : Str} (h : sOk x) : ∀ c ∈ x.cps.toList, c < 0x110000 := by
  have h1 := h.1
  unfold PyData.strOk at h1
  rw [← Array.all_toList] at h1
  intro c hc
  simpa using List.all_eq_true.mp h1 c hc
theorem sOk.mk {l : List Nat} (h : ∀ c ∈ l, c < 0x110000) (hl : l.length ≤ sizeLine) : sOk ⟨l.toArray⟩ := by
  refine ⟨?_, ?_⟩
  · unfold PyData.strOk
    rw [← Array.all_toList]
    exact List.all_eq_true.mpr fun c hc => by simpa using h c (by simpa using hc)
  · show (⟨l.toArray⟩ : Str).length ≤ sizeLine
    simpa [Str.length] using hl
theorem str_eta (x : Str) : (⟨x.cps.toList.toArray⟩ : Str) = x := by cases x; simp
theorem str_len (x : Str) : x.cps.toList.length = x.length := by simp [Str.length]
theorem sOk.app {x y : Str} (hx : sOk x) (hy : sOk y) (h : x.length + y.length ≤ sizeLine) : sOk (x ++ y) := by
  have e : x ++ y = ⟨(x.cps.toList ++ y.cps.toList).toArray⟩ := by
    show (⟨x.cps ++ y.cps⟩ : Str) = _
    congr 1
    apply Array.ext'
    simp
  rw [e]
  refine sOk.mk (fun c hc => ?_) (by rw [List.length_append, str_len, str_len]; exact h)
  rcases List.mem_append.mp hc with z | z
  · exact hx.all c z
  · exact hy.all c z
end

/-! ### operators -/
def rD (K : PySem.W.Frag) (g : D → D → Store → Res D) : R2 := fun x y H Q => ∃ G L st d e, Rl K G L st H ∧ RD K G L H x d ∧ RD K G L H y e ∧ Nw K G L H (g d e st) (RD K G) Q
theorem OpR.imp {X : Cx} {f : Value → Value → Sem Value} {r r' : R2} (h : OpR X f r) (hi : ∀ x y H Q, r' x y H Q → r x y H Q) : OpR X f r' := fun pins s σ H x y v u Q I rx ry q => h pins s σ H x y v u Q I rx ry (hi x y H Q q)
def rCatLs (K : PySem.W.Frag) : R2 := fun x y H Q => ∃ l b xs zs, x = .ref l ∧ y = .ref b ∧ SqL K H l xs ∧ SqL K H b zs ∧ xs.length + zs.length ≤ sizeLine ∧ ∀ p, H p = none → Q (.ref p) (upd H p (.lst (xs ++ zs)))
/-- a new tuple -/
def NewT (xs : List V) (H : Hp) (Q : VK) : Prop := ∀ p (o : Obj), o.dict = none → H p = none → Q (.ref p) (upd H p (.frz o (.tup xs)))
def rCatF (K : PySem.W.Frag) : R2 := fun x y H Q => ∃ a b xs ys, x = .ref a ∧ y = .ref b ∧ SqT K H a xs ∧ SqT K H b ys ∧ xs.length + ys.length ≤ sizeLine ∧
  (xs = [] → Q (.ref b) H) ∧ (xs ≠ [] → ys = [] → Q (.ref a) H) ∧ (xs ≠ [] → ys ≠ [] → NewT (xs ++ ys) H Q)
section
variable {X : Cx}
theorem laidT {pins : List (Addr × Obj)} {σ : Sg} {H : Hp} {s : Shared} {xs : List V} {us : List Value} {h' : Heap} {t' : Nat} {Q : VK} {p : Addr} (I : L2.Inv X pins σ H s) (k : ∀ b u, s.heap.get? b = some u → h'.get? b = some u) (hp : s.heap.objs.size ≤ p)
    (e : h'.get? p = some { cls := .type "tuple", data := .seq us.toArray }) (r : Vals xs us) (hz : xs.length ≤ sizeLine) (q : NewT xs H Q) : EP X pins σ Q (.ref p) { s with heap := h', toks := t' } := by
  refine ⟨.ref p, upd H p (.frz { cls := .type "tuple", data := .seq us.toArray } (.tup xs)), I.laid (t' := t') k hp ?_, rfl, q p _ rfl (I.hok.fresh hp)⟩
  exact ⟨e, hz, us, r, _, e, rfl, _, rfl⟩
theorem op_catF : OpR X (binaryOp .Add) (rCatF X.K) := by
  intro pins s σ H x y v u Q I rx ry h
  obtain ⟨a, b, xs, ys, rfl, rfl, ha, hb, hz, q0, q1, q2⟩ := h
  cases rx
  cases ry
  obtain ⟨its, r1, p1, _⟩ := I.tuple ha
  obtain ⟨its2, r2, p2, _⟩ := I.tuple hb
  by_cases hx : xs = []
  · subst hx
    cases r1
    exact cat_tup0 p1 p2 ⟨.ref b, H, I, rfl, q0 rfl⟩
  · refine HT.cat_tup p1 p2 (fun z => hx (r1.nil_iff.mp z)) (fun z => ⟨.ref a, H, I, rfl, q1 hx (r2.nil_iff.mp z)⟩) (fun z => ?_) (by rw [← r1.length, ← r2.length]; exact hz)
    exact laidT (t' := s.toks) I (fun b ob q => Heap.get?_push_of_some _ q) (Nat.le_refl _) (Heap.get?_push_size _ rfl) (r1.append r2) (by rw [List.length_append]; exact hz) (q2 hx fun w => z (r2.nil_iff.mpr w))
theorem op_catLs : OpR X (binaryOp .Add) (rCatLs X.K) := by
  intro pins s σ H x y v u Q I rx ry h
  obtain ⟨l, b, xs, zs, rfl, rfl, hH, hB, hz, q⟩ := h
  cases rx
  cases ry
  obtain ⟨its, r, ⟨⟨c1, d1, t1, s1⟩, n, e, hc, hd, ht⟩, z⟩ := I.list hH
  obtain ⟨its2, r2, ⟨⟨c2, d2, t2, s2⟩, n2, e2, hc2, hd2, ht2⟩, z2⟩ := I.list hB
  simp only at hc hd ht hc2 hd2 ht2
  subst hc hd ht hc2 hd2 ht2
  have l1 := r.length
  have l2 := r2.length
  have hz' : its.toArray.size + its2.toArray.size ≤ sizeLine := by
    rw [List.size_toArray, List.size_toArray, ← l1, ← l2]; exact hz
  refine concat_meets ⟨_, e, rfl⟩ ⟨_, e2, rfl⟩ noFill_list_add seq_list_add PySem.F.slot_list_add
    PySem.F.entry_list_add (PySem.F.args_list_add_2 _ _)
    (PyProof.Rows.list_addW l b its.toArray its2.toArray n n2 none none s1 s2 hz') ⟨e, e2, ?_⟩
  have ea : its.toArray ++ its2.toArray = (its ++ its2).toArray := by simp
  rw [ea]
  exact ⟨.ref _, _, I.lnew (t' := s.toks) (r.append r2) (by rw [List.length_append]; omega), rfl, q _ I.fresh⟩
theorem o_add : OpR X (binaryOp .Add) (rD X.K (op2 .add)) := by
  refine OpR.imp (OpR.or op_add (OpR.or op_add_str (OpR.or op_catF op_catLs))) fun x y H Q h => ?_
  obtain ⟨G, L, st, d, e, rl, hd, he, q⟩ := h
  unfold op2 at q
  simp only at q
  split at q
  · exact .inl ⟨_, _, fz_int hd, fz_int he, q.pure rl (.int _)⟩
  · rename_i a b
    split at q
    · rename_i hl
      obtain ⟨e1, o1⟩ := fz_str hd
      obtain ⟨e2, o2⟩ := fz_str he
      exact .inr (.inl ⟨_, _, e1, e2, hl, q.pure rl (.str _ (o1.app o2 hl))⟩)
    · exact q.elim
  · rename_i a b
    split at q
    · rename_i hl
      obtain ⟨p1, xs, e1, t1, f1⟩ := fz_tup hd
      obtain ⟨p2, ys, e2, t2, f2⟩ := fz_tup he
      refine .inr (.inr (.inl ⟨p1, p2, xs, ys, e1, e2, t1.sq, t2.sq, by rw [f1.len, f2.len]; exact hl, fun z => ?_, fun z1 z2 => ?_, fun z1 z2 p o ho hp => ?_⟩))
      · have za := f1.nil_iff.mp z
        subst za
        exact q.pure rl (.tup t2 (by simpa using f2))
      · have za := f2.nil_iff.mp z2
        subst za
        exact q.pure rl (.tup t1 (by simpa using f1))
      · exact q.newT rl (f1.app f2) hp ho
    · exact q.elim
  · cases ha : listP d st with
    | none => rw [ha] at q; exact q.elim
    | some a =>
      cases hb : listP e st with
      | none => rw [ha, hb] at q; exact q.elim
      | some b =>
        rw [ha, hb] at q
        simp only [Option.bind_some] at q
        split at q
        · rename_i hl
          obtain ⟨p1, xs, e1, s1, f1⟩ := listP_rel rl hd ha
          obtain ⟨p2, ys, e2, s2, f2⟩ := listP_rel rl he hb
          exact .inr (.inr (.inr ⟨p1, p2, xs, ys, e1, e2, s1, s2, by rw [f1.len, f2.len]; exact hl, fun p hp => q.newL rl (f1.app f2) hp⟩))
        · exact q.elim
theorem o_sub : OpR X (binaryOp .Sub) (rD X.K (op2 .sub)) := by
  refine OpR.imp op_sub fun x y H Q h => ?_
  obtain ⟨G, L, st, d, e, rl, hd, he, q⟩ := h
  unfold op2 at q
  simp only at q
  split at q
  · exact ⟨_, _, fz_int hd, fz_int he, q.pure rl (.int _)⟩
  · exact q.elim
theorem o_mod : OpR X (binaryOp .Mod) (rD X.K (op2 .mod)) := by
  refine OpR.imp op_mod fun x y H Q h => ?_
  obtain ⟨G, L, st, d, e, rl, hd, he, q⟩ := h
  unfold op2 at q
  simp only at q
  split at q
  · split at q
    · rename_i hj
      exact ⟨_, _, fz_int hd, fz_int he, hj, q.pure rl (.int _)⟩
    · exact q.elim
  · exact q.elim
theorem o_fdv : OpR X (binaryOp .FloorDiv) (rD X.K (op2 .fdv)) := by
  refine OpR.imp op_fdiv fun x y H Q h => ?_
  obtain ⟨G, L, st, d, e, rl, hd, he, q⟩ := h
  unfold op2 at q
  simp only at q
  split at q
  · split at q
    · rename_i hj
      exact ⟨_, _, fz_int hd, fz_int he, hj, q.pure rl (.int _)⟩
    · exact q.elim
  · exact q.elim
theorem o_pow : OpR X (binaryOp .Pow) (rD X.K (op2 .pow)) := by
  refine OpR.imp op_pow fun x y H Q h => ?_
  obtain ⟨G, L, st, d, e, rl, hd, he, q⟩ := h
  unfold op2 at q
  simp only at q
  split at q
  · split at q
    · rename_i hj
      exact ⟨_, _, fz_int hd, fz_int he, hj, q.pure rl (.int _)⟩
    · exact q.elim
  · exact q.elim
theorem o_shl : OpR X (binaryOp .LShift) (rD X.K (op2 .shl)) := by
  refine OpR.imp op_shl fun x y H Q h => ?_
  obtain ⟨G, L, st, d, e, rl, hd, he, q⟩ := h
  unfold op2 at q
  simp only at q
  split at q
  · rename_i i j
    split at q
    · rename_i hj
      refine ⟨_, _, fz_int hd, fz_int he, hj, ?_⟩
      have e : i * 2 ^ j.toNat = i * ((2 ^ j.toNat : Nat) : Int) := by simp [Int.natCast_pow]
      simp only [e]
      exact q.pure rl (.int _)
    · exact q.elim
  · exact q.elim
end
end Dn
namespace Dn
open PySem PySem.Spec PyProof.Rows L2
section
variable {K : PySem.W.Frag} {G : Off1} {L : Lc} {H : Hp} {st : Store} {Q : VK}
theorem Nw.of_map {α : Type} {o : Option α} {f : α → D} (h : Nw K G L H (Res.of st (o.map f)) (RD K G) Q) : ∃ a, o = some a ∧ Nw K G L H (.ok (f a) st) (RD K G) Q := by
  cases o with
  | none => exact h.elim
  | some a => exact ⟨a, rfl, h⟩
theorem Nw.of_some {o : Option D} (h : Nw K G L H (Res.of st o) (RD K G) Q) : ∃ a, o = some a ∧ Nw K G L H (.ok a st) (RD K G) Q := by
  cases o with
  | none => exact h.elim
  | some a => exact ⟨a, rfl, h⟩
theorem RDs.get {xs : List V} {ds : List D} {i : Nat} {d : D} : RDs K G L H xs ds → ds[i]? = some d → ∃ v, xs[i]? = some v ∧ RD K G L H v d := by
  intro r
  induction r generalizing i with
  | nil => intro e; simp at e
  | cons a b ih =>
    intro e
    cases i with
    | zero => simp at e; subst e; exact ⟨_, rfl, a⟩
    | succ i =>
      obtain ⟨v, h1, h2⟩ := ih (i := i) (by simpa using e)
      exact ⟨v, by simpa using h1, h2⟩
theorem RDs.snoc {xs : List V} {ds : List D} {v : V} {d : D} (h : RDs K G L H xs ds) (r : RD K G L H v d) : RDs K G L H (xs ++ [v]) (ds ++ [d]) := Paired.snoc h r
theorem RDs.app : ∀ {xs ys : List V} {ds es : List D}, RDs K G L H xs ds → RDs K G L H ys es → RDs K G L H (xs ++ ys) (ds ++ es)
  | _, _, _, _, .nil, h => h
  | _, _, _, _, .cons a b, h => .cons a (RDs.app b h)
theorem RDs.dropLast : ∀ {xs : List V} {ds : List D}, RDs K G L H xs ds → RDs K G L H xs.dropLast ds.dropLast
  | _, _, .nil => .nil
  | _, _, .cons a .nil => by simp; exact .nil
  | _, _, .cons a (.cons b c) => by
    have := RDs.dropLast (.cons b c)
    simp only [List.dropLast_cons₂]
    exact .cons a this
theorem RDs.eraseIdx : ∀ {xs : List V} {ds : List D} (i : Nat), RDs K G L H xs ds → RDs K G L H (xs.eraseIdx i) (ds.eraseIdx i)
  | _, _, _, .nil => .nil
  | _, _, 0, .cons a b => b
  | _, _, i + 1, .cons a b => .cons a (RDs.eraseIdx i b)
theorem RDs.set {v : V} {d : D} (r : RD K G L H v d) : ∀ {xs : List V} {ds : List D} (i : Nat), RDs K G L H xs ds → RDs K G L H (xs.set i v) (ds.set i d)
  | _, _, _, .nil => .nil
  | _, _, 0, .cons a b => .cons r b
  | _, _, i + 1, .cons a b => .cons a (RDs.set r i b)
theorem RDs.rev : ∀ {xs : List V} {ds : List D}, RDs K G L H xs ds → RDs K G L H xs.reverse ds.reverse
  | _, _, .nil => .nil
  | _, _, .cons a b => by
    simp only [List.reverse_cons]
    exact (RDs.rev b).snoc a
theorem RDs.last {xs : List V} {ds : List D} {d : D} (h : RDs K G L H xs ds) (e : ds.getLast? = some d) : ∃ v, xs[xs.length - 1]? = some v ∧ RD K G L H v d := by
  rw [List.getLast?_eq_getElem?] at e
  have hl := Paired.length h
  rw [← hl] at e
  exact h.get e
end
section
variable {X : Cx}
/-! ### comparisons -/
theorem o_eq (hu : X.A.units + 64 < cLine) : OpR X (compareOp .Eq) (rD X.K (op2 .eq)) := by
  intro pins s σ H x y v u Q I rx ry h
  obtain ⟨G, L, st, d, e, rl, hd, he, q⟩ := h
  unfold op2 at q
  simp only at q
  split at q
  · rename_i a b
    obtain ⟨k, e1, q⟩ := q.of_map
    unfold eqD at e1
    split at e1
    · rename_i hm
      cases e1
      obtain ⟨as, r1⟩ := Dp.reads I a x v (Fz.dp a x hd) rx
      obtain ⟨bs, r2⟩ := Dp.reads I b y u (Fz.dp b y he) ry
      exact SeqAt.compareEq_reads r1 r2 (Fz.lay a x hd) (Fz.lay b y he) (by omega) ⟨.bl _, H, I, rfl, q.pure rl (.bl _)⟩
    · cases e1
  · exact q.elim
theorem o_ne (hu : X.A.units + 64 < cLine) : OpR X (compareOp .NotEq) (rD X.K (op2 .ne)) := by
  intro pins s σ H x y v u Q I rx ry h
  obtain ⟨G, L, st, d, e, rl, hd, he, q⟩ := h
  unfold op2 at q
  simp only at q
  split at q
  · rename_i a b
    obtain ⟨k, e1, q⟩ := q.of_map
    unfold eqD at e1
    split at e1
    · rename_i hm
      cases e1
      obtain ⟨as, r1⟩ := Dp.reads I a x v (Fz.dp a x hd) rx
      obtain ⟨bs, r2⟩ := Dp.reads I b y u (Fz.dp b y he) ry
      exact SeqAt.compareNe_reads r1 r2 (Fz.lay a x hd) (Fz.lay b y he) (by omega) ⟨.bl _, H, I, rfl, q.pure rl (.bl _)⟩
    · cases e1
  · exact q.elim
theorem o_lt : OpR X (compareOp .Lt) (rD X.K (op2 .lt)) := by
  refine OpR.imp (OpR.or op_lt op_lt_str) fun x y H Q h => ?_
  obtain ⟨G, L, st, d, e, rl, hd, he, q⟩ := h
  unfold op2 at q
  simp only at q
  split at q
  · exact .inl ⟨_, _, fz_int hd, fz_int he, q.pure rl (.bl _)⟩
  · exact .inr ⟨_, _, (fz_str hd).1, (fz_str he).1, q.pure rl (.bl _)⟩
  · exact q.elim
theorem o_le : OpR X (compareOp .LtE) (rD X.K (op2 .le)) := by
  refine OpR.imp (OpR.or op_le op_le_str) fun x y H Q h => ?_
  obtain ⟨G, L, st, d, e, rl, hd, he, q⟩ := h
  unfold op2 at q
  simp only at q
  split at q
  · exact .inl ⟨_, _, fz_int hd, fz_int he, q.pure rl (.bl _)⟩
  · exact .inr ⟨_, _, (fz_str hd).1, (fz_str he).1, q.pure rl (.bl _)⟩
  · exact q.elim
theorem o_gt : OpR X (compareOp .Gt) (rD X.K (op2 .gt)) := by
  refine OpR.imp (OpR.or op_gt op_gt_str) fun x y H Q h => ?_
  obtain ⟨G, L, st, d, e, rl, hd, he, q⟩ := h
  unfold op2 at q
  simp only at q
  split at q
  · exact .inl ⟨_, _, fz_int hd, fz_int he, q.pure rl (.bl _)⟩
  · exact .inr ⟨_, _, (fz_str hd).1, (fz_str he).1, q.pure rl (.bl _)⟩
  · exact q.elim
theorem o_ge : OpR X (compareOp .GtE) (rD X.K (op2 .ge)) := by
  refine OpR.imp (OpR.or op_ge op_ge_str) fun x y H Q h => ?_
  obtain ⟨G, L, st, d, e, rl, hd, he, q⟩ := h
  unfold op2 at q
  simp only at q
  split at q
  · exact .inl ⟨_, _, fz_int hd, fz_int he, q.pure rl (.bl _)⟩
  · exact .inr ⟨_, _, (fz_str hd).1, (fz_str he).1, q.pure rl (.bl _)⟩
  · exact q.elim
/-- keys -/
theorem key_rel {K : PySem.W.Frag} {O : Off1} {H : Hp} {x : V} {k : PyData} (h : Fz K O H x k) (hk : keyOk k = true) : ∃ q, x = kV q ∧ KeyR q k := by
  cases h with
  | int i => exact ⟨.inl i, rfl, rfl⟩
  | str z o => exact ⟨.inr z, rfl, rfl, o⟩
  | non => cases hk
  | bl b => cases hk
  | lst _ _ => cases hk
  | tup _ _ => cases hk
theorem keyEq_rel {a b : Key} {c d : PyData} (h1 : KeyR a c) (h2 : KeyR b d) : keyEq c d = decide (a = b) := by
  cases a with
  | inl i =>
    cases c <;> try exact h1.elim
    cases b with
    | inl j =>
      cases d <;> try exact h2.elim
      cases h1; cases h2
      simp [keyEq]
    | inr y =>
      cases d <;> try exact h2.elim
      simp [keyEq]
  | inr x =>
    cases c <;> try exact h1.elim
    cases b with
    | inl j =>
      cases d <;> try exact h2.elim
      simp [keyEq]
    | inr y =>
      cases d <;> try exact h2.elim
      obtain ⟨rfl, _⟩ := h1
      obtain ⟨rfl, _⟩ := h2
      simp [keyEq]
abbrev KvR (K : PySem.W.Frag) (G : Off1) (L : Lc) (H : Hp) : List (Key × V) → List (PyData × D) → Prop := Paired (fun p q => KeyR p.1 q.1 ∧ RD K G L H p.2 q.2)
theorem dGet_rel {K : PySem.W.Frag} {G : Off1} {L : Lc} {H : Hp} {q : Key} {k : PyData} (hk : KeyR q k) : ∀ {ks : List (Key × V)} {kvs : List (PyData × D)}, KvR K G L H ks kvs →
    (∀ d, dGet kvs k = some d → ∃ v, valV ks q = some v ∧ RD K G L H v d) ∧ (valV ks q).isSome = (dGet kvs k).isSome
  | _, _, .nil => ⟨fun d h => by simp [dGet] at h, rfl⟩
  | p :: ks, r :: kvs, .cons a b => by
    obtain ⟨ih1, ih2⟩ := dGet_rel hk b
    have e := keyEq_rel a.1 hk
    unfold dGet valV at *
    simp only [List.find?_cons, e]
    by_cases h : p.1 = q
    · simp only [h, decide_true, Option.map_some, Option.isSome_some, and_true]
      intro d hd
      cases hd
      exact ⟨_, rfl, a.2⟩
    · simp only [h, decide_false]
      exact ⟨ih1, ih2⟩
theorem kvMap_rel {K : PySem.W.Frag} {G : Off1} {L : Lc} {H : Hp} {q : Key} {k : PyData} (hk : KeyR q k) {v : V} {d : D} (hv : RD K G L H v d) : ∀ {ks : List (Key × V)} {kvs : List (PyData × D)}, KvR K G L H ks kvs →
    KvR K G L H (ks.map fun kv => if kv.1 = q then (kv.1, v) else kv) (kvs.map fun z => if keyEq z.1 k then (z.1, d) else z)
  | _, _, .nil => .nil
  | p :: ks, r :: kvs, .cons a b => by
    simp only [List.map_cons]
    refine .cons ?_ (kvMap_rel hk hv b)
    have e := keyEq_rel a.1 hk
    rw [e]
    by_cases z : p.1 = q
    · simp only [z, decide_true, if_true]
      exact ⟨by rw [← z]; exact a.1, hv⟩
    · simp only [z, decide_false, if_false]
      exact a
theorem dPut_rel {K : PySem.W.Frag} {G : Off1} {L : Lc} {H : Hp} {q : Key} {k : PyData} (hk : KeyR q k) {v : V} {d : D} (hv : RD K G L H v d) {ks : List (Key × V)} {kvs : List (PyData × D)} (h : KvR K G L H ks kvs) :
    KvR K G L H (putK ks q v) (dPut kvs k d) := by
  have any : (ks.any fun kv => decide (kv.1 = q)) = kvs.any fun z => keyEq z.1 k := by
    induction h with
    | nil => rfl
    | cons a b ih => simp only [List.any_cons, ih, keyEq_rel a.1 hk]
  unfold putK dPut
  rw [any]
  split
  · exact kvMap_rel hk hv h
  · exact Paired.snoc h ⟨hk, hv⟩
/-! ### in -/
theorem in_core (hu : X.A.units + 70 < cLine) {pins : List (Addr × Obj)} {s : Shared} {σ : Sg} {H : Hp} {x y : V} {v u : Value} {G : Off1} {L : Lc} {st : Store} {d e : D} {k : Bool} (I : L2.Inv X pins σ H s) (rx : RelV x v) (ry : RelV y u)
    (rl : Rl X.K G L st H) (hd : RD X.K G L H x d) (he : RD X.K G L H y e) (hk : inD d e st = some k) :
    (∀ Q : VK, Q (.bl k) H → wpAny (model X.prog X.w) X.A (compareOp .In v u) (EP X pins σ Q) X.xe s) ∧ (∀ Q : VK, Q (.bl (!k)) H → wpAny (model X.prog X.w) X.A (compareOp .NotIn v u) (EP X pins σ Q) X.xe s) := by
  have seq : ∀ (x0 : PyData) (ds : List PyData), Fz X.K (Off G L) H x x0 → inP x0 ds = some k → FzA X.K (Off G L) H (ds.map fun _ => V.non) [] ∨ True → k = (ds.any fun z => PyData.eqv z x0) ∧ X.A.units + 1 + min (PyData.depthAll ds) x0.depth < cLine := by
    intro x0 ds _ h _
    unfold inP at h
    split at h
    · rename_i hm
      cases h
      exact ⟨rfl, by omega⟩
    · cases h
  unfold inD at hk
  split at hk
  · rename_i x0
    obtain ⟨as, r1⟩ := Dp.reads I x0 x v (Fz.dp x0 x hd) rx
    split at hk
    · split at hk
      · cases hk
        rename_i z w
        obtain ⟨e1, _⟩ := fz_str hd
        obtain ⟨e2, _⟩ := fz_str he
        exact ⟨fun Q q => op_in_str pins s σ H x y v u Q I rx ry ⟨_, _, e1, e2, q⟩, fun Q q => op_notin_str pins s σ H x y v u Q I rx ry ⟨_, _, e1, e2, q⟩⟩
      · cases hk
    · rename_i ds
      obtain ⟨rfl, hm⟩ := seq x0 ds hd hk (.inr trivial)
      obtain ⟨bs, r2⟩ := Dp.reads I (.list ds) y u (Fz.dp _ y he) ry
      have la : PyData.canLayAll0 ds = true := by have := Fz.lay _ y he; simpa only [PyData.canLay0] using this
      exact ⟨fun Q q => SeqAt.in_list_reads r2 r1 la (Fz.lay x0 x hd) hm ⟨.bl _, H, I, rfl, q⟩, fun Q q => SeqAt.notIn_list_reads r2 r1 la (Fz.lay x0 x hd) hm ⟨.bl _, H, I, rfl, q⟩⟩
    · rename_i ds
      obtain ⟨rfl, hm⟩ := seq x0 ds hd hk (.inr trivial)
      obtain ⟨bs, r2⟩ := Dp.reads I (.tuple ds) y u (Fz.dp _ y he) ry
      have la : PyData.canLayAll0 ds = true := by have := Fz.lay _ y he; simpa only [PyData.canLay0] using this
      exact ⟨fun Q q => SeqAt.in_tuple_reads r2 r1 la (Fz.lay x0 x hd) hm ⟨.bl _, H, I, rfl, q⟩, fun Q q => SeqAt.notIn_tuple_reads r2 r1 la (Fz.lay x0 x hd) hm ⟨.bl _, H, I, rfl, q⟩⟩
    · split at hk
      · rename_i ds hst
        obtain ⟨es, h1, h2⟩ := Option.bind_eq_some_iff.mp hk
        obtain ⟨rfl, hm⟩ := seq x0 es hd h2 (.inr trivial)
        obtain ⟨a, e1, e2, xs, e3, f⟩ := ref_rel rl he hst (by simp)
        have fa := allP_rel f h1
        subst e1
        obtain ⟨bs, r2⟩ := Dp.reads I (.list es) (.ref a) u (.lst (SqL.of e3) (FzA.dp es _ fa)) ry
        have la := FzA.lay es _ fa
        exact ⟨fun Q q => SeqAt.in_list_reads r2 r1 la (Fz.lay x0 x hd) hm ⟨.bl _, H, I, rfl, q⟩, fun Q q => SeqAt.notIn_list_reads r2 r1 la (Fz.lay x0 x hd) hm ⟨.bl _, H, I, rfl, q⟩⟩
      · rename_i kvs hst
        split at hk
        · rename_i hko
          cases hk
          obtain ⟨q, e4, hq⟩ := key_rel hd hko
          obtain ⟨a, e1, e2, ks, e3, f⟩ := ref_rel rl he hst (by simp)
          subst e1 e4
          cases ry
          have g := DGet.k (k := q) e3
          have em := (dGet_rel hq f).2
          have hu1 : X.A.units + 1 < cLine := by omega
          exact ⟨fun Q z => d_in hu1 I g rx fun s' I' => ⟨.bl _, H, I', rfl, by rw [em]; exact z⟩, fun Q z => d_notIn hu1 I g rx fun s' I' => ⟨.bl _, H, I', rfl, by rw [em]; exact z⟩⟩
        · cases hk
      · cases hk
    · cases hk
  · cases hk
theorem o_in (hu : X.A.units + 70 < cLine) : OpR X (compareOp .In) (rD X.K (op2 .inn)) := by
  intro pins s σ H x y v u Q I rx ry h
  obtain ⟨G, L, st, d, e, rl, hd, he, q⟩ := h
  unfold op2 at q
  simp only at q
  obtain ⟨k, e1, q⟩ := q.of_map
  exact (in_core hu I rx ry rl hd he e1).1 Q (q.pure rl (.bl _))
theorem o_nin (hu : X.A.units + 70 < cLine) : OpR X (compareOp .NotIn) (rD X.K (op2 .nin)) := by
  intro pins s σ H x y v u Q I rx ry h
  obtain ⟨G, L, st, d, e, rl, hd, he, q⟩ := h
  unfold op2 at q
  simp only at q
  obtain ⟨k, e1, q⟩ := q.of_map
  exact (in_core hu I rx ry rl hd he e1).2 Q (q.pure rl (.bl _))
/-! ### subscripts -/
theorem ixOf_eq (n : Nat) (i : Int) : ixOf n i = ixN n i := rfl
theorem sOk.one {c : Nat} (h : c < 0x110000) : sOk ⟨#[c]⟩ := by
  have : (⟨#[c]⟩ : Str) = ⟨([c] : List Nat).toArray⟩ := rfl
  rw [this]
  exact sOk.mk (fun z hz => by simp at hz; subst hz; exact h) (by rw [sizeLine_eq]; simp)
theorem ix_dict (hu : X.A.units + 1 < cLine) : IxR X (fun x y H Q => ∃ a v, x = .ref a ∧ DGet H a y (some v) ∧ Q v H) := by
  intro value slice pins s σ H x y v u Q I rx ry h hs
  obtain ⟨a, z, rfl, g, q⟩ := h
  cases rx
  exact tail_any (dict_typeIs I g) PySem.F.slot_dict_getitem.lookup (d_getItem hu I g ry fun w' s3 I3 rw' => ⟨z, H, I3, rw', q⟩) hs
theorem o_ix (hu : X.A.units + 1 < cLine) : IxR X (rD X.K (op2 .ix)) := by
  intro value slice pins s σ H x y v u Q I rx ry h hs
  obtain ⟨G, L, st, d, e, rl, hd, he, q⟩ := h
  unfold op2 at q
  simp only at q
  obtain ⟨r, e1, q'⟩ := q.of_some
  clear q
  unfold getIx at e1
  split at e1
  · split at e1
    · obtain ⟨c, h1, h2⟩ := Option.map_eq_some_iff.mp e1
      obtain ⟨j, h3, h4⟩ := Option.bind_eq_some_iff.mp h1
      subst h2
      obtain ⟨e2, ok⟩ := fz_str hd
      refine ix_str value slice pins s σ H x y v u Q I rx ry ⟨_, _, c, e2, fz_int he, ok.2, ?_, q'.pure rl (.str _ (sOk.one (ok.all c (List.mem_of_getElem? h4))))⟩ hs
      unfold atI
      rw [← ixOf_eq, h3]
      exact h4
    · cases e1
  · split at e1
    · obtain ⟨c, h1, h2⟩ := Option.map_eq_some_iff.mp e1
      obtain ⟨j, h3, h4⟩ := Option.bind_eq_some_iff.mp h1
      subst h2
      obtain ⟨a, xs, e2, s2, f⟩ := fz_lst hd
      obtain ⟨w, h5, h6⟩ := f.get h4
      refine ix_list value slice pins s σ H x y v u Q I rx ry ⟨a, xs, _, w, e2, fz_int he, s2.sq, ?_, q'.pure rl h6⟩ hs
      unfold atI
      rw [← ixOf_eq, f.len, h3]
      exact h5
    · cases e1
  · split at e1
    · obtain ⟨c, h1, h2⟩ := Option.map_eq_some_iff.mp e1
      obtain ⟨j, h3, h4⟩ := Option.bind_eq_some_iff.mp h1
      subst h2
      obtain ⟨a, xs, e2, s2, f⟩ := fz_tup hd
      obtain ⟨w, h5, h6⟩ := f.get h4
      refine ix_tup value slice pins s σ H x y v u Q I rx ry ⟨a, xs, _, w, e2, fz_int he, s2.sq, ?_, q'.pure rl h6⟩ hs
      unfold atI
      rw [← ixOf_eq, f.len, h3]
      exact h5
    · cases e1
  · split at e1
    · rename_i ds hst
      split at e1
      · obtain ⟨j, h3, h4⟩ := Option.bind_eq_some_iff.mp e1
        obtain ⟨a, e2, e3, xs, e4, f⟩ := ref_rel rl hd hst (by simp)
        obtain ⟨w, h5, h6⟩ := f.get h4
        refine ix_list value slice pins s σ H x y v u Q I rx ry ⟨a, xs, _, w, e2, fz_int he, SqL.of e4, ?_, q'.pure rl h6⟩ hs
        unfold atI
        rw [← ixOf_eq, Paired.length f, h3]
        exact h5
      · cases e1
    · rename_i kvs hst
      split at e1
      · split at e1
        · rename_i hko
          obtain ⟨qk, e4, hq⟩ := key_rel he hko
          obtain ⟨a, e2, e3, ks, e5, f⟩ := ref_rel rl hd hst (by simp)
          obtain ⟨w, h5, h6⟩ := (dGet_rel hq f).1 _ e1
          subst e4
          exact ix_dict hu value slice pins s σ H x _ v u Q I rx ry ⟨a, w, e2, by rw [← h5]; exact DGet.k e5, q'.pure rl h6⟩ hs
        · cases e1
      · cases e1
    · cases e1
  · cases e1
end
end Dn
/-! Dn: sorted lists of tuples whose numbers and texts decide: the model's side. -/
namespace Dn
open PySem PySem.Spec PyProof.Rows
/-- what the comparison sees of a value -/
def seenV : Value → PyData
  | .int i _ => .int i
  | .str x _ => .str x
  | _ => .none
def seenP : PyData → PyData
  | .int i => .int i
  | .str x => .str x
  | _ => .none
def seenOf (h : Heap) (v : Value) : List PyData := match v with
  | .ref a => (match h.get? a with
    | some o => (match o.data with
      | .seq xs _ => xs.toList.map seenV
      | _ => [])
    | none => [])
  | _ => []
/-- it is a tuple -/
def TupAt (h : Heap) (v : Value) : Prop := ∃ a o xs n, v = Value.ref a ∧ h.get? a = some o ∧ o.cls = .type "tuple" ∧ o.data = .seq xs n
theorem seenOf_at {h : Heap} {a : Addr} {o : Obj} {xs : Array Value} {n : Nat} (ho : h.get? a = some o) (hd : o.data = .seq xs n) : seenOf h (.ref a) = xs.toList.map seenV := by
  unfold seenOf
  simp only [ho, hd]
theorem ltIt_seen : ∀ xs ys : List PyData, ltIt (xs.map seenP) (ys.map seenP) = ltIt xs ys
  | [], [] => rfl
  | [], _ :: _ => rfl
  | _ :: _, [] => by simp [ltIt]
  | x :: xs, y :: ys => by
    have ih := ltIt_seen xs ys
    cases x <;> cases y <;> simp [seenP, ltIt, ih]
section
variable {prog : Program} {w : World} {A : Around} {E : Value → Shared → Prop} {s : Shared}
theorem lex_seen {Q : Bool → Shared → Prop} {fin k : Bool} : ∀ (xs ys : List Value) (i : Nat), ltIt (xs.map seenV) (ys.map seenV) = some k → fin = decide (xs.length < ys.length) → Q k s → PySem.W.KatLex prog w A true fin Q (xs.zip ys) i s
  | [], [], i, h, hf, q => by
    cases h
    have e : fin = false := by rw [hf]; rfl
    subst e
    exact PySem.W.kat_nil q
  | [], y :: ys, i, h, hf, q => by
    cases h
    have e : fin = true := by rw [hf]; simp
    subst e
    exact PySem.W.kat_nil q
  | x :: xs, [], i, h, hf, q => by
    have h1 : some false = some k := by
      cases x <;> exact h
    cases h1
    have e : fin = false := by rw [hf]; simp
    subst e
    exact PySem.W.kat_nil q
  | x :: xs, y :: ys, i, h, hf, q => by
    have hf1 : fin = decide (xs.length < ys.length) := by
      rw [hf]
      simp
    cases x with
    | int u t =>
      cases y with
      | int v t2 =>
        have h1 : (if u = v then ltIt (xs.map seenV) (ys.map seenV) else some (decide (u < v))) = some k := h
        refine PySem.W.kat_cons (wpAny_eqBool_int ?_)
        by_cases e : u = v
        · rw [if_pos e] at h1
          rw [beq_iff_eq.mpr e]
          exact PySem.W.kat_yes (lex_seen xs ys (i + 1) h1 hf1 q)
        · rw [if_neg e] at h1
          rw [beq_eq_false_iff_ne.mpr e]
          refine PySem.W.kat_no (TS.oneLt_ints _ ?_)
          rw [Option.some.inj h1]
          exact q
      | _ => cases h
    | str u t =>
      cases y with
      | str v t2 =>
        have h1 : (if u = v then ltIt (xs.map seenV) (ys.map seenV) else some (strLt u v)) = some k := h
        refine PySem.W.kat_cons (wpAny_eqBool_str ?_)
        by_cases e : u = v
        · rw [if_pos e] at h1
          rw [decide_eq_true e]
          exact PySem.W.kat_yes (lex_seen xs ys (i + 1) h1 hf1 q)
        · rw [if_neg e] at h1
          rw [decide_eq_false e]
          have q' : Q (decide (u.cps.toList < v.cps.toList)) s := by
            have := Option.some.inj h1
            unfold strLt at this
            rw [this]
            exact q
          refine PySem.W.kat_no ?_
          cases hb : (true && i == 0) with
          | true => exact oneLt_str q'
          | false => exact PySem.W.kat_one _ _ (PyProof.Rows.lt_str (Q := PySem.W.BoolBack Q) q')
      | _ => cases h
    | _ => cases y <;> exact nomatch (show (none : Option Bool) = some k from h)
theorem firsts_seen {h : Heap} : ∀ vs : List Value, (∀ v ∈ vs, TupAt h v) → (∀ v ∈ vs, seenOf h v ≠ []) → ∃ fs, PySem.W.KatTups h vs fs ∧ fs.length = vs.length ∧ ∀ f ∈ fs, ∃ v ∈ vs, (seenOf h v).head? = some (seenV f)
  | [], _, _ => ⟨[], PySem.W.KatTups.nil, rfl, fun f hf => by cases hf⟩
  | v :: vs, x, y => by
    obtain ⟨fs, k, hl, hi⟩ := firsts_seen vs (fun u hu => x u (List.mem_cons_of_mem _ hu)) (fun u hu => y u (List.mem_cons_of_mem _ hu))
    obtain ⟨a, o, xs, n, rfl, ho, hc, hd⟩ := x v List.mem_cons_self
    have hs := seenOf_at ho hd
    have hne := y _ List.mem_cons_self
    rw [hs] at hne
    cases e : xs.toList with
    | nil => rw [e] at hne; exact absurd rfl hne
    | cons f r =>
      have hf0 : xs[0]? = some f := by
        have z := congrArg (fun l : List Value => l[0]?) e
        simpa using z
      refine ⟨f :: fs, PySem.W.KatTups.cons ho hc hd hf0 k, congrArg (· + 1) hl, fun g hg => ?_⟩
      rcases List.mem_cons.mp hg with rfl | hg
      · exact ⟨_, List.mem_cons_self, by rw [hs, e]; rfl⟩
      · obtain ⟨u, hu, z⟩ := hi g hg
        exact ⟨u, List.mem_cons_of_mem _ hu, z⟩
def AllStr (h : Heap) (vs : List Value) : Prop := ∀ v ∈ vs, ∃ u r, seenOf h v = .str u :: r
def AllInt (h : Heap) (vs : List Value) : Prop := ∀ v ∈ vs, ∃ u r, seenOf h v = .int u :: r
theorem eqBool_self (a : Value) {Q : Bool → Shared → Prop} (h : Q true s) : wpAny (model prog w) A (eqBool a a) Q E s := by
  unfold eqBool
  refine wpAny_holding ?_
  rw [if_pos (beq_self_eq_true a)]
  exact wpAny_bind (wpAny_rule (wpAny_pure h))
theorem lex_self {Q : Bool → Shared → Prop} (q : Q false s) : ∀ (xs : List Value) (i : Nat), PySem.W.KatLex prog w A true false Q (xs.zip xs) i s
  | [], i => PySem.W.kat_nil q
  | x :: xs, i => PySem.W.kat_cons (eqBool_self x (PySem.W.kat_yes (lex_self q xs (i + 1))))
theorem cmp_seen {vs : List Value} {r : Value → Int} (x : ∀ v ∈ vs, TupAt s.heap v) (hr : ∀ u ∈ vs, ∀ v ∈ vs, u ≠ v → ltIt (seenOf s.heap u) (seenOf s.heap v) = some (decide (r u < r v))) : TS.Cmp prog w A s (tuples' true) (pairsOf vs) r := by
  intro p q hp hq Q' E' hQ
  rw [pairsOf_toList] at hp hq
  have m1 := (mem_zip_self hp).2
  have m2 := (mem_zip_self hq).2
  by_cases hpq : p.1 = q.1
  · obtain ⟨a, o, xs, n, e1, ho, hc, hd⟩ := x _ m1
    rw [← hpq] at hQ ⊢
    have hf : decide (r p.1 < r p.1) = false := decide_eq_false (Int.lt_irrefl _)
    rw [hf] at hQ
    rw [e1]
    refine PySem.W.kat_lt ho hd ho hd ?_
    have hf2 : decide (xs.size < xs.size) = false := decide_eq_false (Nat.lt_irrefl _)
    rw [hf2]
    exact lex_self hQ xs.toList 0
  have hlt := hr _ m1 _ m2 hpq
  obtain ⟨a, o, xs, n, e1, ho, hc, hd⟩ := x _ m1
  obtain ⟨b, o2, ys, n2, e2, ho2, hc2, hd2⟩ := x _ m2
  rw [e1, e2] at hlt ⊢
  rw [seenOf_at ho hd, seenOf_at ho2 hd2] at hlt
  rw [e1, e2] at hQ
  exact PySem.W.kat_lt ho hd ho2 hd2 (lex_seen xs.toList ys.toList 0 hlt (by simp) hQ)
theorem kind_seen {vs : List Value} {r : Value → Int} {Q : SortKind → Shared → Prop} (h2 : 2 ≤ vs.length) (x : ∀ v ∈ vs, TupAt s.heap v) (hh : AllStr s.heap vs ∨ AllInt s.heap vs)
    (hr : ∀ u ∈ vs, ∀ v ∈ vs, u ≠ v → ltIt (seenOf s.heap u) (seenOf s.heap v) = some (decide (r u < r v))) (h : ∀ κ, TS.Cmp prog w A s κ (pairsOf vs) r → Q κ s) : wpAny (model prog w) A (keyKind' vs.toArray) Q E s := by
  have hne : ∀ v ∈ vs, seenOf s.heap v ≠ [] := fun v hv e => by
    rcases hh with k | k
    · obtain ⟨u, r, e2⟩ := k v hv
      rw [e] at e2; cases e2
    · obtain ⟨u, r, e2⟩ := k v hv
      rw [e] at e2; cases e2
  obtain ⟨fs, k, hl, hi⟩ := firsts_seen vs x hne
  rcases hh with q | q
  · refine PySem.W.kat_kind (T := Value.type "str") k (by omega) (fun f hf => ?_) rfl (h _ (cmp_seen x hr))
    obtain ⟨v, hv, e⟩ := hi f hf
    obtain ⟨u, r, e2⟩ := q v hv
    rw [e2] at e
    cases f with
    | str u2 t => exact PySem.W.Looks.of_pure rfl
    | _ => cases e
  · refine PySem.W.kat_kind (T := Value.type "int") k (by omega) (fun f hf => ?_) rfl (h _ (cmp_seen x hr))
    obtain ⟨v, hv, e⟩ := hi f hf
    obtain ⟨u, r, e2⟩ := q v hv
    rw [e2] at e
    cases f with
    | int u2 t => exact PySem.W.Looks.of_pure rfl
    | _ => cases e
/-- the tuples of a heap stand in a later one -/
def TupsStay (h h' : Heap) : Prop := ∀ b o, h.get? b = some o → o.cls = .type "tuple" → h'.get? b = some o
theorem TupAt.stay {h h' : Heap} {v : Value} (k : TupsStay h h') (x : TupAt h v) : TupAt h' v ∧ seenOf h' v = seenOf h v := by
  obtain ⟨a, o, xs, n, rfl, ho, hc, hd⟩ := x
  exact ⟨⟨a, o, xs, n, rfl, k _ _ ho hc, hc, hd⟩, by rw [seenOf_at ho hd, seenOf_at (k _ _ ho hc) hd]⟩
theorem sort_seen {a : Addr} {vs : List Value} {n : Nat} {r : Value → Int} {P : PySem.Fin → Shared → Prop} (ho : s.heap.get? a = some (seqObj "list" vs.toArray n)) (h64 : vs.length < 64) (x : ∀ v ∈ vs, TupAt s.heap v) (hh : AllStr s.heap vs ∨ AllInt s.heap vs)
    (hr : ∀ u ∈ vs, ∀ v ∈ vs, u ≠ v → ltIt (seenOf s.heap u) (seenOf s.heap v) = some (decide (r u < r v)))
    (h : ∀ out : Array Value, out.toList.Perm vs → out.toList.Pairwise (fun u v => r u ≤ r v) → P (.done (.ret .none)) { s with heap := sortedHeap s.heap a vs out }) :
    wpAny (model prog w) A (Builtin.«list.sort» ⟨[.ref a], []⟩) P E s := by
  have stay : TupsStay s.heap (TS.midHeap s.heap a vs) := fun b o e hc => TS.midHeap_old (fun e2 => by
    rw [e2, ho] at e
    have e' := Option.some.inj e
    rw [← e'] at hc
    have c' : Value.type "list" = Value.type "tuple" := hc
    injection c' with c''
    exact absurd c'' (by decide)) e
  refine SK.plain_sort (r := r) ho h64 (fun h2 Q hQ => ?_) fun ps out h1 h2 h3 => ?_
  · refine kind_seen (s := { s with heap := TS.midHeap s.heap a vs }) h2 (fun v hv => ((x v hv).stay stay).1) ?_ (fun u hu v hv huv => ?_) hQ
    · rcases hh with q | q
      · exact .inl fun v hv => by
          have := q v hv
          rwa [← ((x v hv).stay stay).2] at this
      · exact .inr fun v hv => by
          have := q v hv
          rwa [← ((x v hv).stay stay).2] at this
    · have := hr u hu v hv huv
      rwa [← ((x u hu).stay stay).2, ← ((x v hv).stay stay).2] at this
  · obtain ⟨p, o⟩ := TS.out_rank h1 h2 h3
    exact h out p o
theorem sorted_seen {l : Addr} {vs : List Value} {r : Value → Int} {Q : Value → Shared → Prop} (hl : s.heap.IsList l vs.toArray) (h64 : vs.length < 64) (x : ∀ v ∈ vs, TupAt s.heap v) (hh : AllStr s.heap vs ∨ AllInt s.heap vs)
    (hr : ∀ u ∈ vs, ∀ v ∈ vs, u ≠ v → ltIt (seenOf s.heap u) (seenOf s.heap v) = some (decide (r u < r v)))
    (h : ∀ out : Array Value, out.toList.Perm vs → out.toList.Pairwise (fun u v => r u ≤ r v) → Q (.ref (s.heap.objs.size + 1)) { s with heap := sortedAll s.heap vs out }) :
    wpAny (model prog w) A (call (.builtin "sorted") [.ref l]) Q E s := by
  refine Calls.call_function_entry kind_sorted plain_sorted entry_sorted (args_sorted1 _) ?_
  unfold Builtin.«sorted»
  refine wpAny_bind (m := checkCount "sorted" 1 1 _) (wpAny_pure ?_)
  refine wpAny_bind (collect_list hl ?_ (by rw [sizeLine_eq]; omega))
  refine wpAny_bind (wpAny_newList ?_ (by rw [sizeLine_eq]; omega))
  obtain ⟨h1, eh1⟩ : ∃ h1, h1 = ((s.heap.push (seqObj "list" #[] 0)).update s.heap.objs.size (Obj.mapSeq (· ++ vs.toArray))) := ⟨_, rfl⟩
  have n1 : h1.objs.size = s.heap.objs.size + 1 := by
    rw [eh1, Heap.size_update, size_push']
  have at1 : (h1.push (seqObj "list" vs.toArray 0)).get? (s.heap.objs.size + 1) = some (seqObj "list" vs.toArray 0) := by
    rw [← n1]; exact Heap.get?_push_size _ rfl
  have stay : TupsStay s.heap (h1.push (seqObj "list" vs.toArray 0)) := fun b o q _ => by
    have lt : b < s.heap.objs.size := Heap.lt_size q
    rw [Heap.get?_push_ne _ _ _ (by rw [n1]; exact Nat.ne_of_lt (Nat.lt_succ_of_lt lt)), eh1, Heap.get?_update_ne _ _ _ _ (Nat.ne_of_lt lt), Heap.get?_push_ne _ _ _ (Nat.ne_of_lt lt)]
    exact q
  have fin : ∀ out : Array Value, { s with heap := sortedHeap (h1.push (seqObj "list" vs.toArray 0)) (s.heap.objs.size + 1) vs out } = { s with heap := sortedAll s.heap vs out } := fun out => by
    rw [eh1] <;> rfl
  show wpAny _ _ _ _ _ { s with heap := ((s.heap.push (seqObj "list" #[] 0)).update s.heap.objs.size (Obj.mapSeq (· ++ vs.toArray))).push (seqObj "list" vs.toArray 0) }
  rw [← eh1, n1]
  refine wpAny_bind (wpAny_holding (wpAny_call_entry slot_list_sort ⟨_, at1, rfl⟩ entry_list_sort (sort_seen (r := r) at1 h64 (fun v hv => ((x v hv).stay stay).1) ?_ (fun u hu v hv huv => ?_) fun out a1 a2 => ⟨_, rfl, ?_⟩) (args_list_sort _)))
  · rcases hh with q | q
    · exact .inl fun v hv => by
        have := q v hv
        rwa [← ((x v hv).stay stay).2] at this
    · exact .inr fun v hv => by
        have := q v hv
        rwa [← ((x v hv).stay stay).2] at this
  · have := hr u hu v hv huv
    rwa [← ((x u hu).stay stay).2, ← ((x v hv).stay stay).2] at this
  · refine wpAny_pure ⟨_, rfl, ?_⟩
    have := h out a1 a2
    rw [← fin] at this
    exact this
end
open L2
/-- two lists, item by item -/
inductive Par {α β : Type} (R : α → β → Prop) : List α → List β → Prop
  | nil : Par R [] []
  | cons {a : α} {b : β} {as : List α} {bs : List β} : R a b → Par R as bs → Par R (a :: as) (b :: bs)
theorem Par.perm {α β : Type} {R : α → β → Prop} {l m : List α} (p : m.Perm l) : ∀ {ds : List β}, Par R l ds → ∃ es, es.Perm ds ∧ Par R m es := by
  induction p with
  | nil => intro ds h; exact ⟨ds, List.Perm.refl _, h⟩
  | cons x p ih =>
    intro ds h
    cases h with
    | cons a b =>
      obtain ⟨es, q, r⟩ := ih b
      exact ⟨_ :: es, List.Perm.cons _ q, .cons a r⟩
  | swap x y l =>
    intro ds h
    cases h with
    | cons a b =>
      cases b with
      | cons c e => exact ⟨_, List.Perm.swap _ _ _, .cons c (.cons a e)⟩
  | trans p q ih1 ih2 =>
    intro ds h
    obtain ⟨es, q1, r1⟩ := ih2 h
    obtain ⟨fs, q2, r2⟩ := ih1 r1
    exact ⟨fs, q2.trans q1, r2⟩
theorem Par.imp {α β : Type} {R R' : α → β → Prop} (hi : ∀ a b, R a b → R' a b) {l : List α} {ds : List β} (h : Par R l ds) : Par R' l ds := by
  induction h with
  | nil => exact .nil
  | cons a _ ih => exact .cons (hi _ _ a) ih
theorem Par.left {α β : Type} {R : α → β → Prop} {l : List α} {ds : List β} (h : Par R l ds) : ∀ a ∈ l, ∃ b ∈ ds, R a b := by
  induction h with
  | nil => intro a ha; cases ha
  | cons x _ ih =>
    intro a ha
    rcases List.mem_cons.mp ha with rfl | ha
    · exact ⟨_, List.mem_cons_self, x⟩
    · obtain ⟨b, hb, r⟩ := ih a ha
      exact ⟨b, List.mem_cons_of_mem _ hb, r⟩
theorem Par.len {α β : Type} {R : α → β → Prop} {l : List α} {ds : List β} (h : Par R l ds) : l.length = ds.length := by
  induction h with
  | nil => rfl
  | cons _ _ ih => exact congrArg (· + 1) ih
theorem Par.pairwise {α β : Type} {R : α → β → Prop} {S : α → α → Prop} {T : β → β → Prop} (hi : ∀ a b c d, R a b → R c d → S a c → T b d) {l : List α} {ds : List β} (h : Par R l ds) : l.Pairwise S → ds.Pairwise T := by
  induction h with
  | nil => intro _; exact List.Pairwise.nil
  | @cons x y xs ys a r ih =>
    intro k
    rw [List.pairwise_cons] at k ⊢
    refine ⟨fun d hd => ?_, ih k.2⟩
    have : ∀ {ps : List α} {qs : List β}, Par R ps qs → (∀ p ∈ ps, S x p) → ∀ q ∈ qs, T y q := by
      intro ps qs h2
      induction h2 with
      | nil => intro _ q hq; cases hq
      | cons b _ ih2 =>
        intro hs q hq
        rcases List.mem_cons.mp hq with rfl | hq
        · exact hi _ _ _ _ a b (hs _ List.mem_cons_self)
        · exact ih2 (fun p hp => hs p (List.mem_cons_of_mem _ hp)) q hq
    exact this r k.1 d hd
/-- one sorted list alone, where equals among the items are the same -/
theorem sorted_one {α : Type} {le : α → α → Bool} : ∀ {l m : List α}, (∀ a ∈ l, ∀ b ∈ l, le a b = true → le b a = true → a = b) → l.Perm m → l.Pairwise (fun a b => le a b = true) → m.Pairwise (fun a b => le a b = true) → l = m
  | [], m, _, p, _, _ => by simpa using p
  | x :: l, [], _, p, _, _ => by simpa using p
  | x :: l, y :: m, anti, p, h1, h2 => by
    rw [List.pairwise_cons] at h1 h2
    have hy : y ∈ x :: l := p.mem_iff.mpr List.mem_cons_self
    have e : x = y := by
      by_cases q : x = y
      · exact q
      · have a1 : x ∈ m := by
          rcases List.mem_cons.mp (p.mem_iff.mp List.mem_cons_self) with z | z
          · exact absurd z q
          · exact z
        have a2 : y ∈ l := by
          rcases List.mem_cons.mp hy with z | z
          · exact absurd z.symm q
          · exact z
        exact anti x List.mem_cons_self y hy (h1.1 y a2) (h2.1 x a1)
    subst e
    rw [sorted_one (fun a ha b hb => anti a (List.mem_cons_of_mem _ ha) b (List.mem_cons_of_mem _ hb)) (List.Perm.cons_inv p) h1.2 h2.2]
theorem insL_perm' {α : Type} {le : α → α → Bool} (x : α) : ∀ l : List α, (insL le x l).Perm (x :: l)
  | [] => List.Perm.refl _
  | y :: r => by
    unfold insL
    split
    · exact List.Perm.refl _
    · exact (List.Perm.cons y (insL_perm' x r)).trans (List.Perm.swap x y r)
theorem srtL_perm' {α : Type} {le : α → α → Bool} : ∀ l : List α, (srtL le l).Perm l
  | [] => List.Perm.refl _
  | x :: r => (insL_perm' x _).trans (List.Perm.cons x (srtL_perm' r))
theorem insL_rank {α : Type} (k : α → Nat) (x : α) : ∀ l : List α, l.Pairwise (fun a b => decide (k a ≤ k b) = true) → (insL (fun a b => decide (k a ≤ k b)) x l).Pairwise (fun a b => decide (k a ≤ k b) = true)
  | [], _ => by simp [insL]
  | y :: r, h => by
    unfold insL
    rw [List.pairwise_cons] at h
    by_cases hxy : k x ≤ k y
    · rw [if_pos (decide_eq_true hxy), List.pairwise_cons, List.pairwise_cons]
      exact ⟨fun z hz => by
        rcases List.mem_cons.mp hz with q | q
        · rw [q]; exact decide_eq_true hxy
        · exact decide_eq_true (Nat.le_trans hxy (of_decide_eq_true (h.1 z q))), h⟩
    · rw [if_neg (by simpa using hxy), List.pairwise_cons]
      refine ⟨fun z hz => ?_, insL_rank k x r h.2⟩
      rcases List.mem_cons.mp ((insL_perm' x r).mem_iff.mp hz) with q | q
      · rw [q]; exact decide_eq_true (Nat.le_of_lt (Nat.lt_of_not_le hxy))
      · exact h.1 z q
theorem srtL_rank {α : Type} (k : α → Nat) : ∀ l : List α, (srtL (fun a b => decide (k a ≤ k b)) l).Pairwise (fun a b => decide (k a ≤ k b) = true)
  | [] => by simp [srtL]
  | x :: r => insL_rank k x _ (srtL_rank k r)
mutual
theorem sameQ_eq : ∀ {a b : PyData}, sameQ a b = true → a = b
  | .none, .none, _ => rfl
  | .bool a, .bool b, h => by rw [of_decide_eq_true h]
  | .int a, .int b, h => by rw [of_decide_eq_true h]
  | .str a, .str b, h => by rw [of_decide_eq_true h]
  | .list a, .list b, h => by rw [sameQs_eq (a := a) (b := b) h]
  | .tuple a, .tuple b, h => by rw [sameQs_eq (a := a) (b := b) h]
theorem sameQs_eq : ∀ {a b : List PyData}, sameQs a b = true → a = b
  | [], [], _ => rfl
  | a :: r, b :: q, h => by
    have h := Bool.and_eq_true_iff.mp h
    rw [sameQ_eq h.1, sameQs_eq h.2]
end
theorem seen_rel {K : PySem.W.Frag} {O : Off1} {H : Hp} : ∀ {xs : List V} {ds : List PyData} {us : List Value}, FzA K O H xs ds → Vals xs us → us.map seenV = ds.map seenP
  | _, _, _, .nil, .nil => rfl
  | _, _, _, .cons f fs, .cons r rs => by
    rw [List.map_cons, List.map_cons, seen_rel fs rs]
    congr 1
    cases f <;> cases r <;> first | rfl | (rename_i h; subst h; rfl)
theorem two_mem {f : PyData → PyData → Bool} : ∀ {ds : List PyData} {a b : PyData}, twoByTwo f ds = true → a ∈ ds → b ∈ ds → a = b ∨ f a b = true ∨ f b a = true
  | d :: ds, a, b, h, ha, hb => by
    simp only [twoByTwo, Bool.and_eq_true, List.all_eq_true] at h
    rcases List.mem_cons.mp ha with e1 | h1
    · rcases List.mem_cons.mp hb with e2 | h2
      · exact .inl (e1.trans e2.symm)
      · exact .inr (.inl (by rw [e1]; exact h.1 b h2))
    · rcases List.mem_cons.mp hb with e2 | h2
      · exact .inr (.inr (by rw [e2]; exact h.1 a h1))
      · exact two_mem h.2 h1 h2
theorem par_two {R : Value → PyData → Prop} {f : PyData → PyData → Bool} {us : List Value} {ds : List PyData} (h : Par R us ds) : twoByTwo f ds = true → ∀ {u v : Value}, u ∈ us → v ∈ us → u ≠ v → ∃ d e, R u d ∧ R v e ∧ (f d e = true ∨ f e d = true) := by
  induction h with
  | nil => intro _ u v hu; cases hu
  | @cons x d us ds r rs ih =>
    intro h u v hu hv huv
    simp only [twoByTwo, Bool.and_eq_true, List.all_eq_true] at h
    rcases List.mem_cons.mp hu with e1 | h1
    · rcases List.mem_cons.mp hv with e2 | h2
      · exact absurd (e1.trans e2.symm) huv
      · obtain ⟨e, he, r2⟩ := rs.left v h2
        exact ⟨d, e, by rw [e1]; exact r, r2, .inl (h.1 e he)⟩
    · rcases List.mem_cons.mp hv with e2 | h2
      · obtain ⟨e, he, r2⟩ := rs.left u h1
        exact ⟨e, d, r2, by rw [e2]; exact r, .inr (h.1 e he)⟩
      · exact ih h.2 h1 h2 huv
/-- a value, the thing that it stands for: a tuple -/
def TupV (K : PySem.W.Frag) (O : Off1) (H : Hp) (h : Heap) (v : Value) (d : PyData) : Prop := (∃ a, v = .ref a ∧ Fz K O H (.ref a) d) ∧ TupAt h v ∧ seenOf h v = (itemsP d).map seenP
section
variable {X : Cx} {pins : List (Addr × Obj)} {σ : L2.St} {H : Hp} {s : Shared} {O : Off1}
theorem tupV_rel (I : Inv X pins σ H s) : ∀ {xs : List V} {ds : List PyData} {us : List Value}, FzA X.K O H xs ds → (∀ d ∈ ds, ∃ es, d = .tuple es) → Vals xs us → Par (TupV X.K O H s.heap) us ds
  | _, _, _, .nil, _, .nil => .nil
  | _, _, _, .cons f fs, hd, .cons r rs => by
    refine .cons ?_ (tupV_rel I fs (fun d hm => hd d (List.mem_cons_of_mem _ hm)) rs)
    obtain ⟨es, rfl⟩ := hd _ List.mem_cons_self
    cases f with
    | @tup a ys _ t fa =>
      cases r
      obtain ⟨its, rv, ⟨o, ho, hc, n, hdt⟩, _⟩ := I.tuple t.sq
      refine ⟨⟨a, rfl, .tup t fa⟩, ⟨a, o, its.toArray, n, rfl, ho, hc, hdt⟩, ?_⟩
      rw [seenOf_at ho hdt]
      exact seen_rel fa rv
/-- sorted(xs) of tuples -/
def rSortQ (K : PySem.W.Frag) : List V → Hp → VK → Prop := fun vs H Q => ∃ (a : Addr) (xs : List V) (ds : List PyData) (O : Off1), vs = [V.ref a] ∧ SqL K H a xs ∧ FzA K O H xs ds ∧ srtOk ds = true ∧
  ∀ (ys : List V) (p : Addr), FzA K O H ys (srtL (leT ds) ds) → H p = none → Q (.ref p) (upd H p (.lst ys))
theorem fz_vals {K : PySem.W.Frag} {h : Heap} : ∀ {us : List Value} {ds : List PyData}, Par (TupV K O H h) us ds → FzA K O H (us.map bkV) ds ∧ Vals (us.map bkV) us
  | _, _, .nil => ⟨.nil, .nil⟩
  | _, _, .cons ⟨⟨a, e, f⟩, _⟩ r => by
    obtain ⟨h1, h2⟩ := fz_vals r
    subst e
    exact ⟨.cons f h1, .cons (show RelV (.ref a) (.ref a) from rfl) h2⟩
theorem cr_sortQ : CallR X (.builtin "sorted") (rSortQ X.K) := by
  intro pins s σ H vs us Q I r h
  obtain ⟨a, xs, ds, O, rfl, hs, f, hok, q⟩ := h
  obtain ⟨its, rv, hl, hz⟩ := I.list hs
  rw [Vals.ref1 r]
  unfold srtOk at hok
  rw [Bool.and_eq_true, Bool.and_eq_true, decide_eq_true_eq, Bool.or_eq_true] at hok
  obtain ⟨⟨h64, hhd⟩, hrk⟩ := hok
  have htup : ∀ d ∈ ds, ∃ es, d = .tuple es := fun d hd => by
    rcases hhd with k | k
    · have := List.all_eq_true.mp k d hd
      cases d with
      | tuple es => exact ⟨es, rfl⟩
      | _ => cases this
    · have := List.all_eq_true.mp k d hd
      cases d with
      | tuple es => exact ⟨es, rfl⟩
      | _ => cases this
  have pv := tupV_rel I f htup rv
  have hone : ∀ a b, rkOk ds a b = true → ltIt (itemsP a) (itemsP b) = some (decide (rkT ds a < rkT ds b)) ∧ ltIt (itemsP b) (itemsP a) = some (decide (rkT ds b < rkT ds a)) ∧ (rkT ds a = rkT ds b → a = b) := fun a b this => by
    unfold rkOk at this
    rw [Bool.and_eq_true, Bool.and_eq_true, decide_eq_true_eq, decide_eq_true_eq, Bool.or_eq_true, decide_eq_true_eq] at this
    refine ⟨this.1.1, this.1.2, fun e => ?_⟩
    rcases this.2 with z | z
    · exact absurd e z
    · exact sameQ_eq z
  have hanti : ∀ a ∈ ds, ∀ b ∈ ds, rkT ds a = rkT ds b → a = b := fun a ha b hb e => by
    rcases two_mem hrk ha hb with z | z | z
    · exact z
    · exact (hone a b z).2.2 e
    · exact ((hone b a z).2.2 e.symm).symm
  obtain ⟨rk, hrkd⟩ : ∃ rk : Value → Int, rk = fun v => (((ds.filter fun z => ltIt ((itemsP z).map seenP) (seenOf s.heap v) == some true).length : Nat) : Int) := ⟨_, rfl⟩
  have rk_of : ∀ v d, TupV X.K O H s.heap v d → rk v = ((rkT ds d : Nat) : Int) := fun v d t => by
    rw [hrkd]
    dsimp only
    rw [t.2.2]
    simp only [ltIt_seen]
    rfl
  have hlen : its.length < 64 := by rw [pv.len]; exact h64
  refine sorted_seen (r := rk) hl.isList hlen (fun v hv => ?_) ?_ (fun u hu v hv huv => ?_) fun out h1 h2 => ?_
  · obtain ⟨d, hd, t⟩ := pv.left v hv
    exact t.2.1
  · rcases hhd with k | k
    · refine .inl fun v hv => ?_
      obtain ⟨d, hd, t⟩ := pv.left v hv
      have := List.all_eq_true.mp k d hd
      rw [t.2.2]
      cases d with
      | tuple es =>
        cases es with
        | nil => cases this
        | cons e es =>
          cases e with
          | str u => exact ⟨_, _, rfl⟩
          | _ => cases this
      | _ => cases this
    · refine .inr fun v hv => ?_
      obtain ⟨d, hd, t⟩ := pv.left v hv
      have := List.all_eq_true.mp k d hd
      rw [t.2.2]
      cases d with
      | tuple es =>
        cases es with
        | nil => cases this
        | cons e es =>
          cases e with
          | int u => exact ⟨_, _, rfl⟩
          | _ => cases this
      | _ => cases this
  · obtain ⟨d, e, t, t2, z⟩ := par_two pv hrk hu hv huv
    rw [t.2.2, t2.2.2, ltIt_seen, rk_of u d t, rk_of v e t2]
    rcases z with z | z
    · rw [(hone d e z).1]
      congr 1
      exact decide_eq_decide.mpr (by omega)
    · rw [(hone e d z).2.1]
      congr 1
      exact decide_eq_decide.mpr (by omega)
  · obtain ⟨es, pe, pr⟩ := pv.perm h1
    have pw : es.Pairwise (fun a b => leT ds a b = true) := pr.pairwise (S := fun u v => rk u ≤ rk v) (fun u d v e t t2 hle => by
      rw [rk_of u d t, rk_of v e t2] at hle
      exact decide_eq_true (by omega)) h2
    have ee : es = srtL (leT ds) ds := sorted_one (le := leT ds) (fun a ha b hb h3 h4 => hanti a (pe.mem_iff.mp ha) b (pe.mem_iff.mp hb) (Nat.le_antisymm (of_decide_eq_true h3) (of_decide_eq_true h4))) (pe.trans (srtL_perm' ds).symm) pw (srtL_rank (rkT ds) ds)
    subst ee
    obtain ⟨ep, he'⟩ := PyProof.Rows.sortedAll_at s.heap its out
    obtain ⟨fz, vz⟩ := fz_vals pr
    have hl2 : (out.toList.map bkV).length ≤ sizeLine := by
      rw [List.length_map, h1.length_eq, ← rv.length]
      exact hz
    exact ⟨.ref _, upd H (s.heap.objs.size + 1) (.lst (out.toList.map bkV)), I.laid (t' := s.toks) (fun _ _ => PyProof.Rows.sortedAll_old) (Nat.le_succ _) ⟨hl2, out.toList, ep, vz, he'⟩, rfl, q _ _ fz (I.hok.fresh (Nat.le_succ _))⟩
/-- sorted(xs) of data that are alike -/
def rSortE (K : PySem.W.Frag) : List V → Hp → VK → Prop := fun vs H Q => ∃ (a : Addr) (xs : List V) (ds : List PyData) (O : Off1), vs = [V.ref a] ∧ SqL K H a xs ∧ FzA K O H xs ds ∧ srtD ds = true ∧
  ∀ (ys : List V) (p : Addr), FzA K O H ys (ds.mergeSort leD) → H p = none → Q (.ref p) (upd H p (.lst ys))
theorem each_fz {K : PySem.W.Frag} : ∀ {xs : List V} {ds : List PyData} {us : List Value}, FzA K O H xs ds → Vals xs us → PySem.W.EachIs (fun u d => ∃ x, RelV x u ∧ Fz K O H x d) us ds
  | _, _, _, .nil, .nil => .nil
  | _, _, _, .cons f fs, .cons r rs => .cons ⟨_, r, f⟩ (each_fz fs rs)
theorem each_back {K : PySem.W.Frag} {us : List Value} {ds : List PyData} (h : PySem.W.EachIs (fun u d => ∃ x, RelV x u ∧ Fz K O H x d) us ds) : ∃ xs, FzA K O H xs ds ∧ Vals xs us := by
  induction h with
  | nil => exact ⟨[], .nil, .nil⟩
  | cons a _ ih =>
    obtain ⟨x, r, f⟩ := a
    obtain ⟨xs, fs, rs⟩ := ih
    exact ⟨x :: xs, .cons f fs, .cons r rs⟩
theorem each_reads (I : Inv X pins σ H s) : ∀ {xs : List V} {ds : List PyData} {us : List Value}, FzA X.K O H xs ds → Vals xs us → PySem.W.EachIs (fun u d => ∃ as, Reads s.heap u d as) us ds
  | _, _, _, .nil, .nil => .nil
  | _, _, _, .cons f fs, .cons r rs => .cons (Dp.reads I _ _ _ (Fz.dp _ _ f) r) (each_reads I fs rs)
theorem cr_sortE (hu : X.A.units + 100 < cLine) : CallR X (.builtin "sorted") (rSortE X.K) := by
  intro pins s σ H vs us Q I r h
  obtain ⟨a, xs, ds, O, rfl, hs, f, hok, q⟩ := h
  obtain ⟨its, rv, hl, hz⟩ := I.list hs
  rw [Vals.ref1 r]
  unfold srtD at hok
  simp only [Bool.and_eq_true, decide_eq_true_eq, Bool.or_eq_true, List.all_eq_true] at hok
  obtain ⟨⟨⟨hlen, hk⟩, hal⟩, hd⟩ := hok
  have hid : ds.map id = ds := List.map_id ds
  refine PySem.W.sorted_data (vs := its) (bs := ds) (enc := id) (R := fun u d => ∃ x, RelV x u ∧ Fz X.K O H x d) hl.isList (each_fz f rv) (each_reads I f rv) (by rw [hid]; exact hal) ?_ (by rw [sizeLine_eq]; omega) (fun b hb => ?_) fun out ho eo => ?_
  · rw [hid]
    rcases hk with k | k
    · refine .inl fun d hd => ?_
      have := k d hd
      cases d with
      | tuple es =>
        cases es with
        | nil => cases this
        | cons e es => exact ⟨e, es, rfl⟩
      | _ => cases this
    · refine .inr fun d hd => ?_
      have := k d hd
      cases d with
      | tuple es => cases this
      | none => cases this
      | _ => exact ⟨nofun, fun xs e => nomatch e⟩
  · have h1 := hd b hb
    show X.A.units + 2 + b.depth < cLine
    omega
  · obtain ⟨ys, fy, ry⟩ := each_back eo
    obtain ⟨ep, he'⟩ := PyProof.Rows.sortedAll_at s.heap its (List.toArray out)
    have hl2 : ys.length ≤ sizeLine := by
      rw [ry.length, ho, sizeLine_eq]
      omega
    have he2 : (sortedAll s.heap its (List.toArray out)).get? (s.heap.objs.size + 1) = some (seqObj "list" (List.toArray out) ep) := he'
    exact ⟨.ref _, upd H (s.heap.objs.size + 1) (.lst ys), I.laid (t' := s.toks) (fun _ _ => PyProof.Rows.sortedAll_old) (Nat.le_succ _) ⟨hl2, out, ep, ry, he2⟩, rfl, q _ _ fy (I.hok.fresh (Nat.le_succ _))⟩
end
end Dn
namespace Dn
open PySem PySem.Spec PyProof.Rows L2
def rC1 (K : PySem.W.Frag) (g : D → Store → Res D) : List V → Hp → VK → Prop := fun vs H Q => ∃ G L st x d, vs = [x] ∧ Rl K G L st H ∧ RD K G L H x d ∧ Nw K G L H (g d st) (RD K G) Q
def rC2 (K : PySem.W.Frag) (g : D → D → Store → Res D) : List V → Hp → VK → Prop := fun vs H Q => ∃ G L st x y d e, vs = [x, y] ∧ Rl K G L st H ∧ RD K G L H x d ∧ RD K G L H y e ∧ Nw K G L H (g d e st) (RD K G) Q
def rM0 (K : PySem.W.Frag) (g : D → Store → Res D) : V → List V → Hp → VK → Prop := fun x vs H Q => ∃ G L st d, vs = [] ∧ Rl K G L st H ∧ RD K G L H x d ∧ Nw K G L H (g d st) (RD K G) Q
def rM1 (K : PySem.W.Frag) (g : D → D → Store → Res D) : V → List V → Hp → VK → Prop := fun x vs H Q => ∃ G L st y d e, vs = [y] ∧ Rl K G L st H ∧ RD K G L H x d ∧ RD K G L H y e ∧ Nw K G L H (g d e st) (RD K G) Q
def rM2 (K : PySem.W.Frag) (g : D → D → D → Store → Res D) : V → List V → Hp → VK → Prop := fun x vs H Q => ∃ G L st y z d e f, vs = [y, z] ∧ Rl K G L st H ∧ RD K G L H x d ∧ RD K G L H y e ∧ RD K G L H z f ∧ Nw K G L H (g d e f st) (RD K G) Q
theorem CallR.imp {X : Cx} {f : Value} {r r' : List V → Hp → VK → Prop} (h : CallR X f r) (hi : ∀ vs H Q, r' vs H Q → r vs H Q) : CallR X f r' := fun pins s σ H vs us Q I rv q => h pins s σ H vs us Q I rv (hi vs H Q q)
theorem MtR.imp {X : Cx} {id : String} {r r' : V → List V → Hp → VK → Prop} (h : MtR X id r) (hi : ∀ x vs H Q, r' x vs H Q → r x vs H Q) : MtR X id r' := fun pins s σ H x vs v us Q I rx rv q => h pins s σ H x vs v us Q I rx rv (hi x vs H Q q)
section
variable {K : PySem.W.Frag} {O : Off1} {H : Hp}
theorem bools_rel : ∀ {es : List PyData} {xs : List V} {bs : List Bool}, FzA K O H xs es → boolsOf es = some bs → xs = bs.map V.bl
  | [], _, bs, .nil, h => by simp [boolsOf] at h; subst h; rfl
  | e :: es, _, bs, .cons a b, h => by
    cases e <;> simp [boolsOf] at h
    obtain ⟨cs, h1, h2⟩ := h
    subst h2
    rw [bools_rel b h1, fz_bool a]
    rfl
theorem ints_rel : ∀ {es : List PyData} {xs : List V} {bs : List Int}, FzA K O H xs es → intsOf es = some bs → xs = bs.map V.int
  | [], _, bs, .nil, h => by simp [intsOf] at h; subst h; rfl
  | e :: es, _, bs, .cons a b, h => by
    cases e <;> simp [intsOf] at h
    obtain ⟨cs, h1, h2⟩ := h
    subst h2
    rw [ints_rel b h1, fz_int a]
    rfl
theorem strs_rel : ∀ {es : List PyData} {xs : List V} {bs : List Str}, FzA K O H xs es → strsOf es = some bs → xs = bs.map V.str ∧ ∀ x ∈ bs, sOk x
  | [], _, bs, .nil, h => by simp [strsOf] at h; subst h; exact ⟨rfl, by simp⟩
  | e :: es, _, bs, .cons a b, h => by
    cases e <;> simp [strsOf] at h
    obtain ⟨cs, h1, h2⟩ := h
    subst h2
    obtain ⟨e1, o⟩ := strs_rel b h1
    obtain ⟨e2, o2⟩ := fz_str a
    rw [e1, e2]
    exact ⟨rfl, fun x hx => by
      rcases List.mem_cons.mp hx with z | z
      · rw [z]; exact o2
      · exact o x z⟩
theorem fz_ints (O : Off1) : ∀ ns : List Int, FzA K O H (ns.map V.int) (ns.map .int)
  | [] => .nil
  | n :: ns => .cons (.int n) (fz_ints O ns)
theorem fz_strs (O : Off1) : ∀ xs : List Str, (∀ x ∈ xs, sOk x) → FzA K O H (xs.map V.str) (xs.map .str)
  | [], _ => .nil
  | x :: xs, h => .cons (.str x (h x (by simp))) (fz_strs O xs fun y hy => h y (by simp [hy]))
end
/-! ### sorting -/
section
variable {α : Type} {le : α → α → Bool}
theorem insL_perm (x : α) : ∀ l : List α, (insL le x l).Perm (x :: l)
  | [] => List.Perm.refl _
  | y :: r => by
    unfold insL
    split
    · exact List.Perm.refl _
    · exact (List.Perm.cons y (insL_perm x r)).trans (List.Perm.swap x y r)
theorem srtL_perm : ∀ l : List α, (srtL le l).Perm l
  | [] => List.Perm.refl _
  | x :: r => (insL_perm x _).trans (List.Perm.cons x (srtL_perm r))
theorem insL_sorted (tot : ∀ a b, le a b = true ∨ le b a = true) (tr : ∀ a b c, le a b = true → le b c = true → le a c = true) (x : α) : ∀ l : List α, l.Pairwise (fun a b => le a b = true) → (insL le x l).Pairwise (fun a b => le a b = true)
  | [], _ => by simp [insL]
  | y :: r, h => by
    unfold insL
    rw [List.pairwise_cons] at h
    split
    · rename_i hxy
      rw [List.pairwise_cons, List.pairwise_cons]
      exact ⟨fun z hz => by
        rcases List.mem_cons.mp hz with q | q
        · rw [q]; exact hxy
        · exact tr x y z hxy (h.1 z q), h⟩
    · rename_i hxy
      have hyx : le y x = true := by
        rcases tot x y with q | q
        · exact absurd q hxy
        · exact q
      rw [List.pairwise_cons]
      refine ⟨fun z hz => ?_, insL_sorted tot tr x r h.2⟩
      rcases List.mem_cons.mp ((insL_perm x r).mem_iff.mp hz) with q | q
      · rw [q]; exact hyx
      · exact h.1 z q
theorem srtL_sorted (tot : ∀ a b, le a b = true ∨ le b a = true) (tr : ∀ a b c, le a b = true → le b c = true → le a c = true) : ∀ l : List α, (srtL le l).Pairwise (fun a b => le a b = true)
  | [] => by simp [srtL]
  | x :: r => insL_sorted tot tr x _ (srtL_sorted tot tr r)
theorem sorted_uniq (anti : ∀ a b, le a b = true → le b a = true → a = b) : ∀ {l m : List α}, l.Perm m → l.Pairwise (fun a b => le a b = true) → m.Pairwise (fun a b => le a b = true) → l = m
  | [], m, p, _, _ => by simpa using p
  | x :: l, [], p, _, _ => by simpa using p
  | x :: l, y :: m, p, h1, h2 => by
    rw [List.pairwise_cons] at h1 h2
    have e : x = y := by
      by_cases q : x = y
      · exact q
      · have a1 : x ∈ m := by
          have := p.mem_iff.mp (List.mem_cons_self (a := x) (l := l))
          rcases List.mem_cons.mp this with z | z
          · exact absurd z q
          · exact z
        have a2 : y ∈ l := by
          have := p.mem_iff.mpr (List.mem_cons_self (a := y) (l := m))
          rcases List.mem_cons.mp this with z | z
          · exact absurd z.symm q
          · exact z
        exact anti x y (h1.1 y a2) (h2.1 x a1)
    subst e
    rw [sorted_uniq anti (List.Perm.cons_inv p) h1.2 h2.2]
end
theorem ltCps_eq : ∀ a b : List Nat, PySem.Spec.ltCps a b = decide (a < b)
  | [], [] => by simp [PySem.Spec.ltCps]
  | [], _ :: _ => by simp [PySem.Spec.ltCps]
  | _ :: _, [] => by simp [PySem.Spec.ltCps]
  | a :: r, b :: t => by
    have ih := ltCps_eq r t
    simp only [PySem.Spec.ltCps, ih, List.cons_lt_cons_iff]
    by_cases h1 : a < b
    · simp [h1]
    · by_cases h2 : a = b
      · simp [h2]
      · simp [h1, h2]
theorem strLe_tot (a b : Str) : strLe a b = true ∨ strLe b a = true := by
  unfold strLe strLt
  by_cases h : b.cps.toList < a.cps.toList
  · right
    simp [List.lt_asymm h]
  · left
    simp [h]
theorem strLe_tr (a b c : Str) : strLe a b = true → strLe b c = true → strLe a c = true := by
  unfold strLe strLt
  simp only [Bool.not_eq_true', decide_eq_false_iff_not, List.not_lt]
  exact fun h1 h2 => List.le_trans h1 h2
theorem strLe_anti (a b : Str) : strLe a b = true → strLe b a = true → a = b := by
  unfold strLe strLt
  simp only [Bool.not_eq_true', decide_eq_false_iff_not, List.not_lt]
  intro h1 h2
  have e := List.le_antisymm h1 h2
  cases a; cases b
  congr 1
  exact Array.ext' e
theorem sortedS_pw : ∀ {l : List Str}, sortedS l = true → l.Pairwise (fun a b => strLe a b = true)
  | [], _ => by simp
  | x :: r, h => by
    have key : ∀ (r : List Str) (p : Str), risingS p r = true → (p :: r).Pairwise (fun a b => strLe a b = true) := by
      intro r
      induction r with
      | nil => intro p _; simp
      | cons y t ih =>
        intro p hp
        unfold risingS at hp
        rw [Bool.and_eq_true, ltCps_eq] at hp
        have h2 := ih y hp.2
        have le1 : strLe p y = true := hp.1
        rw [List.pairwise_cons]
        refine ⟨fun z hz => ?_, h2⟩
        rw [List.pairwise_cons] at h2
        rcases List.mem_cons.mp hz with q | q
        · rw [q]; exact le1
        · exact strLe_tr p y z le1 (h2.1 z q)
    exact key r x h
theorem maxL_spec : ∀ (l : List Int) (n : Int), maxL n l ∈ n :: l ∧ ∀ y ∈ n :: l, y ≤ maxL n l
  | [], n => by simp [maxL]
  | m :: r, n => by
    unfold maxL
    by_cases c : m > n
    · rw [if_pos c]
      obtain ⟨h1, h2⟩ := maxL_spec r m
      refine ⟨by simp [List.mem_cons.mp h1], fun y hy => ?_⟩
      have h3 := h2 m (by simp)
      rcases List.mem_cons.mp hy with q | q
      · omega
      · exact h2 y q
    · rw [if_neg c]
      obtain ⟨h1, h2⟩ := maxL_spec r n
      refine ⟨?_, fun y hy => ?_⟩
      · rcases List.mem_cons.mp h1 with q | q
        · rw [q]; simp
        · simp [q]
      have h3 := h2 n (by simp)
      rcases List.mem_cons.mp hy with q | q
      · omega
      · rcases List.mem_cons.mp q with q | q
        · omega
        · exact h2 y (by simp [q])
theorem minL_spec : ∀ (l : List Int) (n : Int), minL n l ∈ n :: l ∧ ∀ y ∈ n :: l, minL n l ≤ y
  | [], n => by simp [minL]
  | m :: r, n => by
    unfold minL
    by_cases c : m < n
    · rw [if_pos c]
      obtain ⟨h1, h2⟩ := minL_spec r m
      refine ⟨by simp [List.mem_cons.mp h1], fun y hy => ?_⟩
      have h3 := h2 m (by simp)
      rcases List.mem_cons.mp hy with q | q
      · omega
      · exact h2 y q
    · rw [if_neg c]
      obtain ⟨h1, h2⟩ := minL_spec r n
      refine ⟨?_, fun y hy => ?_⟩
      · rcases List.mem_cons.mp h1 with q | q
        · rw [q]; simp
        · simp [q]
      have h3 := h2 n (by simp)
      rcases List.mem_cons.mp hy with q | q
      · omega
      · rcases List.mem_cons.mp q with q | q
        · omega
        · exact h2 y (by simp [q])
/-! ### calls of built-ins -/
def tyName : Ty → String
  | .str => "str" | .tuple => "tuple" | .list => "list" | .int => "int" | .bool => "bool" | .dict => "dict" | .none => "NoneType"
theorem tyOf_rel {K : PySem.W.Frag} {G : Off1} {L : Lc} {H : Hp} {st : Store} (rl : Rl K G L st H) {x : V} {d : D} {t : Ty} (h : RD K G L H x d) (e : tyOf d st = some t) : TyX K H x (.type (tyName t)) := by
  unfold tyOf at e
  split at e <;> (try cases e)
  · cases h; exact .base .non
  · cases h; exact .base (.bl _)
  · cases h; exact .base (.int _)
  · cases h; exact .base (.str _)
  · obtain ⟨a, xs, rfl, s, _⟩ := fz_lst h
    rcases s with ⟨s | ⟨o, s⟩, _⟩ | s
    · exact .base (.lst s)
    · exact .base (.frz s)
    · rcases s with s | ⟨o, its, n, h1, h2, _⟩
      · exact absurd s noRd
      · exact .kList h1 h2
  · obtain ⟨a, xs, rfl, s, _⟩ := fz_tup h
    rcases s with ⟨o, s, _, _⟩ | ⟨o, its, n, h1, h2, _⟩
    · exact .fTuple s
    · exact .kTuple h1 h2
  · split at e <;> (try cases e)
    · rename_i hst
      obtain ⟨a, e2, e3, xs, e4, f⟩ := ref_rel rl h hst (by simp)
      subst e2
      exact .base (.lst e4)
    · rename_i hst
      obtain ⟨a, e2, e3, xs, e4, f⟩ := ref_rel rl h hst (by simp)
      subst e2
      exact .base (.dK e4)
theorem kitB_is (a b : Ty) (hb : b ≠ .none) : kitB (tyName a) (tyName b) = some (isTy a b) := by
  cases b <;> first | exact absurd rfl hb | (cases a <;> decide +kernel)
section
variable {X : Cx}
theorem c_len : CallR X (.builtin "len") (rC1 X.K (op1 .len)) := by
  intro pins s σ H vs us Q I r h
  obtain ⟨G, L, st, x, d, rfl, rl, hd, q⟩ := h
  unfold op1 at q
  simp only at q
  split at q
  · obtain ⟨e, o⟩ := fz_str hd
    subst e
    exact call_len pins s σ H _ us Q I r ⟨_, _, rfl, ⟨o.2, rfl⟩, q.pure rl (.int _)⟩
  · split at q
    · rename_i hst
      obtain ⟨a, e2, e3, xs, e4, f⟩ := ref_rel rl hd hst (by simp)
      subst e2
      exact call_len pins s σ H _ us Q I r ⟨_, _, rfl, .inl ⟨xs, SqL.of e4, (Paired.length f).symm⟩, q.pure rl (.int _)⟩
    · rename_i hst
      obtain ⟨a, e2, e3, xs, e4, f⟩ := ref_rel rl hd hst (by simp)
      subst e2
      obtain ⟨u, rfl, ru⟩ := vals1 r
      cases ru
      refine d_len I (.inl e4) fun t s' I' => ⟨.int xs.length, H, I', ⟨_, rfl⟩, ?_⟩
      rw [Paired.length f]
      exact q.pure rl (.int _)
    · exact q.elim
  · obtain ⟨a, xs, e, s1, f⟩ := fz_lst hd
    subst e
    exact call_len pins s σ H _ us Q I r ⟨_, _, rfl, .inl ⟨xs, s1.sq, f.len.symm⟩, q.pure rl (.int _)⟩
  · obtain ⟨a, xs, e, s1, f⟩ := fz_tup hd
    subst e
    exact call_len pins s σ H _ us Q I r ⟨_, _, rfl, .inr ⟨xs, s1.sq, f.len.symm⟩, q.pure rl (.int _)⟩
  · exact q.elim
theorem c_abs : CallR X (.builtin "abs") (rC1 X.K (op1 .abs)) := by
  refine CallR.imp call_abs fun vs H Q h => ?_
  obtain ⟨G, L, st, x, d, rfl, rl, hd, q⟩ := h
  unfold op1 at q
  simp only at q
  split at q
  · exact ⟨_, by rw [fz_int hd], q.pure rl (.int _)⟩
  · exact q.elim
theorem c_int : CallR X (.type "int") (rC1 X.K (op1 .int)) := by
  refine CallR.imp call_int1 fun vs H Q h => ?_
  obtain ⟨G, L, st, x, d, rfl, rl, hd, q⟩ := h
  unfold op1 at q
  simp only at q
  split at q
  · exact .inl ⟨_, by rw [fz_int hd], q.pure rl (.int _)⟩
  · exact .inr ⟨_, by rw [fz_bool hd], q.pure rl (.int _)⟩
  · exact q.elim
theorem c_str : CallR X (.type "str") (rC1 X.K (op1 .str)) := by
  refine CallR.imp call_str_int fun vs H Q h => ?_
  obtain ⟨G, L, st, x, d, rfl, rl, hd, q⟩ := h
  unfold op1 at q
  simp only at q
  split at q
  · split at q
    · rename_i hlt
      exact ⟨_, by rw [fz_int hd], hlt.1, q.pure rl (.str _ hlt.2)⟩
    · exact q.elim
  · exact q.elim
theorem c_all (hc : X.calm = true) : CallR X (.builtin "all") (rC1 X.K (op1 .all)) := by
  refine CallR.imp (cr_all hc) fun vs H Q h => ?_
  obtain ⟨G, L, st, x, d, rfl, rl, hd, q⟩ := h
  unfold op1 at q
  simp only at q
  obtain ⟨bs, e, q⟩ := q.of_map
  obtain ⟨es, e1, e2⟩ := Option.bind_eq_some_iff.mp e
  obtain ⟨a, xs, rfl, s1, f⟩ := listP_rel rl hd e1
  have := bools_rel f e2
  subst this
  exact ⟨a, bs, rfl, s1, q.pure rl (.bl _)⟩
theorem c_any (hc : X.calm = true) : CallR X (.builtin "any") (rC1 X.K (op1 .any)) := by
  refine CallR.imp (cr_any hc) fun vs H Q h => ?_
  obtain ⟨G, L, st, x, d, rfl, rl, hd, q⟩ := h
  unfold op1 at q
  simp only at q
  obtain ⟨bs, e, q⟩ := q.of_map
  obtain ⟨es, e1, e2⟩ := Option.bind_eq_some_iff.mp e
  obtain ⟨a, xs, rfl, s1, f⟩ := listP_rel rl hd e1
  have := bools_rel f e2
  subst this
  exact ⟨a, bs, rfl, s1, q.pure rl (.bl _)⟩
theorem c_sum (hc : X.calm = true) : CallR X (.builtin "sum") (rC1 X.K (op1 .sum)) := by
  refine CallR.imp (cr_sum hc) fun vs H Q h => ?_
  obtain ⟨G, L, st, x, d, rfl, rl, hd, q⟩ := h
  unfold op1 at q
  simp only at q
  obtain ⟨bs, e, q⟩ := q.of_map
  obtain ⟨es, e1, e2⟩ := Option.bind_eq_some_iff.mp e
  obtain ⟨a, xs, rfl, s1, f⟩ := listP_rel rl hd e1
  have := ints_rel f e2
  subst this
  exact ⟨a, bs, rfl, s1, q.pure rl (.int _)⟩
theorem c_mx (hc : X.calm = true) : CallR X (.builtin "max") (rC1 X.K (op1 .mx)) := by
  refine CallR.imp (cr_max hc) fun vs H Q h => ?_
  obtain ⟨G, L, st, x, d, rfl, rl, hd, q⟩ := h
  unfold op1 at q
  simp only at q
  split at q
  · rename_i n r e
    obtain ⟨es, e1, e2⟩ := Option.bind_eq_some_iff.mp e
    obtain ⟨a, xs, rfl, s1, f⟩ := listP_rel rl hd e1
    have := ints_rel f e2
    subst this
    refine ⟨a, n :: r, rfl, s1, by simp, fun m hm hb => ?_⟩
    obtain ⟨h1, h2⟩ := maxL_spec r n
    have : m = maxL n r := by
      have a1 := hb _ h1
      have a2 := h2 _ hm
      omega
    subst this
    exact q.pure rl (.int _)
  · exact q.elim
theorem c_mn (hc : X.calm = true) : CallR X (.builtin "min") (rC1 X.K (op1 .mn)) := by
  refine CallR.imp (cr_min hc) fun vs H Q h => ?_
  obtain ⟨G, L, st, x, d, rfl, rl, hd, q⟩ := h
  unfold op1 at q
  simp only at q
  split at q
  · rename_i n r e
    obtain ⟨es, e1, e2⟩ := Option.bind_eq_some_iff.mp e
    obtain ⟨a, xs, rfl, s1, f⟩ := listP_rel rl hd e1
    have := ints_rel f e2
    subst this
    refine ⟨a, n :: r, rfl, s1, by simp, fun m hm hb => ?_⟩
    obtain ⟨h1, h2⟩ := minL_spec r n
    have : m = minL n r := by
      have a1 := hb _ h1
      have a2 := h2 _ hm
      omega
    subst this
    exact q.pure rl (.int _)
  · exact q.elim
theorem c_mx2 (hc : X.calm = true) : CallR X (.builtin "max") (rC2 X.K (op2 .mx2)) := by
  refine CallR.imp (call_max2 hc) fun vs H Q h => ?_
  obtain ⟨G, L, st, x, y, d, e, rfl, rl, hd, he, q⟩ := h
  unfold op2 at q
  simp only at q
  split at q
  · exact ⟨_, _, by rw [fz_int hd, fz_int he], q.pure rl (.int _)⟩
  · exact q.elim
theorem c_mn2 (hc : X.calm = true) : CallR X (.builtin "min") (rC2 X.K (op2 .mn2)) := by
  refine CallR.imp (call_min2 hc) fun vs H Q h => ?_
  obtain ⟨G, L, st, x, y, d, e, rfl, rl, hd, he, q⟩ := h
  unfold op2 at q
  simp only at q
  split at q
  · exact ⟨_, _, by rw [fz_int hd, fz_int he], q.pure rl (.int _)⟩
  · exact q.elim
theorem call_tupleF : CallR X (.type "tuple") (fun xs H Q => ∃ p ys, xs = [.ref p] ∧ ((SqL X.K H p ys ∧ NewT ys H Q) ∨ (SqT X.K H p ys ∧ Q (.ref p) H))) := by
  intro pins s σ H xs us Q I r h
  obtain ⟨p, ys, rfl, h⟩ := h
  obtain ⟨u, rfl, rx⟩ := vals1 r
  cases rx
  rcases h with ⟨hq, q⟩ | ⟨hq, q⟩
  · obtain ⟨its, r', pl, hz⟩ := I.list hq
    have hlen := r'.length
    refine call_tuple_list pl.isList (fun h' kp => ?_) (by simp only [List.size_toArray] <;> omega)
    have I1 : L2.Inv X pins σ H { s with heap := h' } := I.kept (t' := s.toks) kp
    exact laidT (s := { s with heap := h' }) (t' := s.toks) I1 (fun b o e => Heap.get?_push_of_some _ e) (Nat.le_refl _) (Heap.get?_push_size _ rfl) r' hz q
  · obtain ⟨its, r', pl, hz⟩ := I.tuple hq
    exact call_tuple_same pl ⟨.ref p, H, I, rfl, q⟩
theorem c_tup : CallR X (.type "tuple") (rC1 X.K (op1 .tup)) := by
  refine CallR.imp call_tupleF fun vs H Q h => ?_
  obtain ⟨G, L, st, x, d, rfl, rl, hd, q⟩ := h
  unfold op1 at q
  simp only at q
  split at q
  · obtain ⟨a, xs, e, s1, f⟩ := fz_tup hd
    subst e
    exact ⟨a, xs, rfl, .inr ⟨s1.sq, q.pure rl hd⟩⟩
  · obtain ⟨es, e1, q⟩ := q.of_map
    obtain ⟨a, xs, rfl, s1, f⟩ := listP_rel rl hd e1
    exact ⟨a, xs, rfl, .inl ⟨s1, fun p o ho hp => q.newT rl f hp ho⟩⟩
/-- a new list of either kind -/
theorem newL_rel {K : PySem.W.Frag} {G : Off1} {L : Lc} {H : Hp} {st : Store} {Q : VK} {m : Bool} {ds : List D} {xs : List V} (q : Nw K G L H (newL m ds st) (RD K G) Q) (rl : Rl K G L st H) (f : RDs K G L H xs ds) :
    ds.length ≤ sizeLine ∧ ∀ p, H p = none → Q (.ref p) (upd H p (.lst xs)) := by
  unfold newL at q
  split at q
  · exact q.elim
  · rename_i hl
    refine ⟨by omega, fun p hp => ?_⟩
    split at q
    · exact q.newM rl f hp
    · obtain ⟨es, e1, q⟩ := q.of_map
      exact q.newL rl (allP_rel f e1) hp
theorem c_lst (m : Bool) : CallR X (.type "list") (rC1 X.K (op1 (.lst m))) := by
  refine CallR.imp call_list_of fun vs H Q h => ?_
  obtain ⟨G, L, st, x, d, rfl, rl, hd, q⟩ := h
  unfold op1 at q
  simp only at q
  split at q
  · rename_i ds e
    obtain ⟨a, xs, rfl, s1, f⟩ := seqD_rel rl hd e
    exact ⟨a, xs, rfl, s1, (newL_rel q rl f).2⟩
  · exact q.elim
theorem c_srt (hu : X.A.units + 100 < cLine) : CallR X (.builtin "sorted") (rC1 X.K (op1 .srt)) := by
  refine CallR.imp (CallR.or cr_sorted (CallR.or cr_sortedS (CallR.or cr_sortQ (cr_sortE hu)))) fun vs H Q h => ?_
  obtain ⟨G, L, st, x, d, rfl, rl, hd, q⟩ := h
  unfold op1 at q
  simp only at q
  split at q
  · rename_i ds e
    obtain ⟨a, xs, rfl, s1, f⟩ := listP_rel rl hd e
    split at q
    · rename_i ns e2
      have := ints_rel f e2
      subst this
      split at q
      · rename_i h64
        refine .inl ⟨a, ns, rfl, s1, h64, fun ns' p hp1 hp2 hp => ?_⟩
        have e3 : ns' = srtL (fun a b => decide (a ≤ b)) ns := by
          refine sorted_uniq (le := fun a b : Int => decide (a ≤ b)) (fun a b h1 h2 => ?_) (hp1.trans (srtL_perm ns).symm) (hp2.imp fun h => by simpa using h) (srtL_sorted (fun a b => ?_) (fun a b c h1 h2 => ?_) ns)
          · simp at h1 h2; omega
          · simp; omega
          · simp at h1 h2 ⊢; omega
        subst e3
        exact q.newL rl (fz_ints _ _) hp
      · exact q.elim
    · split at q
      · rename_i ys e2
        obtain ⟨e3, ok⟩ := strs_rel f e2
        subst e3
        split at q
        · rename_i h64
          refine .inr (.inl ⟨a, ys, rfl, s1, h64, fun ys' p hp1 hp2 hp => ?_⟩)
          have e3 : ys' = srtL strLe ys := sorted_uniq strLe_anti (hp1.trans (srtL_perm ys).symm) (sortedS_pw hp2) (srtL_sorted strLe_tot strLe_tr ys)
          subst e3
          exact q.newL rl (fz_strs _ _ fun x hx => ok x ((srtL_perm ys).mem_iff.mp hx)) hp
        · exact q.elim
      · split at q
        · rename_i hok
          exact .inr (.inr (.inl ⟨a, xs, ds, _, rfl, s1, f, hok, fun ys p fz hp => q.newL rl fz hp⟩))
        · split at q
          · rename_i hok
            exact .inr (.inr (.inr ⟨a, xs, ds, _, rfl, s1, f, hok, fun ys p fz hp => q.newL rl fz hp⟩))
          · exact q.elim
  · exact q.elim
end
end Dn
namespace Dn
open PySem PySem.Spec PyProof.Rows L2
/-! ### methods of lists -/
theorem list_extW (l : Addr) (items : Array Value) (n : Nat) (b : Addr) (items2 : Array Value) (n2 : Nat) (dd2 : Option Addr) (sl2 : Array (Option Value)) (hc0 : ¬(!items.isEmpty && Builtin.List.listTooLong (items.size + items2.size)) = true) (hc1 : items.size ≤ sizeLine) (hs2 : items.size + items2.size ≤ sizeLine + 1) :
    Meets (Builtin.«list.extend» ⟨[.ref l, .ref b], []⟩) (fun _ R s => s.heap.get? l = some { cls := .type "list", dict := none, data := .seq items n, slots := #[] } ∧
      s.heap.get? b = some { cls := .type "list", dict := dd2, data := .seq items2 n2, slots := sl2 } ∧
      R (.ok (.ret Value.none)) { s with heap := s.heap.update l (Obj.mapSeq fun x => x ++ items2), toks := s.toks }) :=
  .of_wp fun prog w A R s h => by
    obtain ⟨hp, g, d, tk, os⟩ := s
    obtain ⟨hl, hb, h⟩ := h
    have e1 := AutoSeq1.sub_list_list
    have e2 := AutoSeq1.sub_tuple_list
    have hz' : (items ++ items2).size ≤ sizeLine + 1 := by
      rw [Array.size_append]
      exact hs2
    wp_walk using (wpAny_updateSeq hl rfl (hz := hc1) (_hz' := hz')), wpAny_loadPart' hl, wpAny_loadPart' hb
    exact ⟨_, rfl, h⟩
section
variable {X : Cx}
theorem m_app : MtR X "list.append" (rM1 X.K (op2 .app)) := by
  refine MtR.imp mt_append fun x vs H Q h => ?_
  obtain ⟨G, L, st, y, d, e, rfl, rl, hd, he, q⟩ := h
  unfold op2 at q
  simp only at q
  split at q
  · split at q
    · split at q
      · rename_i hst hz
        obtain ⟨a, e2, e3, xs, e4, f⟩ := ref_rel rl hd hst (by simp)
        exact ⟨a, xs, y, e2, rfl, e4, by rw [Paired.length f]; exact hz, q.put rl e3 ⟨_, upd_same, (RDs.snoc (f.mono (Po.write ⟨_, e3⟩)) (RD.mono (Po.write ⟨_, e3⟩) he))⟩ .non⟩
      · exact q.elim
    · exact q.elim
  · exact q.elim
theorem m_ext : MtR X "list.extend" (rM1 X.K (op2 .ext)) := by
  intro pins s σ H x vs v us Q I rx rv h
  obtain ⟨G, L, st, y, d, e, rfl, rl, hd, he, q⟩ := h
  unfold op2 at q
  simp only at q
  split at q
  · split at q
    · split at q
      · split at q
        · rename_i ds hst _ es hes hz
          obtain ⟨a, e2, e3, xs, e4, f⟩ := ref_rel rl hd hst (by simp)
          obtain ⟨b, ys, rfl, s1, f2⟩ := listP_rel rl he hes
          subst e2
          cases rx
          obtain ⟨u, rfl, ru⟩ := rv.one
          cases ru
          obtain ⟨z, its, n, r, hl, e⟩ := I.lstM e4
          obtain ⟨its2, r2, ⟨⟨c1, d1, t1, sl2⟩, n2, e5, hc, hdd, ht⟩, z2⟩ := I.list s1
          simp only at hc hdd ht
          subst hc hdd ht
          have l1 := Paired.length f
          have l2 := f2.len
          have l3 := r2.length
          have l4 := r.length
          have hsz : its.toArray.size + its2.toArray.size ≤ sizeLine := by
            rw [List.size_toArray, List.size_toArray]
            omega
          have hlong : ¬ (!its.toArray.isEmpty && Builtin.List.listTooLong (its.toArray.size + its2.toArray.size)) = true := by
            rw [notLongL hsz, Bool.and_false]
            exact Bool.false_ne_true
          refine call_meets PySem.F.slot_list_extend ⟨_, e, rfl⟩ PySem.F.entry_list_extend (PySem.F.args_list_extend_2 _ _)
            (list_extW a its.toArray n b its2.toArray n2 none sl2 hlong (by rw [List.size_toArray]; omega) (by omega)) ⟨e, e5, ?_⟩
          refine ⟨.non, _, I.lset (its' := its ++ its2) (ys := xs ++ ys) e4 e (by simp) (r.append r2) (by rw [List.length_append]; omega), rfl, ?_⟩
          exact q.put rl e3 ⟨_, upd_same, (f.mono (Po.write ⟨_, e3⟩)).app (RDs.mono (Po.write ⟨_, e3⟩) (mapP_rel f2))⟩ .non
        · exact q.elim
      · exact q.elim
    · exact q.elim
  · exact q.elim
theorem m_pop : MtR X "list.pop" (rM0 X.K (op1 .pop)) := by
  refine MtR.imp mt_pop fun x vs H Q h => ?_
  obtain ⟨G, L, st, d, rfl, rl, hd, q⟩ := h
  unfold op1 at q
  simp only at q
  split at q
  · split at q
    · split at q
      · rename_i hst _ y hy
        obtain ⟨a, e2, e3, xs, e4, f⟩ := ref_rel rl hd hst (by simp)
        obtain ⟨w, h5, h6⟩ := f.last hy
        exact ⟨a, xs, w, e2, rfl, e4, h5, q.put rl e3 ⟨_, upd_same, (f.mono (Po.write ⟨_, e3⟩)).dropLast⟩ (RD.mono (Po.write ⟨_, e3⟩) h6)⟩
      · exact q.elim
    · exact q.elim
  · exact q.elim
theorem ixN_lt {n : Nat} {i : Int} {j : Nat} (h : ixN n i = some j) (hn : n ≤ sizeLine) : -(2 ^ 63) ≤ i ∧ i < 2 ^ 63 := by
  obtain ⟨_, _, h1, h2⟩ := ixN_seq h
  rw [sizeLine_eq] at hn
  omega
theorem m_popi : MtR X "list.pop" (rM1 X.K (op2 .popi)) := by
  intro pins s σ H x vs v us Q I rx rv h
  obtain ⟨G, L, st, y, d, e, rfl, rl, hd, he, q⟩ := h
  unfold op2 at q
  simp only at q
  split at q
  · split at q
    · split at q
      · split at q
        · rename_i hst _ j hj _ z hz
          obtain ⟨a, e2, e3, xs, e4, f⟩ := ref_rel rl hd hst (by simp)
          obtain ⟨w, h5, h6⟩ := f.get hz
          rw [ixOf_eq, ← Paired.length f] at hj
          obtain ⟨h1, h2⟩ := ixN_lt hj (I.lstM e4).1
          exact mt_popAt pins s σ H x _ v us Q I rx rv ⟨a, xs, _, j, w, e2, by rw [fz_int he], e4, h1, h2, (ixN_seq hj).1, h5, q.put rl e3 ⟨_, upd_same, (f.mono (Po.write ⟨_, e3⟩)).eraseIdx j⟩ (RD.mono (Po.write ⟨_, e3⟩) h6)⟩
        · exact q.elim
      · exact q.elim
    · exact q.elim
  · exact q.elim
theorem m_rev : MtR X "list.reverse" (rM0 X.K (op1 .rev)) := by
  refine MtR.imp mt_reverse fun x vs H Q h => ?_
  obtain ⟨G, L, st, d, rfl, rl, hd, q⟩ := h
  unfold op1 at q
  simp only at q
  split at q
  · split at q
    · rename_i hst
      obtain ⟨a, e2, e3, xs, e4, f⟩ := ref_rel rl hd hst (by simp)
      exact ⟨a, xs, e2, rfl, e4, q.put rl e3 ⟨_, upd_same, (f.mono (Po.write ⟨_, e3⟩)).rev⟩ .non⟩
    · exact q.elim
  · exact q.elim
theorem m_ins : MtR X "list.insert" (rM2 X.K (op3 .ins)) := by
  refine MtR.imp mt_insert fun x vs H Q h => ?_
  obtain ⟨G, L, st, y, z, d, e, f, rfl, rl, hd, he, hf, q⟩ := h
  unfold op3 at q
  simp only at q
  split at q
  · split at q
    · split at q
      · rename_i hst hz
        obtain ⟨a, e2, e3, xs, e4, f⟩ := ref_rel rl hd hst (by simp)
        obtain ⟨rfl, hz⟩ := hz
        refine ⟨a, xs, 0, z, e2, by rw [fz_int he], e4, by rw [Paired.length f]; exact hz, by omega, by omega, ?_⟩
        exact q.put rl e3 ⟨_, upd_same, by simpa using (Paired.cons (RD.mono (Po.write ⟨_, e3⟩) hf) (f.mono (Po.write ⟨_, e3⟩)))⟩ .non
      · exact q.elim
    · exact q.elim
  · exact q.elim
/-! ### the place of an equal item -/
theorem idxOf_spec (x : PyData) : ∀ (ds : List PyData) (j : Nat), idxOf x ds = some j → (∃ z, ds[j]? = some z ∧ PyData.eqv z x = true) ∧ ∀ (m : Nat) (z : PyData), m < j → ds[m]? = some z → PyData.eqv z x = false
  | [], j, h => by simp [idxOf] at h
  | d :: ds, j, h => by
    unfold idxOf at h
    split at h
    · rename_i e
      cases h
      exact ⟨⟨d, rfl, e⟩, fun m z hm => absurd hm (Nat.not_lt_zero _)⟩
    · rename_i e
      simp only [Option.map_eq_some_iff] at h
      obtain ⟨i, h1, h2⟩ := h
      subst h2
      obtain ⟨⟨z, h3, h4⟩, h5⟩ := idxOf_spec x ds i h1
      refine ⟨⟨z, by simpa using h3, h4⟩, fun m w hm hw => ?_⟩
      cases m with
      | zero =>
        simp at hw
        subst hw
        simpa using e
      | succ m => exact h5 m w (by omega) (by simpa using hw)
theorem in_room {A : Around} {x : PyData} {ds : List PyData} (hu : A.units + 70 < cLine) (h : (inP x ds).isSome = true) : A.units + 1 + min (PyData.depthAll ds) x.depth < cLine := by
  unfold inP at h
  split at h
  · omega
  · cases h
section
variable {pins : List (Addr × Obj)} {s : Shared} {σ : Sg} {H : Hp}
/-- items read -/
theorem at_read {ds : List PyData} {its : List Value} {as : List Addr} (hxs : PyData.canLayAll0 ds = true) (h4 : ReadsAll s.heap its ds as) {m : Nat} (hm : m < its.toArray.size) {z : PyData} (hz : ds[m]? = some z) : SeqAt.readOf s.heap its.toArray[m] = z := by
  have hml : m < its.length := by simpa using hm
  have hmap := SeqAt.readsAll_map ds its as hxs h4
  rw [← hmap, List.getElem?_map, List.getElem?_eq_getElem hml] at hz
  have e1 := Option.some.inj (show some (SeqAt.readOf s.heap its[m]) = some z from hz)
  simpa using e1
theorem indx_list (hu : X.A.units + 70 < cLine) (I : L2.Inv X pins σ H s) {a : Addr} {xs : List V} {ds : List PyData} {y : V} {uy : Value} {d : PyData} {j : Nat} {Q : VK} (hs : SqL X.K H a xs) (fa : DpAll X.K H xs ds) (hl : PyData.canLayAll0 ds = true)
    (hy : Dp X.K H y d) (ry : RelV y uy) (hd : d.canLay0 = true) (hr : (inP d ds).isSome = true) (hj : idxOf d ds = some j) (q : Q (.int (j : Nat)) H) :
    wpAny (model X.prog X.w) X.A (call (.builtin "list.index") [.ref a, uy]) (EP X pins σ Q) X.xe s := by
  obtain ⟨bs, r1⟩ := Dp.reads I d y uy hy ry
  obtain ⟨its, rv, ⟨⟨cls, dd, data, sls⟩, n, ho, hc, hdn, hdt⟩, hlen⟩ := I.list hs
  simp only at hc hdt hdn
  subst hc hdt hdn
  obtain ⟨as, h4⟩ := Dp.readsAll I ds _ its fa rv
  have hn : its.length = ds.length := SeqAt.ReadsAll.length ds its as h4
  have hvl := rv.length
  have hsl := sizeLine_eq
  obtain ⟨⟨z, hz, hzj⟩, hno⟩ := idxOf_spec d ds j hj
  obtain ⟨hjd, _⟩ := List.getElem?_eq_some_iff.mp hz
  have hj' : j < its.toArray.size := by
    rw [List.size_toArray]
    omega
  refine call_meets PySem.F.slot_list_index ⟨_, ho, rfl⟩ PySem.F.entry_list_index (PySem.F.args_list_index_2 _ _)
    (SeqAt.list_indexAt a its.toArray n none sls uy (fun u => PyData.eqv (SeqAt.readOf s.heap u) d) j hj' (by have hz2 := hj'; rw [List.size_toArray] at hz2; omega) ?_ ?_)
    ⟨ho, SeqAt.items_eqAt (vs := its.toArray) h4 r1 hl hd (in_room hu hr), ⟨.int (j : Nat), H, I.tok _, ⟨_, rfl⟩, q⟩⟩
  · simp only [at_read hl h4 hj' hz, hzj]
  · intro m hm hmj
    have hmd : m < ds.length := by omega
    have hz' : ds[m]? = some ds[m] := List.getElem?_eq_getElem hmd
    simp only [at_read hl h4 hm hz']
    exact hno m _ hmj hz'
theorem indx_tup (hu : X.A.units + 70 < cLine) (I : L2.Inv X pins σ H s) {a : Addr} {xs : List V} {ds : List PyData} {y : V} {uy : Value} {d : PyData} {j : Nat} {Q : VK} (hs : SqT X.K H a xs) (fa : DpAll X.K H xs ds) (hl : PyData.canLayAll0 ds = true)
    (hy : Dp X.K H y d) (ry : RelV y uy) (hd : d.canLay0 = true) (hr : (inP d ds).isSome = true) (hj : idxOf d ds = some j) (q : Q (.int (j : Nat)) H) :
    wpAny (model X.prog X.w) X.A (call (.builtin "tuple.index") [.ref a, uy]) (EP X pins σ Q) X.xe s := by
  obtain ⟨bs, r1⟩ := Dp.reads I d y uy hy ry
  obtain ⟨its, rv, ⟨⟨cls, dd, data, sls⟩, ho, hc, n, hdt⟩, hlen⟩ := I.tuple hs
  simp only at hc hdt
  subst hc hdt
  obtain ⟨as, h4⟩ := Dp.readsAll I ds _ its fa rv
  have hn : its.length = ds.length := SeqAt.ReadsAll.length ds its as h4
  have hvl := rv.length
  obtain ⟨⟨z, hz, hzj⟩, hno⟩ := idxOf_spec d ds j hj
  obtain ⟨hjd, _⟩ := List.getElem?_eq_some_iff.mp hz
  have hj' : j < its.toArray.size := by
    rw [List.size_toArray]
    omega
  refine call_meets PySem.F.slot_tuple_index ⟨_, ho, rfl⟩ PySem.F.entry_tuple_index (PySem.F.args_tuple_index_2 _ _)
    (TI.tuple_indexAt a its.toArray n dd sls uy (fun u => PyData.eqv (SeqAt.readOf s.heap u) d) j hj' ?_ ?_)
    ⟨ho, SeqAt.items_eqAt (vs := its.toArray) h4 r1 hl hd (in_room hu hr), ⟨.int (j : Nat), H, I.tok _, ⟨_, rfl⟩, q⟩⟩
  · simp only [at_read hl h4 hj' hz, hzj]
  · intro m hm hmj
    have hmd : m < ds.length := by omega
    have hz' : ds[m]? = some ds[m] := List.getElem?_eq_getElem hmd
    simp only [at_read hl h4 hm hz']
    exact hno m _ hmj hz'
end
/-! ### o[i] = v -/
theorem set_core (hu : X.A.units + 1 < cLine) {pins : List (Addr × Obj)} {s : Shared} {σ : Sg} {H : Hp} {x y z : V} {v u w : Value} {G : Off1} {L : Lc} {st st' : Store} {d e f : D} {Q : Hp → Prop} (I : L2.Inv X pins σ H s) (rx : RelV x v) (ry : RelV y u) (rz : RelV z w)
    (rl : Rl X.K G L st H) (hd : RD X.K G L H x d) (he : RD X.K G L H y e) (hf : RD X.K G L H z f) (hk : setIx d e f st = some st') (q : ∀ L' H', Po L H L' H' → Rl X.K G L' st' H' → Q H') :
    wpAny (model X.prog X.w) X.A (setItem v u w) (fun _ s' => ∃ H', L2.Inv X pins σ H' s' ∧ Q H') X.xe s := by
  unfold setIx at hk
  split at hk
  · split at hk
    · rename_i hst
      split at hk
      · obtain ⟨j, h1, h2⟩ := Option.map_eq_some_iff.mp hk
        subst h2
        obtain ⟨a, e2, e3, xs, e4, g⟩ := ref_rel rl hd hst (by simp)
        refine set_list pins s σ H x y z v u w Q I rx ry rz ⟨a, xs, _, j, e2, fz_int he, e4, by rw [← ixOf_eq, Paired.length g]; exact h1, ?_⟩
        exact q _ _ (Po.write ⟨_, e3⟩) (rl.write e3 ⟨_, upd_same, RDs.set (RD.mono (Po.write ⟨_, e3⟩) hf) j (g.mono (Po.write ⟨_, e3⟩))⟩)
      · cases hk
    · rename_i hst
      split at hk
      · split at hk
        · rename_i hz
          cases hk
          rw [Bool.and_eq_true, decide_eq_true_eq] at hz
          obtain ⟨qk, e5, hq⟩ := key_rel he hz.1
          obtain ⟨a, e2, e3, ks, e4, g⟩ := ref_rel rl hd hst (by simp)
          subst e2 e5
          cases rx
          refine d_setItem hu I (DPut.k (k := qk) (v := z) e4 (by rw [Paired.length g]; exact hz.2)) ry rz fun s' I' => ⟨_, I', ?_⟩
          refine q _ _ (Po.write ⟨_, e3⟩) (rl.write e3 ⟨_, upd_same, ?_⟩)
          refine dPut_rel hq (RD.mono (Po.write ⟨_, e3⟩) hf) ?_
          exact Paired.mono (fun _ _ x => ⟨x.1, RD.mono (Po.write ⟨_, e3⟩) x.2⟩) g
        · cases hk
      · cases hk
    · cases hk
  · cases hk
/-! ### slices -/
theorem clip_eq (n d : Nat) (o : Option Int) : clip n d o = HT.sIx n d o := by
  cases o <;> rfl
theorem cut_eq {α : Type} (xs : List α) (lo hi : Option Int) (n : Nat) (hn : xs.length = n) : cut xs lo hi = (xs.drop (HT.sIx n 0 lo)).take (HT.sIx n n hi - HT.sIx n 0 lo) := by
  subst hn
  rfl
theorem FzA.cut {K : PySem.W.Frag} {O : Off1} {H : Hp} {ds : List PyData} {xs : List V} (f : FzA K O H xs ds) (lo hi : Option Int) : FzA K O H (cutV xs lo hi) (cut ds lo hi) := by
  rw [cut_eq ds lo hi xs.length f.len.symm]
  exact (f.drop _).take _
end
end Dn
namespace Dn
open PySem PySem.Spec PyProof.Rows L2
theorem places_rev (n : Nat) : Builtin.Slice.slicePlaces ((n : Int) - 1) (-1) (-1) = n := by
  unfold Builtin.Slice.slicePlaces
  rw [if_neg (by decide)]
  by_cases h : n = 0
  · subst h; decide
  · rw [if_pos (by omega)]
    have : ((n : Int) - 1 - -1 - 1) / (- -1) + 1 = n := by
      have e : ((n : Int) - 1 - -1 - 1) = (n : Int) - 1 := by omega
      rw [e]
      show ((n : Int) - 1) / 1 + 1 = n
      rw [Int.ediv_one]; omega
    rw [this]
    simp
theorem fm_some {α β : Type} {f : α → Option β} {g : α → β} : ∀ {l : List α}, (∀ m ∈ l, f m = some (g m)) → l.filterMap f = l.map g
  | [], _ => rfl
  | a :: l, h => by
    rw [List.filterMap_cons, h a (by simp), List.map_cons, fm_some fun m hm => h m (by simp [hm])]
theorem pick_rev (xs : List Value) : ((List.range xs.length).filterMap fun (m : Nat) => xs.toArray[(((xs.length : Int) - 1) + (m : Int) * (-1)).toNat]?) = xs.reverse := by
  apply List.ext_getElem?
  intro i
  have h1 : ∀ m ∈ List.range xs.length, xs.toArray[(((xs.length : Int) - 1) + (m : Int) * (-1)).toNat]? = some (xs.reverse.getD m .none) := fun m hm => by
    have hl := List.mem_range.mp hm
    have e : ((((xs.length : Int) - 1) + (m : Int) * (-1)).toNat) = xs.length - 1 - m := by omega
    rw [e]
    simp only [List.getElem?_toArray]
    rw [List.getD_eq_getElem?_getD, List.getElem?_reverse hl]
    rw [List.getElem?_eq_getElem (by omega)]
    rfl
  have h2 : ((List.range xs.length).filterMap fun (m : Nat) => xs.toArray[(((xs.length : Int) - 1) + (m : Int) * (-1)).toNat]?) = (List.range xs.length).map fun m => xs.reverse.getD m .none := fm_some h1
  rw [h2, List.getElem?_map]
  by_cases hi : i < xs.length
  · rw [List.getElem?_range hi, Option.map_some, List.getD_eq_getElem?_getD, List.getElem?_eq_getElem (by simpa using hi)]
    rfl
  · rw [List.getElem?_eq_none (by simpa using hi), List.getElem?_eq_none (by simpa using hi)]
    rfl
section
variable {prog : Program} {w : World} {A : Around} {E : Value → Shared → Prop} {s : Shared}
theorem sliceApplied_rev {sl : Addr} {n : Nat} {u : Tok} {Q : Int × Int × Nat → Shared → Prop} (hs : s.heap.IsSliceOf sl .none .none (.int (-1) u))
    (h : Q ((n : Int) - 1, -1, n) s) : wpAny (model prog w) A (Builtin.Slice.sliceApplied (.ref sl) (pure (n : Int))) Q E s := by
  obtain ⟨os, h1, h2, h3⟩ := id hs
  unfold Builtin.Slice.sliceApplied Builtin.Slice.sliceFields
  refine wpAny_bind (wpAny_bind (wpAny_field h1 h3 (x := .none) rfl (wpAny_bind (wpAny_field h1 h3 (x := .none) rfl (wpAny_bind (wpAny_field h1 h3 (x := .int (-1) u) rfl (wpAny_pure ?_)))))))
  refine wpAny_bind (HT.slicePart_ (o := some (-1)) (.int (-1) u) ?_)
  show wpAny (model prog w) A (if ((-1 : Int) == 0) = true then _ else _) _ E s
  rw [if_neg (by decide)]
  refine wpAny_bind (HT.slicePart_ (o := none) .none (wpAny_bind (HT.slicePart_ (o := none) .none (wpAny_bind (wpAny_pure ?_)))))
  have e : Builtin.Slice.sliceAdjust none none (-1) (n : Int) = ((n : Int) - 1, -1) := rfl
  simp only [Option.getD, e, places_rev]
  exact wpAny_pure h
theorem getItem_tup_rev {t sl : Addr} {its : List Value} {u : Tok} {Q : Value → Shared → Prop} (ht : IsTup s.heap t its.toArray) (hs : s.heap.IsSliceOf sl .none .none (.int (-1) u)) (hz : its.length ≤ sizeLine)
    (h : Q (.ref s.heap.objs.size) { s with heap := s.heap.push { cls := .type "tuple", data := .seq its.reverse.toArray } }) : wpAny (model prog w) A (getItem (.ref t) (.ref sl)) Q E s := by
  have hk : sizeOk (.seq its.reverse.toArray) := by
    show its.reverse.toArray.size ≤ sizeLine
    simpa using hz
  have tS : s.TypeIs (.ref sl) "slice" := let ⟨os, a, b, _⟩ := id hs; ⟨os, a, b⟩
  unfold getItem
  try (with_reducible refine wpAny_holding ?_)
  first | (refine wpAny_bind (wpAny_pure ?_)) | skip
  refine wpAny_bind (wpAny_sequenceKey (k := .ref sl) ht.typeIs (by decide) ?_)
  refine wpAny_bind (wpAny_callSpecial?_slot (name := Str.ofString "__getitem__") ht.typeIs PyProof.Rows.slot_tuple_getitem (wpAny_call_entry PyProof.Rows.slot_tuple_getitem ht.typeIs entry_tuple_getitem ?_ (args_tuple_getitem _ _)))
  show wpAny (model prog w) _ (Builtin.Tuple.tupleItemsOf (.ref t) >>= _) _ _ s
  refine wpAny_bind (tupleItemsOf_ ht (wpAny_bind (wpAny_typeOf tS ?_)))
  rw [if_pos (by decide)]
  refine wpAny_bind (sliceApplied_rev (n := its.toArray.size) hs ?_)
  have hno : ¬ (((((its.toArray.size : Nat) : Int) - 1) == 0 && (-1 : Int) == 1 && its.toArray.size == its.toArray.size) = true) := by simp
  show wpAny (model prog w) _ (if (((((its.toArray.size : Nat) : Int) - 1) == 0 && (-1 : Int) == 1 && its.toArray.size == its.toArray.size)) = true then _ else _) _ _ s
  rw [if_neg hno]
  have pk : ((List.range its.toArray.size).filterMap fun (m : Nat) => its.toArray[((((its.toArray.size : Nat) : Int) - 1) + (m : Int) * (-1)).toNat]?).toArray = its.reverse.toArray := by
    have := pick_rev its
    simp only [List.size_toArray]
    rw [this]
  rw [pk]
  first
    | exact wpAny_bind (m := Builtin.Tuple.tupleExact _) (wpAny_newObj_type (wpAny_pure ⟨_, rfl, wpAny_pure h⟩) hk)
    | exact wpAny_bind (m := Builtin.Tuple.tupleExact _) (wpAny_newObj_type (wpAny_bind (wpAny_pure (wpAny_pure ⟨_, rfl, wpAny_pure h⟩))) hk)
    | exact wpAny_bind (wpAny_bind (m := Builtin.Tuple.tupleExact _) (wpAny_newObj_type (wpAny_pure (wpAny_pure ⟨_, rfl, wpAny_pure h⟩)) hk))
    | exact wpAny_bind (wpAny_bind (m := Builtin.Tuple.tupleExact _) (wpAny_newObj_type (wpAny_pure ⟨_, rfl, wpAny_pure h⟩) hk))
end
end Dn
/-! Dn, part 4: expressions. -/
namespace Dn
open PySem PySem.Spec PyProof.Rows L2
/-- what is wished of an exception; what an exception (number, fields) is in the heap -/
structure Wc where
  W : Value → Option Addr → Sg → Hp → Prop
  xr : Nat → List PyData → Off1 → Hp → Value → Option Addr → Prop
  xm : ∀ {k : Nat} {fs : List PyData} {O O' : Off1} {H : Hp} {cls : Value} {dd : Option Addr}, (∀ b, O' b → O b) → xr k fs O H cls dd → xr k fs O' H cls dd
def Wc.no (c : Wc) : Wc := ⟨fun _ _ _ _ => False, c.xr, c.xm⟩
def Wc.to (c : Wc) (E : XK) : Wc := ⟨fun cls dd _ H => E cls dd H, c.xr, c.xm⟩
def Aft {α β : Type} (K : PySem.W.Frag) (c : Wc) (G : Off1) (L : Lc) (H : Hp) (σ : Sg) (res : Res α) (Rel : Lc → Hp → β → α → Prop) (Q : β → Hp → Prop) : Prop := match res with
  | .ok a st' => ∀ b L' H', Po L H L' H' → Rl K G L' st' H' → Rel L' H' b a → Q b H'
  | .ex k fs st' => ∀ cls dd L' H', Po L H L' H' → Rl K G L' st' H' → c.xr k fs (Off G L') H' cls dd → c.W cls dd σ H'
  | .bad => False
section
variable {K : PySem.W.Frag} {c : Wc} {G : Off1} {L L1 : Lc} {H H1 : Hp} {σ : Sg} {st : Store} {α β γ δ : Type}
theorem Aft.mono {r : Res α} {Rel : Lc → Hp → β → α → Prop} {Q Q' : β → Hp → Prop} (h : Aft K c G L H σ r Rel Q) (hi : ∀ b H, Q b H → Q' b H) : Aft K c G L H σ r Rel Q' := by
  cases r with
  | ok a st' => exact fun b L' H' po rl re => hi _ _ (h b L' H' po rl re)
  | ex k fs st' => exact h
  | bad => exact h
theorem Aft.shift {r : Res α} {Rel : Lc → Hp → β → α → Prop} {Q : β → Hp → Prop} (po : Po L H L1 H1) (h : Aft K c G L H σ r Rel Q) : Aft K c G L1 H1 σ r Rel Q := by
  cases r with
  | ok a st' => exact fun b L' H' po' rl re => h b L' H' (po.trans po') rl re
  | ex k fs st' => exact fun cls dd L' H' po' rl re => h cls dd L' H' (po.trans po') rl re
  | bad => exact h
/-- one thing behind another -/
def Then (K : PySem.W.Frag) (c : Wc) (G : Off1) (L : Lc) (H : Hp) (σ : Sg) (Rel1 : Lc → Hp → β → α → Prop) (f : α → Store → Res γ) (Rel2 : Lc → Hp → δ → γ → Prop) (Q : δ → Hp → Prop) (b : β) (H1 : Hp) : Prop :=
  ∃ L1 st1 a, Po L H L1 H1 ∧ Rl K G L1 st1 H1 ∧ Rel1 L1 H1 b a ∧ Aft K c G L1 H1 σ (f a st1) Rel2 Q
theorem Aft.bind {m : Res α} {f : α → Store → Res γ} (Rel1 : Lc → Hp → β → α → Prop) {Rel2 : Lc → Hp → δ → γ → Prop} {Q : δ → Hp → Prop} (h : Aft K c G L H σ (m.bind f) Rel2 Q) :
    Aft K c G L H σ m Rel1 (Then K c G L H σ Rel1 f Rel2 Q) := by
  cases m with
  | ok a st' => exact fun b L' H' po rl re => ⟨L', st', a, po, rl, re, Aft.shift po h⟩
  | ex k fs st' => exact h
  | bad => exact h
theorem Aft.nw {r : Res α} {Rel : Lc → Hp → β → α → Prop} {Q : β → Hp → Prop} (h : Aft K c G L H σ r.nox Rel Q) : Nw K G L H r Rel Q := by
  cases r with
  | ok a st' => exact h
  | ex k fs st' => exact h
  | bad => exact h
theorem Aft.now {a : α} {b : β} {Rel : Lc → Hp → β → α → Prop} {Q : β → Hp → Prop} (h : Aft K c G L H σ (.ok a st) Rel Q) (rl : Rl K G L st H) (re : Rel L H b a) : Q b H := h b L H .refl rl re
end
def tE (K : PySem.W.Frag) (c : Wc) (r : Sl → Store → Res D) : TE := fun σ H Q => ∃ G L st env, Rl K G L st H ∧ RE K G L H σ env ∧ Aft K c G L H σ (r env st) (RD K G) Q
def tAr (K : PySem.W.Frag) (c : Wc) (r : Sl → Store → Res (List D)) : TA := fun σ H Q => ∃ G L st env, Rl K G L st H ∧ RE K G L H σ env ∧ Aft K c G L H σ (r env st) (RDs K G) Q
def TrR (G : Off1) (L : Lc) (H : Hp) (b : Bool) (d : D) : Prop := truth d = some b
def tTr (K : PySem.W.Frag) (c : Wc) (r : Sl → Store → Res D) : TT := fun σ H Q => ∃ G L st env, Rl K G L st H ∧ RE K G L H σ env ∧ Aft K c G L H σ (r env st) (TrR G) Q ∧ True
abbrev SE (X : Cx) (c : Wc) (e : Expr) (r : Sl → Store → Res D) : Prop := PE X e (tE X.K c r)
abbrev SA (X : Cx) (c : Wc) (es : List Expr) (r : Sl → Store → Res (List D)) : Prop := PA X es (tAr X.K c r)
theorem PE.imp {X : Cx} {e : Expr} {t t' : TE} (h : PE X e t) (hi : ∀ σ H Q, t' σ H Q → t σ H Q) : PE X e t' := ⟨fun pins s σ H Q I q => h.run pins s σ H Q I (hi σ H Q q)⟩
theorem PA.imp {X : Cx} {e : List Expr} {t t' : TA} (h : PA X e t) (hi : ∀ σ H Q, t' σ H Q → t σ H Q) : PA X e t' := ⟨fun pos pins s σ H Q I q => h.run pos pins s σ H Q I (hi σ H Q q)⟩
theorem PT.imp {X : Cx} {e : Expr} {t t' : TT} (h : PT X e t) (hi : ∀ σ H Q, t' σ H Q → t σ H Q) : PT X e t' := ⟨fun pins s σ H Q I q => h.run pins s σ H Q I (hi σ H Q q)⟩
theorem PW.imp {X : Cx} {e : Expr} {t t' : TT} (h : PW X e t) (hi : ∀ σ H Q, t' σ H Q → t σ H Q) : PW X e t' := ⟨fun wh pins s σ H Q I q => h.run wh pins s σ H Q I (hi σ H Q q)⟩
section
variable {K : PySem.W.Frag} {c : Wc} {σ : Sg} {H : Hp} {Q : VK}
/-- two operands -/
theorem tE.two {ra rb : Sl → Store → Res D} {g : D → Store → D → Store → Res D} {r2 : R2} (hg : ∀ G L st H x y d e Q, Rl K G L st H → RD K G L H x d → RD K G L H y e → ∀ st0, Nw K G L H (g d st0 e st) (RD K G) Q → r2 x y H Q)
    (h : tE K c (fun env st => (ra env st).bind fun x st => (rb env st).bind fun y st1 => (g x st y st1).nox) σ H Q) : tOp r2 (tE K c ra) (tE K c rb) σ H Q := by
  obtain ⟨G, L, st, env, rl, re, q⟩ := h
  refine ⟨G, L, st, env, rl, re, (q.bind (RD K G)).mono fun x H1 ⟨L1, st1, d, po1, rl1, hd, q1⟩ => ?_⟩
  refine ⟨G, L1, st1, env, rl1, re.mono po1, (q1.bind (RD K G)).mono fun y H2 ⟨L2, st2, e, po2, rl2, he, q2⟩ => ?_⟩
  exact hg G L2 st2 H2 x y d e Q rl2 (RD.mono po2 hd) he st1 q2.nw
end
section
variable {X : Cx} {c : Wc} {a b : Expr} {ra rb rc : Sl → Store → Res D} {pos : Pos}
theorem e_var {i : Nat} {x : Str} (hN : X.N[i]? = some x) (hv : Vis X.env.scope x) (hd : (x == ("__debug__" : Str)) = false) (hcd : (x == ("__classdict__" : Str)) = false) :
    SE X c (.Name x pos) (fun env st => match env[i]? with
      | some (some d) => .ok d st
      | _ => .bad) := by
  refine PE.imp (pe_var hN hv hd hcd) fun σ H Q h => ?_
  obtain ⟨G, L, st, env, rl, re, q⟩ := h
  dsimp only at q
  split at q
  · rename_i d e
    obtain ⟨v, h1, h2⟩ := re.at_ i d e
    exact ⟨v, h1, q.now rl h2⟩
  · exact q.elim
theorem e_cst {e : Expr} {v : V} {d : PyData} (h : PE X e (tC v)) (hf : ∀ O H, Fz X.K O H v d) : SE X c e (fun _ st => .ok (.p d) st) := by
  refine PE.imp h fun σ H Q h => ?_
  obtain ⟨G, L, st, env, rl, re, q⟩ := h
  exact q.now rl (hf _ _)
theorem e_bin {op : Operator} {g : D → D → Store → Res D} (ho : OpR X (binaryOp op) (rD X.K g)) (ha : SE X c a ra) (hb : SE X c b rb) :
    SE X c (.BinOp a op b pos) (fun env st => (ra env st).bind fun x st => (rb env st).bind fun y st => (g x y st).nox) := by
  refine PE.imp (pe_op ho ha hb) fun σ H Q h => ?_
  exact tE.two (g := fun x _ y st => g x y st) (fun G L st H x y d e Q rl hd he _ q => ⟨G, L, st, d, e, rl, hd, he, q⟩) h
theorem e_cmp {op : CmpOp} {g : D → D → Store → Res D} (ho : OpR X (compareOp op) (rD X.K g)) (ha : SE X c a ra) (hb : SE X c b rb) (hm : behindInMarks op b = false) :
    SE X c (.Compare a [op] [b] pos) (fun env st => (ra env st).bind fun x st => (rb env st).bind fun y st => (g x y st).nox) := by
  refine PE.imp (pe_cmpR ho ha hb hm) fun σ H Q h => ?_
  exact tE.two (g := fun x _ y st => g x y st) (fun G L st H x y d e Q rl hd he _ q => ⟨G, L, st, d, e, rl, hd, he, q⟩) h
theorem e_ix {g : D → D → Store → Res D} (ho : IxR X (rD X.K g)) (ha : SE X c a ra) (hb : SE X c b rb) (hm : PlainIx b) :
    SE X c (.Subscript a b pos) (fun env st => (ra env st).bind fun x st => (rb env st).bind fun y st => (g x y st).nox) := by
  refine PE.imp (pe_ix ho ha hb hm) fun σ H Q h => ?_
  exact tE.two (g := fun x _ y st => g x y st) (fun G L st H x y d e Q rl hd he _ q => ⟨G, L, st, d, e, rl, hd, he, q⟩) h
theorem e_not (ha : SE X c a ra) : SE X c (.UnaryOp .Not a pos) (fun env st => (ra env st).bind fun x st => (op1 .nt x st).nox) := by
  refine PE.imp (pe_not ha) fun σ H Q h => ?_
  obtain ⟨G, L, st, env, rl, re, q⟩ := h
  refine ⟨G, L, st, env, rl, re, (q.bind (RD X.K G)).mono fun x H1 ⟨L1, st1, d, po1, rl1, hd, q1⟩ => ?_⟩
  replace q1 := q1.nw
  unfold op1 at q1
  simp only at q1
  split at q1
  · exact ⟨_, fz_bool hd, q1.pure rl1 (.bl _)⟩
  · exact q1.elim
theorem e_neg (ha : SE X c a ra) : SE X c (.UnaryOp .USub a pos) (fun env st => (ra env st).bind fun x st => (op1 .neg x st).nox) := by
  refine PE.imp (pe_un un_neg ha) fun σ H Q h => ?_
  obtain ⟨G, L, st, env, rl, re, q⟩ := h
  refine ⟨G, L, st, env, rl, re, (q.bind (RD X.K G)).mono fun x H1 ⟨L1, st1, d, po1, rl1, hd, q1⟩ => ?_⟩
  replace q1 := q1.nw
  unfold op1 at q1
  simp only at q1
  split at q1
  · exact ⟨_, fz_int hd, q1.pure rl1 (.int _)⟩
  · exact q1.elim
theorem e_isN {j : Nat} {p2 : Pos} (ha : SE X c a ra) : SE X c (.Compare a [.Is] [.Constant .none j p2] pos) (fun env st => (ra env st).bind fun x st => (op1 .isN x st).nox) := by
  refine PE.imp (pe_cmp (pc_isN ha) rfl) fun σ H Q h => ?_
  obtain ⟨G, L, st, env, rl, re, q⟩ := h
  refine ⟨G, L, st, env, rl, re, (q.bind (RD X.K G)).mono fun x H1 ⟨L1, st1, d, po1, rl1, hd, q1⟩ => ?_⟩
  replace q1 := q1.nw
  unfold op1 at q1
  simp only at q1
  split at q1
  · cases hd
    exact q1.pure rl1 (.bl _)
  · rename_i hn
    have e : decide (x = V.non) = false := by
      apply decide_eq_false
      intro z
      subst z
      cases d with
      | p d => cases hd; exact hn rfl
      | r k => obtain ⟨b, e, _⟩ := hd; cases e
    rw [e]
    exact q1.pure rl1 (.bl _)
theorem e_niN {j : Nat} {p2 : Pos} (ha : SE X c a ra) : SE X c (.Compare a [.IsNot] [.Constant .none j p2] pos) (fun env st => (ra env st).bind fun x st => (op1 .niN x st).nox) := by
  refine PE.imp (pe_cmp (pc_notN ha) rfl) fun σ H Q h => ?_
  obtain ⟨G, L, st, env, rl, re, q⟩ := h
  refine ⟨G, L, st, env, rl, re, (q.bind (RD X.K G)).mono fun x H1 ⟨L1, st1, d, po1, rl1, hd, q1⟩ => ?_⟩
  replace q1 := q1.nw
  unfold op1 at q1
  simp only at q1
  split at q1
  · cases hd
    exact q1.pure rl1 (.bl _)
  · rename_i hn
    have e : decide (x = V.non) = false := by
      apply decide_eq_false
      intro z
      subst z
      cases d with
      | p d => cases hd; exact hn rfl
      | r k => obtain ⟨b, e, _⟩ := hd; cases e
    rw [e]
    exact q1.pure rl1 (.bl _)
theorem truth_bool {d : D} {b : Bool} (h : truth d = some b) : d = bz b := by
  unfold truth at h
  split at h
  · cases h; rfl
  · cases h
theorem truth_rel {K : PySem.W.Frag} {G : Off1} {L : Lc} {H : Hp} {x : V} {d : D} {b : Bool} (hd : RD K G L H x d) (h : truth d = some b) : x = .bl b := by
  have := truth_bool h
  subst this
  exact fz_bool hd
theorem e_chain {op op' : CmpOp} {g g' : D → D → Store → Res D} {b c' : Expr} {rb : Sl → Store → Res D} (ho : OpR X (compareOp op) (rD X.K g)) (ho' : OpR X (compareOp op') (rD X.K g')) (ha : SE X c a ra) (hb : SE X c b rb) (hc : SE X c c' rc)
    (hm : lastMarks [op, op'] [b, c'] = false) :
    SE X c (.Compare a [op, op'] [b, c'] pos) (fun env st => (ra env st).bind fun x st => (rb env st).bind fun y st => (g x y st).nox.bind fun k st => match truth k with
      | some true => (rc env st).bind fun z st => (g' y z st).nox
      | some false => .ok (bz false) st
      | none => .bad) := by
  refine PE.imp (pe_chain ho ho' ha hb hc hm) fun σ H Q h => ?_
  obtain ⟨G, L, st, env, rl, re, q⟩ := h
  refine ⟨G, L, st, env, rl, re, (q.bind (RD X.K G)).mono fun x H1 ⟨L1, st1, d, po1, rl1, hd, q1⟩ => ?_⟩
  refine ⟨G, L1, st1, env, rl1, re.mono po1, (q1.bind (RD X.K G)).mono fun y H2 ⟨L2, st2, e, po2, rl2, he, q2⟩ => ?_⟩
  refine ⟨G, L2, st2, d, e, rl2, RD.mono po2 hd, he, Aft.nw (((q2.bind (RD X.K G))).mono fun z H3 ⟨L3, st3, k, po3, rl3, hk, q3⟩ => ?_)⟩
  dsimp only at q3
  split at q3
  · rename_i ht
    refine ⟨true, truth_rel hk ht, ?_⟩
    rw [if_pos rfl]
    refine ⟨G, L3, st3, env, rl3, (re.mono po1).mono (po2.trans po3), (q3.bind (RD X.K G)).mono fun w' H4 ⟨L4, st4, f, po4, rl4, hf, q4⟩ => ?_⟩
    exact ⟨G, L4, st4, e, f, rl4, RD.mono (po3.trans po4) he, hf, q4.nw⟩
  · rename_i ht
    refine ⟨false, truth_rel hk ht, ?_⟩
    rw [if_neg Bool.false_ne_true]
    exact q3.now rl3 (Fz.bl false)
  · exact q3.elim
/-! ### lists of expressions -/
theorem a_nil : SA X c [] (fun _ st => .ok [] st) := by
  refine PA.imp pa_nil fun σ H Q h => ?_
  obtain ⟨G, L, st, env, rl, re, q⟩ := h
  exact q.now rl .nil
theorem a_cons {es : List Expr} {rs : Sl → Store → Res (List D)} (ha : SE X c a ra) (hs : SA X c es rs) (hst : starEach (a :: es) X.env = (false, eval a X.env) :: starEach es X.env) :
    SA X c (a :: es) (fun env st => (ra env st).bind fun d st => (rs env st).bind fun ds st => .ok (d :: ds) st) := by
  refine PA.imp (pa_cons ha hs hst) fun σ H Q h => ?_
  obtain ⟨G, L, st, env, rl, re, q⟩ := h
  refine ⟨G, L, st, env, rl, re, (q.bind (RD X.K G)).mono fun x H1 ⟨L1, st1, d, po1, rl1, hd, q1⟩ => ?_⟩
  refine ⟨G, L1, st1, env, rl1, re.mono po1, (q1.bind (RDs X.K G)).mono fun y H2 ⟨L2, st2, e, po2, rl2, he, q2⟩ => ?_⟩
  exact q2.now rl2 (.cons (RD.mono po2 hd) he)
/-! ### displays -/
theorem pe_tupF {es : List Expr} {t : TA} {x1 : Nat} (h : PA X es t) : PE X (.Tuple es x1 pos) (fun σ H Q => t σ H fun xs H1 => xs.length ≤ sizeLine ∧ NewT xs H1 Q) := by
  refine ⟨fun pins s σ H Q I hq => ?_⟩
  refine wpAny_Tuple_spliced (thn (h.run pos pins s σ H _ I hq) fun us s1 ⟨xs, H1, I1, r, z, q⟩ => ⟨by rw [← r.length]; exact z, ?_⟩)
  exact laidT (t' := s1.toks) I1 (fun b u e => Heap.get?_push_of_some _ e) (Nat.le_refl _) (Heap.get?_push_size _ rfl) r z q
theorem e_tup {es : List Expr} {rs : Sl → Store → Res (List D)} {x1 : Nat} (hs : SA X c es rs) :
    SE X c (.Tuple es x1 pos) (fun env st => (rs env st).bind fun ds st => Res.of st ((allP ds).bind fun xs => if xs.length ≤ sizeLine then some (.p (.tuple xs)) else none)) := by
  refine PE.imp (pe_tupF hs) fun σ H Q h => ?_
  obtain ⟨G, L, st, env, rl, re, q⟩ := h
  refine ⟨G, L, st, env, rl, re, (q.bind (RDs X.K G)).mono fun xs H1 ⟨L1, st1, ds, po1, rl1, hd, q1⟩ => ?_⟩
  dsimp only at q1
  cases e : allP ds with
  | none => rw [e] at q1; exact q1.elim
  | some es =>
    rw [e] at q1
    simp only [Option.bind_some] at q1
    split at q1
    · rename_i hz
      have f := allP_rel hd e
      exact ⟨by rw [f.len]; exact hz, fun p o ho hp => Nw.newT (st := st1) q1 rl1 f hp ho⟩
    · exact q1.elim
theorem newL_noex {m : Bool} {ds : List D} {st : Store} : (newL m ds st).nox = newL m ds st := by
  unfold newL alloc
  split
  · rfl
  · split
    · rfl
    · cases allP ds <;> rfl
theorem e_lst {m : Bool} {es : List Expr} {rs : Sl → Store → Res (List D)} (hs : SA X c es rs) : SE X c (.List es pos) (fun env st => (rs env st).bind fun ds st => newL m ds st) := by
  refine PE.imp (pe_lst hs) fun σ H Q h => ?_
  obtain ⟨G, L, st, env, rl, re, q⟩ := h
  refine ⟨G, L, st, env, rl, re, (q.bind (RDs X.K G)).mono fun xs H1 ⟨L1, st1, ds, po1, rl1, hd, q1⟩ => ?_⟩
  dsimp only at q1
  rw [← newL_noex] at q1
  obtain ⟨h1, h2⟩ := newL_rel q1.nw rl1 hd
  exact ⟨by rw [Paired.length hd]; exact h1, h2⟩
theorem e_dic0 : SE X c (.Dict [] [] pos) (fun _ st => (Res.ok (D.r st.length) (st ++ [Ob.dic []])).nox) := by
  refine PE.imp pe_dnewK fun σ H Q h => ?_
  obtain ⟨G, L, st, env, rl, re, q⟩ := h
  intro p hp
  refine q _ _ _ (Po.alloc rl hp) (rl.alloc hp ⟨[], upd_same, .nil⟩) ⟨p, rfl, by rw [← rl.len]; simp, fun b e => ?_⟩
  rw [← rl.len] at e
  simp at e
  exact e.symm
end
end Dn
namespace Dn
open PySem PySem.Spec PyProof.Rows L2
/-- a test's answer -/
def rT (r : Sl → Store → Res D) : Sl → Store → Res Bool := fun env st => (r env st).bind fun d st => Res.of st (truth d)
def tT (K : PySem.W.Frag) (c : Wc) (r : Sl → Store → Res D) : TT := fun σ H Q => ∃ G L st env, Rl K G L st H ∧ RE K G L H σ env ∧ Aft K c G L H σ (rT r env st) (fun _ _ b b' => b' = b) Q
abbrev ST (X : Cx) (c : Wc) (e : Expr) (r : Sl → Store → Res D) : Prop := PT X e (tT X.K c r)
abbrev SW (X : Cx) (c : Wc) (e : Expr) (r : Sl → Store → Res D) : Prop := PW X e (tT X.K c r)
theorem tT_E {K : PySem.W.Frag} {c : Wc} {r : Sl → Store → Res D} {σ : Sg} {H : Hp} {Q : Bool → Hp → Prop} (h : tT K c r σ H Q) : tE K c r σ H (fun x H1 => ∃ k, x = .bl k ∧ Q k H1) := by
  obtain ⟨G, L, st, env, rl, re, q⟩ := h
  refine ⟨G, L, st, env, rl, re, (Aft.bind (RD K G) q).mono fun x H1 ⟨L1, st1, d, po1, rl1, hd, q1⟩ => ?_⟩
  dsimp only at q1
  cases e : truth d with
  | none => rw [e] at q1; exact q1.elim
  | some b =>
    rw [e] at q1
    exact ⟨b, truth_rel hd e, q1.now rl1 rfl⟩
section
variable {X : Cx} {c : Wc} {a b : Expr} {ra rb rc : Sl → Store → Res D} {pos : Pos}
/-! ### and, or -/
theorem e_one {op : BoolOp} (ha : SE X c a ra) : SE X c (.BoolOp op [a] pos) ra := pe_one ha
theorem e_and {rest : List Expr} (ha : SE X c a ra) (hb : SE X c (.BoolOp .And (b :: rest) pos) rb) : SE X c (.BoolOp .And (a :: b :: rest) pos) (fun env st => (ra env st).bind fun x st => match truth x with
    | some true => rb env st
    | some false => .ok (bz false) st
    | none => .bad) := by
  refine PE.imp (pe_and ha hb) fun σ H Q h => ?_
  obtain ⟨G, L, st, env, rl, re, q⟩ := h
  refine ⟨G, L, st, env, rl, re, (q.bind (RD X.K G)).mono fun x H1 ⟨L1, st1, d, po1, rl1, hd, q1⟩ => ?_⟩
  dsimp only at q1
  split at q1
  · rename_i e
    refine ⟨true, truth_rel hd e, ?_⟩
    rw [if_pos rfl]
    exact ⟨G, L1, st1, env, rl1, re.mono po1, q1⟩
  · rename_i e
    refine ⟨false, truth_rel hd e, ?_⟩
    rw [if_neg Bool.false_ne_true]
    exact q1.now rl1 (Fz.bl false)
  · exact q1.elim
theorem e_or {rest : List Expr} (ha : SE X c a ra) (hb : SE X c (.BoolOp .Or (b :: rest) pos) rb) : SE X c (.BoolOp .Or (a :: b :: rest) pos) (fun env st => (ra env st).bind fun x st => match truth x with
    | some true => .ok (bz true) st
    | some false => rb env st
    | none => .bad) := by
  refine PE.imp (pe_or ha hb) fun σ H Q h => ?_
  obtain ⟨G, L, st, env, rl, re, q⟩ := h
  refine ⟨G, L, st, env, rl, re, (q.bind (RD X.K G)).mono fun x H1 ⟨L1, st1, d, po1, rl1, hd, q1⟩ => ?_⟩
  dsimp only at q1
  split at q1
  · rename_i e
    refine ⟨true, truth_rel hd e, ?_⟩
    rw [if_pos rfl]
    exact q1.now rl1 (Fz.bl true)
  · rename_i e
    refine ⟨false, truth_rel hd e, ?_⟩
    rw [if_neg Bool.false_ne_true]
    exact ⟨G, L1, st1, env, rl1, re.mono po1, q1⟩
  · exact q1.elim
/-! ### tests -/
theorem t_val {e : Expr} {r : Sl → Store → Res D} (h : SE X c e r) (he : ∀ whole, isTrue e X.env whole = (do let v ← whole; standAt e.pos; holding [v] (truthy v))) : ST X c e r :=
  PT.imp (pt_val h he) fun σ H Q q => tT_E q
theorem t_cmp {op : CmpOp} {g : D → D → Store → Res D} (ho : OpR X (compareOp op) (rD X.K g)) (ha : SE X c a ra) (hb : SE X c b rb) (hm : behindInMarks op b = false) :
    ST X c (.Compare a [op] [b] pos) (fun env st => (ra env st).bind fun x st => (rb env st).bind fun y st => (g x y st).nox) := by
  refine PT.imp (pt_cmpR ho ha hb hm) fun σ H Q h => ?_
  exact tE.two (g := fun x _ y st => g x y st) (fun G L st H x y d e Q rl hd he _ q => ⟨G, L, st, d, e, rl, hd, he, q⟩) (tT_E h)
theorem isN_core {K : PySem.W.Frag} {G : Off1} {L : Lc} {H : Hp} {x : V} {d : D} (hd : RD K G L H x d) : (decide (x = .non) = true ∧ d = .p .none) ∨ (decide (x = .non) = false ∧ d ≠ .p .none) := by
  cases d with
  | p d =>
    cases hd with
    | non => exact .inl ⟨rfl, rfl⟩
    | bl b => exact .inr ⟨rfl, by simp⟩
    | int b => exact .inr ⟨rfl, by simp⟩
    | str b _ => exact .inr ⟨rfl, by simp⟩
    | lst _ _ => exact .inr ⟨rfl, by simp⟩
    | tup _ _ => exact .inr ⟨rfl, by simp⟩
  | r k =>
    obtain ⟨b, e, _⟩ := hd
    subst e
    exact .inr ⟨rfl, by simp⟩
theorem t_isN {j : Nat} {p2 : Pos} (ha : SE X c a ra) : ST X c (.Compare a [.Is] [.Constant .none j p2] pos) (fun env st => (ra env st).bind fun x st => (op1 .isN x st).nox) := by
  refine PT.imp (pt_cmp (pc_isN ha) rfl) fun σ H Q h => ?_
  obtain ⟨G, L, st, env, rl, re, q⟩ := tT_E h
  refine ⟨G, L, st, env, rl, re, (Aft.bind (RD X.K G) q).mono fun x H1 ⟨L1, st1, d, po1, rl1, hd, q1⟩ => ?_⟩
  rcases isN_core hd with ⟨e1, e2⟩ | ⟨e1, e2⟩
  · subst e2
    rw [e1]
    exact q1.now rl1 (Fz.bl true)
  · rw [e1]
    have : (op1 .isN d st1) = .ok (.p (.bool false)) st1 := by
      unfold op1
      simp only
    dsimp only at q1
    rw [this] at q1
    exact q1.now rl1 (Fz.bl false)
theorem t_niN {j : Nat} {p2 : Pos} (ha : SE X c a ra) : ST X c (.Compare a [.IsNot] [.Constant .none j p2] pos) (fun env st => (ra env st).bind fun x st => (op1 .niN x st).nox) := by
  refine PT.imp (pt_cmp (pc_notN ha) rfl) fun σ H Q h => ?_
  obtain ⟨G, L, st, env, rl, re, q⟩ := tT_E h
  refine ⟨G, L, st, env, rl, re, (Aft.bind (RD X.K G) q).mono fun x H1 ⟨L1, st1, d, po1, rl1, hd, q1⟩ => ?_⟩
  rcases isN_core hd with ⟨e1, e2⟩ | ⟨e1, e2⟩
  · subst e2
    rw [e1]
    exact q1.now rl1 (Fz.bl false)
  · rw [e1]
    have : (op1 .niN d st1) = .ok (.p (.bool true)) st1 := by
      unfold op1
      simp only
    dsimp only at q1
    rw [this] at q1
    exact q1.now rl1 (Fz.bl true)
theorem chain_core {K : PySem.W.Frag} {g g' : D → D → Store → Res D} {σ : Sg} {H : Hp} {Q : VK}
    (h : tE K c (fun env st => (ra env st).bind fun x st => (rb env st).bind fun y st => (g x y st).nox.bind fun k st => match truth k with
      | some true => (rc env st).bind fun z st => (g' y z st).nox
      | some false => .ok (bz false) st
      | none => .bad) σ H Q) : tChain (rD K g) (rD K g') (tE K c ra) (tE K c rb) (tE K c rc) σ H Q := by
  obtain ⟨G, L, st, env, rl, re, q⟩ := h
  refine ⟨G, L, st, env, rl, re, (q.bind (RD K G)).mono fun x H1 ⟨L1, st1, d, po1, rl1, hd, q1⟩ => ?_⟩
  refine ⟨G, L1, st1, env, rl1, re.mono po1, (q1.bind (RD K G)).mono fun y H2 ⟨L2, st2, e, po2, rl2, he, q2⟩ => ?_⟩
  refine ⟨G, L2, st2, d, e, rl2, RD.mono po2 hd, he, Aft.nw (((q2.bind (RD K G))).mono fun z H3 ⟨L3, st3, k, po3, rl3, hk, q3⟩ => ?_)⟩
  dsimp only at q3
  split at q3
  · rename_i ht
    refine ⟨true, truth_rel hk ht, ?_⟩
    rw [if_pos rfl]
    refine ⟨G, L3, st3, env, rl3, (re.mono po1).mono (po2.trans po3), (q3.bind (RD K G)).mono fun w' H4 ⟨L4, st4, f, po4, rl4, hf, q4⟩ => ?_⟩
    exact ⟨G, L4, st4, e, f, rl4, RD.mono (po3.trans po4) he, hf, q4.nw⟩
  · rename_i ht
    refine ⟨false, truth_rel hk ht, ?_⟩
    rw [if_neg Bool.false_ne_true]
    exact q3.now rl3 (Fz.bl false)
  · exact q3.elim
theorem t_chain {op op' : CmpOp} {g g' : D → D → Store → Res D} {b c' : Expr} {rb : Sl → Store → Res D} (ho : OpR X (compareOp op) (rD X.K g)) (ho' : OpR X (compareOp op') (rD X.K g')) (ha : SE X c a ra) (hb : SE X c b rb) (hc : SE X c c' rc)
    (hm : lastMarks [op, op'] [b, c'] = false) :
    ST X c (.Compare a [op, op'] [b, c'] pos) (fun env st => (ra env st).bind fun x st => (rb env st).bind fun y st => (g x y st).nox.bind fun k st => match truth k with
      | some true => (rc env st).bind fun z st => (g' y z st).nox
      | some false => .ok (bz false) st
      | none => .bad) :=
  PT.imp (pt_chain ho ho' ha hb hc hm) fun σ H Q h => chain_core (tT_E h)
theorem t_not (ha : ST X c a ra) : ST X c (.UnaryOp .Not a pos) (fun env st => (ra env st).bind fun x st => (op1 .nt x st).nox) := by
  refine PT.imp (pt_not ha) fun σ H Q h => ?_
  obtain ⟨G, L, st, env, rl, re, q⟩ := h
  refine ⟨G, L, st, env, rl, re, ?_⟩
  unfold rT at q ⊢
  cases e : ra env st with
  | ok d st1 =>
    dsimp only at q
    rw [e] at q
    simp only [Res.bind_ok] at q ⊢
    unfold op1 at q
    simp only at q
    split at q
    · intro b L' H' po rl' hb
      cases hb
      exact q _ L' H' po rl' rfl
    · exact q.elim
  | ex k fs st1 => dsimp only at q; rw [e] at q; exact q
  | bad => dsimp only at q; rw [e] at q; exact q
theorem w_one {op : BoolOp} (h : op = .And ∨ op = .Or) (ha : ST X c a ra) : SW X c (.BoolOp op [a] pos) ra := by
  rcases h with h | h <;> subst h
  · exact pw_and1 ha
  · exact pw_or1 ha
theorem w_and {rest : List Expr} (ha : ST X c a ra) (hb : SW X c (.BoolOp .And (b :: rest) pos) rb) : SW X c (.BoolOp .And (a :: b :: rest) pos) (fun env st => (ra env st).bind fun x st => match truth x with
    | some true => rb env st
    | some false => .ok (bz false) st
    | none => .bad) := by
  refine PW.imp (pw_and ha hb) fun σ H Q h => ?_
  obtain ⟨G, L, st, env, rl, re, q⟩ := h
  refine ⟨G, L, st, env, rl, re, ?_⟩
  unfold rT at q ⊢
  cases e : ra env st with
  | ok d st1 =>
    dsimp only at q
    rw [e] at q
    simp only [Res.bind_ok] at q ⊢
    cases e2 : truth d with
    | none => rw [e2] at q; exact q.elim
    | some k =>
      rw [e2] at q
      intro b L' H' po rl' hb
      cases hb
      cases k with
      | true =>
        simp only at q
        rw [if_pos rfl]
        refine ⟨G, L', st1, env, rl', re.mono po, ?_⟩
        exact q.shift po
      | false =>
        rw [if_neg Bool.false_ne_true]
        exact q false L' H' po rl' rfl
  | ex k fs st1 => dsimp only at q; rw [e] at q; exact q
  | bad => dsimp only at q; rw [e] at q; exact q
theorem w_or {rest : List Expr} (ha : ST X c a ra) (hb : SW X c (.BoolOp .Or (b :: rest) pos) rb) : SW X c (.BoolOp .Or (a :: b :: rest) pos) (fun env st => (ra env st).bind fun x st => match truth x with
    | some true => .ok (bz true) st
    | some false => rb env st
    | none => .bad) := by
  refine PW.imp (pw_or ha hb) fun σ H Q h => ?_
  obtain ⟨G, L, st, env, rl, re, q⟩ := h
  refine ⟨G, L, st, env, rl, re, ?_⟩
  unfold rT at q ⊢
  cases e : ra env st with
  | ok d st1 =>
    dsimp only at q
    rw [e] at q
    simp only [Res.bind_ok] at q ⊢
    cases e2 : truth d with
    | none => rw [e2] at q; exact q.elim
    | some k =>
      rw [e2] at q
      intro b L' H' po rl' hb
      cases hb
      cases k with
      | false =>
        simp only at q
        rw [if_neg Bool.false_ne_true]
        refine ⟨G, L', st1, env, rl', re.mono po, ?_⟩
        exact q.shift po
      | true =>
        rw [if_pos rfl]
        exact q true L' H' po rl' rfl
  | ex k fs st1 => dsimp only at q; rw [e] at q; exact q
  | bad => dsimp only at q; rw [e] at q; exact q
theorem e_ite {t : Expr} {rt : Sl → Store → Res D} (ht : ST X c t rt) (ha : SE X c a ra) (hb : SE X c b rb) : SE X c (.IfExp t a b pos) (fun env st => (rt env st).bind fun x st => match truth x with
    | some true => ra env st
    | some false => rb env st
    | none => .bad) := by
  refine PE.imp (pe_ifExp ht ha hb) fun σ H Q h => ?_
  obtain ⟨G, L, st, env, rl, re, q⟩ := h
  refine ⟨G, L, st, env, rl, re, ?_⟩
  unfold rT
  cases e : rt env st with
  | ok d st1 =>
    dsimp only at q
    rw [e] at q
    simp only [Res.bind_ok] at q ⊢
    cases e2 : truth d with
    | none => rw [e2] at q; exact q.elim
    | some k =>
      rw [e2] at q
      intro b L' H' po rl' hb
      cases hb
      cases k with
      | true =>
        rw [if_pos rfl]
        exact ⟨G, L', st1, env, rl', re.mono po, q.shift po⟩
      | false =>
        rw [if_neg Bool.false_ne_true]
        exact ⟨G, L', st1, env, rl', re.mono po, q.shift po⟩
  | ex k fs st1 => dsimp only at q; rw [e] at q; exact q
  | bad => dsimp only at q; rw [e] at q; exact q
end
end Dn
namespace Dn
open PySem PySem.Spec PyProof.Rows L2
/-- expressions that stand anywhere without a mark of their own -/
def simpleE : Expr → Bool
  | .Starred .. => false
  | .Slice .. => false
  | .Set .. => false
  | .Call (.Name id _) _ _ _ => !(id == ("super" : Str))
  | _ => true
section
variable {env : Env} {e o : Expr} {es : List Expr}
theorem star_of (h : simpleE e = true) : starEach (e :: es) env = (false, eval e env) :: starEach es env := by
  cases e <;> first | rfl | cases h
theorem back_of {pos : Pos} : ∀ {es : List Expr}, es.all simpleE = true → (backTo pos (starEach es env)).any (·.1) = false
  | [], _ => rfl
  | e :: es, h => by
    rw [List.all_cons, Bool.and_eq_true] at h
    rw [star_of h.1]
    show (false || (backTo pos (starEach es env)).any (·.1)) = false
    rw [Bool.false_or]
    exact back_of h.2
theorem backAll_of {pos : Pos} : ∀ {es : List Expr}, es.all simpleE = true → (backTo pos (starEach es env)).all (fun x => !x.1) = true
  | [], _ => rfl
  | e :: es, h => by
    rw [List.all_cons, Bool.and_eq_true] at h
    rw [star_of h.1]
    show (true && (backTo pos (starEach es env)).all (fun x => !x.1)) = true
    rw [Bool.true_and]
    exact backAll_of h.2
theorem base_of {m : Str} (h : simpleE o = true) : attributeBase o m env (eval o env) = eval o env := by
  cases o with
  | Call f args kws pos =>
    cases f with
    | Name id p =>
      cases args with
      | nil =>
        cases kws with
        | nil =>
          unfold attributeBase
          have e : (id != ("super" : Str)) = true := by
            have : (id == ("super" : Str)) = false := by simpa [simpleE] using h
            simp [bne, this]
          simp only [e, Bool.true_or, if_true]
        | cons _ _ => rfl
      | cons _ _ => rfl
    | _ => rfl
  | _ => rfl
theorem plainIx_of (h : simpleE e = true) : PlainIx e := fun _ _ => by cases e <;> first | rfl | cases h
theorem marks_of {op : CmpOp} (h : simpleE e = true) : behindInMarks op e = false := by cases e <;> first | rfl | cases h
theorem few_of {cpos : Pos} (h : es.all simpleE = true) (hl : es.length < 30) : ((backTo cpos (starEach es env)).all (fun x => !x.1) && (backToKw cpos (keywordEach [] env)).all (fun x => x.1.isSome)
      && decide (es.length + ([] : List Keyword).length + (if ([] : List Keyword).isEmpty then 0 else 1) < 30)) = true := by
  rw [backAll_of h]
  show (true && true && decide (es.length + 0 + 0 < 30)) = true
  simp only [Bool.true_and, Nat.add_zero, decide_eq_true_eq]
  exact hl
end
section
variable {X : Cx} {c : Wc} {a b d : Expr} {ra rb rd : Sl → Store → Res D} {pos apos p : Pos} {x : Str} {id T : String}
/-! ### calls of built-ins -/
theorem e_blt1 {g : D → Store → Res D} (hc : CallR X (.builtin id) (rC1 X.K g)) (hg : Gl X x) (hm : X.mg x = none) (hv : bootBuiltins x = some (.builtin id)) (hn : x ≠ "__name__") (hdb : (x == ("__debug__" : Str)) = false) (ha : SE X c a ra) (sa : simpleE a = true) :
    SE X c (.Call (.Name x p) [a] [] pos) (fun env st => (ra env st).bind fun x st => (g x st).nox) := by
  refine PE.imp (pe_callB hc hg hm hv (pa_cons ha pa_nil (star_of sa)) hn hdb (star_of sa) rfl) fun σ H Q h => ?_
  obtain ⟨G, L, st, env, rl, re, q⟩ := h
  refine ⟨G, L, st, env, rl, re, (q.bind (RD X.K G)).mono fun x H1 ⟨L1, st1, d, po1, rl1, hd, q1⟩ => ?_⟩
  exact ⟨G, L1, st1, x, d, rfl, rl1, hd, q1.nw⟩
theorem e_blt2 {g : D → D → Store → Res D} (hc : CallR X (.builtin id) (rC2 X.K g)) (hg : Gl X x) (hm : X.mg x = none) (hv : bootBuiltins x = some (.builtin id)) (hn : x ≠ "__name__") (hdb : (x == ("__debug__" : Str)) = false) (ha : SE X c a ra) (sa : simpleE a = true) (hb : SE X c b rb) (sb : simpleE b = true) :
    SE X c (.Call (.Name x p) [a, b] [] pos) (fun env st => (ra env st).bind fun x st => (rb env st).bind fun y st => (g x y st).nox) := by
  refine PE.imp (pe_callB hc hg hm hv (pa_cons ha (pa_cons hb pa_nil (star_of sb)) (star_of sa)) hn hdb (star_of sa) (back_of (es := [b]) (by simp [sb]))) fun σ H Q h => ?_
  obtain ⟨G, L, st, env, rl, re, q⟩ := h
  refine ⟨G, L, st, env, rl, re, (q.bind (RD X.K G)).mono fun x H1 ⟨L1, st1, d, po1, rl1, hd, q1⟩ => ?_⟩
  refine ⟨G, L1, st1, env, rl1, re.mono po1, (q1.bind (RD X.K G)).mono fun y H2 ⟨L2, st2, e, po2, rl2, he, q2⟩ => ?_⟩
  exact ⟨G, L2, st2, x, y, d, e, rfl, rl2, RD.mono po2 hd, he, q2.nw⟩
theorem e_ty1 {g : D → Store → Res D} (hc : CallR X (.type T) (rC1 X.K g)) (hg : Gl X x) (hm : X.mg x = none) (hv : bootBuiltins x = some (.type T)) (hn : x ≠ "__name__") (hdb : (x == ("__debug__" : Str)) = false) (ha : SE X c a ra) (sa : simpleE a = true) :
    SE X c (.Call (.Name x p) [a] [] pos) (fun env st => (ra env st).bind fun x st => (g x st).nox) := by
  refine PE.imp (pe_callTy hc hg hm hv (pa_cons ha pa_nil (star_of sa)) hn hdb (star_of sa) rfl) fun σ H Q h => ?_
  obtain ⟨G, L, st, env, rl, re, q⟩ := h
  refine ⟨G, L, st, env, rl, re, (q.bind (RD X.K G)).mono fun x H1 ⟨L1, st1, d, po1, rl1, hd, q1⟩ => ?_⟩
  exact ⟨G, L1, st1, x, d, rfl, rl1, hd, q1.nw⟩
/-! ### isinstance -/
theorem isi_core {K : PySem.W.Frag} {G : Off1} {L : Lc} {H : Hp} {st : Store} {v : V} {d : D} {t : Ty} (rl : Rl K G L st H) (hd : RD K G L H v d) (e : tyOf d st = some t) (u : Ty) (hu : u ≠ .none) :
    TyX K H v (.type (tyName t)) ∧ PySem.W.kitOne K (.type (tyName t)) (.type (tyName u)) = some (isTy t u) := ⟨tyOf_rel rl hd e, by
  have := kitB_is t u hu
  exact this⟩
theorem e_isi1 {y : Str} {p2 : Pos} {u : Ty} (hu : u ≠ .none) (hg : Gl X "isinstance") (hm : X.mg "isinstance" = none) (hy : Gl X y) (hmy : X.mg y = none) (hvy : bootBuiltins y = some (.type (tyName u))) (hn : y ≠ "__name__") (hdb : (y == ("__debug__" : Str)) = false)
    (ha : SE X c a ra) (sa : simpleE a = true) : SE X c (.Call (.Name "isinstance" p) [a, .Name y p2] [] pos) (fun env st => (ra env st).bind fun x st => (op1 (.isin [u]) x st).nox) := by
  have hb : PE X (.Name y p2) (tC (.ty (tyName u))) := pe_bltn hy hmy hvy rfl hn hdb
  refine PE.imp (pe_callB call_isi hg hm (by decide +kernel) (pa_cons ha (pa_cons hb pa_nil rfl) (star_of sa)) (by decide) (by decide) (star_of sa) rfl) fun σ H Q h => ?_
  obtain ⟨G, L, st, env, rl, re, q⟩ := h
  refine ⟨G, L, st, env, rl, re, (q.bind (RD X.K G)).mono fun x H1 ⟨L1, st1, d, po1, rl1, hd, q1⟩ => ?_⟩
  replace q1 := q1.nw
  unfold op1 at q1
  simp only at q1
  obtain ⟨t, e, q2⟩ := Nw.of_map q1
  obtain ⟨h1, h2⟩ := isi_core rl1 hd e u hu
  refine ⟨x, .ty (tyName u), _, _, isTy t u, rfl, .ty _, h1, h2, ?_⟩
  have := q2.pure rl1 (.bl _)
  simpa using this
theorem e_isi2 {y z : Str} {p2 p3 tp : Pos} {x1 : Nat} {t u : Ty} (ht : t ≠ .none) (hu : u ≠ .none) (hg : Gl X "isinstance") (hm : X.mg "isinstance" = none)
    (hy : Gl X y ∧ X.mg y = none) (hvy : bootBuiltins y = some (.type (tyName t))) (hn : y ≠ "__name__") (hdb : (y == ("__debug__" : Str)) = false) (hz : Gl X z ∧ X.mg z = none) (hvz : bootBuiltins z = some (.type (tyName u))) (hn2 : z ≠ "__name__") (hdb2 : (z == ("__debug__" : Str)) = false)
    (ha : SE X c a ra) (sa : simpleE a = true) : SE X c (.Call (.Name "isinstance" p) [a, .Tuple [.Name y p2, .Name z p3] x1 tp] [] pos) (fun env st => (ra env st).bind fun x st => (op1 (.isin [t, u]) x st).nox) := by
  have hb : PE X (.Tuple [.Name y p2, .Name z p3] x1 tp) (tTup (tCons (tC (.ty (tyName t))) (tCons (tC (.ty (tyName u))) tNil))) := pe_tup (pa_cons (pe_bltn hy.1 hy.2 hvy rfl hn hdb) (pa_cons (pe_bltn hz.1 hz.2 hvz rfl hn2 hdb2) pa_nil rfl) rfl)
  refine PE.imp (pe_callB call_isiT hg hm (by decide +kernel) (pa_cons ha (pa_cons hb pa_nil rfl) (star_of sa)) (by decide) (by decide) (star_of sa) rfl) fun σ H Q h => ?_
  obtain ⟨G, L, st, env, rl, re, q⟩ := h
  refine ⟨G, L, st, env, rl, re, (q.bind (RD X.K G)).mono fun x H1 ⟨L1, st1, d, po1, rl1, hd, q1⟩ => ?_⟩
  replace q1 := q1.nw
  unfold op1 at q1
  simp only at q1
  obtain ⟨tt, e, q2⟩ := Nw.of_map q1
  refine ⟨by rw [sizeLine_eq]; simp, fun b hb => ?_⟩
  have po2 := Po.new1 (K := X.K) (G := G) (o := .tup [.ty (tyName t), .ty (tyName u)]) rl1 hb
  have rl2 := rl1.new1 (o := .tup [.ty (tyName t), .ty (tyName u)]) hb
  obtain ⟨h1, h2⟩ := isi_core rl2 (RD.mono po2 hd) e t ht
  obtain ⟨_, h3⟩ := isi_core rl2 (RD.mono po2 hd) e u hu
  refine ⟨x, b, _, _, _, (isTy tt t || isTy tt u), rfl, upd_same, .cons (.ty _) (.cons (.ty _) .nil), h1, kitAny_cons h2 (fun k => kitAny_cons h3 (fun k2 => ?_) (fun k2 => ?_)) (fun k => ?_), ?_⟩
  · rw [k, k2]
    exact kitAny_nil
  · rw [k, k2]
    rfl
  · rw [k]
    rfl
  · have q3 : ∀ bb, ([t, u].any fun u => isTy tt u) = bb → Q (.bl bb) (upd H1 b (.tup [.ty (tyName t), .ty (tyName u)])) := fun bb eb => by
      rw [eb] at q2
      exact Nw.pure (fun v L2 H2 po3 => q2 v L2 H2 (po2.trans po3)) rl2 (.bl _)
    exact q3 _ (by simp)
/-! ### slices -/
def tPs (K : PySem.W.Frag) (c : Wc) (r : Sl → Store → Res (Option Int)) : TO := fun σ H Q => ∃ G L st env, Rl K G L st H ∧ RE K G L H σ env ∧ Aft K c G L H σ (r env st) (fun _ _ b a => b = a) Q
abbrev SO (X : Cx) (c : Wc) (e : Option Expr) (r : Sl → Store → Res (Option Int)) : Prop := PO X e (tPs X.K c r)
theorem PO.imp {X : Cx} {e : Option Expr} {t t' : TO} (h : PO X e t) (hi : ∀ σ H Q, t' σ H Q → t σ H Q) : PO X e t' := ⟨fun pins s σ H Q I q => h.run pins s σ H Q I (hi σ H Q q)⟩
theorem o_none : SO X c none (fun _ st => .ok none st) := by
  refine PO.imp po_none fun σ H Q h => ?_
  obtain ⟨G, L, st, env, rl, re, q⟩ := h
  exact q.now rl rfl
theorem o_some (ha : SE X c a ra) : SO X c (some a) (fun env st => (ra env st).bind fun d st => match d with
    | .p (.int i) => .ok (some i) st
    | _ => .bad) := by
  refine PO.imp (po_some ha) fun σ H Q h => ?_
  obtain ⟨G, L, st, env, rl, re, q⟩ := h
  refine ⟨G, L, st, env, rl, re, (q.bind (RD X.K G)).mono fun x H1 ⟨L1, st1, d, po1, rl1, hd, q1⟩ => ?_⟩
  dsimp only at q1
  split at q1
  · rename_i i
    exact ⟨i, fz_int hd, q1.now rl1 rfl⟩
  · exact q1.elim
def rSlF (K : PySem.W.Frag) : V → Option Int → Option Int → Hp → VK → Prop := fun x lo hi H Q => ∃ a xs, x = .ref a ∧ SqT K H a xs ∧ (cutV xs lo hi = xs → Q x H) ∧ NewT (cutV xs lo hi) H Q
theorem sl_tupF : SlR X (rSlF X.K) := by
  intro pins s σ H x v vl vu lo hi sl Q I rx hs pl pu h
  obtain ⟨a, xs, rfl, hx, q1, q2⟩ := h
  cases rx
  obtain ⟨its, r, ht, hz⟩ := I.tuple hx
  have hlen : its.toArray.size = xs.length := by rw [List.size_toArray]; exact r.length.symm
  refine ⟨"tuple", _, PyProof.Rows.slot_tuple_getitem.lookup, ht.typeIs, ?_⟩
  by_cases hw : HT.sIx xs.length 0 lo = 0 ∧ HT.sIx xs.length xs.length hi = xs.length
  · have e : cutV xs lo hi = xs := by
      unfold cutV
      rw [hw.1, hw.2]
      simp
    exact L2.getItem_tuple_whole ht hs pl pu (by rw [hlen]; exact hw) ⟨.ref a, H, I, rfl, q1 e⟩
  · refine HT.getItem_tuple_cut ht hs pl pu (by rw [hlen]; exact hw) ?_ (by rw [hlen]; exact hz)
    rw [hlen]
    exact laidT (t' := s.toks) I (fun b ob q => Heap.get?_push_of_some _ q) (Nat.le_refl _) (Heap.get?_push_size _ rfl) ((r.drop (HT.sIx xs.length 0 lo)).take (HT.sIx xs.length xs.length hi - HT.sIx xs.length 0 lo)) (Nat.le_trans (cutV_length xs lo hi) hz) q2
def rSl (K : PySem.W.Frag) (m : Bool) : V → Option Int → Option Int → Hp → VK → Prop := fun x lo hi H Q => ∃ G L st d, Rl K G L st H ∧ RD K G L H x d ∧ Nw K G L H (asNew m (cutD d lo hi st) st) (RD K G) Q
theorem sOk.cut {z : Str} (h : sOk z) (lo hi : Option Int) : sOk ⟨(cut z.cps.toList lo hi).toArray⟩ := by
  refine sOk.mk (fun c hc => h.all c ?_) ?_
  · unfold Dn.cut at hc
    exact List.mem_of_mem_drop (List.mem_of_mem_take hc)
  · have := h.2
    rw [← str_len] at this
    unfold Dn.cut
    rw [List.length_take, List.length_drop]
    omega
theorem cutS_eq (z : Str) (lo hi : Option Int) : cutS z lo hi = ⟨(cut z.cps.toList lo hi).toArray⟩ := by
  unfold cutS
  rw [cut_eq _ lo hi z.length (str_len z)]
theorem mapP_inj : ∀ {es : List PyData} {ds : List D}, allP ds = some es → ds = es.map .p
  | _, [], h => by cases h; rfl
  | es, .p d :: ds, h => by
    simp only [allP, Option.map_eq_some_iff] at h
    obtain ⟨l, h1, rfl⟩ := h
    rw [List.map_cons, mapP_inj h1]
  | _, .r _ :: _, h => by cases h
theorem asNew_list {K : PySem.W.Frag} {G : Off1} {L : Lc} {H : Hp} {st : Store} {Q : VK} {m : Bool} {es : List PyData} {xs : List V} {p : Addr} (rl : Rl K G L st H) (f : FzA K (Off G L) H xs es) (q : Nw K G L H (asNew m (some (.p (.list es))) st) (RD K G) Q) (hp : H p = none) :
    Q (.ref p) (upd H p (.lst xs)) := by
  unfold asNew at q
  exact (newL_rel q rl (mapP_rel f)).2 p hp
theorem sl_any (m : Bool) : SlR X (rSl X.K m) := by
  intro pins s σ H x v vl vu lo hi sl Q I rx hs pl pu h
  refine (sl_list.or (sl_tupF.or sl_str)) pins s σ H x v vl vu lo hi sl Q I rx hs pl pu ?_
  obtain ⟨G, L, st, d, rl, hd, q⟩ := h
  unfold cutD at q
  split at q
  · rename_i z
    obtain ⟨e, hz⟩ := fz_str hd
    refine .inr (.inr ⟨z, e, hz.2, ?_⟩)
    rw [cutS_eq]
    unfold asNew at q
    cases m with
    | false => exact q.pure rl (.str _ (hz.cut lo hi))
    | true => exact q.elim
  · rename_i ds
    obtain ⟨a, xs, e, ht, f⟩ := fz_tup hd
    unfold asNew at q
    cases m with
    | true => exact q.elim
    | false =>
      have f2 := f.cut lo hi
      refine .inr (.inl ⟨a, xs, e, ht.sq, fun ec => ?_, fun p o ho hp => q.newT rl f2 hp ho⟩)
      rw [ec] at f2
      subst e
      exact q.pure rl (.tup ht f2)
  · rename_i n1 n2
    cases e : listP d st with
    | none =>
      rw [e] at q
      exact q.elim
    | some ds =>
      rw [e] at q
      obtain ⟨a, xs, e1, hq, f⟩ := listP_rel rl hd e
      exact .inl ⟨a, xs, e1, hq, fun p hp => asNew_list rl (f.cut lo hi) q hp⟩
theorem e_sl {lo hi : Option Expr} {rl rh : Sl → Store → Res (Option Int)} {m : Bool} {p2 : Pos} (ha : SE X c a ra) (hl : SO X c lo rl) (hh : SO X c hi rh) :
    SE X c (.Subscript a (.Slice lo hi none p2) pos) (fun env st => (ra env st).bind fun x st => (rl env st).bind fun l st => (rh env st).bind fun h st => (asNew m (cutD x l h st) st).nox) := by
  refine PE.imp (pe_slice (sl_any m) ha hl hh) fun σ H Q h => ?_
  obtain ⟨G, L, st, env, rl, re, q⟩ := h
  refine ⟨G, L, st, env, rl, re, (q.bind (RD X.K G)).mono fun x H1 ⟨L1, st1, d, po1, rl1, hd, q1⟩ => ?_⟩
  refine ⟨G, L1, st1, env, rl1, re.mono po1, (q1.bind (fun _ _ b a => b = a)).mono fun l H2 ⟨L2, st2, e, po2, rl2, he, q2⟩ => ?_⟩
  subst he
  refine ⟨G, L2, st2, env, rl2, (re.mono po1).mono po2, (q2.bind (fun _ _ b a => b = a)).mono fun l' H3 ⟨L3, st3, e', po3, rl3, he', q3⟩ => ?_⟩
  subst he'
  exact ⟨G, L3, st3, d, rl3, RD.mono (po2.trans po3) hd, q3.nw⟩
/-! ### the other way round -/
theorem e_rv {m : Bool} {k : Nat} {p1 p2 p3 : Pos} (ha : SE X c a ra) : SE X c (.Subscript a (.Slice none none (some (.UnaryOp .USub (.Constant (.int 1) k p1) p2)) p3) pos) (fun env st => (ra env st).bind fun x st => (asNew m (revD x st) st).nox) := by
  refine ⟨fun pins s σ H Q I h => ?_⟩
  obtain ⟨G, L, st, env, rl, re, q⟩ := h
  refine Subscript_ (thn (ha.run pins s σ H _ I ⟨G, L, st, env, rl, re, q.bind (RD X.K G)⟩) fun v s1 ⟨x, H1, I1, r1, L1, st1, d, po1, rl1, hd, q1⟩ => ?_)
  have hst : PO X (some (.UnaryOp .USub (.Constant (.int 1) k p1) p2)) (tPart (tUn (rU fun i => .int (-i)) (tC (.int 1)))) := po_some (pe_un un_neg pe_int)
  refine wpAny_Slice (thn (po_none.run pins s1 σ H1 (fun o H2 => o = none ∧ H2 = H1) I1 ⟨rfl, rfl⟩) fun vl s2 ⟨l, H2, I2, pl, el, e2⟩ => ?_)
  subst el e2
  refine thn (po_none.run pins s2 σ H2 (fun o H3 => o = none ∧ H3 = H2) I2 ⟨rfl, rfl⟩) fun vu s3 ⟨u, H3, I3, pu, eu, e3⟩ => ?_
  subst eu e3
  refine thn (hst.run pins s3 σ H3 (fun o H4 => o = some (-1) ∧ H4 = H3) I3 ⟨1, rfl, -1, rfl, rfl, rfl⟩) fun vs s4 ⟨o, H4, I4, ps, eo, e4⟩ => ?_
  subst eo e4
  have I5 : L2.Inv X pins σ H4 { s4 with heap := s4.heap.push { cls := .type "slice", data := .fields #[vl, vu, vs] } } := I4.kept (t' := s4.toks) fun b ob q => Heap.get?_push_of_some _ q
  show wpAny (model X.prog X.w) X.A (subscriptTail a (.Slice none none (some (.UnaryOp .USub (.Constant (.int 1) k p1) p2)) p3) v (.ref s4.heap.objs.size)) (EP X pins σ Q) X.xe { s4 with heap := s4.heap.push { cls := .type "slice", data := .fields #[vl, vu, vs] } }
  replace q1 := q1.nw
  have lst : ∀ es, listP d st1 = some es → Nw X.K G L1 H4 (asNew m (some (.p (.list es.reverse))) st1) (RD X.K G) Q → wpAny (model X.prog X.w) X.A (subscriptTail a (.Slice none none (some (.UnaryOp .USub (.Constant (.int 1) k p1) p2)) p3) v (.ref s4.heap.objs.size)) (EP X pins σ Q) X.xe { s4 with heap := s4.heap.push { cls := .type "slice", data := .fields #[vl, vu, vs] } } := by
    intro es e q2
    obtain ⟨b, xs, e1, hq, f⟩ := listP_rel rl1 hd e
    subst e1
    cases r1
    obtain ⟨its, r, ht, hz⟩ := I5.list hq
    have hlen := r.length
    refine tail_any (ops := [.ref b, .ref s4.heap.objs.size]) ht.isList.typeIs (PySem.slot_list_getitem.lookup) ?_ (by with_unfolding_all rfl)
    refine wpAny_getItem_list_slice ht.isList (Heap.IsSliceOf.new _ vl vu vs) pl pu ps (by decide) ?_ (by rw [List.size_toArray]; omega)
    rw [PySem.W.krv_pick]
    refine ⟨.ref _, _, I5.laid (t' := s4.toks) (o := .lst xs.reverse) (fun b ob q => Heap.get?_push_of_some _ q) (Nat.le_refl _) ?_, rfl, asNew_list rl1 f.rev q2 (I5.hok.fresh (Nat.le_refl _))⟩
    exact ⟨by rw [List.length_reverse]; exact hz, _, 0, r.reverse, Heap.get?_push_size _ rfl⟩
  unfold revD at q1
  split at q1
  · rename_i ds
    obtain ⟨b, xs, e, ht, f⟩ := fz_tup hd
    subst e
    cases r1
    obtain ⟨its, r, hi, hz⟩ := I5.tuple ht.sq
    obtain ⟨tk, evs⟩ : ∃ tk, vs = .int (-1) tk := by cases ps; exact ⟨_, rfl⟩
    have evl : vl = .none := by cases pl; rfl
    have evu : vu = .none := by cases pu; rfl
    subst evs evl evu
    unfold asNew at q1
    cases m with
    | true => exact q1.elim
    | false =>
      refine tail_any (ops := [.ref b, .ref s4.heap.objs.size]) hi.typeIs (PyProof.Rows.slot_tuple_getitem.lookup) ?_ (by with_unfolding_all rfl)
      refine getItem_tup_rev hi (Heap.IsSliceOf.new _ _ _ _) (by rw [← r.length]; exact hz) ?_
      exact laidT (t' := s4.toks) I5 (fun b ob q => Heap.get?_push_of_some _ q) (Nat.le_refl _) (Heap.get?_push_size _ rfl) r.reverse (by rw [List.length_reverse]; exact hz) fun p o ho hp => q1.newT rl1 f.rev hp ho
  · exact q1.elim
  · cases e : listP d st1 with
    | none => rw [e] at q1; exact q1.elim
    | some es => rw [e] at q1; exact lst es e q1
end
end Dn
/-! Dn: methods; calls of the program's own functions. -/
namespace Dn
open PySem PySem.Spec PyProof.Rows L2
section
variable {X : Cx} {c : Wc} {a b d : Expr} {ra rb rd : Sl → Store → Res D} {pos apos p cpos : Pos} {x m : Str} {id T : String}
theorem lst_ty {K : PySem.W.Frag} {G : Off1} {L : Lc} {H : Hp} {st : Store} {v : V} {d : D} (rl : Rl K G L st H) (hd : RD K G L H v d) (h : isLst d st = true) : tyV K "list" v H := by
  unfold isLst at h
  split at h
  · split at h
    · rename_i ds e
      obtain ⟨b, e1, e2, xs, e3, f⟩ := ref_rel rl hd e (by simp)
      subst e1
      exact .inl ⟨rfl, xs, .inl (.inl e3)⟩
    · cases h
  · cases h
theorem e_m0 {g : D → Store → Res D} (slot : Slot "list" m id) (hty : typeOf (.builtin id) = pure (.type "method_descriptor")) (hm : MtR X id (rM0 X.K g)) (hz : ∀ x st, isLst x st = false → g x st = .bad) (ha : SE X c a ra) (sa : simpleE a = true)
    (hline : (apos.endLine == cpos.line) = true) : SE X c (.Call (.Attribute a m apos) [] [] cpos) (fun env st => (ra env st).bind fun x st => (g x st).nox) := by
  refine PE.imp (pe_bm0 PySem.F.plainAttrs_list slot hty hm ha (base_of sa) hline) fun σ H Q h => ?_
  obtain ⟨G, L, st, env, rl, re, q⟩ := h
  refine ⟨G, L, st, env, rl, re, (q.bind (RD X.K G)).mono fun x H1 ⟨L1, st1, d, po1, rl1, hd, q1⟩ => ?_⟩
  replace q1 := q1.nw
  have hl : isLst d st1 = true := by
    cases e : isLst d st1 with
    | true => rfl
    | false => rw [hz d st1 e] at q1; exact q1.elim
  exact ⟨lst_ty rl1 hd hl, G, L1, st1, d, rfl, rl1, hd, q1⟩
theorem e_m1 {g : D → D → Store → Res D} (slot : Slot "list" m id) (hty : typeOf (.builtin id) = pure (.type "method_descriptor")) (hm : MtR X id (rM1 X.K g)) (ha : SE X c a ra) (sa : simpleE a = true) (hb : SE X c b rb) (sb : simpleE b = true)
    (hline : (apos.endLine == cpos.line) = true) : SE X c (.Call (.Attribute a m apos) [b] [] cpos) (fun env st => (ra env st).bind fun x st => if isLst x st then (rb env st).bind fun y st => (g x y st).nox else .bad) := by
  refine PE.imp (pe_bm PySem.F.plainAttrs_list slot hty hm ha (pa_cons hb pa_nil (star_of sb)) (base_of sa) (few_of (by simp [sb]) (by simp)) hline (star_of sb) rfl) fun σ H Q h => ?_
  obtain ⟨G, L, st, env, rl, re, q⟩ := h
  refine ⟨G, L, st, env, rl, re, (q.bind (RD X.K G)).mono fun x H1 ⟨L1, st1, d, po1, rl1, hd, q1⟩ => ?_⟩
  dsimp only at q1
  split at q1
  · rename_i hl
    refine ⟨lst_ty rl1 hd hl, G, L1, st1, env, rl1, re.mono po1, (q1.bind (RD X.K G)).mono fun y H2 ⟨L2, st2, e, po2, rl2, he, q2⟩ => ?_⟩
    exact ⟨G, L2, st2, y, d, e, rfl, rl2, RD.mono po2 hd, he, q2.nw⟩
  · exact q1.elim
theorem e_m2 {g : D → D → D → Store → Res D} (slot : Slot "list" m id) (hty : typeOf (.builtin id) = pure (.type "method_descriptor")) (hm : MtR X id (rM2 X.K g)) (ha : SE X c a ra) (sa : simpleE a = true) (hb : SE X c b rb) (sb : simpleE b = true) (hd : SE X c d rd) (sd : simpleE d = true)
    (hline : (apos.endLine == cpos.line) = true) : SE X c (.Call (.Attribute a m apos) [b, d] [] cpos) (fun env st => (ra env st).bind fun x st => if isLst x st then (rb env st).bind fun y st => (rd env st).bind fun z st => (g x y z st).nox else .bad) := by
  refine PE.imp (pe_bm PySem.F.plainAttrs_list slot hty hm ha (pa_cons hb (pa_cons hd pa_nil (star_of sd)) (star_of sb)) (base_of sa) (few_of (by simp [sb, sd]) (by simp)) hline (star_of sb) (back_of (es := [d]) (by simp [sd]))) fun σ H Q h => ?_
  obtain ⟨G, L, st, env, rl, re, q⟩ := h
  refine ⟨G, L, st, env, rl, re, (q.bind (RD X.K G)).mono fun x H1 ⟨L1, st1, d, po1, rl1, hd, q1⟩ => ?_⟩
  dsimp only at q1
  split at q1
  · rename_i hl
    refine ⟨lst_ty rl1 hd hl, G, L1, st1, env, rl1, re.mono po1, (q1.bind (RD X.K G)).mono fun y H2 ⟨L2, st2, e, po2, rl2, he, q2⟩ => ?_⟩
    refine ⟨G, L2, st2, env, rl2, (re.mono po1).mono po2, (q2.bind (RD X.K G)).mono fun z H3 ⟨L3, st3, f, po3, rl3, hf, q3⟩ => ?_⟩
    exact ⟨G, L3, st3, y, z, d, e, f, rfl, rl3, RD.mono (po2.trans po3) hd, RD.mono po3 he, hf, q3.nw⟩
  · exact q1.elim
/-! ### index of a tuple, a list -/
theorem type_list_index : typeOf (.builtin "list.index") = pure (.type "method_descriptor") := by show builtinType _ = _; rw [builtinType_eq_fast]; kernel_rfl
theorem e_indx (hu : X.A.units + 70 < cLine) (ha : SE X c a ra) (sa : simpleE a = true) (hb : SE X c b rb) (sb : simpleE b = true)
    (hline : (apos.endLine == cpos.line) = true) : SE X c (.Call (.Attribute a "index" apos) [b] [] cpos) (fun env st => (ra env st).bind fun x st => if pre .indx x st then (rb env st).bind fun y st => (op2 .indx x y st).nox else .bad) := by
  refine ⟨fun pins s σ H Q I h => ?_⟩
  obtain ⟨G, L, st, env, rl, re, q⟩ := h
  refine wpAny_Call_method_late (base_of sa) (few_of (by simp [sb]) (by simp)) hline rfl (thn (ha.run pins s σ H _ I ⟨G, L, st, env, rl, re, q.bind (RD X.K G)⟩) fun v s1 ⟨x, H1, I1, r1, L1, st1, d, po1, rl1, hd, q1⟩ => ?_)
  dsimp only at q1
  by_cases hp : pre .indx d st1 = true
  · rw [if_pos hp] at q1
    have key : ∀ (T : String) (id : String), PlainAttrs T → Slot T ("index" : Str) id → typeOf (.builtin id) = pure (.type "method_descriptor") → s1.TypeIs v T → (∀ a, v = .ref a → ∃ o, s1.heap.get? a = some o ∧ o.dict = none) →
        (∀ (s2 : Shared) (H2 : Hp) (Lb : Lc) (st2 : Store) (y : V) (u : Value) (e : D), L2.Inv X pins σ H2 s2 → Po L1 H1 Lb H2 → Rl X.K G Lb st2 H2 → RD X.K G Lb H2 y e → RelV y u → Nw X.K G Lb H2 (op2 .indx d e st2) (RD X.K G) Q → wpAny (model X.prog X.w) X.A (call (.builtin id) [v, u]) (EP X pins σ Q) X.xe s2) →
        MethodOn X.prog X.w X.A "index" cpos v (backTo cpos (starEach [b] X.env)) (EP X pins σ Q) X.xe s1 := by
      intro T id pa slot hty h1 h2 run
      refine ⟨T, id, pa, slot, hty, h1, h2, ?_⟩
      have hA := (pa_cons hb pa_nil (star_of sb)).run cpos pins s1 σ H1 (fun vs H2 => ∃ Lb st2 y e, vs = [y] ∧ Po L1 H1 Lb H2 ∧ Rl X.K G Lb st2 H2 ∧ RD X.K G Lb H2 y e ∧ Nw X.K G Lb H2 (op2 .indx d e st2) (RD X.K G) Q) I1
        ⟨G, L1, st1, env, rl1, re.mono po1, (q1.bind (RD X.K G)).mono fun y H2 ⟨Lb, st2, e, po2, rl2, he, q2⟩ => ⟨Lb, st2, y, e, rfl, po2, rl2, he, q2.nw⟩⟩
      rw [star_of sb] at hA ⊢
      refine Calls.callWith_builtin rfl (Calls.evalArgs_plain ?_)
      refine thn hA fun us s2 ⟨vs, H2, I2, r2, Lb, st2, y, e, ev, po2, rl2, he, q2⟩ => ?_
      subst ev
      obtain ⟨u, rfl, ru⟩ := vals1 r2
      exact run s2 H2 Lb st2 y u e I2 po2 rl2 he ru q2
    have lstCase : tyV X.K "list" x H1 → (∀ e st, op2 .indx d e st = match e with
        | .p z => (match listP d st with
          | some ds => if (inP z ds).isSome then Res.of st ((idxOf z ds).map fun (j : Nat) => .p (.int (j : Int))) else .bad
          | none => .bad)
        | _ => .bad) → MethodOn X.prog X.w X.A "index" cpos v (backTo cpos (starEach [b] X.env)) (EP X pins σ Q) X.xe s1 := fun ty hop => by
      obtain ⟨h1, h2⟩ := tyV_is I1 r1 ty
      refine key "list" "list.index" PySem.F.plainAttrs_list PySem.F.slot_list_index type_list_index h1 h2 fun s2 H2 Lb st2 y u e I2 po2 rl2 he ru q2 => ?_
      rw [hop] at q2
      cases e with
      | r k => exact q2.elim
      | p z =>
        simp only at q2
        cases el : listP d st2 with
        | none => rw [el] at q2; exact q2.elim
        | some ds =>
          rw [el] at q2
          simp only at q2
          obtain ⟨t, xs, e1, hq, f⟩ := listP_rel rl2 (RD.mono po2 hd) el
          subst e1
          cases r1
          split at q2
          · rename_i hp2
            obtain ⟨j, ej, q3⟩ := Nw.of_map q2
            exact indx_list hu I2 hq f.dp f.lay (Fz.dp _ _ he) ru (Fz.lay _ _ he) hp2 ej (q3.pure rl2 (by exact Fz.int _))
          · exact q2.elim
    cases d with
    | r k =>
      exact lstCase (lst_ty rl1 hd hp) fun e st => by cases e <;> rfl
    | p dd =>
      cases dd with
      | list ds =>
        obtain ⟨t, xs, e1, ht, f⟩ := fz_lst hd
        exact lstCase (e1 ▸ .inl ⟨rfl, xs, ht.sq⟩) fun e st => by cases e <;> rfl
      | tuple ds =>
        obtain ⟨t, xs, e1, ht, f⟩ := fz_tup hd
        subst e1
        cases r1
        obtain ⟨its, rv, hi, _⟩ := I1.tuple ht.sq
        have hdn : ∀ a, Value.ref t = .ref a → ∃ o, s1.heap.get? a = some o ∧ o.dict = none := fun a ea => by
          cases ea
          rcases ht with ⟨o, e, hd0, _⟩ | ⟨o, _, _, lk, _, hd0, _⟩
          · obtain ⟨e2, _⟩ := I1.hok t _ e
            exact ⟨o, e2, hd0⟩
          · exact ⟨o, I1.kIn t o lk, hd0⟩
        refine key "tuple" "tuple.index" PySem.F.plainAttrs_tuple PySem.F.slot_tuple_index PySem.F.type_tuple_index hi.typeIs hdn fun s2 H2 Lb st2 y u e I2 po2 rl2 he ru q2 => ?_
        cases e with
        | r k => exact q2.elim
        | p z =>
          replace q2 : Nw X.K G Lb H2 (if (inP z ds).isSome then Res.of st2 ((idxOf z ds).map fun (j : Nat) => .p (.int (j : Int))) else .bad) (RD X.K G) Q := q2
          split at q2
          · rename_i hp2
            obtain ⟨j, ej, q3⟩ := Nw.of_map q2
            have ht2 := ht.mono po2.keep
            have f2 := FzA.mono po2.keep _ _ f
            exact indx_tup hu I2 ht2.sq f2.dp f2.lay (Fz.dp _ _ he) ru (Fz.lay _ _ he) hp2 ej (q3.pure rl2 (by exact Fz.int _))
          · exact q2.elim
      | _ => cases hp
  · rw [if_neg hp] at q1
    exact q1.elim
end
end Dn
/-! Dn: calls of the program's own functions; freezing. -/
namespace Dn
open PySem PySem.Spec PyProof.Rows L2
/-- what a call of the function number f does -/
def spD (K : PySem.W.Frag) (c : Wc) (Φ : Calls) (f n : Nat) : Sp := fun vs H Q E => vs.length = n ∧ ∃ G L st ds, Rl K G L st H ∧ RDs K G L H vs ds ∧ Aft K (c.to E) G L H [] (Φ f ds st) (RD K G) Q
section
variable {K : PySem.W.Frag} {c : Wc} {G : Off1} {L : Lc} {H : Hp} {σ : Sg} {st : Store}
theorem Aft.toE {α β : Type} {r : Res α} {Rel : Lc → Hp → β → α → Prop} {Q : β → Hp → Prop} (h : Aft K c G L H σ r Rel Q) : Aft K (c.to (fun cls dd H => c.W cls dd σ H)) G L H [] r Rel Q := by
  cases r with
  | ok a st' => exact h
  | ex k fs st' => exact h
  | bad => exact h
/-- a call that works on a store of its own: what the caller's store is meanwhile -/
theorem pure_rl (rl : Rl K G L st H) : Rl K (Off G L) [] [] H := ⟨rfl, fun i j a e => by simp at e, fun i a o e => by simp at e, fun a h => by
  rcases h with h | ⟨i, e⟩
  · exact rl.gtr a h
  · simp at e, fun a ⟨i, e⟩ => by simp at e, fun i e => by simp at e⟩
theorem nil_live {b : Addr} : ¬ Live [] b := fun ⟨i, e⟩ => by simp at e
theorem pure_po {L' : Lc} {H' : Hp} (po : Po [] H L' H') : Po L H L H' := ⟨fun b u e _ => po.kp b u e nil_live, po.st, Nat.le_refl _, fun _ _ _ e => e, fun k b h e => by
  have := (List.getElem?_eq_some_iff.mp e).1
  omega⟩
theorem pure_back {L' : Lc} {H' : Hp} (rl : Rl K G L st H) (po : Po [] H L' H') : Rl K G L st H' where
  len := rl.len
  inj := rl.inj
  obj := fun i a o e1 e2 => (rl.obj i a o e1 e2).mono (pure_po po) fun u e => po.kp a u e nil_live
  gtr := fun a h => by
    obtain ⟨o, e⟩ := rl.gtr a h
    exact po.st a o e
  out := rl.out
  ded := rl.ded
theorem keep_off {O O' : Off1} {H : Hp} (h : ∀ b, O' b → O b) : Keep O H O' H := ⟨fun _ _ e _ => e, fun b x => .inl (h b x)⟩
theorem pure_args {vs : List V} : ∀ {ds : List D} {xs : List PyData}, RDs K G L H vs ds → allP ds = some xs → RDs K (Off G L) [] H vs (xs.map .p) := fun {ds xs} h e => by
  have f := allP_rel h e
  exact mapP_rel (FzA.mono (keep_off fun b z => by
    rcases z with z | z
    · exact z
    · exact absurd z nil_live) _ _ f)
/-- .. and what it hands back -/
theorem pure_ret {L' : Lc} {st' : Store} {H' : Hp} {v : V} {d : D} {x : PyData} (rl' : Rl K (Off G L) L' st' H') (hd : RD K (Off G L) L' H' v d) (e : thaw d st' = some x) : RD K G L H' v (.p x) := by
  have ko : Keep (Off (Off G L) L') H' (Off G L) H' := keep_off fun b z => .inl z
  unfold thaw at e
  split at e
  · cases e
    exact Fz.mono ko _ _ hd
  · split at e
    · rename_i k o ds es
      simp only [Option.map_eq_some_iff] at e
      obtain ⟨xs, e1, rfl⟩ := e
      obtain ⟨a, e2, e3, us, e4, f⟩ := ref_rel rl' hd es (by simp)
      subst e2
      exact .lst (.inl ⟨.inl e4, rl'.out a ⟨k, e3⟩⟩) (FzA.mono ko _ _ (allP_rel f e1))
    · cases e
theorem pure_aft {α : Type} {Φ : Calls} {f : Nat} {vs : List V} {ds : List D} {xs : List PyData} {Q : V → Hp → Prop} (rl : Rl K G L st H) (hv : RDs K G L H vs ds) (e : allP ds = some xs)
    (h : Aft K c G L H σ (runP Φ f xs st) (RD K G) Q) : Aft K c (Off G L) [] H σ (Φ f (xs.map .p) []) (RD K (Off G L)) Q := by
  unfold runP at h
  cases r : Φ f (xs.map .p) [] with
  | ok d st' =>
    rw [r] at h
    simp only at h
    intro v L' H' po rl' hd
    cases t : thaw d st' with
    | none => rw [t] at h; exact h.elim
    | some x =>
      rw [t] at h
      exact h v L H' (pure_po po) (pure_back rl po) (pure_ret rl' hd t)
  | ex k fs st' =>
    rw [r] at h
    intro cls dd L' H' po rl' hx
    exact h cls dd L H' (pure_po po) (pure_back rl po) (c.xm (fun b z => .inl z) hx)
  | bad => rw [r] at h; exact h.elim
end
/-- a way of calling with keywords: how many by place, the keywords' names, where each parameter's value stands -/
abbrev Kw := Nat × List Str × List Nat
def permV {α : Type} (z : α) (pm : List Nat) (l : List α) : List α := pm.map fun i => l.getD i z
def KwB (K : PySem.W.Frag) (fd : FuncData) (ps : List Str) (q : Kw) : Prop := ∀ (s : Shared) (us ws : List Value), K.In s.heap → us.length = q.1 → ws.length = q.2.1.length → BindsTo s fd ⟨us, q.2.1.zip ws⟩ (ps.zip (permV Value.none q.2.2 (us ++ ws)))
/-- a function of the program as the frame X sees it -/
structure FnX (X : Cx) (c : Wc) (Φ : Calls) (f n : Nat) (kw : List Kw) (x : Str) : Prop where
  ex : ∃ (fa : Addr) (fd : FuncData) (ps : List Str) (k : Nat), FnOk X.prog X.w X.K X.mg X.base (L2.CX X.prog X.w) k fa fd ps (spD X.K c Φ f n) ∧ Room k X.A ∧ X.mg x = some (.ref fa) ∧ PySem.W.keepIn X.K (.ref fa) = true ∧ Binds X.K fd ps [] ∧ ∀ q ∈ kw, KwB X.K fd ps q
section
variable {X : Cx} {c : Wc} {pos p : Pos} {x : Str} {e : Expr} {es : List Expr} {rs : Sl → Store → Res (List D)} {Φ : Calls} {f n : Nat}
theorem spD_iff {K : PySem.W.Frag} {c c' : Wc} (h : c.xr = c'.xr) {Φ : Calls} {f n : Nat} : spD K c Φ f n = spD K c' Φ f n := by
  obtain ⟨W, xr, xm⟩ := c
  obtain ⟨W', xr', xm'⟩ := c'
  cases h
  rfl
theorem rd_trim {K : PySem.W.Frag} {G : Off1} {L : Lc} {H : Hp} {n : Nat} (hn : n ≤ L.length) {v : V} {d : D} (h : RD K G L H v d) (hd : refLt n d = true) : RD K G (L.take n) H v d := by
  have le : ∀ b, Live (L.take n) b → Live L b := fun b ⟨i, e⟩ => ⟨i, by
    by_cases hi : i < n
    · rwa [List.getElem?_take_of_lt hi] at e
    · rw [List.getElem?_eq_none (by rw [List.length_take]; omega)] at e; cases e⟩
  have kp : Keep (Off G L) H (Off G (L.take n)) H := ⟨fun b u e _ => e, fun b z => .inl (z.imp id (le b))⟩
  cases d with
  | p d => exact Fz.mono kp d v h
  | r k =>
    obtain ⟨a, e, hk, hb⟩ := h
    have hk' : k < n := of_decide_eq_true hd
    exact ⟨a, e, by rw [List.length_take]; omega, fun b z => hb b (by rwa [List.getElem?_take_of_lt hk'] at z)⟩
theorem rds_trim {K : PySem.W.Frag} {G : Off1} {L : Lc} {H : Hp} {n : Nat} (hn : n ≤ L.length) : ∀ {vs : List V} {ds : List D}, RDs K G L H vs ds → ds.all (refLt n) = true → RDs K G (L.take n) H vs ds
  | _, _, .nil, _ => .nil
  | _, _, .cons a b, h => by
    rw [List.all_cons, Bool.and_eq_true] at h
    exact .cons (rd_trim hn a h.1) (rds_trim hn b h.2)
theorem rl_trim {K : PySem.W.Frag} {G : Off1} {L : Lc} {H : Hp} {st : Store} {n : Nat} (rl : Rl K G L st H) (hn : n ≤ L.length) (hc : (st.take n).all (obLt n) = true) : Rl K G (L.take n) (st.take n) H := by
  have at_ : ∀ {i : Nat} {x : Option Addr}, (L.take n)[i]? = some x → i < n ∧ L[i]? = some x := fun {i x} e => by
    by_cases hi : i < n
    · exact ⟨hi, by rwa [List.getElem?_take_of_lt hi] at e⟩
    · rw [List.getElem?_eq_none (by rw [List.length_take]; omega)] at e; cases e
  have le : ∀ b, Live (L.take n) b → Live L b := fun b ⟨i, e⟩ => ⟨i, (at_ e).2⟩
  refine ⟨by rw [List.length_take, List.length_take, rl.len], fun i j a e1 e2 => rl.inj i j a (at_ e1).2 (at_ e2).2, fun i a o e1 e2 => ?_, fun a z => rl.gtr a (z.imp id (le a)), fun a z => rl.out a (le a z), fun i e => ?_⟩
  · obtain ⟨hi, e1⟩ := at_ e1
    have ho : obLt n o = true := List.all_eq_true.mp hc o (List.mem_of_getElem? e2)
    rw [List.getElem?_take_of_lt hi] at e2
    have h := rl.obj i a o e1 e2
    cases o with
    | lst ds =>
      obtain ⟨xs, e3, r⟩ := h
      exact ⟨xs, e3, rds_trim hn r ho⟩
    | dic kvs =>
      obtain ⟨ks, e3, r⟩ := h
      refine ⟨ks, e3, ?_⟩
      have key : ∀ {ks : List (Key × V)} {kvs : List (PyData × D)}, Paired (fun p q => KeyR p.1 q.1 ∧ RD K G L H p.2 q.2) ks kvs → (kvs.all fun q => refLt n q.2) = true → Paired (fun p q => KeyR p.1 q.1 ∧ RD K G (L.take n) H p.2 q.2) ks kvs := by
        intro ks kvs r
        induction r with
        | nil => intro _; exact .nil
        | cons a b ih =>
          intro h
          rw [List.all_cons, Bool.and_eq_true] at h
          exact .cons ⟨a.1, rd_trim hn a.2 h.1⟩ (ih h.2)
      exact key r ho
    | gone => trivial
  · obtain ⟨hi, e1⟩ := at_ e
    rw [List.getElem?_take_of_lt hi]
    exact rl.ded i e1
theorem aft_trim {K : PySem.W.Frag} {c : Wc} {G : Off1} {L : Lc} {H : Hp} {σ : Sg} {r : Res D} {Q : VK} {n : Nat} (h : Aft K c G L H σ (trimR n r) (RD K G) Q) (hn : L.length = n) : Aft K c G L H σ r (RD K G) Q := by
  subst hn
  cases r with
  | bad => exact h
  | ex k fs st => exact h
  | ok d st =>
    cases d with
    | r k => exact h
    | p d =>
      intro v L' H' po rl hd
      by_cases hc : (st.take L.length).all (obLt L.length) = true
      · have h' : Aft K c G L H σ (.ok (.p d) (st.take L.length)) (RD K G) Q := by
          have : trimR L.length (.ok (.p d) st) = .ok (.p d) (st.take L.length) := by
            show Res.ok (D.p d) (if (st.take L.length).all (obLt L.length) = true then st.take L.length else st) = _
            rw [if_pos hc]
          rwa [this] at h
        refine h' v (L'.take L.length) H' ⟨po.kp, po.st, ?_, fun k b hk e => ?_, fun k b hk e => ?_⟩ (rl_trim rl po.le hc) (rd_trim (d := .p d) po.le hd rfl)
        · rw [List.length_take]
          have := po.le
          omega
        · rw [List.getElem?_take_of_lt hk] at e
          exact po.old k b hk e
        · rw [List.getElem?_eq_none (by rw [List.length_take]; omega)] at e; cases e
      · have h' : Aft K c G L H σ (.ok (.p d) st) (RD K G) Q := by
          have : trimR L.length (.ok (.p d) st) = .ok (.p d) st := by
            show Res.ok (D.p d) (if (st.take L.length).all (obLt L.length) = true then st.take L.length else st) = _
            rw [if_neg hc]
          rwa [this] at h
        exact h' v L' H' po rl hd
theorem e_call {pu : Bool} {kw : List Kw} (F : FnX X c Φ f n kw x) (tk : Takes X c.W) (hg : Gl X x) (hdb : (x == ("__debug__" : Str)) = false) (ha : SA X c (e :: es) rs) (hl : (e :: es).length = n) (hs : (e :: es).all simpleE = true)
    (hlen : ∀ env st ds st', rs env st = .ok ds st' → ds.length = (e :: es).length) :
    SE X c (.Call (.Name x p) (e :: es) [] pos) (fun env st => (rs env st).bind fun ds st => callD Φ pu f ds st) := by
  obtain ⟨fa, fd, ps, k, F, hr, hm, hk, hb, _⟩ := F.ex
  rw [List.all_cons, Bool.and_eq_true] at hs
  refine PE.imp (pe_callS F hr hg hm hk hb (fun σ => passAt tk σ) ha hdb (star_of hs.1) (back_of hs.2)) fun σ H Q h => ?_
  obtain ⟨G, L, st, env, rl, re, q⟩ := h
  dsimp only at q
  cases ea : rs env st with
  | bad => rw [ea] at q; exact q.elim
  | ex k fs st' => exact ⟨G, L, st, env, rl, re, by rw [ea] at q ⊢; exact q⟩
  | ok ds st1 =>
    refine ⟨G, L, st, env, rl, re, ?_⟩
    rw [ea] at q ⊢
    intro vs L1 H1 po1 rl1 hv
    have hlv : vs.length = n := by rw [Paired.length hv, hlen env st ds st1 ea, hl]
    have q1 : Aft X.K c G L1 H1 σ (callD Φ pu f ds st1) (RD X.K G) Q := Aft.shift po1 q
    refine ⟨hlv, ?_⟩
    unfold callD at q1
    cases pu with
    | false => exact ⟨G, L1, st1, ds, rl1, hv, Aft.toE (aft_trim q1 rl1.len)⟩
    | true =>
      simp only [if_true] at q1
      cases ep : allP ds with
      | none => rw [ep] at q1; exact q1.elim
      | some xs =>
        rw [ep] at q1
        simp only at q1
        exact ⟨Off G L1, [], [], xs.map .p, pure_rl rl1, pure_args hv ep, Aft.toE (pure_aft (α := Unit) rl1 hv ep q1)⟩
/-- nothing happens in Python, but the list will not change any more -/
theorem e_frz {a : Expr} {ra : Sl → Store → Res D} (ha : SE X c a ra) : SE X c a (fun env st => (ra env st).bind fun x st => (op1 .frz x st).nox) := by
  refine PE.imp ha fun σ H Q h => ?_
  obtain ⟨G, L, st, env, rl, re, q⟩ := h
  refine ⟨G, L, st, env, rl, re, (q.bind (RD X.K G)).mono fun x H1 ⟨L1, st1, d, po1, rl1, hd, q1⟩ => ?_⟩
  replace q1 := q1.nw
  unfold op1 at q1
  simp only at q1
  split at q1
  · rename_i k
    cases el : listP (.r k) st1 with
    | none => rw [el] at q1; exact q1.elim
    | some es =>
      rw [el] at q1
      have el2 := el
      unfold listP at el2
      simp only at el2
      split at el2
      · rename_i ds es2
        obtain ⟨b, e2, e3, us, e4, f⟩ := ref_rel rl1 hd es2 (by simp)
        subst e2
        obtain ⟨h1, h2, h3⟩ := rl1.freeze e3
        have f2 := allP_rel f el2
        refine q1 _ _ _ h2 h1 (.lst (.inl ⟨.inl e4, h3⟩) (FzA.mono h2.keep _ _ f2))
      · cases el2
  · exact q1.pure rl1 hd
end
end Dn
/-! Dn: a tuple so many times. -/
namespace Dn
open PySem PySem.Spec PyProof.Rows L2
theorem mulT_one (l : Addr) (its : Array Value) (n : Nat) (dd : Option Addr) (sl : Array (Option Value)) (u : Tok) :
    Meets (Builtin.«tuple.__mul__» ⟨[.ref l, .int 1 u], []⟩) (fun _ R s => s.heap.get? l = some { cls := .type "tuple", dict := dd, data := .seq its n, slots := sl } ∧ R (.ok (.ret (.ref l))) s) :=
  .of_wp fun prog w A R s h => by
    obtain ⟨hp, g, d, tk, os⟩ := s
    obtain ⟨hl, h⟩ := h
    have fi := AutoSeq1.idx_int
    wp_walk using wpAny_loadPart' hl
    exact ⟨_, rfl, h⟩
theorem mulT_none (l : Addr) (its : Array Value) (n : Nat) (dd : Option Addr) (sl : Array (Option Value)) (k : Int) (u : Tok) (k0 : (decide (k < -(2 ^ 63)) || decide (k ≥ 2 ^ 63)) = false) (k1 : (its.isEmpty || k == 1) = false) (k2 : (decide (k ≤ 0) || its.isEmpty) = true) :
    Meets (Builtin.«tuple.__mul__» ⟨[.ref l, .int k u], []⟩) (fun _ R s => s.heap.get? l = some { cls := .type "tuple", dict := dd, data := .seq its n, slots := sl } ∧
      R (.ok (.ret (Value.ref s.heap.objs.size))) { s with heap := s.heap.push { cls := Value.type "tuple", data := Data.seq #[] }, toks := s.toks }) :=
  .of_wp fun prog w A R s h => by
    obtain ⟨hp, g, d, tk, os⟩ := s
    obtain ⟨hl, h⟩ := h
    have fi := AutoSeq1.idx_int
    wp_walk using wpAny_loadPart' hl
    have n0 : ¬ ((decide (k < -(2 ^ 63)) || decide (k ≥ 2 ^ 63)) = true) := by rw [k0]; exact Bool.false_ne_true
    have n1 : ¬ ((its.isEmpty || k == 1) = true) := by rw [k1]; exact Bool.false_ne_true
    repeat (first
      | (refine wpAny_ite_false (decide_eq_false n0) ?_; wp_walk using wpAny_loadPart' hl)
      | (refine wpAny_ite_false (decide_eq_false n1) ?_; wp_walk using wpAny_loadPart' hl)
      | (refine wpAny_ite_true (decide_eq_true k2) ?_; wp_walk using wpAny_loadPart' hl))
    exact ⟨_, rfl, h⟩
/-- x * k, a tuple that is not empty -/
def rRepF (K : PySem.W.Frag) : R2 := fun x y H Q => ∃ l k xs, x = .ref l ∧ y = .int k ∧ SqT K H l xs ∧ xs ≠ [] ∧ -1000 ≤ k ∧ k ≤ 1000 ∧ xs.length ≤ 1000 ∧ (k = 1 → Q (.ref l) H) ∧ (k ≠ 1 → NewT (List.replicate k.toNat xs).flatten H Q)
section
variable {X : Cx}
theorem op_repF : OpR X (binaryOp .Mult) (rRepF X.K) := by
  intro pins s σ H x y v u Q I rx ry h
  obtain ⟨l, k, xs, rfl, rfl, hT, hne, h1, h2, hz, q1, q2⟩ := h
  cases rx
  obtain ⟨t, rfl⟩ := ry
  obtain ⟨its, r, ⟨⟨cls, dd, data, sl⟩, ho, hc, n, hd⟩, hs⟩ := I.tuple hT
  simp only at hc hd
  subst hc hd
  have eln : its.length = xs.length := r.length.symm
  have hn : its ≠ [] := fun e => hne (List.eq_nil_of_length_eq_zero (by rw [← eln, e]; rfl))
  have hi : its.toArray.isEmpty = false := by
    cases its with
    | nil => exact absurd rfl hn
    | cons a b => rfl
  have esz : its.toArray.size = xs.length := by rw [List.size_toArray, eln]
  have d0 : (decide (k < -(2 ^ 63)) || decide (k ≥ 2 ^ 63)) = false := by
    rw [decide_eq_false (by omega), decide_eq_false (by omega)] <;> rfl
  by_cases k1 : k = 1
  · subst k1
    exact wpAny_binaryOp_repeat_ref (T := "tuple") (U := "int") (by decide) ⟨_, ho, rfl⟩ (fun s' => typeIs_int s' 1 t) noFill_tuple_mul F.fills_int_mul F.slot_int_rmul repeat_tuple F.slot_int_index.lookup
      (call_meets F.slot_int_rmul (typeIs_int s 1 t) F.entry_int_rmul (F.args_int_rmul_2 _ _) (int_rmul_tuple 1 t l its.toArray n dd sl)
        ⟨ho, rfl, ⟨_, ho, rfl⟩, call_meets F.slot_tuple_mul ⟨_, ho, rfl⟩ F.entry_tuple_mul (F.args_tuple_mul_2 _ _) (mulT_one l its.toArray n dd sl t) ⟨ho, ⟨.ref l, H, I, rfl, q1 rfl⟩⟩⟩)
  · have d1 : (its.toArray.isEmpty || k == 1) = false := by
      rw [hi, Bool.false_or]
      exact beq_eq_false_iff_ne.mpr k1
    by_cases k2 : k ≤ 0
    · have d2 : (decide (k ≤ 0) || its.toArray.isEmpty) = true := by rw [decide_eq_true k2]; rfl
      have e0 : (List.replicate k.toNat xs).flatten = [] := by
        have : k.toNat = 0 := by omega
        rw [this]
        rfl
      have q3 := q2 k1
      rw [e0] at q3
      exact wpAny_binaryOp_repeat_ref (T := "tuple") (U := "int") (by decide) ⟨_, ho, rfl⟩ (fun s' => typeIs_int s' k t) noFill_tuple_mul F.fills_int_mul F.slot_int_rmul repeat_tuple F.slot_int_index.lookup
        (call_meets F.slot_int_rmul (typeIs_int s k t) F.entry_int_rmul (F.args_int_rmul_2 _ _) (int_rmul_tuple k t l its.toArray n dd sl)
          ⟨ho, rfl, ⟨_, ho, rfl⟩, call_meets F.slot_tuple_mul ⟨_, ho, rfl⟩ F.entry_tuple_mul (F.args_tuple_mul_2 _ _) (mulT_none l its.toArray n dd sl k t d0 d1 d2)
            ⟨ho, laidT (xs := []) (us := []) (t' := s.toks) I (fun b ob q => Heap.get?_push_of_some _ q) (Nat.le_refl _) (Heap.get?_push_size _ rfl) .nil (by simp) q3⟩⟩)
    · have hm : ((its.toArray.size : Nat) : Int) * k ≤ 1000000 := by
        rw [esz]
        have a1 : ((xs.length : Nat) : Int) * k ≤ 1000 * k := Int.mul_le_mul_of_nonneg_right (by omega) (by omega)
        omega
      have a2 : k.toNat * xs.length ≤ 1000 * 1000 := Nat.mul_le_mul (by omega) hz
      have fl : (List.replicate k.toNat its).flatten.length ≤ sizeLine := by
        rw [PyProof.Rows.lm_len_rep_flat, eln, sizeLine_eq]
        omega
      have fl2 : (List.replicate k.toNat xs).flatten.length ≤ sizeLine := by
        rw [PyProof.Rows.lm_len_rep_flat, sizeLine_eq]
        omega
      have d2 : (decide (k ≤ 0) || its.toArray.isEmpty) = false := by
        rw [hi, Bool.or_false]
        exact decide_eq_false k2
      have d4 : Builtin.Tuple.tupleTooMany (((its.toArray.size : Nat) : Int) * k) = false := by
        unfold Builtin.Tuple.tupleTooMany
        rw [sizeLine_eq]
        exact decide_eq_false (by omega)
      refine wpAny_binaryOp_repeat_ref (T := "tuple") (U := "int") (by decide) ⟨_, ho, rfl⟩ (fun s' => typeIs_int s' k t) noFill_tuple_mul F.fills_int_mul F.slot_int_rmul repeat_tuple F.slot_int_index.lookup
        (call_meets F.slot_int_rmul (typeIs_int s k t) F.entry_int_rmul (F.args_int_rmul_2 _ _) (int_rmul_tuple k t l its.toArray n dd sl)
          ⟨ho, rfl, ⟨_, ho, rfl⟩, call_meets F.slot_tuple_mul ⟨_, ho, rfl⟩ F.entry_tuple_mul (F.args_tuple_mul_2 _ _) (tuple_mulW l its.toArray n dd sl k t d0 d1 d2 (by omega) d4 (by rw [size_rep, List.size_toArray]; exact fl)) ⟨ho, ?_⟩⟩)
      rw [size_rep]
      exact laidT (t' := s.toks) I (fun b ob q => Heap.get?_push_of_some _ q) (Nat.le_refl _) (Heap.get?_push_size _ rfl) (r.rep k.toNat) fl2 (q2 k1)
/-- xs * k, a list of any kind: a new list -/
def rRepL (K : PySem.W.Frag) : R2 := fun x y H Q => ∃ l k xs, x = .ref l ∧ y = .int k ∧ SqL K H l xs ∧ -1000 ≤ k ∧ k ≤ 1000 ∧ xs.length ≤ 1000 ∧ ∀ p, H p = none → Q (.ref p) (upd H p (.lst (List.replicate k.toNat xs).flatten))
theorem op_repL : OpR X (binaryOp .Mult) (rRepL X.K) := by
  intro pins s σ H x y v u Q I rx ry h
  obtain ⟨l, k, xs, rfl, rfl, hL, h1, h2, hz, q⟩ := h
  cases rx
  obtain ⟨t, rfl⟩ := ry
  obtain ⟨its, r, ⟨⟨cls, dd, data, sl⟩, n, ho, hc, hdd, hd⟩, _⟩ := I.list hL
  simp only at hc hd
  subst hc hd
  have a2 : its.length * k.toNat ≤ 1000 * 1000 := Nat.mul_le_mul (by rw [← r.length]; exact hz) (by omega)
  have small : its.toArray.size * k.toNat ≤ sizeLine := by
    rw [List.size_toArray, sizeLine_eq]
    omega
  have cap : ¬ its.toArray.size * k.toNat > (2 ^ 63 - 1) / 8 := by
    have : (sizeLine : Nat) ≤ (2 ^ 63 - 1) / 8 := by decide
    omega
  have fits : ¬ (!Builtin.List.listFitsIndex k) = true := by
    rw [fitsIndex_both (by omega) (by omega)]
    exact Bool.false_ne_true
  have short : ¬ Builtin.List.listTooLong (its.toArray.size * k.toNat) = true := by
    rw [notLongL small]
    exact Bool.false_ne_true
  have made : List.foldl (fun x1 x2 => x1 ++ x2) #[] (List.replicate (if its.toArray.isEmpty = true then 0 else k.toNat) its.toArray) = (List.replicate k.toNat its).flatten.toArray := by
    have f0 : ∀ m : Nat, List.foldl (fun x1 x2 => x1 ++ x2) #[] (List.replicate m its.toArray) = (List.replicate m its).flatten.toArray := fun m => by
      have e := foldl_rep its m []
      rwa [List.nil_append] at e
    rw [f0]
    cases its with
    | nil => simp
    | cons a r' => rw [if_neg (by simp)]
  refine wpAny_binaryOp_repeat_ref (T := "list") (U := "int") (by decide) ⟨_, ho, rfl⟩ (fun s' => typeIs_int s' k t) noFill_list_mul F.fills_int_mul F.slot_int_rmul repeat_list F.slot_int_index.lookup
    (call_meets F.slot_int_rmul (typeIs_int s k t) F.entry_int_rmul (F.args_int_rmul_2 _ _) (lm_int_rmul_list_any k t l its.toArray n dd sl)
      ⟨ho, rfl, ⟨_, ho, rfl⟩, call_meets F.slot_list_mul ⟨_, ho, rfl⟩ F.entry_list_mul (F.args_list_mul_2 _ _) (lm_list_mul_any l its.toArray n dd sl k t fits cap short) ⟨ho, ?_⟩⟩)
  rw [made]
  exact ⟨.ref _, _, I.lnew (t' := s.toks) (r.rep k.toNat) (by rw [PyProof.Rows.lm_len_rep_flat, Nat.mul_comm, r.length]; rw [List.size_toArray] at small; exact small), rfl, q _ I.fresh⟩
end
end Dn
/-! Dn: more operators; calls with keywords. -/
namespace Dn
open PySem PySem.Spec PyProof.Rows L2
section
variable {X : Cx} {c : Wc} {a b d : Expr} {ra rb rd : Sl → Store → Res D} {pos apos p cpos : Pos} {x : Str}
theorem fz_rep {O : Off1} {H : Hp} {K : PySem.W.Frag} {xs : List V} {ds : List PyData} (h : FzA K O H xs ds) : ∀ n : Nat, FzA K O H (List.replicate n xs).flatten (List.replicate n ds).flatten
  | 0 => .nil
  | n + 1 => by
    rw [List.replicate_succ, List.replicate_succ, List.flatten_cons, List.flatten_cons]
    exact h.app (fz_rep h n)
/-- a text so many times -/
theorem op_mulS : OpR X (binaryOp .Mult) (fun x y H Q => ∃ z k, x = .str z ∧ y = .int k ∧ 0 ≤ k ∧ k ≤ 1000 ∧ z.length ≤ 1000 ∧ Q (.str (mulS z k)) H) := by
  intro pins s σ H x y v u Q I rx ry h
  obtain ⟨z, k, rfl, rfl, h1, h2, h3, q⟩ := h
  obtain ⟨t, rfl⟩ := rx
  obtain ⟨t2, rfl⟩ := ry
  refine PySem.SB.mul ⟨?_, fun g1 _ => ?_, fun g1 _ => ?_⟩ fun t' n => ⟨.str _, H, I.tok _, ⟨t', rfl⟩, q⟩
  · rw [decide_eq_false (by omega), decide_eq_false (by omega)] <;> rfl
  · have g2 : (0 : Int) < k := by omega
    have g3 : (z.length : Int) * k ≤ 2 ^ 63 - 1 := by
      have := Int.mul_le_mul (show (z.length : Int) ≤ 1000 by omega) h2 h1 (by omega)
      omega
    have := Int.le_ediv_of_mul_le g2 g3
    omega
  · show decide (z.length * k.toNat > sizeLine) = false
    have : z.length * k.toNat ≤ 1000 * 1000 := Nat.mul_le_mul h3 (by omega)
    rw [sizeLine_eq]
    exact decide_eq_false (by omega)
theorem fold_rep : ∀ (n : Nat) (xs acc : Array Nat), ((List.replicate n xs).foldl (· ++ ·) acc).toList = acc.toList ++ (List.replicate n xs.toList).flatten
  | 0, xs, acc => by simp
  | n + 1, xs, acc => by
    rw [List.replicate_succ, List.foldl_cons, fold_rep n xs (acc ++ xs), List.replicate_succ, List.flatten_cons]
    simp
theorem sOk.rep {z : Str} (h : sOk z) {k : Int} (h0 : k ≤ 1000) (h1 : z.length ≤ 1000) : sOk (mulS z k) := by
  unfold mulS
  split
  · exact sOk.mk (l := []) (by simp) (by simp)
  · split
    · exact h
    · have e : (List.replicate k.toNat z.cps).foldl (· ++ ·) #[] = ((List.replicate k.toNat z.cps.toList).flatten).toArray := by
        apply Array.toList_inj.mp
        rw [fold_rep]
        simp
      rw [e]
      refine sOk.mk (fun c hc => ?_) ?_
      · obtain ⟨l, hl, hcl⟩ := List.mem_flatten.mp hc
        rw [List.eq_of_mem_replicate hl] at hcl
        exact h.all c hcl
      · rw [List.length_flatten, List.map_replicate, List.sum_replicate_nat, str_len]
        have : k.toNat * z.length ≤ 1000 * 1000 := Nat.mul_le_mul (by omega) h1
        rw [sizeLine_eq]
        omega
theorem o_mul : OpR X (binaryOp .Mult) (rD X.K (op2 .mul)) := by
  refine OpR.imp (OpR.or op_mul (OpR.or op_repF (OpR.or op_repL op_mulS))) fun x y H Q h => ?_
  obtain ⟨G, L, st, d, e, rl, hd, he, q⟩ := h
  unfold op2 at q
  simp only at q
  split at q
  · rename_i i j
    split at q
    · rename_i hm
      refine .inl ⟨i, j, fz_int hd, fz_int he, ?_, q.pure rl (.int _)⟩
      unfold mulOk at hm
      simp only [Bool.or_eq_true, decide_eq_true_eq] at hm
      unfold CMul
      rcases hm with hm | hm
      · left; omega
      · right; omega
    · exact q.elim
  · rename_i ds k
    split at q
    · rename_i hm
      unfold repOk at hm
      simp only [Bool.and_eq_true, decide_eq_true_eq, Bool.not_eq_true'] at hm
      obtain ⟨⟨⟨h1, h2⟩, h3⟩, h4⟩ := hm
      obtain ⟨l, xs, e1, t1, f1⟩ := fz_tup hd
      refine .inr (.inl ⟨l, k, xs, e1, fz_int he, t1.sq, fun z => ?_, h2, h3, by rw [f1.len]; exact h4, fun z => ?_, fun z p o ho hp => ?_⟩)
      · have za := f1.nil_iff.mp z
        rw [za] at h1
        cases h1
      · subst z
        have e0 : (List.replicate (1 : Int).toNat ds).flatten = ds := by simp
        rw [e0] at q
        rw [← e1]
        exact q.pure rl hd
      · exact q.newT rl (fz_rep f1 _) hp ho
    · exact q.elim
  · rename_i ds k
    split at q
    · rename_i hm
      simp only [Bool.and_eq_true, decide_eq_true_eq] at hm
      obtain ⟨⟨h2, h3⟩, h4⟩ := hm
      obtain ⟨l, xs, e1, t1, f1⟩ := fz_lst hd
      exact .inr (.inr (.inl ⟨l, k, xs, e1, fz_int he, t1.sq, h2, h3, by rw [f1.len]; exact h4, fun p hp => q.newL rl (fz_rep f1 _) hp⟩))
    · exact q.elim
  · rename_i z k
    split at q
    · rename_i hm
      simp only [Bool.and_eq_true, decide_eq_true_eq] at hm
      obtain ⟨⟨h2, h3⟩, h4⟩ := hm
      obtain ⟨e1, hz⟩ := fz_str hd
      exact .inr (.inr (.inr ⟨z, k, e1, fz_int he, h2, h3, h4, q.pure rl (.str _ (hz.rep h3 h4))⟩))
    · exact q.elim
  · exact q.elim
theorem o_band : OpR X (binaryOp .BitAnd) (rD X.K (op2 .band)) := by
  refine OpR.imp op_and fun x y H Q h => ?_
  obtain ⟨G, L, st, d, e, rl, hd, he, q⟩ := h
  unfold op2 at q
  simp only at q
  split at q
  · exact ⟨_, _, fz_int hd, fz_int he, q.pure rl (.int _)⟩
  · exact q.elim
theorem o_shr : OpR X (binaryOp .RShift) (rD X.K (op2 .shr)) := by
  refine OpR.imp op_shr fun x y H Q h => ?_
  obtain ⟨G, L, st, d, e, rl, hd, he, q⟩ := h
  unfold op2 at q
  simp only at q
  split at q
  · split at q
    · rename_i hj
      exact ⟨_, _, fz_int hd, fz_int he, hj, q.pure rl (.int _)⟩
    · exact q.elim
  · exact q.elim
theorem up1_eq (n : Nat) : PyProof.Rows.up1 n = upC n := by
  unfold PyProof.Rows.up1 upC
  first | rfl | (split <;> split <;> first | rfl | omega)
theorem e_upper (ha : SE X c a ra) (sa : simpleE a = true) (hline : (apos.endLine == cpos.line) = true) : SE X c (.Call (.Attribute a "upper" apos) [] [] cpos) (fun env st => (ra env st).bind fun x st => (op1 .upper x st).nox) := by
  refine PE.imp (pe_upper ha (base_of sa) hline) fun σ H Q h => ?_
  obtain ⟨G, L, st, env, rl, re, q⟩ := h
  refine ⟨G, L, st, env, rl, re, (q.bind (RD X.K G)).mono fun x H1 ⟨L1, st1, d, po1, rl1, hd, q1⟩ => ?_⟩
  replace q1 := q1.nw
  unfold op1 at q1
  simp only at q1
  split at q1
  · rename_i z
    obtain ⟨y, e, q2⟩ := Nw.of_map q1
    obtain ⟨e1, hz⟩ := fz_str hd
    unfold upS at e
    split at e
    · rename_i hall
      cases e
      rw [Bool.and_eq_true] at hall
      have hl : z.length ≤ 5592405 := of_decide_eq_true hall.2
      have hcc : ∀ c ∈ z.cps.toList, c < 128 := fun c hc => of_decide_eq_true (List.all_eq_true.mp hall.1 c hc)
      have eu : Txt.upper z = ⟨(z.cps.toList.map upC).toArray⟩ := by
        rw [PyProof.Rows.upper_ascii (x := z) fun c hc => hcc c (by first | exact hc | simpa using hc)]
        have : (z.cps.map PyProof.Rows.up1).toList = z.cps.toList.map upC := by
          rw [Array.toList_map]
          exact List.map_congr_left fun n _ => up1_eq n
        rw [← this]
      refine ⟨⟨z, e1⟩, z, e1, rfl, hl, ?_⟩
      rw [eu]
      refine q2.pure rl1 (.str _ (sOk.mk (fun n hn => ?_) ?_))
      · obtain ⟨m, hm, rfl⟩ := List.mem_map.mp hn
        have := hcc m hm
        unfold upC
        split <;> omega
      · rw [List.length_map, str_len, sizeLine_eq]; omega
    · cases e
  · exact q1.elim
/-! ### calls with keywords -/
theorem permV_rel {K : PySem.W.Frag} {G : Off1} {L : Lc} {H : Hp} {vs : List V} {ds : List D} (h : RDs K G L H vs ds) : ∀ {pm : List Nat} {es : List D}, permD pm ds = some es → RDs K G L H (permV V.non pm vs) es
  | [], es, e => by cases e; exact .nil
  | i :: pm, es, e => by
    unfold permD at e
    rw [List.mapM_cons] at e
    cases e1 : ds[i]? with
    | none => rw [e1] at e; cases e
    | some d =>
      rw [e1] at e
      cases e2 : permD pm ds with
      | none =>
        unfold permD at e2
        rw [e2] at e; cases e
      | some r =>
        have e2' := e2
        unfold permD at e2'
        rw [e2'] at e
        cases e
        obtain ⟨v, h1, h2⟩ := h.get e1
        refine .cons ?_ (permV_rel h e2)
        show RD K G L H (vs.getD i V.non) d
        rw [List.getD_eq_getElem?_getD, h1]
        exact h2
theorem permVals : ∀ {pm : List Nat} {vs : List V} {us : List Value}, Vals vs us → Vals (permV V.non pm vs) (permV Value.none pm us)
  | [], _, _, _ => .nil
  | i :: pm, vs, us, r => by
    refine .cons ?_ (permVals (pm := pm) r)
    show RelV (vs.getD i V.non) (us.getD i Value.none)
    rw [List.getD_eq_getElem?_getD, List.getD_eq_getElem?_getD]
    cases e : vs[i]? with
    | none =>
      have hl := r.length
      rw [List.getElem?_eq_none (by have := List.getElem?_eq_none_iff.mp e; omega)]
      rfl
    | some v =>
      obtain ⟨u, h1, h2⟩ := r.get e
      rw [h1]
      exact h2
theorem permD_len {pm : List Nat} {ds es : List D} (h : permD pm ds = some es) : es.length = pm.length := by
  induction pm generalizing es with
  | nil => cases h; rfl
  | cons i pm ih =>
    unfold permD at h
    rw [List.mapM_cons] at h
    cases e1 : ds[i]? with
    | none => rw [e1] at h; cases h
    | some d =>
      rw [e1] at h
      cases e2 : permD pm ds with
      | none =>
        unfold permD at e2
        rw [e2] at h; cases h
      | some r =>
        have e2' := e2
        unfold permD at e2'
        rw [e2'] at h
        cases h
        simp [ih e2]
end
section
variable {X : Cx} {c : Wc} {pos p : Pos} {x : Str} {e : Expr} {es : List Expr} {kws : List Keyword} {rs rs2 : Sl → Store → Res (List D)} {ra : Sl → Store → Res D} {Φ : Calls} {f n : Nat}
abbrev SK (X : Cx) (c : Wc) (kws : List Keyword) (r : Sl → Store → Res (List D)) : Prop := PK X kws (tAr X.K c r)
theorem PK.imp {X : Cx} {e : List Keyword} {t t' : TA} (h : PK X e t) (hi : ∀ σ H Q, t' σ H Q → t σ H Q) : PK X e t' := ⟨fun pos pins s σ H Q I q => h.run pos pins s σ H Q I (hi σ H Q q)⟩
theorem k_nil : SK X c [] (fun _ st => .ok [] st) := by
  refine PK.imp pk_nil fun σ H Q h => ?_
  obtain ⟨G, L, st, env, rl, re, q⟩ := h
  exact q.now rl .nil
theorem k_cons {a : Expr} {nm : Option Str} {kpos : Pos} (ha : SE X c a ra) (hs : SK X c kws rs) : SK X c (⟨nm, a, kpos⟩ :: kws) (fun env st => (ra env st).bind fun d st => (rs env st).bind fun ds st => .ok (d :: ds) st) := by
  refine PK.imp (pk_cons ha hs) fun σ H Q h => ?_
  obtain ⟨G, L, st, env, rl, re, q⟩ := h
  refine ⟨G, L, st, env, rl, re, (q.bind (RD X.K G)).mono fun x H1 ⟨L1, st1, d, po1, rl1, hd, q1⟩ => ?_⟩
  refine ⟨G, L1, st1, env, rl1, re.mono po1, (q1.bind (RDs X.K G)).mono fun y H2 ⟨L2, st2, e, po2, rl2, he, q2⟩ => ?_⟩
  exact q2.now rl2 (.cons (RD.mono po2 hd) he)
def kwNames : List Keyword → Option (List Str)
  | [] => some []
  | ⟨some x, _, _⟩ :: r => (kwNames r).map (x :: ·)
  | ⟨none, _, _⟩ :: _ => none
theorem kwNames_ok {env : Env} : ∀ {kws : List Keyword} {ks : List Str}, kwNames kws = some ks → (backToKw pos (keywordEach kws env)).all (·.1.isSome) = true ∧ (backToKw pos (keywordEach kws env)).filterMap (·.1) = ks ∧ (backToKw pos (keywordEach kws env)).any (·.1.isNone) = false
  | [], ks, h => by cases h; exact ⟨rfl, rfl, rfl⟩
  | ⟨some x, v, q⟩ :: r, ks, h => by
    simp only [kwNames, Option.map_eq_some_iff] at h
    obtain ⟨l, h1, rfl⟩ := h
    obtain ⟨g1, g2, g3⟩ := kwNames_ok (env := env) h1
    refine ⟨?_, ?_, ?_⟩
    · show (true && _) = true
      rw [Bool.true_and]; exact g1
    · show x :: _ = x :: l
      rw [← g2]; rfl
    · show (false || _) = false
      rw [Bool.false_or]; exact g3
  | ⟨none, v, q⟩ :: r, ks, h => by cases h
theorem Vals.app {xs ys : List V} {us ws : List Value} (h : Vals xs us) (h2 : Vals ys ws) : Vals (xs ++ ys) (us ++ ws) := h.append h2
theorem callk_fin {pu : Bool} {ks : List Str} {pm : List Nat} {pins : List (Addr × Obj)} {σ : Sg} {Q : VK} {G : Off1} {m k : Nat} {fa : Addr} {fd : FuncData} {ps : List Str} (tk : Takes X c.W) (F : FnOk X.prog X.w X.K X.mg X.base (L2.CX X.prog X.w) k fa fd ps (spD X.K c Φ f pm.length)) (hr : Room k X.A) (hbq : KwB X.K fd ps (m, ks, pm)) :
    ∀ (s2 : Shared) (H2 : Hp) (vs zs : List V) (us ws : List Value) (Lb : Lc) (st2 : Store) (ds gs : List D), L2.Inv X pins σ H2 s2 → Vals vs us → Vals zs ws → Rl X.K G Lb st2 H2 → RDs X.K G Lb H2 vs ds → RDs X.K G Lb H2 zs gs → ds.length = m → gs.length = ks.length →
      Aft X.K c G Lb H2 σ (match permD pm (ds ++ gs) with
        | some ds => callD Φ pu f ds st2
        | none => .bad) (RD X.K G) Q → wpAny (model X.prog X.w) X.A (call (.ref fa) us (ks.zip ws)) (EP X pins σ Q) X.xe s2 := by
  intro s2 H2 vs zs us ws Lb st2 ds gs I2 rv rz rl2 hv hz l1 l2 q2
  have hvz : RDs X.K G Lb H2 (vs ++ zs) (ds ++ gs) := RDs.app hv hz
  cases ep : permD pm (ds ++ gs) with
  | none => rw [ep] at q2; exact q2.elim
  | some es' =>
    rw [ep] at q2
    simp only at q2
    have hp := permV_rel hvz ep
    have rp : Vals (permV V.non pm (vs ++ zs)) (permV Value.none pm (us ++ ws)) := permVals (rv.append rz)
    have lv : us.length = m := by rw [← rv.length, Paired.length hv, l1]
    have lz : ws.length = ks.length := by rw [← rz.length, Paired.length hz, l2]
    have hb2 := hbq s2 us ws I2.kIn lv lz
    have hsp : spD X.K c Φ f pm.length (permV V.non pm (vs ++ zs)) H2 Q (fun cls dd H => c.W cls dd σ H) := by
      refine ⟨by simp [permV], ?_⟩
      unfold callD at q2
      cases pu with
      | false => exact ⟨G, Lb, st2, es', rl2, hp, Aft.toE (aft_trim q2 rl2.len)⟩
      | true =>
        simp only [if_true] at q2
        cases ea : allP es' with
        | none => rw [ea] at q2; exact q2.elim
        | some xs =>
          rw [ea] at q2
          simp only at q2
          exact ⟨Off G Lb, [], [], xs.map .p, pure_rl rl2, pure_args hp ea, Aft.toE (pure_aft (α := Unit) rl2 hp ea q2)⟩
    refine wpAny_call (codeAny_mono (F.run X.A X.stack s2 H2 ⟨us, ks.zip ws⟩ _ _ Q _ hr I2.env0 hb2 rp hsp) fun r s' hq => ?_)
    cases r with
    | error e => exact passAt tk σ pins H2 s2 e s' I2 hq
    | ok fl =>
      cases fl with
      | ret u => exact I2.after hq
      | next => exact False.elim hq
      | brk => exact False.elim hq
      | cont => exact False.elim hq
theorem e_callk {pu : Bool} {kw : List Kw} {ks : List Str} {pm : List Nat} (F : FnX X c Φ f pm.length kw x) (tk : Takes X c.W) (hg : Gl X x) (hdb : (x == ("__debug__" : Str)) = false) (ha : SA X c (e :: es) rs) (hkw : SK X c kws rs2) (hq : ((e :: es).length, ks, pm) ∈ kw) (hks : kwNames kws = some ks) (hs : (e :: es).all simpleE = true)
    (hlen : ∀ env st ds st', rs env st = .ok ds st' → ds.length = (e :: es).length) (hlen2 : ∀ env st ds st', rs2 env st = .ok ds st' → ds.length = ks.length) :
    SE X c (.Call (.Name x p) (e :: es) kws pos) (fun env st => (rs env st).bind fun ds st => (rs2 env st).bind fun gs st => match permD pm (ds ++ gs) with
      | some ds => callD Φ pu f ds st
      | none => .bad) := by
  obtain ⟨fa, fd, ps, k, F, hr, hm, hk, hb, hkb⟩ := F.ex
  have hbq := hkb _ hq
  obtain ⟨n1, n2, n3⟩ := kwNames_ok (pos := pos) (env := X.env) hks
  refine ⟨fun pins s σ H Q I h => ?_⟩
  obtain ⟨G, L, st, env, rl, re, q⟩ := h
  refine wpAny_Call_Name_kw (ld_glob I hg hm ?_ hdb)
  have hs2 := hs
  rw [List.all_cons, Bool.and_eq_true] at hs2
  have hA : tAr X.K c rs σ H (fun vs H1 => ∃ L1 st1 ds, ds.length = (e :: es).length ∧ Rl X.K G L1 st1 H1 ∧ RE X.K G L1 H1 σ env ∧ RDs X.K G L1 H1 vs ds ∧ Aft X.K c G L1 H1 σ ((rs2 env st1).bind fun gs st => match permD pm (ds ++ gs) with
      | some ds => callD Φ pu f ds st
      | none => .bad) (RD X.K G) Q) := by
    refine ⟨G, L, st, env, rl, re, ?_⟩
    dsimp only at q
    cases ea : rs env st with
    | bad => rw [ea] at q; exact q.elim
    | ex kk fs st' => rw [ea] at q; exact q
    | ok ds st1 =>
      rw [ea] at q
      intro vs L1 H1 po1 rl1 hv
      exact ⟨L1, st1, ds, hlen _ _ _ _ ea, rl1, re.mono po1, hv, Aft.shift po1 q⟩
  refine PySem.W.callWith_KW (h₀ := X.base) I.ok.mod.kin hk n1 (thn (ha.run pos pins s σ H _ I hA) fun us s1 ⟨vs, H1, I1, r, L1, st1, ds, hl, rl1, re1, hv, q1⟩ => ?_) (by rw [back_of hs, n3]; rfl) (star_of hs2.1)
  have hB : tAr X.K c rs2 σ H1 (fun zs H2 => ∃ L2 st2 gs, gs.length = ks.length ∧ Rl X.K G L2 st2 H2 ∧ RDs X.K G L2 H2 vs ds ∧ RDs X.K G L2 H2 zs gs ∧ Aft X.K c G L2 H2 σ (match permD pm (ds ++ gs) with
      | some ds => callD Φ pu f ds st2
      | none => .bad) (RD X.K G) Q) := by
    refine ⟨G, L1, st1, env, rl1, re1, ?_⟩
    cases ea : rs2 env st1 with
    | bad => rw [ea] at q1; exact q1.elim
    | ex kk fs st' => rw [ea] at q1; exact q1
    | ok gs st2 =>
      rw [ea] at q1
      intro zs L2 H2 po2 rl2 hz
      exact ⟨L2, st2, gs, hlen2 _ _ _ _ ea, rl2, RDs.mono po2 hv, hz, Aft.shift po2 q1⟩
  refine thn (hkw.run pos pins s1 σ H1 _ I1 hB) fun ws s2 ⟨zs, H2, I2, rz, L2, st2, gs, hl2, rl2, hv2, hz, q2⟩ => ⟨I2.kIn, ?_⟩
  rw [n2]
  exact callk_fin tk F hr hbq s2 H2 vs zs us ws L2 st2 ds gs I2 r rz rl2 hv2 hz hl hl2 q2
theorem e_callk0 {pu : Bool} {kw : List Kw} {ks : List Str} {pm : List Nat} (F : FnX X c Φ f pm.length kw x) (tk : Takes X c.W) (hg : Gl X x) (hdb : (x == ("__debug__" : Str)) = false) (hkw : SK X c kws rs2) (hq : (0, ks, pm) ∈ kw) (hks : kwNames kws = some ks)
    (hlen2 : ∀ env st ds st', rs2 env st = .ok ds st' → ds.length = ks.length) :
    SE X c (.Call (.Name x p) [] kws pos) (fun env st => (rs2 env st).bind fun gs st => match permD pm gs with
      | some ds => callD Φ pu f ds st
      | none => .bad) := by
  obtain ⟨fa, fd, ps, k, F, hr, hm, hk, hb, hkb⟩ := F.ex
  have hbq := hkb _ hq
  obtain ⟨n1, n2, n3⟩ := kwNames_ok (pos := pos) (env := X.env) hks
  refine ⟨fun pins s σ H Q I h => ?_⟩
  obtain ⟨G, L, st, env, rl, re, q⟩ := h
  refine wpAny_Call_Name_kw (ld_glob I hg hm ?_ hdb)
  have hB : tAr X.K c rs2 σ H (fun zs H2 => ∃ L2 st2 gs, gs.length = ks.length ∧ Rl X.K G L2 st2 H2 ∧ RDs X.K G L2 H2 zs gs ∧ Aft X.K c G L2 H2 σ (match permD pm ([] ++ gs) with
      | some ds => callD Φ pu f ds st2
      | none => .bad) (RD X.K G) Q) := by
    refine ⟨G, L, st, env, rl, re, ?_⟩
    dsimp only at q
    cases ea : rs2 env st with
    | bad => rw [ea] at q; exact q.elim
    | ex kk fs st' => rw [ea] at q; exact q
    | ok gs st2 =>
      rw [ea] at q
      intro zs L2 H2 po2 rl2 hz
      exact ⟨L2, st2, gs, hlen2 _ _ _ _ ea, rl2, hz, Aft.shift po2 q⟩
  refine PySem.W.callWith_KW0 (h₀ := X.base) I.ok.mod.kin hk n1 (thn (hkw.run pos pins s σ H _ I hB) fun ws s2 ⟨zs, H2, I2, rz, L2, st2, gs, hl2, rl2, hz, q2⟩ => ⟨I2.kIn, ?_⟩) (by show (false || _) = false; rw [n3]; rfl)
  rw [n2]
  exact callk_fin (m := 0) tk F hr hbq s2 H2 [] zs [] ws L2 st2 [] gs I2 .nil rz rl2 .nil hz rfl hl2 q2
end
end Dn
/-! Dn: enumerate(a tuple). -/
namespace Dn
open PySem PySem.Spec PyProof.Rows L2
theorem enumNewT {t : Addr} {its : Array Value} : Meets (Builtin.«enumerate.__new__» ⟨[.type "enumerate", .ref t], []⟩) (fun _ R s => s.heap.IsTuple t its ∧
      R (.ok (.ret (.ref (s.heap.push { cls := .type "tuple_iterator", data := .fields #[.ref t, .int 0 0] }).objs.size)))
        { s with heap := (s.heap.push { cls := .type "tuple_iterator", data := .fields #[.ref t, .int 0 0] }).push { cls := .type "enumerate", data := .fields #[.none, .bool false, .ref s.heap.objs.size, rawInt 0, .none, .none] } }) :=
  .of_wp fun prog w A R s hh => by
    obtain ⟨hp, g, d, tk, os⟩ := s
    obtain ⟨ht, hh⟩ := hh
    have subE := sub_enumerate
    have itr : ∀ {A' : Around} {E : Value → Shared → Prop} {Q : Value → Shared → Prop}, Q (.ref hp.objs.size) ⟨hp.push { cls := .type "tuple_iterator", data := .fields #[.ref t, .int 0 0] }, g, d, tk, os⟩ → wpAny (model prog w) A' (pyIter (.ref t)) Q E ⟨hp, g, d, tk, os⟩ :=
      fun q => wpAny_pyIter_tuple (s := ⟨hp, g, d, tk, os⟩) ht q
    wp_walk using itr
    refine wpAny_stack_any fun stk => wpAny_pure ?_
    split
    · rename_i cc _ _ _ _ _
      cases (cc == Value.type "enumerate") <;> (wp_walk using itr; exact ⟨_, rfl, hh⟩)
    · wp_walk using itr
      exact ⟨_, rfl, hh⟩
section
variable {prog : Program} {w : World} {A : Around} {E : Value → Shared → Prop} {s : Shared}
theorem callEnumT {t : Addr} {its : Array Value} {Q : Value → Shared → Prop} (ht : s.heap.IsTuple t its)
    (hQ : ∀ h', IsEnum h' (s.heap.objs.size + 1) s.heap.objs.size 0 .none → h'.IsTupleIter s.heap.objs.size t 0 → h'.objs.size = s.heap.objs.size + 2 →
      (∀ b o, s.heap.get? b = some o → h'.get? b = some o) → Q (.ref (s.heap.objs.size + 1)) { s with heap := h' }) : wpAny (model prog w) A (call (.type "enumerate") [.ref t]) Q E s := by
  refine callType_new F.called_enumerate (by decide) (F.typeCall_enumerate_1 _) (F.newCall_enumerate_1 _) (fun obj => F.args_object_init_2 obj _) F.entry_enumerate_new
    (enumNewT (its := its)) ⟨ht, ?_⟩
  obtain ⟨h1, e1⟩ : ∃ h1, h1 = s.heap.push { cls := .type "tuple_iterator", data := .fields #[.ref t, .int 0 0] } := ⟨_, rfl⟩
  have sz : h1.objs.size = s.heap.objs.size + 1 := by rw [e1]; exact Heap.size_push ..
  rw [← e1]
  show _ ∧ _
  rw [sz]
  obtain ⟨h2, e2⟩ : ∃ h2, h2 = h1.push { cls := .type "enumerate", data := .fields #[.none, .bool false, .ref s.heap.objs.size, rawInt 0, .none, .none] } := ⟨_, rfl⟩
  have isE : IsEnum h2 (s.heap.objs.size + 1) s.heap.objs.size 0 .none := by
    have p := Heap.get?_push_size h1 (o := { cls := .type "enumerate", data := .fields #[.none, .bool false, .ref s.heap.objs.size, rawInt 0, .none, .none] }) rfl
    rw [sz, ← e2] at p
    exact p
  rw [← e2]
  have k1 : ∀ b o, h1.get? b = some o → h2.get? b = some o := fun b o x => by rw [e2]; exact Heap.get?_push_of_some _ x
  have k0 : ∀ b o, s.heap.get? b = some o → h1.get? b = some o := fun b o x => by rw [e1]; exact Heap.get?_push_of_some _ x
  refine ⟨⟨_, isE, rfl⟩, hQ h2 isE ⟨_, k1 _ _ (by rw [e1]; exact Heap.get?_push_size _ rfl), rfl, rfl⟩ ?_ fun b o x => k1 b o (k0 b o x)⟩
  rw [e2, Heap.size_push, sz]
end
/-- the tuple at a, each item in a new pair -/
def ItE (K : PySem.W.Frag) (a : Addr) : L2.It :=
  ⟨fun i H => ∃ (us : List V) (u : V), SqT K H a us ∧ us[i]? = some u, fun i H v H' => ∃ T u, v = .ref T ∧ H T = none ∧ H' = upd H T (.tup [.int (i : Nat), u]) ∧ ∀ us, SqT K H a us → us[i]? = some u, fun i H => ∃ us : List V, SqT K H a us ∧ us.length ≤ i⟩
theorem turnE {P : Program} {w : World} {K : PySem.W.Frag} {elts : List Expr} {kk : Nat} {tpos : Pos} (a e it : Addr) :
    Turn P w K (.Tuple elts kk tpos) (ItE K a) [e, it] e (fun i h => (∃ was, IsEnum h e it ((i : Nat) : Int) was) ∧ h.IsTupleIter it a i ∧ e ≠ it ∧ a ≠ it ∧ a ≠ e) where
  mem := by simp
  obj := fun i h st b hb => by
    obtain ⟨⟨was, hE⟩, ⟨ob, hob, _, hdt⟩, _⟩ := st
    rcases (by simpa using hb : b = e ∨ b = it) with z | z
    · rw [z]
      exact ⟨_, hE, fun v q => nomatch q⟩
    · rw [z]
      exact ⟨ob, hob, fun v q => by rw [hdt] at q; cases q⟩
  keep := fun i h h' st k => by
    obtain ⟨⟨was, hE⟩, hi, hne⟩ := st
    exact ⟨⟨was, k e (by simp) _ hE⟩, hi.at fun ob q => k it (by simp) ob q, hne⟩
  item := by
    intro X eP eW eK hc i pins s σ H Er I hf st hg
    subst eP eW eK
    obtain ⟨⟨was, hE⟩, hi, hne, hai, hae⟩ := st
    obtain ⟨us, u, hq, hu⟩ := hg
    obtain ⟨its, rv, pt, _⟩ := I.tuple hq
    obtain ⟨y, hy, ry⟩ := rv.get hu
    have lte : e < s.heap.objs.size := Heap.lt_size hE
    have lti : it < s.heap.objs.size := by
      obtain ⟨_, q, _⟩ := hi
      exact Heap.lt_size q
    have Dr := Draws.tuple (prog := X.prog) (w := X.w) (A := X.A.in1) (I.ok.hd hc) it a hai its.toArray
    have hlt : i < its.toArray.size := by
      have := (List.getElem?_eq_some_iff.mp hy).1
      simpa using this
    refine wpAny_pyNext_enum_itemD Dr hE ⟨hi, pt⟩ hlt hne (by simp [hne, Ne.symm hae]) fun x h' tk hx ho hst hT hsz hk => ?_
    have exy : x = y := by
      have h1 : its[i]? = some x := by simpa using hx
      rw [hy] at h1
      cases h1
      rfl
    subst exy
    refine ⟨_, rfl, wpAny_letOwnedTupleGo_enum (s := { s with heap := h', toks := tk + 1 }) ho fun h'' hE2 sb => ?_⟩
    have atT : h''.get? s.heap.objs.size = some { cls := .type "tuple", data := .seq #[.int i tk, x] } := (sb.2 _ (Nat.ne_of_gt lte)).trans hT
    have fresh1 : ObjOk X.prog X.w (upd H s.heap.objs.size (.tup [.int (i : Nat), u])) h'' s.heap.objs.size (.tup [.int (i : Nat), u]) :=
      ⟨by show 2 ≤ sizeLine; rw [sizeLine_eq]; omega, [.int i tk, x], .cons ⟨_, rfl⟩ (.cons ry .nil), ⟨_, atT, rfl, _, rfl⟩⟩
    have I2 : Inv X pins σ (upd H s.heap.objs.size (.tup [.int (i : Nat), u])) { s with heap := h'', toks := tk + 1 } :=
      I.turnedNew (ch := [e, it]) (fun b ob hb q => (sb.2 b (fun z => hb (by simp [z]))).trans (hk b ob (fun z => hb (by simp [z])) (fun z => hb (by simp [z])) q)) hf (Nat.le_refl _) fresh1
    refine ⟨.ref s.heap.objs.size, _, I2, rfl, ⟨_, u, rfl, I.hok.fresh (Nat.le_refl _), rfl, fun vs hv => ?_⟩, ⟨⟨x, ?_⟩, hst.1.at fun ob q => (sb.2 it (Ne.symm hne)).trans q, hne, hai, hae⟩, fun b hb => ?_⟩
    · rw [I.tuple_inj hv hq]
      exact hu
    · rw [show ((i + 1 : Nat) : Int) = (i : Int) + 1 by omega]
      exact hE2
    · have hbl : b < s.heap.objs.size := by
        rcases (by simpa using hb : b = e ∨ b = it) with z | z <;> rw [z] <;> assumption
      rw [upd_ne (Nat.ne_of_lt hbl)]
      exact (hf b hb).1
  done := by
    intro X eP eW eK hc i pins s σ H Er I hf st hg
    subst eP eW eK
    obtain ⟨⟨was, hE⟩, hi, hne, hai, hae⟩ := st
    obtain ⟨us, hq, hn⟩ := hg
    obtain ⟨its, rv, pt, _⟩ := I.tuple hq
    have ll := rv.length
    have nn : its.toArray[i]? = none := by simp; omega
    have De : Draws X.prog X.w X.A.in1 it [it, a] i (fun _ _ => False) (fun j h => j = i ∧ h.IsTupleIter it a i ∧ h.IsTuple a its.toArray) :=
      { live := fun _ _ st => by
          obtain ⟨_, ⟨ob, hob, _⟩, _⟩ := st
          exact ⟨ob, hob⟩
        frame := fun j h h' st k => ⟨st.1, st.2.1.at fun ob q => k it (by simp) ob q, st.2.2.at fun ob q => k a (by simp) ob q⟩
        item := fun j s Q E hj st _ => absurd hj (by rw [st.1]; exact Nat.lt_irrefl i)
        done := fun s Q E st hE => wpAny_nextOf_tuple_end (I.ok.hd hc) st.2.1 st.2.2 nn hE }
    obtain ⟨f0, f1, f2, f3, f4, f5⟩ := hf it (by simp)
    exact wpAny_pyNext_enum_endD De hE ⟨rfl, hi, pt⟩ fun h' eb => ⟨rfl, I.turned (t' := s.toks) (fun b ob hb q => eb b ob hb q) f0 f1 f3 f4 f5⟩
  self := fun A i s Q Er st q => by
    obtain ⟨⟨was, hE⟩, _⟩ := st
    exact wpAny_pyIter_enum hE q
def iEnumA (K : PySem.W.Frag) (ta : TA) : TI := fun σ H R => ta σ H fun vs H1 => ∃ a us, vs = [.ref a] ∧ ((SqL K H1 a us ∧ R (Ite K a) H1) ∨ (SqT K H1 a us ∧ R (ItE K a) H1))
theorem pi_enumA {X : Cx} {e : Expr} {ta : TA} {p pos tpos : Pos} {elts : List Expr} {kk : Nat} (hg : Gl X "enumerate") (hm : X.mg "enumerate" = none) (ha : PA X [e] ta) (hs : starEach [e] X.env = [(false, eval e X.env)] := by rfl) :
    PI X (.Tuple elts kk tpos) (.Call (.Name "enumerate" p) [e] [] pos) (iEnumA X.K ta) := by
  refine ⟨fun pins s σ H R I hq => ?_⟩
  refine Call_ (ld_blt I hg hm boot_enumerate (PyProof.Rows.callWith_type1 (thn (ha.run pos pins s σ H _ I hq) fun us s1 ⟨vs, H1, I1, r1, q1⟩ => ?_) hs rfl))
  obtain ⟨a, xs, ex, q⟩ := q1
  subst ex
  cases r1 with
  | cons r rr =>
    cases rr
    cases r
    have two : ∀ b ∈ [s1.heap.objs.size + 1, s1.heap.objs.size], s1.heap.objs.size ≤ b := fun b hb => by
      rcases (by simpa using hb : b = s1.heap.objs.size + 1 ∨ b = s1.heap.objs.size) with z | z
      · rw [z]
        exact Nat.le_succ _
      · rw [z]
        exact Nat.le_refl _
    rcases q with ⟨hq, q⟩ | ⟨hq, q⟩
    · obtain ⟨its, rv, pl, _⟩ := I1.list hq
      refine call_enumerate_list pl.isList fun h' hE hi hsz hk => wpAny_pyIter_enum hE ?_
      have I2 : Inv X pins σ H1 { s1 with heap := h' } := I1.kept (t' := s1.toks) hk
      exact ⟨s1.heap.objs.size + 1, [s1.heap.objs.size + 1, s1.heap.objs.size], _, _, H1, rfl, I2, turn_enum a (s1.heap.objs.size + 1) s1.heap.objs.size, ⟨⟨.none, hE⟩, hi, Nat.succ_ne_self _⟩, fun b hb => I1.fpOk (two b hb) (I1.hok.fresh (two b hb)), q⟩
    · obtain ⟨its, rv, pt, _⟩ := I1.tuple hq
      refine callEnumT pt fun h' hE hi hsz hk => wpAny_pyIter_enum hE ?_
      have I2 : Inv X pins σ H1 { s1 with heap := h' } := I1.kept (t' := s1.toks) hk
      have lta : a < s1.heap.objs.size := by
        obtain ⟨_, hob, _⟩ := pt
        exact Heap.lt_size hob
      exact ⟨s1.heap.objs.size + 1, [s1.heap.objs.size + 1, s1.heap.objs.size], _, _, H1, rfl, I2, turnE a (s1.heap.objs.size + 1) s1.heap.objs.size,
        ⟨⟨.none, hE⟩, hi, Nat.succ_ne_self _, Nat.ne_of_lt lta, Nat.ne_of_lt (Nat.lt_succ_of_lt lta)⟩, fun b hb => I1.fpOk (two b hb) (I1.hok.fresh (two b hb)), q⟩
end Dn
/-! Dn: what is walked; targets; comprehensions. -/
namespace Dn
open PySem PySem.Spec PyProof.Rows L2
def ItR (K : PySem.W.Frag) (G : Off1) (L : Lc) (H : Hp) (x : V) : It → Prop
  | .one d => RD K G L H x d
  | .two d e => ∃ T a b, x = .ref T ∧ H T = some (.tup [a, b]) ∧ RD K G L H a d ∧ RD K G L H b e
/-- the iterator J walks xs -/
structure Wk (K : PySem.W.Frag) (G : Off1) (L : Lc) (H : Hp) (J : L2.It) (ds : List D) (st0 : Store) (xs : List It) : Prop where
  item : ∀ (i : Nat) (L' : Lc) (st' : Store) (H' : Hp) (it : It) (G' : Off1), Po L H L' H' → (∀ b, G' b → G b ∨ H b = none) → Rl K G' L' st' H' → still ds st0 st' = true → xs[i]? = some it →
    J.go i H' ∧ ∀ x H2, J.yld i H' x H2 → Po L' H' L' H2 ∧ Rl K G' L' st' H2 ∧ ItR K G' L' H2 x it
  stop : ∀ (i : Nat) (L' : Lc) (st' : Store) (H' : Hp) (G' : Off1), Po L H L' H' → (∀ b, G' b → G b ∨ H b = none) → Rl K G' L' st' H' → still ds st0 st' = true → xs.length ≤ i → J.stop i H'
theorem keepG {G G' : Off1} {L L' : Lc} {H H' : Hp} (p : Po L H L' H') (hg : ∀ b, G' b → G b ∨ H b = none) : Keep (Off G L) H (Off G' L') H' where
  kp := fun b u e n => p.kp b u e fun z => n (.inr z)
  no := fun b h => by
    rcases h with h | h
    · rcases hg b h with h | h
      · exact .inl (.inl h)
      · exact .inr h
    · rcases p.live h with r | r
      · exact .inl (.inr r)
      · exact .inr r
theorem RD.monoG {K : PySem.W.Frag} {G G' : Off1} {L L' : Lc} {H H' : Hp} (p : Po L H L' H') (hg : ∀ b, G' b → G b ∨ H b = none) : ∀ {v : V} {d : D}, RD K G L H v d → RD K G' L' H' v d
  | _, .p d, h => Fz.mono (keepG p hg) d _ h
  | v, .r k, h => by
    obtain ⟨a, e, hk, hb⟩ := h
    exact ⟨a, e, Nat.lt_of_lt_of_le hk p.le, fun b z => hb b (p.old k b hk z)⟩
def walkR (k : Nat) (rs : Sl → Store → Res (List D)) : Sl → Store → Res (List D × Store × List It) := fun env st => (rs env st).bind fun ds st => match walkOf k ds st with
  | some xs => .ok (ds, st, xs) st
  | none => .bad
def tI (K : PySem.W.Frag) (c : Wc) (k : Nat) (rs : Sl → Store → Res (List D)) : TI := fun σ H R => ∃ G L st env, Rl K G L st H ∧ RE K G L H σ env ∧ Aft K c G L H σ (walkR k rs env st) (fun L' H' J a => Wk K G L' H' J a.1 a.2.1 a.2.2) R
abbrev SI (X : Cx) (c : Wc) (tg : Expr) (k : Nat) (e : Expr) (rs : Sl → Store → Res (List D)) : Prop := PI X tg e (tI X.K c k rs)
theorem PI.imp {X : Cx} {tg e : Expr} {t t' : TI} (h : PI X tg e t) (hi : ∀ σ H Q, t' σ H Q → t σ H Q) : PI X tg e t' := ⟨fun pins s σ H Q I q => h.run pins s σ H Q I (hi σ H Q q)⟩
theorem PI.or {X : Cx} {tg e : Expr} {t t' : TI} (h : PI X tg e t) (h' : PI X tg e t') : PI X tg e (fun σ H R => t σ H R ∨ t' σ H R) := ⟨fun pins s σ H Q I q => by
  rcases q with q | q
  · exact h.run pins s σ H Q I q
  · exact h'.run pins s σ H Q I q⟩
section
variable {K : PySem.W.Frag} {c : Wc} {G : Off1} {L : Lc} {H : Hp} {σ : Sg} {st : Store}
/-! ### sequences stay -/
inductive SqK (K : PySem.W.Frag) : Bool → Hp → Addr → List V → Prop
  | l {H : Hp} {a : Addr} {xs : List V} (h : SqL K H a xs) : SqK K true H a xs
  | t {H : Hp} {a : Addr} {xs : List V} (h : SqT K H a xs) : SqK K false H a xs
/-- a sequence that a walk leans on: at each later state the same items -/
theorem seq_stay {d : D} {es : List D} {x : V} (rl : Rl K G L st H) (hd : RD K G L H x d) (h : seqD d st = some es) : ∃ a xs, x = .ref a ∧ RDs K G L H xs es ∧ SqK K (isL d st) H a xs ∧ (isL d st = false → isT d = true) ∧
    ∀ (ds : List D) (L' : Lc) (st' : Store) (H' : Hp) (G' : Off1), d ∈ ds → Po L H L' H' → (∀ b, G' b → G b ∨ H b = none) → Rl K G' L' st' H' → still ds st st' = true → ∃ ys, SqK K (isL d st) H' a ys ∧ RDs K G' L' H' ys es := by
  cases d with
  | p d =>
    cases d with
    | list zs =>
      obtain ⟨a, xs, e1, ht, f⟩ := fz_lst hd
      cases h
      exact ⟨a, xs, e1, mapP_rel f, .l ht.sq, fun z => (Bool.noConfusion z), fun ds L' st' H' G' hm po hg rl' hs => ⟨xs, .l (ht.mono (keepG po hg)).sq, mapP_rel (FzA.mono (keepG po hg) _ _ f)⟩⟩
    | tuple zs =>
      obtain ⟨a, xs, e1, ht, f⟩ := fz_tup hd
      cases h
      exact ⟨a, xs, e1, mapP_rel f, .t ht.sq, fun _ => rfl, fun ds L' st' H' G' hm po hg rl' hs => ⟨xs, .t (ht.mono (keepG po hg)).sq, mapP_rel (FzA.mono (keepG po hg) _ _ f)⟩⟩
    | _ => cases h
  | r k =>
    unfold seqD at h
    simp only at h
    split at h
    · rename_i zs e
      cases h
      obtain ⟨a, e2, e3, xs, e4, f⟩ := ref_rel rl hd e (by simp)
      have hi : isL (.r k) st = true := by unfold isL; simp only [e]
      rw [hi]
      refine ⟨a, xs, e2, f, .l (.inl (.inl e4)), fun z => Bool.noConfusion z, fun ds L' st' H' G' hm po hg rl' hs => ?_⟩
      have h1 := List.all_eq_true.mp hs _ hm
      simp only [e] at h1
      split at h1
      · rename_i z1 z2 e5 e6
        have e7 := sameD_eq h1
        simp only [Option.some.injEq, Ob.lst.injEq] at e5
        rw [e5, e7] at *
        obtain ⟨b, g2, g3, ys, g4, f'⟩ := ref_rel rl' (RD.monoG po hg hd) e6 (by simp)
        rw [e2] at g2
        cases g2
        exact ⟨ys, .l (.inl (.inl g4)), f'⟩
      · cases h1
    · cases h
theorem item_one {K : PySem.W.Frag} {G : Off1} {L : Lc} {H : Hp} {ys : List V} {es : List D} {i : Nat} {it : It} (f : RDs K G L H ys es) (e : (es.map It.one)[i]? = some it) : ∃ x d, ys[i]? = some x ∧ it = .one d ∧ es[i]? = some d ∧ RD K G L H x d := by
  rw [List.getElem?_map] at e
  cases e2 : es[i]? with
  | none => rw [e2] at e; cases e
  | some d =>
    rw [e2] at e
    cases e
    obtain ⟨x, h1, h2⟩ := f.get e2
    exact ⟨x, d, h1, rfl, rfl, h2⟩
/-- a list or a tuple, item by item -/
theorem wk_seq {d : D} {es : List D} {x : V} {a : Addr} (rl : Rl K G L st H) (hd : RD K G L H x d) (h : seqD d st = some es) (ex : x = .ref a) : Wk K G L H (if isL d st then Itl K a else Itt K a) [d] st (es.map .one) := by
  obtain ⟨a', xs, e1, f, hq, _, hst⟩ := seq_stay rl hd h
  rw [ex] at e1
  cases e1
  refine ⟨fun i L' st' H' it G' po hg rl' hs e => ?_, fun i L' st' H' G' po hg rl' hs hl => ?_⟩
  · obtain ⟨ys, hy, f'⟩ := hst [d] L' st' H' G' (by simp) po hg rl' hs
    obtain ⟨y, dd, h1, rfl, h3, h4⟩ := item_one f' e
    cases hb : isL d st with
    | true =>
      rw [hb] at hy
      rw [if_pos rfl]
      cases hy with
      | l hq => exact ⟨⟨ys, y, hq, h1⟩, fun z H2 ⟨e2, e3⟩ => by
          subst e2
          have := e3 ys hq
          rw [h1] at this
          cases this
          exact ⟨.refl, rl', h4⟩⟩
    | false =>
      rw [hb] at hy
      rw [if_neg Bool.false_ne_true]
      cases hy with
      | t hq => exact ⟨⟨ys, y, hq, h1⟩, fun z H2 ⟨e2, e3⟩ => by
          subst e2
          have := e3 ys hq
          rw [h1] at this
          cases this
          exact ⟨.refl, rl', h4⟩⟩
  · obtain ⟨ys, hy, f'⟩ := hst [d] L' st' H' G' (by simp) po hg rl' hs
    have hlen := Paired.length f'
    rw [List.length_map] at hl
    cases hb : isL d st with
    | true =>
      rw [hb] at hy
      rw [if_pos rfl]
      cases hy with
      | l hq => exact ⟨ys, hq, by omega⟩
    | false =>
      rw [hb] at hy
      rw [if_neg Bool.false_ne_true]
      cases hy with
      | t hq => exact ⟨ys, hq, by omega⟩
theorem wk_rev {d : D} {es : List D} {x : V} {a : Addr} {xs : List V} (rl : Rl K G L st H) (hd : RD K G L H x d) (h : seqD d st = some es) (ex : x = .ref a) (hxl : xs.length = es.length) : Wk K G L H (if isL d st then Itv K a xs.length else RT.ItvT K a xs.length) [d] st (es.reverse.map .one) := by
  obtain ⟨a', _, e1, f, hq, _, hst⟩ := seq_stay rl hd h
  rw [ex] at e1
  cases e1
  refine ⟨fun i L' st' H' it G' po hg rl' hs e => ?_, fun i L' st' H' G' po hg rl' hs hl => ?_⟩
  · obtain ⟨ys, hy, f'⟩ := hst [d] L' st' H' G' (by simp) po hg rl' hs
    have hlen := Paired.length f'
    obtain ⟨y, dd, h1, rfl, h3, h4⟩ := item_one f'.rev e
    have hi : i < ys.length := by
      have := (List.getElem?_eq_some_iff.mp h1).1
      simpa using this
    rw [List.getElem?_reverse hi] at h1
    have e5 : xs.length - 1 - i = ys.length - 1 - i := by omega
    cases hb : isL d st with
    | true =>
      rw [hb] at hy
      rw [if_pos rfl]
      cases hy with
      | l hq => exact ⟨⟨by omega, ys, y, hq, by rw [e5]; exact h1⟩, fun z H2 ⟨e2, e3⟩ => by
          subst e2
          have := e3 ys hq
          rw [e5, h1] at this
          cases this
          exact ⟨.refl, rl', h4⟩⟩
    | false =>
      rw [hb] at hy
      rw [if_neg Bool.false_ne_true]
      cases hy with
      | t hq => exact ⟨⟨by omega, ys, y, hq, by rw [e5]; exact h1⟩, fun z H2 ⟨e2, e3⟩ => by
          subst e2
          have := e3 ys hq
          rw [e5, h1] at this
          cases this
          exact ⟨.refl, rl', h4⟩⟩
  · rw [List.length_map, List.length_reverse] at hl
    cases hb : isL d st with
    | true => rw [if_pos rfl]; show xs.length ≤ i; omega
    | false => rw [if_neg Bool.false_ne_true]; show xs.length ≤ i; omega
theorem wk_str {z : Str} {x : V} (hd : Fz K (Off G L) H x (.str z)) : Wk K G L H (Its z) [.p (.str z)] st (z.cps.toList.map fun c => .one (.p (.str ⟨#[c]⟩))) := by
  obtain ⟨_, hz⟩ := fz_str hd
  refine ⟨fun i L' st' H' it G' po hg rl' hs e => ?_, fun i L' st' H' G' po hg rl' hs hl => ?_⟩
  · rw [List.getElem?_map] at e
    cases e2 : z.cps.toList[i]? with
    | none => rw [e2] at e; cases e
    | some c =>
      rw [e2] at e
      cases e
      have hc := hz.all c (List.mem_of_getElem? e2)
      have hi : i < z.cps.size := by
        have := (List.getElem?_eq_some_iff.mp e2).1
        simpa using this
      refine ⟨hi, fun y H2 ⟨e3, c', e4, e5⟩ => ?_⟩
      subst e3 e5
      rw [Array.getElem?_toList] at e2
      rw [e2] at e4
      cases e4
      exact ⟨.refl, rl', .str _ (sOk.one hc)⟩
  · rw [List.length_map, Array.length_toList] at hl
    exact hl
theorem rangeI_get (c : Int) : ∀ (n : Nat) (a : Int) (i : Nat) (it : It), (rangeI a c n)[i]? = some it → i < n ∧ it = .one (.p (.int (a + i * c)))
  | 0, a, i, it, e => by simp [rangeI] at e
  | n + 1, a, 0, it, e => by
    simp [rangeI] at e
    exact ⟨by omega, by rw [← e]; simp⟩
  | n + 1, a, i + 1, it, e => by
    simp only [rangeI, List.getElem?_cons_succ] at e
    obtain ⟨h1, h2⟩ := rangeI_get c n (a + c) i it e
    refine ⟨by omega, ?_⟩
    rw [h2]
    have : a + c + (i : Int) * c = a + ((i + 1 : Nat) : Int) * c := by
      rw [Int.natCast_add, Int.add_mul]
      simp
      omega
    rw [this]
theorem rangeI_len (c : Int) : ∀ (n : Nat) (a : Int), (rangeI a c n).length = n
  | 0, _ => rfl
  | n + 1, a => by simp [rangeI, rangeI_len c n]
theorem wk_range {ds : List D} {a : Int} {n : Nat} : Wk K G L H (Itr a n) ds st (rangeI a 1 n) := by
  refine ⟨fun i L' st' H' it G' po hg rl' hs e => ?_, fun i L' st' H' G' po hg rl' hs hl => ?_⟩
  · obtain ⟨h1, rfl⟩ := rangeI_get 1 n a i it e
    refine ⟨h1, fun x H2 ⟨e2, e3⟩ => ?_⟩
    subst e2 e3
    rw [Int.mul_one]
    exact ⟨.refl, rl', .int _⟩
  · rw [rangeI_len] at hl
    exact hl
theorem wk_rangeC {ds : List D} {a c : Int} {n : Nat} : Wk K G L H (Itc a c n) ds st (rangeI a c n) := by
  refine ⟨fun i L' st' H' it G' po hg rl' hs e => ?_, fun i L' st' H' G' po hg rl' hs hl => ?_⟩
  · obtain ⟨h1, rfl⟩ := rangeI_get c n a i it e
    refine ⟨h1, fun x H2 ⟨e2, e3⟩ => ?_⟩
    subst e2 e3
    exact ⟨.refl, rl', .int _⟩
  · rw [rangeI_len] at hl
    exact hl
theorem enumI_get : ∀ (ds : List D) (n i : Nat) (it : It), (enumI n ds)[i]? = some it → ∃ d, ds[i]? = some d ∧ it = .two (.p (.int ((n + i : Nat) : Int))) d
  | [], n, i, it, e => by simp [enumI] at e
  | d :: ds, n, 0, it, e => by
    simp [enumI] at e
    exact ⟨d, rfl, e.symm⟩
  | d :: ds, n, i + 1, it, e => by
    simp only [enumI, List.getElem?_cons_succ] at e
    obtain ⟨d', h1, h2⟩ := enumI_get ds (n + 1) i it e
    refine ⟨d', by simpa using h1, ?_⟩
    rw [h2]
    have : n + 1 + i = n + (i + 1) := by omega
    rw [this]
theorem enumI_len : ∀ (ds : List D) (n : Nat), (enumI n ds).length = ds.length
  | [], _ => rfl
  | d :: ds, n => by simp [enumI, enumI_len ds]
theorem wk_enum {d : D} {es : List D} {x : V} {a : Addr} (rl : Rl K G L st H) (hd : RD K G L H x d) (h : seqD d st = some es) (hl : isL d st = true) (ex : x = .ref a) : Wk K G L H (Ite K a) [d] st (enumI 0 es) := by
  obtain ⟨a', xs, e1, f, hq, _, hst⟩ := seq_stay rl hd h
  rw [ex] at e1
  cases e1
  rw [hl] at hst
  refine ⟨fun i L' st' H' it G' po hg rl' hs e => ?_, fun i L' st' H' G' po hg rl' hs hn => ?_⟩
  · obtain ⟨ys, hy, f'⟩ := hst [d] L' st' H' G' (by simp) po hg rl' hs
    obtain ⟨dd, h1, rfl⟩ := enumI_get es 0 i it e
    obtain ⟨y, h2, h3⟩ := f'.get h1
    cases hy with
    | l hq =>
      refine ⟨⟨ys, y, hq, h2⟩, fun z H2 ⟨T, y', e2, e3, e4, e5⟩ => ?_⟩
      have := e5 ys hq
      rw [h2] at this
      cases this
      subst e4
      have po2 : Po L' H' L' (upd H' T (.tup [.int (i : Nat), y])) := .new1 rl' e3
      exact ⟨po2, rl'.new1 e3, T, _, _, e2, upd_same, by rw [Nat.zero_add]; exact Fz.int _, RD.mono po2 h3⟩
  · obtain ⟨ys, hy, f'⟩ := hst [d] L' st' H' G' (by simp) po hg rl' hs
    have hlen := Paired.length f'
    rw [enumI_len] at hn
    cases hy with
    | l hq => exact ⟨ys, hq, by omega⟩
theorem wk_enumT {d : D} {es : List D} {x : V} {a : Addr} (rl : Rl K G L st H) (hd : RD K G L H x d) (h : seqD d st = some es) (hl : isL d st = false) (ex : x = .ref a) : Wk K G L H (ItE K a) [d] st (enumI 0 es) := by
  obtain ⟨a', xs, e1, f, hq, _, hst⟩ := seq_stay rl hd h
  rw [ex] at e1
  cases e1
  rw [hl] at hst
  refine ⟨fun i L' st' H' it G' po hg rl' hs e => ?_, fun i L' st' H' G' po hg rl' hs hn => ?_⟩
  · obtain ⟨ys, hy, f'⟩ := hst [d] L' st' H' G' (by simp) po hg rl' hs
    obtain ⟨dd, h1, rfl⟩ := enumI_get es 0 i it e
    obtain ⟨y, h2, h3⟩ := f'.get h1
    cases hy with
    | t hq =>
      refine ⟨⟨ys, y, hq, h2⟩, fun z H2 ⟨T, y', e2, e3, e4, e5⟩ => ?_⟩
      have := e5 ys hq
      rw [h2] at this
      cases this
      subst e4
      have po2 : Po L' H' L' (upd H' T (.tup [.int (i : Nat), y])) := .new1 rl' e3
      exact ⟨po2, rl'.new1 e3, T, _, _, e2, upd_same, by rw [Nat.zero_add]; exact Fz.int _, RD.mono po2 h3⟩
  · obtain ⟨ys, hy, f'⟩ := hst [d] L' st' H' G' (by simp) po hg rl' hs
    have hlen := Paired.length f'
    rw [enumI_len] at hn
    cases hy with
    | t hq => exact ⟨ys, hq, by omega⟩
theorem zipI_get : ∀ (ds es : List D) (i : Nat) (it : It), (zipI ds es)[i]? = some it → ∃ d e, ds[i]? = some d ∧ es[i]? = some e ∧ it = .two d e
  | [], es, i, it, h => by simp [zipI] at h
  | d :: ds, [], i, it, h => by simp [zipI] at h
  | d :: ds, e :: es, 0, it, h => by
    simp [zipI] at h
    exact ⟨d, e, rfl, rfl, h.symm⟩
  | d :: ds, e :: es, i + 1, it, h => by
    simp only [zipI, List.getElem?_cons_succ] at h
    obtain ⟨d', e', h1, h2, h3⟩ := zipI_get ds es i it h
    exact ⟨d', e', by simpa using h1, by simpa using h2, h3⟩
theorem zipI_len : ∀ (ds es : List D), (zipI ds es).length = min ds.length es.length
  | [], es => by simp [zipI]
  | d :: ds, [] => by simp [zipI]
  | d :: ds, e :: es => by simp [zipI, zipI_len ds es]
theorem wk_zip {d e : D} {ds es : List D} {x y : V} {a b : Addr} (rl : Rl K G L st H) (hd : RD K G L H x d) (he : RD K G L H y e) (h1 : seqD d st = some ds) (h2 : seqD e st = some es) (ex : x = .ref a) (ey : y = .ref b) (hk : isL d st = isL e st) :
    Wk K G L H (if isL d st then Itz K a b else RZ.ItzT K a b) [d, e] st (zipI ds es) := by
  obtain ⟨a', xs, e1, f1, q1, _, s1⟩ := seq_stay rl hd h1
  obtain ⟨b', ys, e2, f2, q2, _, s2⟩ := seq_stay rl he h2
  rw [ex] at e1
  rw [ey] at e2
  cases e1
  cases e2
  rw [← hk] at s2
  refine ⟨fun i L' st' H' it G' po hg rl' hs e => ?_, fun i L' st' H' G' po hg rl' hs hn => ?_⟩
  · obtain ⟨us, hu, f1'⟩ := s1 _ L' st' H' G' (by simp) po hg rl' hs
    obtain ⟨ws, hw, f2'⟩ := s2 _ L' st' H' G' (by simp) po hg rl' hs
    obtain ⟨dd, ee, g1, g2, rfl⟩ := zipI_get ds es i it e
    obtain ⟨u, g3, g4⟩ := f1'.get g1
    obtain ⟨w, g5, g6⟩ := f2'.get g2
    have fin : ∀ T, H' T = none → Po L' H' L' (upd H' T (.tup [u, w])) ∧ Rl K G' L' st' (upd H' T (.tup [u, w])) ∧ ItR K G' L' (upd H' T (.tup [u, w])) (.ref T) (.two dd ee) := fun T hT => by
      have po2 : Po L' H' L' (upd H' T (.tup [u, w])) := .new1 rl' hT
      exact ⟨po2, rl'.new1 hT, T, u, w, rfl, upd_same, RD.mono po2 g4, RD.mono po2 g6⟩
    cases hb : isL d st with
    | true =>
      rw [hb] at hu hw
      rw [if_pos rfl]
      cases hu with
      | l hq =>
        cases hw with
        | l hq' =>
          refine ⟨⟨us, ws, u, w, hq, hq', g3, g5⟩, fun z H2 ⟨T, u', w', e2, e3, e4, e5, e6⟩ => ?_⟩
          have := e5 us hq
          rw [g3] at this
          cases this
          have := e6 ws hq'
          rw [g5] at this
          cases this
          subst e4 e2
          exact fin T e3
    | false =>
      rw [hb] at hu hw
      rw [if_neg Bool.false_ne_true]
      cases hu with
      | t hq =>
        cases hw with
        | t hq' =>
          refine ⟨⟨us, ws, u, w, hq, hq', g3, g5⟩, fun z H2 ⟨T, u', w', e2, e3, e4, e5, e6⟩ => ?_⟩
          have := e5 us hq
          rw [g3] at this
          cases this
          have := e6 ws hq'
          rw [g5] at this
          cases this
          subst e4 e2
          exact fin T e3
  · obtain ⟨us, hu, f1'⟩ := s1 _ L' st' H' G' (by simp) po hg rl' hs
    obtain ⟨ws, hw, f2'⟩ := s2 _ L' st' H' G' (by simp) po hg rl' hs
    have l1 := Paired.length f1'
    have l2 := Paired.length f2'
    rw [zipI_len] at hn
    have hn2 : us.length ≤ i ∨ ws.length ≤ i := by omega
    cases hb : isL d st with
    | true =>
      rw [hb] at hu hw
      rw [if_pos rfl]
      cases hu with
      | l hq =>
        cases hw with
        | l hq' => exact ⟨us, ws, hq, hq', hn2⟩
    | false =>
      rw [hb] at hu hw
      rw [if_neg Bool.false_ne_true]
      cases hu with
      | t hq =>
        cases hw with
        | t hq' => exact ⟨us, ws, hq, hq', hn2⟩
end
section
variable {X : Cx} {c : Wc} {tg a b d : Expr} {ra rb : Sl → Store → Res D} {rs : Sl → Store → Res (List D)} {pos p : Pos}
theorem gen_ex {K : PySem.W.Frag} {α β γ : Type} {G : Off1} {L : Lc} {H : Hp} {σ : Sg} {r : Res α} {Rel : Lc → Hp → β → α → Prop} {Rel' : Lc → Hp → γ → α → Prop} {Q : β → Hp → Prop} {Q' : γ → Hp → Prop} (h : Aft K c G L H σ r Rel Q) (hn : ∀ a st, r ≠ .ok a st) :
    Aft K c G L H σ r Rel' Q' := by
  cases r with
  | ok a st => exact absurd rfl (hn a st)
  | ex k fs st => exact h
  | bad => exact h
theorem one_args : (fun env st => (ra env st).bind fun d st => Res.bind (.ok [] st) fun ds st => .ok (d :: ds) st) = (fun env st => (ra env st).bind fun d st => Res.ok [d] st) := rfl
/-- a list, a tuple, a text -/
theorem i_seq (ha : SE X c a ra) : SI X c tg 0 a (fun env st => (ra env st).bind fun d st => Res.ok [d] st) := by
  refine PI.imp (PI.or (pi_list ha) (PI.or (pi_tup ha) (pi_str ha))) fun σ H Q h => ?_
  obtain ⟨G, L, st, env, rl, re, q⟩ := h
  unfold walkR at q
  dsimp only at q
  cases e : ra env st with
  | bad => rw [e] at q; exact q.elim
  | ex k fs st' =>
    refine .inl ⟨G, L, st, env, rl, re, ?_⟩
    rw [e] at q ⊢
    exact q
  | ok x st1 =>
    rw [e] at q
    simp only [Res.bind_ok] at q
    cases ew : walkOf 0 [x] st1 with
    | none => rw [ew] at q; exact q.elim
    | some xs =>
      rw [ew] at q
      simp only at q
      unfold walkOf at ew
      split at ew
      case h_1 z1 z hk hz =>
        cases ew
        cases hz
        refine .inr (.inr ⟨G, L, st, env, rl, re, ?_⟩)
        rw [e]
        intro v L1 H1 po1 rl1 hd
        exact ⟨z, (fz_str hd).1, q _ _ _ po1 rl1 (wk_str hd)⟩
      case h_2 z1 d hn hk hz =>
        cases hz
        simp only [Option.map_eq_some_iff] at ew
        obtain ⟨es, e1, rfl⟩ := ew
        cases hb : isL x st1 with
        | true =>
          refine .inl ⟨G, L, st, env, rl, re, ?_⟩
          rw [e]
          intro v L1 H1 po1 rl1 hd
          obtain ⟨a', us, e2, f, hq, _, _⟩ := seq_stay rl1 hd e1
          have w := wk_seq rl1 hd e1 e2
          rw [hb] at hq w
          cases hq with
          | l hq => exact ⟨a', e2, ⟨us, hq⟩, q _ _ _ po1 rl1 w⟩
        | false =>
          refine .inr (.inl ⟨G, L, st, env, rl, re, ?_⟩)
          rw [e]
          intro v L1 H1 po1 rl1 hd
          obtain ⟨a', us, e2, f, hq, _, _⟩ := seq_stay rl1 hd e1
          have w := wk_seq rl1 hd e1 e2
          rw [hb] at hq w
          cases hq with
          | t hq => exact ⟨a', e2, ⟨us, hq⟩, q _ _ _ po1 rl1 w⟩
      all_goals first | (rename_i hz; cases hz; done) | (rename_i hz1 hz2; cases hz1; done) | (rename_i hz1 hz2 hz3; cases hz1; done) | (cases ew; done)
theorem near_lt {i : Int} (h : near i = true) : -1073741824 < i ∧ i < 1073741824 := by
  unfold near at h
  simpa using h
theorem tAr_walk {K : PySem.W.Frag} {n k : Nat} {σ : Sg} {H : Hp} {R : L2.It → Hp → Prop} {P : List V → Hp → (L2.It → Hp → Prop) → Prop} (hlen : ∀ env st ds st', rs env st = .ok ds st' → ds.length = n)
    (hP : ∀ G L st ds xs vs H R, ds.length = n → Rl K G L st H → RDs K G L H vs ds → walkOf k ds st = some xs → (∀ J, Wk K G L H J ds st xs → R J H) → P vs H R) (h : tI K c k rs σ H R) : tAr K c rs σ H (fun vs H1 => P vs H1 R) := by
  obtain ⟨G, L, st, env, rl, re, q⟩ := h
  refine ⟨G, L, st, env, rl, re, ?_⟩
  unfold walkR at q
  cases e : rs env st with
  | bad => rw [e] at q; exact q.elim
  | ex k fs st' => rw [e] at q; exact q
  | ok ds st1 =>
    rw [e] at q
    simp only [Res.bind_ok] at q
    intro vs L1 H1 po1 rl1 hv
    cases ew : walkOf k ds st1 with
    | none => rw [ew] at q; exact q.elim
    | some xs =>
      rw [ew] at q
      exact hP G L1 st1 ds xs vs H1 R (hlen _ _ _ _ e) rl1 hv ew fun J w => q J L1 H1 po1 rl1 w
theorem i_rng1 (hg : Gl X "range") (hm : X.mg "range" = none) (ha : SA X c [a] rs) (sa : simpleE a = true) (hlen : ∀ env st ds st', rs env st = .ok ds st' → ds.length = 1) : SI X c tg 1 (.Call (.Name "range" p) [a] [] pos) rs := by
  refine PI.imp (pi_range1 hg hm ha (star_of sa)) fun σ H Q h => tAr_walk (P := fun vs H1 R => ∃ j : Int, vs = [.int j] ∧ -(2 ^ 62) ≤ j ∧ j < 2 ^ 62 ∧ R (Itr 0 j.toNat) H1) hlen (fun G L st ds xs vs H R hl rl hv ew q => ?_) h
  match ds, hl with
  | [d], _ =>
    cases hv with
    | cons h1 h2 =>
      cases h2
      unfold walkOf at ew
      split at ew
      case h_3 z1 n hk0 hn =>
        cases hn
        split at ew
        · rename_i hh
          cases ew
          obtain ⟨h3, h4⟩ := near_lt hh
          exact ⟨n, by rw [fz_int h1], by omega, by omega, q _ wk_range⟩
        · cases ew
      all_goals first | (rename_i hz; cases hz; done) | (rename_i hz1 hz2; cases hz1; done) | (rename_i hz1 hz2; cases hz2; done) | (rename_i hz1 hz2 hz3; cases hz1; done) | (cases ew; done)
theorem i_rng2 (hg : Gl X "range") (hm : X.mg "range" = none) (ha : SA X c [a, b] rs) (sa : simpleE a = true) (sb : simpleE b = true) (hlen : ∀ env st ds st', rs env st = .ok ds st' → ds.length = 2) : SI X c tg 1 (.Call (.Name "range" p) [a, b] [] pos) rs := by
  refine PI.imp (pi_range2 hg hm ha (by rw [star_of sa, star_of sb]; rfl) (by rw [star_of sb]; rfl)) fun σ H Q h => tAr_walk (P := fun vs H1 R => ∃ i j : Int, vs = [.int i, .int j] ∧ (-(2 ^ 62) ≤ i ∧ i < 2 ^ 62 ∧ -(2 ^ 62) ≤ j ∧ j < 2 ^ 62) ∧ R (Itr i (j - i).toNat) H1) hlen (fun G L st ds xs vs H R hl rl hv ew q => ?_) h
  match ds, hl with
  | [d, e], _ =>
    cases hv with
    | cons h1 h2 =>
      cases h2 with
      | cons h2 h3 =>
        cases h3
        unfold walkOf at ew
        split at ew
        case h_4 z1 n m hk0 hn =>
          cases hn
          split at ew
          · rename_i hh
            cases ew
            rw [Bool.and_eq_true] at hh
            obtain ⟨h3, h4⟩ := near_lt hh.1
            obtain ⟨h5, h6⟩ := near_lt hh.2
            exact ⟨n, m, by rw [fz_int h1, fz_int h2], ⟨by omega, by omega, by omega, by omega⟩, q _ wk_range⟩
          · cases ew
        all_goals first | (rename_i hz; cases hz; done) | (rename_i hz1 hz2; cases hz1; done) | (rename_i hz1 hz2; cases hz2; done) | (rename_i hz1 hz2 hz3; cases hz1; done) | (cases ew; done)
theorem i_rng3 (hg : Gl X "range") (hm : X.mg "range" = none) (ha : SA X c [a, b, d] rs) (sa : simpleE a = true) (sb : simpleE b = true) (sd : simpleE d = true) (hlen : ∀ env st ds st', rs env st = .ok ds st' → ds.length = 3) : SI X c tg 1 (.Call (.Name "range" p) [a, b, d] [] pos) rs := by
  refine PI.imp (pi_range3 hg hm ha (star_of sa) (back_of (es := [b, d]) (by simp [sb, sd]))) fun σ H Q h => tAr_walk (P := fun vs H1 R => ∃ (i j c : Int) (n : Nat), vs = [.int i, .int j, .int c] ∧ RgC i j c n ∧ R (Itc i c n) H1) hlen (fun G L st ds xs vs H R hl rl hv ew q => ?_) h
  match ds, hl with
  | [d, e, f], _ =>
    cases hv with
    | cons h1 h2 =>
      cases h2 with
      | cons h2 h3 =>
        cases h3 with
        | cons h3 h4 =>
          cases h4
          unfold walkOf at ew
          split at ew
          case h_5 z1 n m k hk0 hn =>
            cases hn
            split at ew
            · rename_i hh
              cases ew
              rw [Bool.and_eq_true, Bool.and_eq_true] at hh
              obtain ⟨g1, g2⟩ := near_lt hh.1.1
              obtain ⟨g3, g4⟩ := near_lt hh.1.2
              have hk : k = -1 := of_decide_eq_true hh.2
              subst hk
              exact ⟨n, m, -1, (n - m).toNat, by rw [fz_int h1, fz_int h2, fz_int h3], RgC.neg (by omega) (by omega) (by omega) (by omega), q _ wk_rangeC⟩
            · cases ew
          all_goals first | (rename_i hz; cases hz; done) | (rename_i hz1 hz2; cases hz1; done) | (rename_i hz1 hz2; cases hz2; done) | (rename_i hz1 hz2 hz3; cases hz1; done) | (cases ew; done)
theorem i_enum {elts : List Expr} {kk : Nat} {tpos : Pos} (hg : Gl X "enumerate") (hm : X.mg "enumerate" = none) (ha : SA X c [a] rs) (sa : simpleE a = true) (hlen : ∀ env st ds st', rs env st = .ok ds st' → ds.length = 1) : SI X c (.Tuple elts kk tpos) 2 (.Call (.Name "enumerate" p) [a] [] pos) rs := by
  refine PI.imp (pi_enumA hg hm ha (star_of sa)) fun σ H Q h => tAr_walk (P := fun vs H1 R => ∃ a us, vs = [.ref a] ∧ ((SqL X.K H1 a us ∧ R (Ite X.K a) H1) ∨ (SqT X.K H1 a us ∧ R (ItE X.K a) H1))) hlen (fun G L st ds xs vs H R hl rl hv ew q => ?_) h
  match ds, hl with
  | [d], _ =>
    cases hv with
    | cons h1 h2 =>
      cases h2
      unfold walkOf at ew
      split at ew
      case h_6 z1 z2 n hn =>
        cases hn
        simp only [Option.map_eq_some_iff] at ew
        obtain ⟨es, e1, rfl⟩ := ew
        obtain ⟨a', us, e2, f, hq, _, _⟩ := seq_stay rl h1 e1
        cases hb : isL d st with
        | true =>
          rw [hb] at hq
          cases hq with
          | l hq => exact ⟨a', us, by rw [e2], .inl ⟨hq, q _ (wk_enum rl h1 e1 hb e2)⟩⟩
        | false =>
          rw [hb] at hq
          cases hq with
          | t hq => exact ⟨a', us, by rw [e2], .inr ⟨hq, q _ (wk_enumT rl h1 e1 hb e2)⟩⟩
      all_goals first | (rename_i hz; cases hz; done) | (rename_i hz1 hz2; cases hz1; done) | (rename_i hz1 hz2; cases hz2; done) | (rename_i hz1 hz2 hz3; cases hz1; done) | (cases ew; done)
theorem i_zip {elts : List Expr} {kk : Nat} {tpos : Pos} (hg : Gl X "zip") (hm : X.mg "zip" = none) (ha : SA X c [a, b] rs) (sa : simpleE a = true) (sb : simpleE b = true) (hlen : ∀ env st ds st', rs env st = .ok ds st' → ds.length = 2) : SI X c (.Tuple elts kk tpos) 3 (.Call (.Name "zip" p) [a, b] [] pos) rs := by
  refine PI.imp (RZ.pi_zipA hg hm ha (star_of sa) (back_of (es := [b]) (by simp [sb]))) fun σ H Q h => tAr_walk (P := fun vs H1 R => ∃ a b xs ys, vs = [.ref a, .ref b] ∧ ((SqL X.K H1 a xs ∧ SqL X.K H1 b ys ∧ R (Itz X.K a b) H1) ∨ (SqT X.K H1 a xs ∧ SqT X.K H1 b ys ∧ R (RZ.ItzT X.K a b) H1))) hlen (fun G L st ds xs vs H R hl rl hv ew q => ?_) h
  match ds, hl with
  | [d, e], _ =>
    cases hv with
    | cons h1 h2 =>
      cases h2 with
      | cons h2 h3 =>
        cases h3
        unfold walkOf at ew
        split at ew
        case h_7 z1 z2 n m hn =>
          cases hn
          split at ew
          · rename_i hk
            simp only [Option.bind_eq_some_iff, Option.map_eq_some_iff] at ew
            obtain ⟨es, e1, es2, e2, rfl⟩ := ew
            obtain ⟨a', us, e3, f, hq, t1, _⟩ := seq_stay rl h1 e1
            obtain ⟨b', ws, e4, f', hq', t2, _⟩ := seq_stay rl h2 e2
            have hkk : isL d st = isL e st := by
              rw [Bool.or_eq_true, Bool.and_eq_true, Bool.and_eq_true] at hk
              rcases hk with ⟨k1, k2⟩ | ⟨k1, k2⟩
              · rw [k1, k2]
              · have nl : ∀ z : D, isT z = true → isL z st = false := fun z hz => by
                  unfold isT at hz
                  split at hz
                  · rfl
                  · cases hz
                rw [nl d k1, nl e k2]
            have w := wk_zip rl h1 h2 e1 e2 e3 e4 hkk
            refine ⟨a', b', us, ws, by rw [e3, e4], ?_⟩
            rw [← hkk] at hq'
            cases hb : isL d st with
            | true =>
              rw [hb] at hq hq' w
              cases hq with
              | l hq =>
                cases hq' with
                | l hq' => exact .inl ⟨hq, hq', q _ w⟩
            | false =>
              rw [hb] at hq hq' w
              cases hq with
              | t hq =>
                cases hq' with
                | t hq' => exact .inr ⟨hq, hq', q _ w⟩
          · cases ew
        all_goals first | (rename_i hz; cases hz; done) | (rename_i hz1 hz2; cases hz1; done) | (rename_i hz1 hz2; cases hz2; done) | (rename_i hz1 hz2 hz3; cases hz1; done) | (cases ew; done)
theorem i_rev (hg : Gl X "reversed") (hm : X.mg "reversed" = none) (ha : SE X c a ra) (sa : simpleE a = true) : SI X c tg 7 (.Call (.Name "reversed" p) [a] [] pos) (fun env st => (ra env st).bind fun d st => Res.ok [d] st) := by
  refine PI.imp (RT.pi_revA hg hm ha (star_of sa)) fun σ H Q h => ?_
  obtain ⟨G, L, st, env, rl, re, q⟩ := h
  refine ⟨G, L, st, env, rl, re, ?_⟩
  unfold walkR at q
  dsimp only at q
  cases e : ra env st with
  | bad => rw [e] at q; exact q.elim
  | ex k fs st' => rw [e] at q; exact q
  | ok d st1 =>
    rw [e] at q
    simp only [Res.bind_ok] at q
    intro v L1 H1 po1 rl1 hd
    cases ew : walkOf 7 [d] st1 with
    | none => rw [ew] at q; exact q.elim
    | some xs =>
      rw [ew] at q
      simp only at q
      unfold walkOf at ew
      split at ew
      case h_8 z1 z2 n hn =>
        cases hn
        simp only [Option.map_eq_some_iff] at ew
        obtain ⟨es, e1, rfl⟩ := ew
        obtain ⟨a', us, e2, f, hq, _, _⟩ := seq_stay rl1 hd e1
        have w := wk_rev (xs := us) rl1 hd e1 e2 (Paired.length f)
        refine ⟨a', us, e2, ?_⟩
        cases hb : isL d st1 with
        | true =>
          rw [hb] at hq w
          cases hq with
          | l hq => exact .inl ⟨hq, q _ _ _ po1 rl1 w⟩
        | false =>
          rw [hb] at hq w
          cases hq with
          | t hq => exact .inr ⟨hq, q _ _ _ po1 rl1 w⟩
      all_goals first | (rename_i hz; cases hz; done) | (rename_i hz1 hz2; cases hz1; done) | (rename_i hz1 hz2; cases hz2; done) | (rename_i hz1 hz2 hz3; cases hz1; done) | (cases ew; done)
end
end Dn
/-! Dn: targets; list comprehensions. -/
namespace Dn
open PySem PySem.Spec PyProof.Rows L2
def gNames : List Nat → TGs
  | [] => gNil
  | i :: is => gCons (gName i) (gNames is)
def gT (K : PySem.W.Frag) : Tg → TG
  | .one i => gName i
  | .many is => gTup K is.length (gNames is)
theorem wipe_get (σ : Sg) : ∀ (vs : List Nat) (j : Nat), (wipe σ vs)[j]? = if j ∈ vs then (if j < σ.length then some none else none) else σ[j]?
  | [], j => by simp [wipe]
  | v :: vs, j => by
    unfold wipe
    by_cases h : v = j
    · subst h
      rw [if_pos (by simp)]
      by_cases hl : v < σ.length
      · rw [if_pos hl, List.getElem?_set_self (by rw [wipe_length]; exact hl)]
      · rw [if_neg hl, List.getElem?_eq_none (by rw [List.length_set, wipe_length]; omega)]
    · rw [List.getElem?_set_ne h, wipe_get σ vs j]
      by_cases hm : j ∈ vs
      · rw [if_pos hm, if_pos (List.mem_cons_of_mem _ hm)]
      · rw [if_neg hm, if_neg (by simp only [List.mem_cons, not_or]; exact ⟨fun e => h e.symm, hm⟩)]
theorem wipe_set {σ : Sg} {vs : List Nat} {i : Nat} {x : Option V} (h : i ∈ vs) : wipe (σ.set i x) vs = wipe σ vs := by
  apply List.ext_getElem?
  intro j
  rw [wipe_get, wipe_get, List.length_set]
  by_cases hj : j ∈ vs
  · rw [if_pos hj, if_pos hj]
  · rw [if_neg hj, if_neg hj, List.getElem?_set_ne (fun e : i = j => hj (by rw [← e]; exact h))]
theorem wipe_wipe {σ : Sg} {vs : List Nat} : wipe (wipe σ vs) vs = wipe σ vs := by
  apply List.ext_getElem?
  intro j
  rw [wipe_get, wipe_get, wipe_length]
  by_cases hj : j ∈ vs
  · rw [if_pos hj, if_pos hj]
  · rw [if_neg hj, if_neg hj]
    try rw [wipe_get, if_neg hj]
section
variable {K : PySem.W.Frag} {c : Wc} {G : Off1} {L : Lc} {H : Hp} {σ : Sg} {st : Store} {env env' : Sl}
theorem gNames_rel {Q : Sg → Hp → Prop} : ∀ {is : List Nat} {xs : List V} {ds : List D} {σ : Sg} {env : Sl}, RDs K G L H xs ds → setAll is ds env = some env' → RE K G L H σ env →
    (∀ σ', RE K G L H σ' env' → (∀ vs, (∀ i ∈ is, i ∈ vs) → wipe σ' vs = wipe σ vs) → Q σ' H) → gNames is xs σ H Q
  | [], [], [], σ, env, .nil, h, re, q => by
    cases h
    exact ⟨rfl, q σ re fun _ _ => rfl⟩
  | i :: is, x :: xs, d :: ds, σ, env, .cons r rs, h, re, q => by
    unfold setAll at h
    split at h
    · refine ⟨x, xs, rfl, gNames_rel rs h (re.set r) fun σ' re' hw => q σ' re' fun vs hv => ?_⟩
      rw [hw vs fun j hj => hv j (List.mem_cons_of_mem _ hj), wipe_set (hv i (List.mem_cons_self ..))]
    · cases h
  | [], _ :: _, _ :: _, _, _, _, h, _, _ => by cases h
  | _ :: _, [], [], _, _, _, h, _, _ => by cases h
theorem setAll_len : ∀ {is : List Nat} {ds : List D} {env env' : Sl}, setAll is ds env = some env' → is.length = ds.length ∧ env'.length = env.length
  | [], [], env, env', h => by cases h; exact ⟨rfl, rfl⟩
  | i :: is, d :: ds, env, env', h => by
    unfold setAll at h
    split at h
    · obtain ⟨h1, h2⟩ := setAll_len h
      exact ⟨by simp [h1], by rw [h2]; simp⟩
    · cases h
  | [], _ :: _, _, _, h => by cases h
  | _ :: _, [], _, _, h => by cases h
theorem gT_rel {Q : Sg → Hp → Prop} {tg : Tg} {x : V} {it : It} (hx : ItR K G L H x it) (h : bindT tg it env = some env') (re : RE K G L H σ env)
    (q : ∀ σ', RE K G L H σ' env' → (∀ vs, (∀ i ∈ tg.slots, i ∈ vs) → wipe σ' vs = wipe σ vs) → Q σ' H) : gT K tg x σ H Q := by
  unfold bindT at h
  split at h
  · rename_i i d
    have hx : RD K G L H x d := hx
    unfold setAll setAll at h
    split at h
    · cases h
      exact q _ (re.set hx) fun vs hv => wipe_set (hv i (List.mem_cons_self ..))
    · cases h
  · rename_i is d e
    obtain ⟨T, a, b, e1, e2, r1, r2⟩ := hx
    exact ⟨T, [a, b], e1, .inl (.inl e2), by rw [(setAll_len h).1]; rfl, gNames_rel (.cons r1 (.cons r2 .nil)) h re q⟩
  · rename_i is ds
    have hx : Fz K (Off G L) H x (.tuple ds) := hx
    obtain ⟨a, xs, e1, ht, f⟩ := fz_tup hx
    exact ⟨a, xs, e1, ht.sq, by rw [(setAll_len h).1, f.len]; simp, gNames_rel (mapP_rel f) h re q⟩
  · cases h
/-! ### a new list that the block fills: the heap without it -/
def era (H : Hp) (d : Addr) : Hp := fun b => if b = d then none else H b
theorem era_ne {b d : Addr} (h : b ≠ d) : era H d b = H b := if_neg h
theorem era_self {d : Addr} : era H d d = none := if_pos rfl
theorem era_upd {d : Addr} {o : HO} : era (upd H d o) d = era H d := by
  funext b
  by_cases h : b = d
  · subst h; rw [era_self, era_self]
  · rw [era_ne h, era_ne h, upd_ne h]
theorem era_new {d : Addr} {o : HO} (h : H d = none) : era (upd H d o) d = H := by
  funext b
  by_cases e : b = d
  · subst e; rw [era_self, h]
  · rw [era_ne e, upd_ne e]
theorem upd_era {d : Addr} {o : HO} (h : H d = some o) : upd (era H d) d o = H := by
  funext b
  by_cases e : b = d
  · subst e; rw [upd_same, h]
  · rw [upd_ne e, era_ne e]
def Gd (G : Off1) (d : Addr) : Off1 := fun a => G a ∨ a = d
theorem era_keep {d : Addr} : Keep (Off G L) (era H d) (Off (Gd G d) L) H where
  kp := fun b u e _ => by
    by_cases h : b = d
    · subst h; rw [era_self] at e; cases e
    · rwa [era_ne h] at e
  no := fun b h => by
    rcases h with (h | h) | h
    · exact .inl (.inl h)
    · subst h; exact .inr era_self
    · exact .inl (.inr h)
theorem back_keep {d : Addr} : Keep (Off (Gd G d) L) H (Off G L) (era H d) where
  kp := fun b u e n => by
    rw [era_ne fun z => n (.inl (.inr z))]
    exact e
  no := fun b h => by
    rcases h with h | h
    · exact .inl (.inl (.inl h))
    · exact .inl (.inr h)
theorem RD.keep {G' : Off1} {H' : Hp} (k : Keep (Off G L) H (Off G' L) H') : ∀ {v : V} {d : D}, RD K G L H v d → RD K G' L H' v d
  | _, .p d, h => Fz.mono k d _ h
  | _, .r _, h => h
theorem OR.keep {G' : Off1} {H' : Hp} (k : Keep (Off G L) H (Off G' L) H') {a : Addr} {o : Ob} (e : ∀ u, H a = some u → H' a = some u) (h : OR K G L H a o) : OR K G' L H' a o := by
  cases o with
  | lst ds =>
    obtain ⟨xs, h1, h2⟩ := h
    exact ⟨xs, e _ h1, Paired.mono (fun _ _ r => RD.keep k r) h2⟩
  | dic kvs =>
    obtain ⟨xs, h1, h2⟩ := h
    exact ⟨xs, e _ h1, Paired.mono (fun _ _ r => ⟨r.1, RD.keep k r.2⟩) h2⟩
  | gone => trivial
theorem era_in {d : Addr} (r : Rl K G L st (era H d)) (hd : ∃ o, H d = some o) : Rl K (Gd G d) L st H where
  len := r.len
  inj := r.inj
  obj := fun i a o e1 e2 => OR.keep era_keep (fun u e => by
    by_cases h : a = d
    · subst h; rw [era_self] at e; cases e
    · rwa [era_ne h] at e) (r.obj i a o e1 e2)
  gtr := fun a h => by
    rcases h with (h | h) | h
    · obtain ⟨o, e⟩ := r.gtr a (.inl h)
      by_cases z : a = d
      · subst z; exact hd
      · rw [era_ne z] at e; exact ⟨o, e⟩
    · subst h; exact hd
    · obtain ⟨o, e⟩ := r.gtr a (.inr h)
      by_cases z : a = d
      · subst z; exact hd
      · rw [era_ne z] at e; exact ⟨o, e⟩
  out := fun a h z => by
    rcases z with z | z
    · exact r.out a h z
    · subst z
      obtain ⟨o, e⟩ := r.gtr a (.inr h)
      rw [era_self] at e; cases e
  ded := r.ded
theorem era_out {d : Addr} (r : Rl K (Gd G d) L st H) (hg : ¬ G d) : Rl K G L st (era H d) where
  len := r.len
  inj := r.inj
  obj := fun i a o e1 e2 => OR.keep back_keep (fun u e => by
    rw [era_ne fun z => r.out a ⟨i, e1⟩ (.inr z)]
    exact e) (r.obj i a o e1 e2)
  gtr := fun a h => by
    have n : a ≠ d := fun z => by
      subst z
      rcases h with h | h
      · exact hg h
      · exact r.out a h (.inr rfl)
    rw [era_ne n]
    rcases h with h | h
    · exact r.gtr a (.inl (.inl h))
    · exact r.gtr a (.inr h)
  out := fun a h z => r.out a h (.inl z)
  ded := r.ded
theorem era_po {d : Addr} {L' : Lc} {H' : Hp} (po : Po L H L' H') (hd : ∃ o, H d = some o) : Po L (era H d) L' (era H' d) where
  kp := fun b u e n => by
    by_cases h : b = d
    · subst h; rw [era_self] at e; cases e
    · rw [era_ne h] at e ⊢
      exact po.kp b u e n
  st := fun b u e => by
    by_cases h : b = d
    · subst h; rw [era_self] at e; cases e
    · rw [era_ne h] at e ⊢
      exact po.st b u e
  le := po.le
  old := po.old
  new := fun k b h e => by
    by_cases z : b = d
    · subst z; exact era_self
    · rw [era_ne z]; exact po.new k b h e
theorem Nw.nx {α β : Type} {r : Res α} {Rel : Lc → Hp → β → α → Prop} {Q : β → Hp → Prop} (h : Nw K G L H r Rel Q) : Nw K G L H r.nox Rel Q := by
  cases r with
  | ok a st' => exact h
  | ex k fs st' => exact h
  | bad => exact h
theorem Nw.shift {α β : Type} {r : Res α} {Rel : Lc → Hp → β → α → Prop} {Q : β → Hp → Prop} {L1 : Lc} {H1 : Hp} (po : Po L H L1 H1) (h : Nw K G L H r Rel Q) : Nw K G L1 H1 r Rel Q := by
  cases r with
  | ok a st' => exact fun b L2 H2 po2 => h b L2 H2 (po.trans po2)
  | ex k fs st' => exact h
  | bad => exact h
theorem res_assoc {α β γ : Type} (m : Res α) (f : α → Store → Res β) (g : β → Store → Res γ) : (m.bind f).bind g = m.bind fun a st => (f a st).bind g := by
  cases m <;> rfl
theorem Nw.bindA {α β γ δ : Type} {m : Res α} {f : α → Store → Res γ} (Rel1 : Lc → Hp → β → α → Prop) {Rel2 : Lc → Hp → δ → γ → Prop} {Q : δ → Hp → Prop} (h : Nw K G L H ((m.bind f).nox) Rel2 Q) :
    Aft K c.no G L H σ m Rel1 (fun b H1 => ∃ L1 st1 a, m = .ok a st1 ∧ Po L H L1 H1 ∧ Rl K G L1 st1 H1 ∧ Rel1 L1 H1 b a ∧ Nw K G L1 H1 ((f a st1).nox) Rel2 Q) := by
  cases m with
  | ok a st' => exact fun b L' H' po rl re => ⟨L', st', a, rfl, po, rl, re, by
      have h : Nw K G L H ((f a st').nox) Rel2 Q := h
      cases e : (f a st').nox with
      | ok d st2 => rw [e] at h; exact fun b L2 H2 po2 => h b L2 H2 (po.trans po2)
      | ex k fs st2 => rw [e] at h; exact h.elim
      | bad => rw [e] at h; exact h.elim⟩
  | ex k fs st' => exact False.elim h
  | bad => exact h
def compR (m : Bool) (k : Nat) (tg : Tg) (rs : Sl → Store → Res (List D)) (rc re : Sl → Store → Res D) : Sl → Store → Res D := fun env st => (rs env st).bind fun ds st => match walkOf k ds st with
  | some xs => ((compM (fun st1 => still ds st st1) (fun x st1 => match bindT tg x (wipeE env tg.slots) with
      | some env' => (rc env' st1).bind fun c st1 => match truth c with
        | some true => (re env' st1).bind fun d st1 => .ok (some d) st1
        | some false => .ok none st1
        | none => .bad
      | none => .bad) xs st).bind fun ds st => newL m ds st).nox
  | none => .bad
theorem drop_cons {α : Type} {xs : List α} {i : Nat} (h : i < xs.length) : xs.drop i = xs[i] :: xs.drop (i + 1) := List.drop_eq_getElem_cons h
theorem compM_len {ok : Store → Bool} {f : It → Store → Res (Option D)} : ∀ {xs : List It} {st st' : Store} {ds : List D}, compM ok f xs st = .ok ds st' → True := fun _ => trivial
theorem newL_len {m : Bool} {ds : List D} {d : D} {st st' : Store} (h : newL m ds st = .ok d st') : ds.length ≤ sizeLine := by
  unfold newL at h
  split at h
  · cases h
  · omega
end
section
variable {X : Cx} {c : Wc} {tgE elt iter : Expr} {ifs : List Expr} {scope : Scope} {own : List (Str × Nat)} {pos : Pos} {tg : Tg} {k : Nat} {m : Bool} {rs : Sl → Store → Res (List D)} {rc re : Sl → Store → Res D}
theorem comp_core {σ : Sg} {H : Hp} {Q : VK} (h : tE X.K c (compR m k tg rs rc re) σ H Q) : tLc (tI X.K c k rs) (gT X.K tg) (tT X.K c.no rc) (tE X.K c.no re) tg.slots σ H Q := by
  obtain ⟨G, L, st, env, rl, rE, q⟩ := h
  refine ⟨G, L, st, env, rl, rE, ?_⟩
  unfold compR at q
  unfold walkR
  try dsimp only at q ⊢
  cases e : rs env st with
  | bad => rw [e] at q; exact q.elim
  | ex kk fs st' => rw [e] at q; exact q
  | ok ds st1 =>
    rw [e] at q
    simp only [Res.bind_ok] at q ⊢
    cases ew : walkOf k ds st1 with
    | none => rw [ew] at q; exact q.elim
    | some xs =>
      rw [ew] at q
      simp only at q ⊢
      intro J L1 H1 po1 rl1 wk D hD
      have q := q.nw.nx
      generalize hok : (fun st2 => still ds st1 st2) = ok at q
      generalize hf : (fun (x : It) (st1 : Store) => match bindT tg x (wipeE env tg.slots) with
        | some env' => (rc env' st1).bind fun c st1 => match truth c with
          | some true => (re env' st1).bind fun d st1 => Res.ok (some d) st1
          | some false => .ok none st1
          | none => .bad
        | none => .bad) = f at q
      have nG : ¬ G D := fun z => rl1.none hD (.inl z)
      refine ⟨fun i mm H2 => mm = xs.length - i ∧ i ≤ xs.length ∧ ∃ L2 st2 ys zs, H2 D = some (.lst ys) ∧ Po L1 H1 L2 (era H2 D) ∧ Rl X.K G L2 st2 (era H2 D) ∧ RDs X.K G L2 (era H2 D) ys zs ∧
        Nw X.K G L2 (era H2 D) (((compM ok f (xs.drop i) st2).bind fun rest st => newL m (zs ++ rest) st).nox) (RD X.K G) Q, ⟨xs.length, by simp, Nat.zero_le _, L1, st1, [], [], upd_same, ?_, ?_, .nil, ?_⟩, ?_⟩
      · rw [era_new hD]; exact .refl
      · rw [era_new hD]; exact rl1
      · rw [era_new hD]
        simp only [List.drop_zero, List.nil_append]
        have q2 : Nw X.K G L H ((compM ok f xs st1).bind fun ds st => newL m ds st).nox (RD X.K G) Q := q
        cases eq : ((compM ok f xs st1).bind fun ds st => newL m ds st).nox with
        | ok d st3 => rw [eq] at q2; exact fun b L3 H3 po3 => q2 b L3 H3 (po1.trans po3)
        | ex k fs st3 => rw [eq] at q2; exact q2.elim
        | bad => rw [eq] at q2; exact q2.elim
      · rintro i mm H2 ⟨rfl, hi, L2, st2, ys, zs, hD2, po2, rl2, hys, q2⟩
        have hDe : ∃ o, H2 D = some o := ⟨_, hD2⟩
        have rlD := era_in rl2 hDe
        have poD : Po L1 H1 L2 H2 := ⟨fun b u e n => by
            have := po2.kp b u e n
            by_cases z : b = D
            · subst z; rw [hD] at e; cases e
            · rwa [era_ne z] at this, fun b u e => by
            obtain ⟨o, e2⟩ := po2.st b u e
            by_cases z : b = D
            · subst z; rw [hD] at e; cases e
            · rw [era_ne z] at e2; exact ⟨o, e2⟩, po2.le, po2.old, po2.new⟩
        have hgD : ∀ b, Gd G D b → G b ∨ H1 b = none := fun b z => by
          rcases z with z | z
          · exact .inl z
          · subst z; exact .inr hD
        by_cases hlt : i < xs.length
        · rw [drop_cons hlt] at q2
          unfold compM at q2
          cases hk : ok st2 with
          | false => rw [hk] at q2; exact q2.elim
          | true =>
            rw [hk] at q2
            simp only [if_true] at q2
            have hst : still ds st1 st2 = true := by rw [← hok] at hk; exact hk
            obtain ⟨go, yld⟩ := wk.item i L2 st2 H2 _ (Gd G D) poD hgD rlD hst (List.getElem?_eq_getElem hlt)
            refine .inr ⟨go, fun H' => i + 1 ≤ xs.length ∧ ∃ L2 st2 ys zs, H' D = some (.lst ys) ∧ Po L1 H1 L2 (era H' D) ∧ Rl X.K G L2 st2 (era H' D) ∧ RDs X.K G L2 (era H' D) ys zs ∧
              Nw X.K G L2 (era H' D) (((compM ok f (xs.drop (i + 1)) st2).bind fun rest st => newL m (zs ++ rest) st).nox) (RD X.K G) Q, fun H' hN => ⟨xs.length - (i + 1), by omega, rfl, hN⟩, fun x H3 hy => ?_⟩
            obtain ⟨po3, rl3, hit⟩ := yld x H3 hy
            have rE3 : RE X.K (Gd G D) L2 H3 (wipe σ tg.slots) (wipeE env tg.slots) := by
              have k0 : Keep (Off G L) H (Off (Gd G D) L2) H3 := keepG ((po1.trans poD).trans po3) fun b z => by
                rcases z with z | z
                · exact .inl z
                · subst z
                  refine .inr ?_
                  cases ez : H b with
                  | none => rfl
                  | some u =>
                    obtain ⟨u', e'⟩ := po1.st b u ez
                    rw [hD] at e'; cases e'
              have rE' : RE X.K (Gd G D) L2 H3 σ env := ⟨rE.len, fun j d e => by
                obtain ⟨v, h1, h2⟩ := rE.at_ j d e
                exact ⟨v, h1, RD.monoG ((po1.trans poD).trans po3) (fun b z => by
                  rcases z with z | z
                  · exact .inl z
                  · subst z
                    refine .inr ?_
                    cases ez : H b with
                    | none => rfl
                    | some u =>
                      obtain ⟨u', e'⟩ := po1.st b u ez
                      rw [hD] at e'; cases e') h2⟩⟩
              exact rE'.wipe _
            -- the turn's tree
            rw [← hf] at q2
            simp only at q2
            cases eb : bindT tg xs[i] (wipeE env tg.slots) with
            | none => rw [eb] at q2; exact q2.elim
            | some env' =>
              rw [eb] at q2
              simp only at q2
              rw [hf] at q2
              refine gT_rel hit eb rE3 fun σ' rE4 hw => ⟨by rw [hw _ fun i h => h, wipe_wipe], ?_⟩
              have hD3 : H3 D = some (.lst ys) := po3.kp D _ hD2 fun z => rlD.out D z (.inr rfl)
              have nx : ∀ (L4 : Lc) (H4 : Hp) (st4 : Store), Po L2 H3 L4 H4 → Rl X.K (Gd G D) L4 st4 H4 → Nw X.K G L2 (era H2 D) (((compM ok f (xs.drop (i + 1)) st4).bind fun rest st => newL m (zs ++ rest) st).nox) (RD X.K G) Q →
                  i + 1 ≤ xs.length ∧ ∃ L2 st2 ys zs, H4 D = some (.lst ys) ∧ Po L1 H1 L2 (era H4 D) ∧ Rl X.K G L2 st2 (era H4 D) ∧ RDs X.K G L2 (era H4 D) ys zs ∧
                  Nw X.K G L2 (era H4 D) (((compM ok f (xs.drop (i + 1)) st2).bind fun rest st => newL m (zs ++ rest) st).nox) (RD X.K G) Q := fun L4 H4 st4 po4 rl4 q4 => by
                have hD4 : H4 D = some (.lst ys) := po4.kp D _ hD3 fun z => rl3.out D z (.inr rfl)
                have pe : Po L2 (era H2 D) L4 (era H4 D) := era_po (po3.trans po4) hDe
                exact ⟨hlt, L4, st4, ys, zs, hD4, po2.trans pe, era_out rl4 nG, RDs.mono pe hys, q4.shift pe⟩
              cases ec : rc env' st2 with
              | bad => rw [ec] at q2; exact q2.elim
              | ex kk fs st' => rw [ec] at q2; exact q2.elim
              | ok cd st3 =>
                rw [ec] at q2
                simp only [Res.bind_ok] at q2
                refine ⟨Gd G D, L2, st2, env', rl3, rE4, ?_⟩
                unfold rT
                rw [ec]
                simp only [Res.bind_ok]
                cases et : truth cd with
                | none => rw [et] at q2; exact q2.elim
                | some b =>
                  rw [et] at q2
                  intro b' L4 H4 po4 rl4 hb
                  cases hb
                  cases b with
                  | false =>
                    rw [if_neg Bool.false_ne_true]
                    simp only [Res.bind_ok, res_assoc] at q2
                    exact nx L4 H4 st3 po4 rl4 q2
                  | true =>
                    rw [if_pos rfl]
                    refine ⟨Gd G D, L4, st3, env', rl4, rE4.mono po4, ?_⟩
                    cases ed : re env' st3 with
                    | bad => rw [ed] at q2; exact q2.elim
                    | ex kk fs st' => rw [ed] at q2; exact q2.elim
                    | ok d st5 =>
                      rw [ed] at q2
                      simp only [Res.bind_ok, res_assoc] at q2
                      intro y L5 H5 po5 rl5 hy
                      have hD4 : H4 D = some (.lst ys) := po4.kp D _ hD3 fun z => rl3.out D z (.inr rfl)
                      have hD5 : H5 D = some (.lst ys) := po5.kp D _ hD4 fun z => rl4.out D z (.inr rfl)
                      have pe : Po L2 (era H2 D) L5 (era H5 D) := era_po ((po3.trans po4).trans po5) hDe
                      refine ⟨ys, hD5, ?_, hlt, L5, st5, ys ++ [y], zs ++ [d], upd_same, ?_, ?_, ?_, ?_⟩
                      · have hyl := Paired.length hys
                        cases ecm : compM ok f (xs.drop (i + 1)) st5 with
                        | bad => rw [ecm] at q2; exact q2.elim
                        | ex kk fs st' => rw [ecm] at q2; exact q2.elim
                        | ok rest st6 =>
                          rw [ecm] at q2
                          simp only [Res.bind_ok] at q2
                          cases en : newL m (zs ++ d :: rest) st6 with
                          | bad => rw [en] at q2; exact q2.elim
                          | ex kk fs st' => rw [en] at q2; exact q2.elim
                          | ok dd st7 =>
                            have := newL_len en
                            rw [List.length_append, List.length_cons] at this
                            omega
                      · rw [era_upd]; exact po2.trans pe
                      · rw [era_upd]; exact era_out rl5 nG
                      · rw [era_upd]
                        exact RDs.snoc (RDs.mono pe hys) (RD.keep back_keep hy)
                      · rw [era_upd]
                        simp only [List.append_assoc, List.singleton_append]
                        exact q2.shift pe
        · have ei : i = xs.length := by omega
          subst ei
          rw [List.drop_length] at q2
          unfold compM at q2
          cases hk : ok st2 with
          | false => rw [hk] at q2; exact q2.elim
          | true =>
            rw [hk] at q2
            simp only [if_true, Res.bind_ok, List.append_nil] at q2
            have hst : still ds st1 st2 = true := by rw [← hok] at hk; exact hk
            refine .inl ⟨wk.stop _ L2 st2 H2 (Gd G D) poD hgD rlD hst (Nat.le_refl _), ?_⟩
            rw [newL_noex] at q2
            have := (newL_rel q2 rl2 hys).2 D era_self
            rwa [upd_era hD2] at this
end
end Dn
/-! Dn: sets whose members are of one kind, and sorted(set(..)). -/
namespace Dn
open PySem PySem.Spec PyProof.Rows L2
/-- pairs follow a new order of the first ones -/
theorem paired_perm {α β : Type} {R : α → β → Prop} : ∀ {xs ys : List α}, xs.Perm ys → ∀ {zs : List β}, Paired R ys zs → ∃ us, us.Perm zs ∧ Paired R xs us := by
  intro xs ys p
  induction p with
  | nil => exact fun {zs} h => ⟨zs, .refl _, h⟩
  | cons x p ih =>
    intro zs h
    cases h with
    | cons a b =>
      obtain ⟨us, p1, h1⟩ := ih b
      exact ⟨_ :: us, p1.cons _, .cons a h1⟩
  | swap x y l =>
    intro zs h
    cases h with
    | cons a b =>
      cases b with
      | cons c d => exact ⟨_, .swap _ _ _, .cons c (.cons a d)⟩
  | trans p1 p2 ih1 ih2 =>
    intro zs h
    obtain ⟨us, q1, h1⟩ := ih2 h
    obtain ⟨vs, q2, h2⟩ := ih1 h1
    exact ⟨vs, q2.trans q1, h2⟩
theorem paired_snoc {α β : Type} {R : α → β → Prop} : ∀ {xs : List α} {zs : List β} {x : α} {z : β}, Paired R xs zs → R x z → Paired R (xs ++ [x]) (zs ++ [z])
  | _, _, _, _, .nil, h => .cons h .nil
  | _, _, _, _, .cons a b, h => .cons a (paired_snoc b h)
theorem paired_mem {α β : Type} {R : α → β → Prop} : ∀ {xs : List α} {zs : List β}, Paired R xs zs → (∀ x ∈ xs, ∃ z ∈ zs, R x z) ∧ ∀ z ∈ zs, ∃ x ∈ xs, R x z
  | _, _, .nil => ⟨by simp, by simp⟩
  | _, _, .cons a b => by
    obtain ⟨h1, h2⟩ := paired_mem b
    refine ⟨fun x hx => ?_, fun z hz => ?_⟩
    · rcases List.mem_cons.mp hx with rfl | hx
      · exact ⟨_, List.mem_cons_self, a⟩
      · obtain ⟨z, hz, r⟩ := h1 x hx
        exact ⟨z, List.mem_cons_of_mem _ hz, r⟩
    · rcases List.mem_cons.mp hz with rfl | hz
      · exact ⟨_, List.mem_cons_self, a⟩
      · obtain ⟨x, hx, r⟩ := h2 z hz
        exact ⟨x, List.mem_cons_of_mem _ hx, r⟩
section
variable {P : Program} {w : World} {T : Type} [DecidableEq T] (kd : KeyKind P w T)
/-- an entry of a set's table is a key -/
def Ent (q : Int × Value) (k : T) : Prop := (kd.is k q.2 = true ∧ q.1 = kd.hash k) ∧ q.2.scannable = true
/-- the set at a has these members, each once, in some order -/
def Grp (h : Heap) (a : Addr) (ks : List T) : Prop := ∃ (o : Obj) (us : Array (Int × Value)) (ep : Nat) (t : SetTable) (ls : List T),
  h.get? a = some o ∧ o.ExactSet ∧ o.data = .set us ep t ∧ Paired (Ent kd) us.toList ls ∧ ls.Perm ks ∧ ks.Nodup ∧ us.size < scanBound ∧ t.fits us.size = true ∧ Ris t.place.toList ∧ (w.params.followText "set-order" = true ∨ t.led = true)
variable {kd}
theorem Ent.els {l : List (Int × Value)} {ls : List T} (p : Paired (Ent kd) l ls) : ElemsOf kd l := fun q hq => by
  obtain ⟨k, _, r⟩ := (paired_mem p).1 q hq
  exact ⟨⟨k, r.1⟩, r.2⟩
theorem Ent.has {l : List (Int × Value)} {ls : List T} (p : Paired (Ent kd) l ls) (k : T) : k ∈ ls ↔ ∃ q ∈ l, kd.is k q.2 = true := by
  constructor
  · intro h
    obtain ⟨q, hq, r⟩ := (paired_mem p).2 k h
    exact ⟨q, hq, r.1.1⟩
  · rintro ⟨q, hq, e⟩
    obtain ⟨k', hk', r⟩ := (paired_mem p).1 q hq
    rw [kd.inj _ _ _ e r.1.1]
    exact hk'
variable {A : Around} {E : Value → Shared → Prop} {s : Shared} {a : Addr} {ks : List T}
theorem Grp.at {h h' : Heap} (g : Grp kd h a ks) (f : ∀ o, h.get? a = some o → h'.get? a = some o) : Grp kd h' a ks := by
  obtain ⟨o, us, ep, t, ls, h1, r⟩ := g
  exact ⟨o, us, ep, t, ls, f o h1, r⟩
theorem Grp.fresh {h : Heap} (f : h.get? a = some { cls := .type "set", dict := none, data := .set #[] 0 (.fresh 0 0 (!w.params.followText "set-order")) }) : Grp kd h a [] := by
  refine ⟨_, #[], 0, _, [], f, ⟨rfl, rfl, rfl⟩, rfl, .nil, .refl _, .nil, by decide, by rfl, .nil, ?_⟩
  show _ ∨ (!w.params.followText "set-order") = true
  cases w.params.followText "set-order" with
  | true => exact .inl rfl
  | false => exact .inr rfl
/-- what stands in the table is stored, and the table made greater if it is too full -/
theorem grp_tail {f : Bool → Sem Unit} (hf : ∀ (b : Bool) (s1 : Shared) (Q1 : Unit → Shared → Prop), Q1 () s1 → wpAny (model P w) A (f b) Q1 E s1)
    {o : Obj} {us vs : Array (Int × Value)} {ep : Nat} {t t2 : SetTable} {ls : List T} {gone : Bool} {Q : Option Bool → Shared → Prop} (ho : s.heap.get? a = some o) (hx : o.ExactSet) (hd : o.data = .set us ep t)
    (pv : Paired (Ent kd) vs.toList ls) (pl : ls.Perm ks) (nd : ks.Nodup) (hb : vs.size < scanBound) (h2 : t2.fits vs.size = true) (hr : Ris t2.place.toList) (hl : w.params.followText "set-order" = true ∨ t2.led = true)
    (hQ : ∀ h', Heap.SameBut a s.heap h' → Grp kd h' a ks → Q (some true) { s with heap := h' }) :
    wpAny (model P w) A (do
        storeSet a vs t2
        if (!gone && t2.tooFull) = true then do
            f (relayAll t2 vs (SetTable.grown vs.size)).2.2
            storeSet a (relayAll t2 vs (SetTable.grown vs.size)).1 (relayAll t2 vs (SetTable.grown vs.size)).2.1
            pure (some true)
          else pure (some true)) Q E s := by
  refine wpAny_bind (wpAny_storeSet_of ho hd ?_ (fits_of_scanBound hb))
  have o1 := store_at (es' := vs) (t' := t2) ho hd
  have b1 := Heap.SameBut.update s.heap a (Obj.putSet vs t2)
  split
  · have w1 := relayAll_perm t2 vs (SetTable.grown vs.size)
    have w2 := relayAll_fits t2 vs (SetTable.grown vs.size)
    have w3 := relayAll_ris t2 vs (SetTable.grown vs.size)
    have w4 := relayAll_led t2 vs (SetTable.grown vs.size)
    generalize relayAll t2 vs (SetTable.grown vs.size) = Z at w1 w2 w3 w4 ⊢
    obtain ⟨vs3, t3, gv⟩ := Z
    dsimp only at w1 w2 w3 w4 ⊢
    have n3 : vs3.size = vs.size := by rw [← Array.length_toList, w1.length_eq, Array.length_toList]
    refine wpAny_bind (hf _ _ _ ?_)
    refine wpAny_bind (wpAny_storeSet_of o1 rfl ?_ (fits_of_scanBound (by omega)))
    obtain ⟨ls3, p3, q3⟩ := paired_perm w1 pv
    refine wpAny_pure (hQ _ (b1.trans (Heap.SameBut.update _ a _)) ⟨_, vs3, _, t3, ls3, store_at (es' := vs3) (t' := t3) o1 rfl, hx, rfl, q3, p3.trans pl, nd, by omega, w2, w3, ?_⟩)
    rw [w4]
    exact hl
  · exact wpAny_pure (hQ _ b1 ⟨_, vs, _, t2, ls, o1, hx, rfl, pv, pl, nd, hb, h2, hr, hl⟩)
theorem grp_add {k : T} {x : Value} {Q : Bool → Shared → Prop} (hk : kd.is k x = true) (hsc : x.scannable = true) (g : Grp kd s.heap a ks) (room : ks.length + 1 < scanBound)
    (hQ : ∀ b h', Heap.SameBut a s.heap h' → Grp kd h' a (if k ∈ ks then ks else k :: ks) → Q b { s with heap := h' }) : wpAny (model P w) A (setAddHashed a x (kd.hash k)) Q E s := by
  have g0 := g
  obtain ⟨o, us, ep, t, ls, ho, hx, hd, pu, pl, nd, hb, hf, hr, hl⟩ := g
  have hus : us.size = ks.length := by rw [← Array.length_toList, Paired.length pu, pl.length_eq]
  have hel := Ent.els pu
  unfold setAddHashed setAddHashedIn
  refine wpAny_holding (wpAny_bind (wpAny_setState_of ho hd hf ?_))
  dsimp only
  rw [byScan_of hsc hb hel]
  simp only [↓reduceIte]
  unfold setAddByScan
  refine wpAny_bind ?_
  refine wpAny_bind (wpAny_rule ?_)
  refine wpAny_bind (wpAny_setScan_of hk ho hd hf hel ?_)
  cases c : List.findIdx? (fun q => kd.is k q.2) us.toList with
  | some j =>
    dsimp only
    obtain ⟨hj, pj, _⟩ := List.findIdx?_eq_some_iff_getElem.mp c
    have hin : k ∈ ks := pl.mem_iff.mp ((Ent.has pu k).mpr ⟨_, List.getElem_mem hj, pj⟩)
    rw [if_pos hin] at hQ
    exact wpAny_pure (wpAny_pure (hQ false s.heap (.refl a s.heap) g0))
  | none =>
    dsimp only
    have hout : k ∉ ks := fun z => by
      obtain ⟨q, hq, e⟩ := (Ent.has pu k).mp (pl.mem_iff.mpr z)
      have := List.findIdx?_eq_none_iff.mp c q hq
      rw [e] at this
      cases this
    rw [if_neg hout] at hQ
    have way : ∀ (b : Bool) (s1 : Shared) (Q1 : Unit → Shared → Prop), Q1 () s1 → wpAny (model P w) A (match b with | true => rule "set.scan.the-table-gave-way" | false => pure ()) Q1 E s1 := fun b s1 Q1 q => by
      cases b with
      | true => exact wpAny_rule q
      | false => exact wpAny_pure q
    have w1 := layNew_perm t us (kd.hash k) x
    have w2 := layNew_fits t us (kd.hash k) x
    have w3 := layNew_ris t us (kd.hash k) x hr
    have w4 := layNew_led t us (kd.hash k) x
    generalize layNew t us (kd.hash k) x = Z at w1 w2 w3 w4 ⊢
    obtain ⟨vs, t2, gone, gv⟩ := Z
    dsimp only at w1 w2 w3 w4 ⊢
    rw [Array.toList_push] at w1
    obtain ⟨ls2, p2, q2⟩ := paired_perm w1 (paired_snoc pu ⟨⟨hk, rfl⟩, hsc⟩ : Paired (Ent kd) _ (ls ++ [k]))
    have p3 : ls2.Perm (k :: ks) := p2.trans ((List.perm_append_singleton k ls).trans (pl.cons k))
    have nd2 : (k :: ks).Nodup := List.nodup_cons.mpr ⟨hout, nd⟩
    have n2 : vs.size = us.size + 1 := by rw [← Array.length_toList, w1.length_eq, List.length_append, Array.length_toList]; rfl
    have hl2 : w.params.followText "set-order" = true ∨ t2.led = true := by rw [w4]; exact hl
    have out : ∀ h', Heap.SameBut a s.heap h' → Grp kd h' a (k :: ks) → wpAny (model P w) A (match (some true : Option Bool) with
        | some b => pure b
        | none => setAddHashedIn a x (kd.hash k) 99999) Q E { s with heap := h' } := fun h' b1 g1 => wpAny_pure (hQ true h' b1 g1)
    refine wpAny_bind (way _ _ _ ?_)
    split
    · refine wpAny_bind ?_
      rw [hashByValue_scannable 8 hsc]
      refine wpAny_pure ?_
      refine grp_tail way ho hx hd q2 p3 nd2 (by omega) ?_ ?_ ?_ out
      · split
        · exact w2
        · exact SetTable.fits_plain_off w2
      · split <;> exact w3
      · split <;> exact hl2
    · refine wpAny_bind (wpAny_pure ?_)
      simp only [↓reduceIte]
      exact grp_tail way ho hx hd q2 p3 nd2 (by omega) w2 w3 hl2 out
end
end Dn
namespace Dn
open PySem PySem.Spec PyProof.Rows L2
section
variable {T : Type} [DecidableEq T]
theorem sdF_mem {ks : List T} {k z : T} : z ∈ sdF ks k ↔ z = k ∨ z ∈ ks := by
  unfold sdF
  split
  · constructor
    · exact .inr
    · rintro (rfl | h) <;> assumption
  · exact List.mem_cons
theorem sd_fold_mem {z : T} : ∀ {xs ks : List T}, z ∈ xs.foldl sdF ks ↔ z ∈ xs ∨ z ∈ ks
  | [], ks => by simp
  | x :: xs, ks => by
    rw [List.foldl_cons, sd_fold_mem, sdF_mem, List.mem_cons]
    constructor
    · rintro (h | rfl | h)
      · exact .inl (.inr h)
      · exact .inl (.inl rfl)
      · exact .inr h
    · rintro ((rfl | h) | h)
      · exact .inr (.inl rfl)
      · exact .inl h
      · exact .inr (.inr h)
theorem sd_mem {z : T} {xs : List T} : z ∈ sd xs ↔ z ∈ xs := by
  unfold sd
  rw [sd_fold_mem]
  simp
theorem sd_fold_nodup : ∀ {xs ks : List T}, ks.Nodup → (xs.foldl sdF ks).Nodup
  | [], ks, h => h
  | x :: xs, ks, h => by
    rw [List.foldl_cons]
    refine sd_fold_nodup ?_
    unfold sdF
    split
    · exact h
    · rename_i hx
      exact List.nodup_cons.mpr ⟨hx, h⟩
theorem sd_nodup {xs : List T} : (sd xs).Nodup := sd_fold_nodup .nil
theorem sd_fold_len : ∀ {xs ks : List T}, (xs.foldl sdF ks).length ≤ xs.length + ks.length
  | [], ks => by simp
  | x :: xs, ks => by
    rw [List.foldl_cons]
    have h1 := sd_fold_len (xs := xs) (ks := sdF ks x)
    have h2 : (sdF ks x).length ≤ ks.length + 1 := by
      unfold sdF
      split <;> simp
    simp only [List.length_cons]
    omega
theorem sd_len {xs : List T} : (sd xs).length ≤ xs.length := by
  have := sd_fold_len (xs := xs) (ks := [])
  simpa [sd] using this
theorem sd_next {xs : List T} {i : Nat} {k : T} (h : xs[i]? = some k) : sd (xs.take (i + 1)) = sdF (sd (xs.take i)) k := by
  unfold sd
  rw [List.take_add_one, h, List.foldl_append]
  rfl
end
section
variable {P : Program} {w : World} {T : Type} [DecidableEq T] {kd : KeyKind P w T} {A : Around} {E : Value → Shared → Prop}
/-- set(..) goes through what it is handed -/
theorem grp_loop {I : Addr} {fp wr : List Addr} {G : Array GenState → Array GenState → Prop} {n : Nat} {Pv : Nat → Value → Prop} {St : Nat → Shared → Prop} {R : Result → Shared → Prop}
    (W : WalksS P w A.in1 I fp wr G n Pv St) (S : Addr) (out : S ∉ fp) (xs : List T) (len : n = xs.length) (room : xs.length + 1 < scanBound) (hv : ∀ i v, Pv i v → ∃ k, xs[i]? = some k ∧ kd.is k v = true ∧ v.scannable = true) :
    ∀ (m i : Nat) (s : Shared), n - i = m → i ≤ n → St i s → Grp kd s.heap S (sd (xs.take i)) → (∀ s', Moved (S :: wr) G s s' → Grp kd s'.heap S (sd xs) → R (.ok (.ret .none)) s') →
      codeAny (model P w) A (.builtin "set.update.loop" ⟨[.ref S, .ref I], []⟩) R s := by
  have sw : S ∉ wr := fun z => out (W.sub _ z)
  have more : ∀ b ∈ wr, b ∈ S :: wr := fun b z => List.mem_cons_of_mem _ z
  intro m
  induction m with
  | zero =>
    intro i s e1 e2 here g fin
    obtain rfl : i = n := by omega
    refine codeAny_builtin PyProof.Rows.F.entry_set_update_loop ?_
    rw [Around.under_plainId PyProof.Rows.F.plain_set_update_loop _]
    show wpAny _ A.in1 (pyNext (.ref I) >>= _) _ _ s
    refine wpAny_bind (W.done s _ _ here fun s' mv => ?_)
    show wpAny _ A.in1 (ret Value.none) _ _ s'
    rw [List.take_of_length_le (by omega)] at g
    exact wpAny_pure (fin s' (mv.mono more) (g.at fun o e => mv.heap S o sw e))
  | succ m ih =>
    intro i s e1 e2 here g fin
    have lt : i < n := by omega
    refine codeAny_builtin PyProof.Rows.F.entry_set_update_loop ?_
    rw [Around.under_plainId PyProof.Rows.F.plain_set_update_loop _]
    show wpAny _ A.in1 (pyNext (.ref I) >>= _) _ _ s
    refine wpAny_bind (W.item i s _ _ lt here fun v s' pv there mv => ?_)
    obtain ⟨k, hk, isk, sc⟩ := hv i v pv
    have g1 : Grp kd s'.heap S (sd (xs.take i)) := g.at fun o e => mv.heap S o sw e
    have few : (sd (xs.take i)).length ≤ i := Nat.le_trans sd_len (by rw [List.length_take]; omega)
    show wpAny _ A.in1 (holding [v] (setAdd S v) >>= _) _ _ s'
    refine wpAny_bind (wpAny_holding ?_)
    unfold setAdd
    refine wpAny_holding ?_
    refine wpAny_bind (kd.pyHash (k := k) isk ?_)
    refine grp_add (s := { s' with toks := s'.toks + 1 }) isk sc g1 (by omega) fun b h' same g2 => ?_
    have g3 : Grp kd h' S (sd (xs.take (i + 1))) := by
      rw [sd_next hk]
      exact g2
    refine wpAny_pure ⟨plainId_quiet PyProof.Rows.F.plain_set_update_loop _, ih (i + 1) _ (by omega) lt (W.frame _ s' _ _ there (Nat.le_succ _) fun c hc o e => ?_) g3 fun s2 mv2 g4 => ?_⟩
    · rw [same.2 c (fun z : c = S => out (z ▸ hc))]
      exact e
    · refine fin s2 (Moved.trans W.gtrans ((mv.mono more).then_heap (Nat.le_succ _) fun c o hc e => ?_) mv2) g4
      rw [same.2 c (fun z : c = S => hc (z ▸ List.mem_cons_self))]
      exact e
/-- set(l), l a list of keys -/
theorem set_of_list {s : Shared} {l : Addr} {items : Array Value} (xs : List T) {Q : Value → Shared → Prop} (hh : A.handled = none) (hl : s.heap.IsList l items) (len : items.size = xs.length)
    (hv : ∀ (i : Nat) (v : Value), items[i]? = some v → ∃ k, xs[i]? = some k ∧ kd.is k v = true ∧ v.scannable = true) (room : xs.length + 1 < scanBound)
    (hQ : ∀ (h' : Heap) (tk : Nat), Grp kd h' s.heap.objs.size (sd xs) → (∀ b o, s.heap.get? b = some o → h'.get? b = some o) → Q (.ref s.heap.objs.size) { s with heap := h', toks := tk }) :
    wpAny (model P w) A (call (.type "set") [.ref l]) Q E s := by
  obtain ⟨c, tl, hmro⟩ := PySem.F.called_set.mro
  have q1 := PySem.F.called_set.made
  have q2 := PySem.F.called_set.sub
  refine wpAny_call (codeAny_of_tree ?_)
  show wpAny _ _ (callAny (.type "set") _) _ _ _
  refine wpAny_pure ⟨Code.quiet_builtin _ (by decide +kernel), codeAny_builtin PySem.F.entry_type_call ?_⟩
  rw [Around.under_plain (weight_type_call_type "set" [.ref l] []) rfl]
  have q3 := PySem.F.called_set.notType
  have q4 := PySem.F.called_set.canCreate
  have q5 := PySem.F.typeCall_set_1 (.ref l)
  repeat (any_goals (first | assumption | wp_step))
  obtain ⟨nw, enw⟩ : ∃ x : Obj, x = { cls := .type "set", dict := none, data := .set #[] 0 (.fresh 0 0 (!w.params.followText "set-order")) } := ⟨_, rfl⟩
  refine codeAny_mono (code_set_led1 (.ref l) (E := E) (Q₁ := fun obj s₁ => obj = .ref s.heap.objs.size ∧ s₁ = { s with heap := s.heap.push nw }) ⟨rfl, by rw [enw]⟩) fun r s₁ hr => ?_
  cases r with
  | error e => exact hr
  | ok fl =>
    cases fl with
    | ret obj =>
      obtain ⟨rfl, rfl⟩ := hr
      have at0 : (s.heap.push nw).get? s.heap.objs.size = some nw := Heap.get?_push_size _ (by rw [enw]; rfl)
      have ty : Shared.TypeIs { s with heap := s.heap.push nw } (.ref s.heap.objs.size) "set" := ⟨nw, at0, by rw [enw]⟩
      have q6 := PySem.F.called_set.init.lookup
      have q7 := PySem.F.called_set.init.bind (.ref s.heap.objs.size)
      repeat (any_goals (first | assumption | wp_step))
      refine codeAny_mono (codeAny_call_builtin (R := wants (fun r s₂ => r = .none ∧ ∃ h' tk, s₂ = { s with heap := h', toks := tk } ∧ Grp kd h' s.heap.objs.size (sd xs) ∧
          (∀ b o, s.heap.get? b = some o → h'.get? b = some o)) E) PySem.F.called_set.init.plain PySem.F.entry_set_init (check_set_init_1 ty ?_)) fun r₂ s₂ hr₂ => ?_
      · obtain ⟨ol, at1, cl, nl, dl⟩ := hl
        obtain ⟨oc, od, oda, os⟩ := ol
        simp only at cl dl
        subst cl dl
        have at2 : (s.heap.push nw).get? l = some { cls := .type "list", dict := od, data := .seq items nl, slots := os } := Heap.get?_push_of_some _ at1
        have t1 := PySem.F.sub_list_set
        have t2 := PySem.F.sub_list_frozenset
        have t3 : (Value.type "list" == Value.type "dict") = false := by decide
        have li : (s.heap.push nw).IsList l items := ⟨_, at2, rfl, nl, rfl⟩
        have low : l < s.heap.objs.size := Heap.lt_size at1
        have sz : (s.heap.push nw).objs.size = s.heap.objs.size + 1 := Heap.size_push ..
        subst enw
        unfold Builtin.«set.__init__» noKeywords Builtin.Frozenset.updateFrom
        generalize hP : pyIter = PI
        wp_walk
        subst hP
        refine wpAny_pyIter_list li ?_
        refine wpAny_bind (wpAny_runValue ?_)
        have h3 : A.in1.in1.in1.handled = none := by simp [hh]
        refine grp_loop ((Walks.list h3 _ l (by rw [Heap.size_push]; exact Nat.ne_of_lt (Nat.lt_succ_of_lt low)) items).toS) s.heap.objs.size (by simp only [List.mem_cons, List.not_mem_nil, or_false, Heap.size_push, not_or]; exact ⟨Nat.ne_of_lt (Nat.lt_succ_self _), Nat.ne_of_gt low⟩) xs len room hv (items.size - 0) 0 _ (by omega) (Nat.zero_le _)
          ⟨⟨_, Heap.get?_push_size _ rfl, rfl, rfl⟩, (li.push _)⟩ ?_ ?_
        · exact Grp.fresh (Heap.get?_push_of_some _ at0)
        · intro s' mv g
          obtain ⟨h', g', d', tk', os'⟩ := s'
          obtain rfl : g' = s.gens := mv.gens
          obtain rfl : d' = s.drawn := mv.drawn
          obtain rfl : os' = s.os := mv.os
          show wpAny _ _ _ _ _ _
          refine wpAny_pure ?_
          show wpAny _ _ (ret Value.none) _ _ _
          refine wpAny_pure ⟨rfl, h', tk', rfl, g, fun b o e => ?_⟩
          have lb : b < s.heap.objs.size := Heap.lt_size e
          refine mv.heap b o ?_ (Heap.get?_push_of_some _ (Heap.get?_push_of_some _ e))
          simp only [List.mem_cons, List.not_mem_nil, or_false, not_or, Heap.size_push]
          exact ⟨Nat.ne_of_lt lb, Nat.ne_of_lt (Nat.lt_succ_of_lt lb)⟩
      · cases r₂ with
        | error e => exact hr₂
        | ok fl₂ =>
          cases fl₂ with
          | ret r =>
            obtain ⟨rfl, h', tk, rfl, g, kp⟩ := hr₂
            repeat (any_goals (first | assumption | wp_step))
            exact hQ _ _ g kp
          | _ => exact hr₂.elim
    | _ => exact hr.elim
end
end Dn
namespace Dn
open PySem PySem.Spec PyProof.Rows L2
section
variable {P : Program} {w : World}
def IsS (v : Value) (x : Str) : Prop := ∃ t, v = .str x t
theorem str_is {x : Str} {v : Value} (h : (PySem.strKind P w).is x v = true) : IsS v x := by
  cases v <;> simp [PySem.strKind, Value.isStrOf] at h
  rename_i y t
  exact ⟨t, by rw [h]⟩
theorem ent_strs : ∀ {us : List (Int × Value)} {ls : List Str}, Paired (Ent (PySem.strKind P w)) us ls → Paired IsS (us.map (·.2)) ls
  | _, _, .nil => .nil
  | _, _, .cons a b => .cons (str_is a.1.1) (ent_strs b)
theorem strs_of_pairs : ∀ {vs : List Value} {zs : List Str}, Paired IsS vs zs → StrsAre vs zs
  | _, _, .nil => .nil
  | _, _, .cons ⟨t, e⟩ b => by
    subst e
    exact .cons _ t (strs_of_pairs b)
theorem vals_strs : ∀ {vs : List Value} {zs : List Str}, StrsAre vs zs → Vals (zs.map V.str) vs
  | _, _, .nil => .nil
  | _, _, .cons y t b => .cons ⟨t, rfl⟩ (vals_strs b)
variable {A : Around} {E : Value → Shared → Prop} {s : Shared} {a : Addr} {ks : List Str}
/-- sorted(..) of a set of texts -/
theorem sorted_grp {Q : Value → Shared → Prop} (g : Grp (PySem.strKind P w) s.heap a ks) (hh : A.handled = none)
    (hQ : ∀ s' p (out : Array Value) (n : Nat) (ys : List Str), (∀ b o, s.heap.get? b = some o → s'.heap.get? b = some o) → s'.gens = s.gens → s'.os = s.os → s.heap.objs.size ≤ p →
      s'.heap.get? p = some (seqObj "list" out n) → StrsAre out.toList ys → ys.Perm ks → sortedS ys = true → Q (.ref p) s') :
    wpAny (model P w) A (call (.builtin "sorted") [.ref a]) Q E s := by
  obtain ⟨o, us, ep, t, ls, ho, hx, hd, pu, pl, nd, hb, hf, hr, hl⟩ := g
  refine Calls.call_function_entry kind_sorted plain_sorted entry_sorted (args_sorted1 _) ?_
  unfold Builtin.«sorted»
  refine wpAny_bind (m := checkCount "sorted" 1 1 _) (wpAny_pure ?_)
  refine wpAny_bind (collect_set (A := A.in1) hh ⟨o, ho, hx.1, hd⟩ hf hb hr hl fun s1 vs kp le gn os pm => ?_)
  obtain ⟨zs, pz, qz⟩ := paired_perm pm (ent_strs pu)
  have sz := strs_of_pairs qz
  have few : vs.length ≤ sizeLine := by
    rw [pm.length_eq, List.length_map, Array.length_toList]
    exact fits_of_scanBound hb
  refine wpAny_bind (wpAny_newList ?_ few)
  have at1 : (s1.heap.push (seqObj "list" vs.toArray 0)).get? s1.heap.objs.size = some (seqObj "list" vs.toArray 0) := Heap.get?_push_size _ rfl
  refine wpAny_bind (wpAny_holding (wpAny_call_entry slot_list_sort ⟨_, at1, rfl⟩ entry_list_sort (list_sort_treeKAny strKind_oneLt at1 sz.keysOf (fun v₁ v₂ rest e => keyKind_strs (by rw [← e]; exact sz)) few fun st' a1 a2 => ⟨_, rfl, ?_⟩) (args_list_sort _)))
  obtain ⟨ys, h1, h2, h3⟩ := sorted_out_str sz a1 a2
  obtain ⟨n, hn⟩ := sortedHeap_at (vs := vs) (out := (arrOf st').map (·.2)) at1
  refine wpAny_pure ⟨_, rfl, hQ _ s1.heap.objs.size _ n ys (fun b u e => ?_) gn os le hn h1 (h2.trans (pz.trans pl)) h3⟩
  have e1 := kp b u e
  have lt := Heap.lt_size e1
  show (sortedHeap (s1.heap.push (seqObj "list" vs.toArray 0)) s1.heap.objs.size vs _).get? b = some u
  rw [sortedHeap_old (Nat.ne_of_lt lt) (by rw [size_push']; exact Nat.lt_succ_of_lt lt)]
  exact Heap.get?_push_of_some _ e1
end
/-- a set of texts at a -/
def GrpO (P : Program) (w : World) (a : Addr) (ks : List Str) : HO := .ext fun h => Grp (PySem.strKind P w) h a ks
section
variable {X : Cx}
theorem grpO_new {P : Program} {w : World} {H : Hp} {h : Heap} {a : Addr} {ks : List Str} (g : Grp (PySem.strKind P w) h a ks) : ObjOk P w H h a (GrpO P w a ks) := by
  have ⟨o, _, _, _, _, ho, _⟩ := g
  exact ⟨g, ⟨o, ho⟩, fun _ _ p k => Grp.at p k⟩
theorem cr_setL (hc : X.calm = true) : CallR X (.type "set") (fun xs H Q => ∃ (l : Addr) (ks : List Str), xs = [V.ref l] ∧ SqL X.K H l (ks.map V.str) ∧ ks.length ≤ 1000 ∧ ∀ p, H p = none → Q (.ref p) (upd H p (GrpO X.prog X.w p (sd ks)))) := by
  intro pins s σ H xs us Q I r h
  obtain ⟨l, ks, rfl, hl, hk, q⟩ := h
  rw [Vals.ref1 r]
  obtain ⟨its, rv, pl, hz⟩ := I.list hl
  have free : H s.heap.objs.size = none := I.hok.fresh (Nat.le_refl _)
  have sa := strsAre_of rv
  refine set_of_list (P := X.prog) (w := X.w) (kd := PySem.strKind X.prog X.w) ks (I.ok.hd hc) pl.isList ?_ (fun i v hv => ?_) (by unfold scanBound; omega) fun h' tk g kp => ?_
  · rw [List.size_toArray, ← rv.length, List.length_map]
  · have hv' : its[i]? = some v := by simpa using hv
    obtain ⟨t, e⟩ := SS.strs_at sa i v hv'
    have hi : i < ks.length := by
      have h1 := (List.getElem?_eq_some_iff.mp hv').1
      have h2 := rv.length
      rw [List.length_map] at h2
      omega
    refine ⟨ks[i], List.getElem?_eq_getElem hi, ?_, ?_⟩
    · rw [e, List.getD_eq_getElem?_getD, List.getElem?_eq_getElem hi]
      exact strKind_is _ _ _ _
    · rw [e]
      rfl
  · exact ⟨.ref s.heap.objs.size, upd H s.heap.objs.size (GrpO X.prog X.w s.heap.objs.size (sd ks)), I.laid (t' := tk) kp (Nat.le_refl _) (grpO_new g), rfl, q _ free⟩
theorem cr_sortG (hc : X.calm = true) : CallR X (.builtin "sorted") (fun vs H Q => ∃ (a : Addr) (ks : List Str), vs = [V.ref a] ∧ H a = some (GrpO X.prog X.w a ks) ∧ ks.length ≤ 1000 ∧
    ∀ (ys : List Str) (p : Addr), ys.Perm ks → sortedS ys = true → H p = none → Q (.ref p) (upd H p (.lst (ys.map V.str)))) := by
  intro pins s σ H vs us Q I r h
  obtain ⟨a, ks, rfl, ha, hk, q⟩ := h
  have g : Grp (PySem.strKind X.prog X.w) s.heap a ks := (I.hok a _ ha).1
  rw [Vals.ref1 r]
  refine sorted_grp g (I.ok.hd hc) fun s' p out n ys kp gn os le at1 sa pm so => ?_
  have few : (ys.map V.str).length ≤ sizeLine := by rw [List.length_map, pm.length_eq, sizeLine_eq]; omega
  have free : H p = none := I.hok.fresh le
  have J : Inv X pins σ (upd H p (.lst (ys.map V.str))) { s with heap := s'.heap, gens := s'.gens, drawn := s'.drawn, toks := s'.toks } :=
    I.call (ch := []) (Un.laid kp le free) (I.hok.laid kp le ⟨few, out.toList, n, vals_strs sa, at1⟩) (by rw [gn]; exact I.bare) (fun _ z => nomatch z)
  have e : s' = { s with heap := s'.heap, gens := s'.gens, drawn := s'.drawn, toks := s'.toks } := by
    obtain ⟨_, _, _, _, _⟩ := s'
    obtain ⟨_, _, _, _, _⟩ := s
    cases os
    rfl
  rw [e]
  exact ⟨.ref p, _, J, rfl, q ys p pm so free⟩
variable {c : Wc} {a : Expr} {ra : Sl → Store → Res D} {p p2 p3 pos : Pos}
theorem e_sst (hc : X.calm = true) (hg : Gl X "sorted") (hm : X.mg "sorted" = none) (hg2 : Gl X "set") (hm2 : X.mg "set" = none) (ha : SE X c a ra) (sa : simpleE a = true) :
    SE X c (.Call (.Name "sorted" p) [.Call (.Name "set" p2) [a] [] p3] [] pos) (fun env st => (ra env st).bind fun x st => (op1 .sst x st).nox) := by
  refine PE.imp (pe_callB (cr_sortG hc) hg hm (by decide +kernel) (pa_cons (pe_callTy (cr_setL hc) hg2 hm2 (by decide +kernel) (pa_cons ha pa_nil (star_of sa)) (by decide) (by decide) (star_of sa) rfl) pa_nil rfl) (by decide) (by decide) rfl rfl) fun σ H Q h => ?_
  obtain ⟨G, L, st, env, rl, re, q⟩ := h
  refine ⟨G, L, st, env, rl, re, (q.bind (RD X.K G)).mono fun x H1 ⟨L1, st1, d, po1, rl1, hd, q1⟩ => ?_⟩
  replace q1 := q1.nw
  unfold op1 at q1
  simp only at q1
  split at q1
  · rename_i ks e
    split at q1
    · rename_i few
      obtain ⟨es, e1, e2⟩ := Option.bind_eq_some_iff.mp e
      obtain ⟨l, xs, rfl, s1, f⟩ := listP_rel rl1 hd e1
      obtain ⟨e3, ok⟩ := strs_rel f e2
      subst e3
      refine ⟨l, ks, rfl, s1, few, fun b hb => ⟨b, sd ks, rfl, upd_same, Nat.le_trans sd_len few, fun ys b2 pm so hb2 => ?_⟩⟩
      have e4 : ys = srtL strLe (sd ks) := sorted_uniq strLe_anti (pm.trans (srtL_perm (sd ks)).symm) (sortedS_pw so) (srtL_sorted strLe_tot strLe_tr (sd ks))
      subst e4
      exact (q1.shift (Po.new1 rl1 hb)).newL (rl1.new1 hb) (fz_strs _ _ fun x hx => ok x (sd_mem.mp ((srtL_perm (sd ks)).mem_iff.mp hx))) hb2
    · exact q1.elim
  · exact q1.elim
end
end Dn
/-! Dn: {k: v, ..}, tuple(range(n)). -/
namespace Dn
open PySem PySem.Spec PyProof.Rows L2
def pairUp : List V → List (V × V)
  | x :: y :: r => (x, y) :: pairUp r
  | _ => []
def SPs (X : Cx) (c : Wc) (pos : Pos) (keys : List (Option Expr)) (values : List Expr) (rs : Sl → Store → Res (List D)) : Prop :=
  ∃ trs, PPs X pos keys values trs ∧ ∀ (σ : Sg) (H : Hp) (Q : List (V × V) → Hp → Prop), tAr X.K c rs σ H (fun xs H1 => Q (pairUp xs) H1) → tPairs trs σ H Q
section
variable {X : Cx} {c : Wc} {pos : Pos} {k v : Expr} {ks : List (Option Expr)} {vs : List Expr} {rk rv : Sl → Store → Res D} {rs : Sl → Store → Res (List D)}
theorem sps_nil : SPs X c pos [] [] (fun _ st => .ok [] st) := ⟨[], pps_nil, fun σ H Q h => by
  obtain ⟨G, L, st, env, rl, re, q⟩ := h
  exact q.now rl .nil⟩
theorem sps_cons (hk : SE X c k rk) (hv : SE X c v rv) (hr : SPs X c pos ks vs rs) :
    SPs X c pos (some k :: ks) (v :: vs) (fun env st => (rk env st).bind fun d st => ((rv env st).bind fun e st => (rs env st).bind fun ds st => .ok (e :: ds) st).bind fun ds st => .ok (d :: ds) st) := by
  obtain ⟨trs, hp, hall⟩ := hr
  refine ⟨(tE X.K c rk, tE X.K c rv) :: trs, pps_cons hk hv hp, fun σ H Q h => ?_⟩
  obtain ⟨G, L, st, env, rl, re, q⟩ := h
  refine ⟨G, L, st, env, rl, re, (q.bind (RD X.K G)).mono fun x H1 ⟨L1, st1, d, po1, rl1, hd, q1⟩ => ?_⟩
  dsimp only at q1
  rw [res_assoc] at q1
  refine ⟨G, L1, st1, env, rl1, re.mono po1, (q1.bind (RD X.K G)).mono fun y H2 ⟨L2, st2, e, po2, rl2, he, q2⟩ => hall σ H2 _ ⟨G, L2, st2, env, rl2, (re.mono po1).mono po2, ?_⟩⟩
  dsimp only at q2
  rw [res_assoc] at q2
  exact (q2.bind (RDs X.K G)).mono fun xs H3 ⟨L3, st3, ds, po3, rl3, hds, q3⟩ => q3.now rl3 (.cons (RD.mono (po2.trans po3) hd) (.cons (RD.mono po3 he) hds))
end
theorem dicOf_rel {K : PySem.W.Frag} {G : Off1} {L : Lc} {H : Hp} : ∀ (ds : List D) (xs : List V) (acc : List (PyData × D)) (ka : List (Key × V)) {kvs' : List (PyData × D)}, RDs K G L H xs ds → KvR K G L H ka acc → dicOf ds acc = some kvs' →
    ∃ kvs : List (Key × V), pairUp xs = kvs.map (fun kv => (kV kv.1, kv.2)) ∧ KvR K G L H (mergeK ka kvs) kvs' ∧ 2 * kvs.length = ds.length
  | [], xs, acc, ka, kvs', hx, ha, h => by
    cases hx
    cases h
    exact ⟨[], rfl, ha, rfl⟩
  | .p k :: v :: r, xs, acc, ka, kvs', hx, ha, h => by
    unfold dicOf at h
    split at h
    · rename_i hk
      cases hx with
      | @cons x _ xs1 _ h1 t1 =>
        cases t1 with
        | @cons y _ xs2 _ h2 t2 =>
          obtain ⟨q, rfl, hq⟩ := key_rel h1 hk
          obtain ⟨kvs, e1, e2, e3⟩ := dicOf_rel r xs2 _ _ t2 (dPut_rel hq h2 ha) h
          exact ⟨(q, y) :: kvs, by rw [List.map_cons, ← e1]; rfl, e2, by simp only [List.length_cons]; omega⟩
    · cases h
  | .p k :: [], xs, acc, ka, kvs', hx, ha, h => by
    unfold dicOf at h
    cases h
  | .r k :: r, xs, acc, ka, kvs', hx, ha, h => by
    unfold dicOf at h
    cases h
section
variable {X : Cx} {c : Wc} {pos : Pos} {keys : List (Option Expr)} {vs : List Expr} {rs : Sl → Store → Res (List D)}
theorem e_dic (hp : SPs X c.no pos keys vs rs) (hall : keys.all (·.isSome) = true) (hl : keys.length = vs.length) (h0 : keys ≠ []) (h15 : keys.length ≤ 15) :
    SE X c (.Dict keys vs pos) (fun env st => ((rs env st).bind fun ds st => if ds.length ≤ 30 then (match dicOf ds [] with
      | some kvs => alloc (.dic kvs) st
      | none => .bad) else .bad).nox) := by
  obtain ⟨trs, hpp, hal⟩ := hp
  refine PE.imp (pe_disp hpp hall hl h0 h15) fun σ H Q h => ?_
  obtain ⟨G, L, st, env, rl, re, q⟩ := h
  intro p hpn
  have hofs := rl.none hpn
  have nG : ¬ G p := fun z => hofs (.inl z)
  have hnl : ¬ Live L p := fun z => hofs (.inr z)
  have hD : ∃ o, (upd H p (.dK [])) p = some o := ⟨_, upd_same⟩
  have ee : era (upd H p (.dK [])) p = H := era_new hpn
  have rl1 : Rl X.K (Gd G p) L st (upd H p (.dK [])) := era_in (by rw [ee]; exact rl) hD
  have re1 : RE X.K (Gd G p) L (upd H p (.dK [])) σ env := ⟨re.len, fun i d e => by
    obtain ⟨v, h1, h2⟩ := re.at_ i d e
    exact ⟨v, h1, RD.keep (by have := era_keep (G := G) (L := L) (H := upd H p (.dK [])) (d := p); rw [ee] at this; exact this) h2⟩⟩
  refine hal σ _ _ ⟨Gd G p, L, st, env, rl1, re1, ?_⟩
  have q := q.nw
  cases e : rs env st with
  | bad => rw [e] at q; exact q.elim
  | ex k fs st' => rw [e] at q; exact q.elim
  | ok ds st' =>
    rw [e] at q
    simp only [Res.bind_ok] at q
    intro xs L' H2 po rl2 hd
    have hp2 : H2 p = some (.dK []) := po.kp p _ upd_same hnl
    split at q
    · rename_i hlen
      split at q
      · rename_i kvs' ekv
        have rlo : Rl X.K G L' st' (era H2 p) := era_out rl2 nG
        have po2 : Po L H L' (era H2 p) := by
          have := era_po po hD
          rw [ee] at this
          exact this
        have hd2 : RDs X.K G L' (era H2 p) xs ds := Paired.mono (fun _ _ r => RD.keep back_keep r) hd
        obtain ⟨kvs, e1, e2, e3⟩ := dicOf_rel ds xs [] [] hd2 .nil ekv
        have hu : upd H2 p (.dK (mergeK [] kvs)) = upd (era H2 p) p (.dK (mergeK [] kvs)) := by
          funext b
          unfold upd
          by_cases z : b = p
          · rw [if_pos z, if_pos z]
          · rw [if_neg z, if_neg z, era_ne z]
        refine ⟨hp2, kvs, e1, by omega, ?_⟩
        rw [hu]
        have poa := Po.alloc rlo (o := .dK (mergeK [] kvs)) (era_self (H := H2) (d := p))
        refine q _ _ _ (po2.trans poa) (rlo.alloc era_self ⟨_, upd_same, ?_⟩) ⟨p, rfl, by rw [← rlo.len]; simp, fun b eb => ?_⟩
        · exact Paired.mono (fun _ _ r => ⟨r.1, RD.mono poa r.2⟩) e2
        · rw [← rlo.len] at eb
          simp at eb
          exact eb.symm
      · exact q.elim
    · exact q.elim
end
/-! ### tuple(range(n)) -/
section
variable {X : Cx} {c : Wc} {e a : Expr} {ra : Sl → Store → Res D} {te : Sg → Hp → (Int → Int → Hp → Prop) → Prop}
theorem pe_tupRgF {p pos : Pos} (hc : X.calm = true) (hg : Gl X "tuple") (hm : X.mg "tuple" = none) (he : PRg X e te) (na : starEach [e] X.env = (false, eval e X.env) :: starEach [] X.env) : PE X (.Call (.Name "tuple" p) [e] [] pos) (fun σ H Q => te σ H fun a b H1 => RgOk a b ∧ NewT (rgV a b) H1 Q) := by
  refine ⟨fun pins s σ H Q I h => ?_⟩
  refine Call_ (ld_blt I hg hm boot_tuple (PyProof.Rows.callWith_type1 (args_cons (thn (he pins s σ H _ I h) fun x s1 ⟨r, a, b, t, u, v, H1, ex, hr, I1, ok, q⟩ => args_nil ?_) na) na))
  subst ex
  obtain ⟨b1, b2, b3, b4, b5⟩ := ok
  refine call_tuple_range (n := (b - a).toNat) (I1.ok.hd hc) hr (small_one b1 b2 b3 b4) (rangeSize_nat a b) b5 fun h' tk acc hk hi => ?_
  have I2 : L2.Inv X pins σ H1 { s1 with heap := h', toks := tk } := I1.kept hk
  refine laidT (s := { s1 with heap := h', toks := tk }) (us := acc.toList) (t' := tk) I2 (fun c o e => Heap.get?_push_of_some _ e) (Nat.le_refl _) ?_ (vals_rg hi) ?_ q
  · rw [Array.toArray_toList]
    exact Heap.get?_push_size _ rfl
  · rw [rgV_length, sizeLine_eq]; omega
theorem rgV_fz {K : PySem.W.Frag} {O : Off1} {H : Hp} (n : Int) : FzA K O H (rgV 0 n) ((List.range n.toNat).map fun (i : Nat) => PyData.int (i : Int)) := by
  have h := fz_ints (K := K) (H := H) O ((List.range n.toNat).map fun (i : Nat) => (i : Int))
  rw [List.map_map, List.map_map] at h
  unfold rgV
  rw [Int.sub_zero]
  have e : (fun (i : Nat) => V.int (0 + (i : Nat))) = V.int ∘ fun (i : Nat) => (i : Int) := by
    funext i
    simp
  rw [e]
  exact h
theorem e_tupr {p pos p2 pos2 : Pos} (hc : X.calm = true) (hg : Gl X "tuple") (hm : X.mg "tuple" = none) (hg2 : Gl X "range") (hm2 : X.mg "range" = none) (ha : SE X c a ra) (hs : simpleE a = true) :
    SE X c (.Call (.Name "tuple" p) [.Call (.Name "range" p2) [a] [] pos2] [] pos) (fun env st => (ra env st).bind fun x st => (op1 .tupr x st).nox) := by
  refine PE.imp (pe_tupRgF hc hg hm (prg_1 hg2 hm2 ha (star_of hs)) rfl) fun σ H Q h => ?_
  obtain ⟨G, L, st, env, rl, re, q⟩ := h
  refine ⟨G, L, st, env, rl, re, (q.bind (RD X.K G)).mono fun x H1 ⟨L1, st1, d, po1, rl1, hd, q1⟩ => ?_⟩
  replace q1 := q1.nw
  unfold op1 at q1
  simp only at q1
  split at q1
  · rename_i n
    split at q1
    · rename_i hn
      refine ⟨n, fz_int hd, ?_, fun p o ho hp => q1.newT rl1 (rgV_fz n) hp ho⟩
      exact ⟨by decide, by decide, by omega, by omega, by omega⟩
    · exact q1.elim
  · exact q1.elim
end
end Dn
/-! Dn: statements. -/
namespace Dn
open PySem PySem.Spec PyProof.Rows L2
def Goes (K : PySem.W.Frag) (G : Off1) (L : Lc) (H : Hp) (σ : Sg) (D : Ends) : Flow → Prop
  | .nx => D.nx σ H
  | .bk => D.bk σ H
  | .ct => D.ct σ H
  | .rt d => ∀ v, RD K G L H v d → D.rt v H
def AftS (K : PySem.W.Frag) (c : Wc) (G : Off1) (L : Lc) (H : Hp) (σ : Sg) (vs : List Nat) (r : SR) (D : Ends) : Prop := match r with
  | .ok a st' => ∀ σ' L' H', Po L H L' H' → Rl K G L' st' H' → RE K G L' H' σ' a.2 → wipe σ' vs = wipe σ vs → Goes K G L' H' σ' D a.1
  | .ex k fs st' => ∀ cls dd σ' L' H', Po L H L' H' → Rl K G L' st' H' → c.xr k fs (Off G L') H' cls dd → wipe σ' vs = wipe σ vs → c.W cls dd σ' H'
  | .bad => False
def tS (K : PySem.W.Frag) (c : Wc) (vs : List Nat) (r : Sl → Store → SR) : TS := fun D σ H => ∃ G L st env, Rl K G L st H ∧ RE K G L H σ env ∧ AftS K c G L H σ vs (r env st) D
abbrev SS (X : Cx) (c : Wc) (vs : List Nat) (s : Stmt) (r : Sl → Store → SR) : Prop := PS X s (tS X.K c vs r)
abbrev SB (X : Cx) (c : Wc) (vs : List Nat) (ss : List Stmt) (r : Sl → Store → SR) : Prop := PSs X ss (tS X.K c vs r)
theorem PS.imp {X : Cx} {e : Stmt} {t t' : TS} (h : PS X e t) (hi : ∀ D σ H, t' D σ H → t D σ H) : PS X e t' := ⟨fun pins s σ H D I q => h.run pins s σ H D I (hi D σ H q)⟩
theorem PSs.imp {X : Cx} {e : List Stmt} {t t' : TS} (h : PSs X e t) (hi : ∀ D σ H, t' D σ H → t D σ H) : PSs X e t' := ⟨fun pins s σ H D I q => h.run pins s σ H D I (hi D σ H q)⟩
section
variable {K : PySem.W.Frag} {c : Wc} {G : Off1} {L L1 : Lc} {H H1 : Hp} {σ σ1 : Sg} {st : Store} {env : Sl} {vs : List Nat} {D : Ends}
theorem AftS.shift {r : SR} (po : Po L H L1 H1) (w : wipe σ1 vs = wipe σ vs) (h : AftS K c G L H σ vs r D) : AftS K c G L1 H1 σ1 vs r D := by
  cases r with
  | ok a st' => exact fun σ' L' H' po' rl re w' => h σ' L' H' (po.trans po') rl re (w'.trans w)
  | ex k fs st' => exact fun cls dd σ' L' H' po' rl x w' => h cls dd σ' L' H' (po.trans po') rl x (w'.trans w)
  | bad => exact h
/-- an expression first -/
theorem AftS.bindE {α β : Type} {m : Res α} {f : α → Store → SR} (Rel : Lc → Hp → β → α → Prop) (h : AftS K c G L H σ vs (m.bind f) D) : Aft K c G L H σ m Rel (fun b H1 => ∃ L1 st1 a, Po L H L1 H1 ∧ Rl K G L1 st1 H1 ∧ Rel L1 H1 b a ∧ AftS K c G L1 H1 σ vs (f a st1) D) := by
  cases m with
  | ok a st' => exact fun b L' H' po rl re => ⟨L', st', a, po, rl, re, h.shift po rfl⟩
  | ex k fs st' => exact fun cls dd L' H' po rl x => h cls dd σ L' H' po rl x rfl
  | bad => exact h
theorem AftS.now {fl : Flow} (h : AftS K c G L H σ vs (.ok (fl, env) st) D) (rl : Rl K G L st H) (re : RE K G L H σ1 env) (w : wipe σ1 vs = wipe σ vs) : Goes K G L H σ1 D fl := h σ1 L H .refl rl re w
end
section
variable {X : Cx} {c : Wc} {vs : List Nat} {e a b d : Expr} {ra rb rd : Sl → Store → Res D} {rs : Sl → Store → Res (List D)} {pos : Pos} {r1 r2 : Sl → Store → SR} {s : Stmt} {ss s2 : List Stmt}
theorem b_nil : SB X c vs [] (fun env st => .ok (.nx, env) st) := by
  refine PSs.imp pss_nil fun D σ H h => ?_
  obtain ⟨G, L, st, env, rl, re, q⟩ := h
  exact q.now rl re rfl
theorem b_cons (h1 : SS X c vs s r1) (h2 : SB X c vs ss r2) : SB X c vs (s :: ss) (fun env st => (r1 env st).bind fun r st => match r.1 with
    | .nx => r2 r.2 st
    | .bk => .ok (.bk, r.2) st
    | .ct => .ok (.ct, r.2) st
    | .rt d => .ok (.rt d, r.2) st) := by
  refine PSs.imp (pss_cons h1 h2) fun D σ H h => ?_
  obtain ⟨G, L, st, env, rl, re, q⟩ := h
  refine ⟨G, L, st, env, rl, re, ?_⟩
  dsimp only at q
  cases e : r1 env st with
  | bad => rw [e] at q; exact q
  | ex k fs st' => rw [e] at q; exact q
  | ok r st1 =>
    obtain ⟨fl, env1⟩ := r
    rw [e] at q
    simp only [Res.bind_ok] at q
    intro σ' L' H' po rl' re' w
    cases fl with
    | nx => exact ⟨G, L', st1, env1, rl', re', q.shift po w⟩
    | bk => exact (q.shift po w).now rl' re' rfl
    | ct => exact (q.shift po w).now rl' re' rfl
    | rt d => exact (q.shift po w).now rl' re' rfl
theorem s_pass : SS X c vs (.Pass pos) (fun env st => .ok (.nx, env) st) := by
  refine PS.imp ps_pass fun D σ H h => ?_
  obtain ⟨G, L, st, env, rl, re, q⟩ := h
  exact q.now rl re rfl
theorem s_brk : SS X c vs (.Break pos) (fun env st => .ok (.bk, env) st) := by
  refine PS.imp ps_break fun D σ H h => ?_
  obtain ⟨G, L, st, env, rl, re, q⟩ := h
  exact q.now rl re rfl
theorem s_cont : SS X c vs (.Continue pos) (fun env st => .ok (.ct, env) st) := by
  refine PS.imp ps_continue fun D σ H h => ?_
  obtain ⟨G, L, st, env, rl, re, q⟩ := h
  exact q.now rl re rfl
theorem s_retN : SS X c vs (.Return none pos) (fun env st => .ok (.rt (.p .none), env) st) := by
  refine PS.imp ps_retN fun D σ H h => ?_
  obtain ⟨G, L, st, env, rl, re, q⟩ := h
  exact q.now rl re rfl _ Fz.non
theorem s_ret (ha : SE X c a ra) : SS X c vs (.Return (some a) pos) (fun env st => (ra env st).bind fun d st => .ok (.rt d, env) st) := by
  refine PS.imp (ps_ret ha) fun D σ H h => ?_
  obtain ⟨G, L, st, env, rl, re, q⟩ := h
  refine ⟨G, L, st, env, rl, re, (q.bindE (RD X.K G)).mono fun x H1 ⟨L1, st1, d, po1, rl1, hd, q1⟩ => ?_⟩
  exact q1.now rl1 (re.mono po1) rfl _ hd
theorem s_ex (ha : SE X c a ra) (hs : swapsWith a none pos.line X.env = pure false) : SS X c vs (.Expr a pos) (fun env st => (ra env st).bind fun _ st => .ok (.nx, env) st) := by
  refine PS.imp (ps_expr ha hs) fun D σ H h => ?_
  obtain ⟨G, L, st, env, rl, re, q⟩ := h
  refine ⟨G, L, st, env, rl, re, (q.bindE (RD X.K G)).mono fun x H1 ⟨L1, st1, d, po1, rl1, hd, q1⟩ => ?_⟩
  exact q1.now rl1 (re.mono po1) rfl
theorem AftS.of_some {K : PySem.W.Frag} {G : Off1} {L : Lc} {H : Hp} {σ : Sg} {st : Store} {D : Ends} {α : Type} {o : Option α} {f : α → Flow × Sl} (h : AftS K c G L H σ vs (Res.of st (o.map f)) D) : ∃ x, o = some x ∧ AftS K c G L H σ vs (.ok (f x) st) D := by
  cases o with
  | none => exact h.elim
  | some x => exact ⟨x, rfl, h⟩
theorem setE_some {i : Nat} {d : D} {env env' : Sl} (h : setE i d env = some env') : env' = env.set i (some d) := by
  unfold setE at h
  split at h
  · cases h; rfl
  · cases h
theorem s_set {i : Nat} {x : Str} {pos' : Pos} (hi : X.N[i]? = some x) (hv : i ∈ vs) (hN : X.N.Nodup) (hx : Loc X.env.scope x) (hs : swapsWith a (some (.Name x pos')) pos.line X.env = pure false) (hf : X.fn x = true ∨ X.env.scope.names.lookup x = some .local) (ha : SE X c a ra) :
    SS X c vs (.Assign [.Name x pos'] a pos) (fun env st => (ra env st).bind fun d st => Res.of st ((setE i d env).map fun env => (.nx, env))) := by
  refine PS.imp (ps_set hN hi hx ha hs hf) fun D σ H h => ?_
  obtain ⟨G, L, st, env, rl, re, q⟩ := h
  refine ⟨G, L, st, env, rl, re, (q.bindE (RD X.K G)).mono fun x H1 ⟨L1, st1, d, po1, rl1, hd, q1⟩ => ?_⟩
  obtain ⟨env', e, q2⟩ := AftS.of_some q1
  have e2 := setE_some e
  subst e2
  exact q2.now rl1 ((re.mono po1).set hd) (wipe_set hv)
/-- a name = a list comprehension on the same line -/
theorem s_setLc {i : Nat} {y : Str} {py spos : Pos} {tgE elt iter : Expr} {ifs : List Expr} {scope : Scope} {own : List (Str × Nat)} {tg : Tg} {k : Nat} {m : Bool} {rc re : Sl → Store → Res D} (hc : X.calm = true) (hN : X.N.Nodup) (hy : X.N[i]? = some y) (hv : i ∈ vs) (hyl : X.env.scope.names.lookup y = some .local)
    (hsw : swapsWith (.ListComp elt [⟨tgE, iter, ifs, 0⟩] scope pos) (some (.Name y py)) spos.line X.env = pure true) (hi : SI X c tgE k iter rs) (ok : BlkOk X.N X.env.scope scope own) (hown : own.map (·.2) = tg.slots)
    (hg : ∀ (s : Shared) (H : Hp) (C : Addr) (cl : List (Str × Addr)) (fp : List Addr), PG (X.blk s H scope (compEnvC scope cl C X.env) fp) tgE (gT X.K tg)) (ht : ∀ (s : Shared) (H : Hp) (C : Addr) (cl : List (Str × Addr)) (fp : List Addr), PTs (X.blk s H scope (compEnvC scope cl C X.env) fp) ifs (tT X.K c.no rc))
    (he : ∀ (s : Shared) (H : Hp) (C : Addr) (cl : List (Str × Addr)) (fp : List Addr), SE (X.blk s H scope (compEnvC scope cl C X.env) fp) c.no elt re) (hs : ∀ x, foldedSetIterable iter X.env x = pure x) :
    SS X c vs (.Assign [.Name y py] (.ListComp elt [⟨tgE, iter, ifs, 0⟩] scope pos) spos) (fun env st => (compR m k tg rs rc re env st).bind fun d st => Res.of st ((setE i d env).map fun env => (.nx, env))) := by
  refine PS.imp (ps_setLc (te := tE X.K c.no re) hc hN hy hyl hsw hi ok hg ht he hs) fun D σ H h => ?_
  rw [hown]
  obtain ⟨G, L, st, env, rl, re, q⟩ := h
  refine comp_core (m := m) ⟨G, L, st, env, rl, re, (q.bindE (RD X.K G)).mono fun x H1 ⟨L1, st1, d, po1, rl1, hd, q1⟩ => ?_⟩
  obtain ⟨env', e, q2⟩ := AftS.of_some q1
  have e2 := setE_some e
  subst e2
  exact q2.now rl1 ((re.mono po1).set hd) (wipe_set hv)
theorem e_comp {tgE elt iter : Expr} {ifs : List Expr} {scope : Scope} {own : List (Str × Nat)} {tg : Tg} {k : Nat} {m : Bool} {rc re : Sl → Store → Res D} (hc : X.calm = true) (hN : X.N.Nodup) (hi : SI X c tgE k iter rs) (ok : BlkOk X.N X.env.scope scope own) (hown : own.map (·.2) = tg.slots)
    (hg : ∀ (s : Shared) (H : Hp) (C : Addr) (cl : List (Str × Addr)) (fp : List Addr), PG (X.blk s H scope (compEnvC scope cl C X.env) fp) tgE (gT X.K tg)) (ht : ∀ (s : Shared) (H : Hp) (C : Addr) (cl : List (Str × Addr)) (fp : List Addr), PTs (X.blk s H scope (compEnvC scope cl C X.env) fp) ifs (tT X.K c.no rc))
    (he : ∀ (s : Shared) (H : Hp) (C : Addr) (cl : List (Str × Addr)) (fp : List Addr), SE (X.blk s H scope (compEnvC scope cl C X.env) fp) c.no elt re) (hs : ∀ x, foldedSetIterable iter X.env x = pure x) :
    SE X c (.ListComp elt [⟨tgE, iter, ifs, 0⟩] scope pos) (compR m k tg rs rc re) := by
  refine PE.imp (pe_lc (te := tE X.K c.no re) hc hN hi ok hg ht he hs) fun σ H Q h => ?_
  rw [hown]
  exact comp_core h
/-! ### if -/
theorem s_iff {t : Expr} {rt : Sl → Store → Res D} (ht : ST X c t rt) (h1 : SB X c vs ss r1) (h2 : SB X c vs s2 r2) : SS X c vs (.If t ss s2 pos) (fun env st => (rt env st).bind fun k st => match truth k with
    | some true => r1 env st
    | some false => r2 env st
    | none => .bad) := by
  refine PS.imp (ps_if ht h1 h2) fun D σ H h => ?_
  obtain ⟨G, L, st, env, rl, re, q⟩ := h
  refine ⟨G, L, st, env, rl, re, ?_⟩
  dsimp only at q
  unfold rT
  cases e : rt env st with
  | bad => rw [e] at q; exact q
  | ex k fs st' => rw [e] at q; exact fun cls dd L' H' po rl x => q cls dd σ L' H' po rl x rfl
  | ok d st1 =>
    rw [e] at q
    simp only [Res.bind_ok] at q ⊢
    cases et : truth d with
    | none => rw [et] at q; exact q.elim
    | some b =>
      rw [et] at q
      intro b' L1 H1 po1 rl1 hb
      cases hb
      cases b with
      | true =>
        rw [if_pos rfl]
        exact ⟨G, L1, st1, env, rl1, re.mono po1, q.shift po1 rfl⟩
      | false =>
        rw [if_neg Bool.false_ne_true]
        exact ⟨G, L1, st1, env, rl1, re.mono po1, q.shift po1 rfl⟩
/-! ### for, while -/
theorem s_for {tgE iter : Expr} {tg : Tg} {k : Nat} (hp : PassesOwn (model X.prog X.w) X.A X.env X.xe) (hc : X.calm = true) (hi : SI X c tgE k iter rs) (hg : PG X tgE (gT X.K tg)) (hv : ∀ i ∈ tg.slots, i ∈ vs) (hb : SB X c vs ss r1) (hs : ∀ x, foldedSetIterable iter X.env x = pure x) :
    SS X c vs (.For tgE iter ss [] pos) (fun env st => (rs env st).bind fun ds st => match walkOf k ds st with
      | some xs => forM' (fun st1 => still ds st st1) (fun x env1 st1 => match bindT tg x env1 with
        | some env2 => r1 env2 st1
        | none => .bad) xs env st
      | none => .bad) := by
  refine PS.imp (ps_for hp hc hi hg hb hs) fun D σ H h => ?_
  obtain ⟨G, L, st, env, rl, rE, q⟩ := h
  refine ⟨G, L, st, env, rl, rE, ?_⟩
  unfold walkR
  dsimp only at q
  cases e : rs env st with
  | bad => rw [e] at q; exact q.elim
  | ex kk fs st' => rw [e] at q; exact fun cls dd L' H' po rl x => q cls dd σ L' H' po rl x rfl
  | ok ds st1 =>
    rw [e] at q
    simp only [Res.bind_ok] at q ⊢
    cases ew : walkOf k ds st1 with
    | none => rw [ew] at q; exact q.elim
    | some xs =>
      rw [ew] at q
      simp only at q ⊢
      intro J L1 H1 po1 rl1 wk
      generalize hok : (fun st2 => still ds st1 st2) = ok at q
      generalize hf : (fun (x : It) (env1 : Sl) (st1 : Store) => match bindT tg x env1 with
        | some env2 => r1 env2 st1
        | none => .bad) = f at q
      refine ⟨fun i mm σ2 H2 => mm = xs.length - i ∧ i ≤ xs.length ∧ ∃ L2 st2 env2, Po L1 H1 L2 H2 ∧ Rl X.K G L2 st2 H2 ∧ RE X.K G L2 H2 σ2 env2 ∧ wipe σ2 vs = wipe σ vs ∧
        AftS X.K c G L2 H2 σ2 vs (forM' ok f (xs.drop i) env2 st2) D, ⟨xs.length, by simp, Nat.zero_le _, L1, st1, env, .refl, rl1, rE.mono po1, rfl, ?_⟩, ?_⟩
      · simp only [List.drop_zero]
        exact AftS.shift po1 rfl q
      · rintro i mm σ2 H2 ⟨rfl, hi, L2, st2, env2, po2, rl2, re2, w2, q2⟩
        by_cases hlt : i < xs.length
        · rw [drop_cons hlt] at q2
          unfold forM' at q2
          cases hk : ok st2 with
          | false => rw [hk] at q2; exact q2.elim
          | true =>
            rw [hk] at q2
            simp only [if_true] at q2
            have hst : still ds st1 st2 = true := by rw [← hok] at hk; exact hk
            obtain ⟨go, yld⟩ := wk.item i L2 st2 H2 _ G po2 (fun b z => .inl z) rl2 hst (List.getElem?_eq_getElem hlt)
            refine .inr ⟨go, fun σ' H' => i + 1 ≤ xs.length ∧ ∃ L2 st2 env2, Po L1 H1 L2 H' ∧ Rl X.K G L2 st2 H' ∧ RE X.K G L2 H' σ' env2 ∧ wipe σ' vs = wipe σ vs ∧
              AftS X.K c G L2 H' σ' vs (forM' ok f (xs.drop (i + 1)) env2 st2) D, fun σ' H' hN => ⟨xs.length - (i + 1), by omega, rfl, hN⟩, fun x H3 hy => ?_⟩
            obtain ⟨po3, rl3, hit⟩ := yld x H3 hy
            rw [← hf] at q2
            simp only at q2
            cases eb : bindT tg xs[i] env2 with
            | none => rw [eb] at q2; exact q2.elim
            | some env3 =>
              rw [eb] at q2
              simp only at q2
              rw [hf] at q2
              refine gT_rel hit eb (re2.mono po3) fun σ' re4 hw => ?_
              have hw4 := hw vs hv
              refine ⟨G, L2, st2, env3, rl3, re4, ?_⟩
              cases er : r1 env3 st2 with
              | bad => rw [er] at q2; exact q2.elim
              | ex kk fs st' => rw [er] at q2; exact fun cls dd σ5 L5 H5 po5 rl5 x5 w5 => q2 cls dd σ5 L5 H5 (po3.trans po5) rl5 x5 (w5.trans hw4)
              | ok r st5 =>
                obtain ⟨fl, env5⟩ := r
                rw [er] at q2
                simp only [Res.bind_ok] at q2
                intro σ5 L5 H5 po5 rl5 re5 w5
                have q5 := AftS.shift (po3.trans po5) (w5.trans hw4) q2
                have w6 : wipe σ5 vs = wipe σ vs := (w5.trans hw4).trans w2
                cases fl with
                | nx => exact ⟨hlt, L5, st5, env5, po2.trans (po3.trans po5), rl5, re5, w6, q5⟩
                | ct => exact ⟨hlt, L5, st5, env5, po2.trans (po3.trans po5), rl5, re5, w6, q5⟩
                | bk => exact q5.now rl5 re5 rfl
                | rt d => exact q5.now rl5 re5 rfl
        · have ei : i = xs.length := by omega
          subst ei
          rw [List.drop_length] at q2
          unfold forM' at q2
          cases hk : ok st2 with
          | false => rw [hk] at q2; exact q2.elim
          | true =>
            rw [hk] at q2
            simp only [if_true] at q2
            have hst : still ds st1 st2 = true := by rw [← hok] at hk; exact hk
            exact .inl ⟨wk.stop _ L2 st2 H2 G po2 (fun b z => .inl z) rl2 hst (Nat.le_refl _), q2.now rl2 re2 rfl⟩
theorem s_whl {t : Expr} {rt : Sl → Store → Res D} {n : Nat} (hp : PassesOwn (model X.prog X.w) X.A X.env X.xe) (ht : ST X c t rt) (hb : SB X c vs ss r1) : SS X c vs (.While t ss [] pos) (fun env st => whlM rt r1 n env st) := by
  refine PS.imp (ps_while hp ht hb) fun D σ H h => ?_
  obtain ⟨G, L, st, env, rl, rE, q⟩ := h
  refine ⟨fun m σ2 H2 => ∃ L2 st2 env2, Po L H L2 H2 ∧ Rl X.K G L2 st2 H2 ∧ RE X.K G L2 H2 σ2 env2 ∧ wipe σ2 vs = wipe σ vs ∧ AftS X.K c G L2 H2 σ2 vs (whlM rt r1 m env2 st2) D, ⟨n, L, st, env, .refl, rl, rE, rfl, q⟩, ?_⟩
  rintro m σ2 H2 ⟨L2, st2, env2, po2, rl2, re2, w2, q2⟩
  cases m with
  | zero => exact q2.elim
  | succ m =>
    unfold whlM at q2
    refine ⟨G, L2, st2, env2, rl2, re2, ?_⟩
    unfold rT
    cases e : rt env2 st2 with
    | bad => rw [e] at q2; exact q2.elim
    | ex k fs st' => rw [e] at q2; exact fun cls dd L' H' po rl x => q2 cls dd σ2 L' H' po rl x rfl
    | ok d st3 =>
      rw [e] at q2
      simp only [Res.bind_ok] at q2 ⊢
      cases et : truth d with
      | none => rw [et] at q2; exact q2.elim
      | some b =>
        rw [et] at q2
        intro b' L3 H3 po3 rl3 hb
        cases hb
        cases b with
        | false =>
          rw [if_neg Bool.false_ne_true]
          exact (AftS.shift po3 rfl q2).now rl3 (re2.mono po3) rfl
        | true =>
          rw [if_pos rfl]
          refine ⟨fun σ' H' => ∃ L2 st2 env2, Po L H L2 H' ∧ Rl X.K G L2 st2 H' ∧ RE X.K G L2 H' σ' env2 ∧ wipe σ' vs = wipe σ vs ∧ AftS X.K c G L2 H' σ' vs (whlM rt r1 m env2 st2) D, fun σ' H' hN => ⟨m, Nat.lt_succ_self _, hN⟩, ?_⟩
          refine ⟨G, L3, st3, env2, rl3, re2.mono po3, ?_⟩
          simp only at q2
          cases er : r1 env2 st3 with
          | bad => rw [er] at q2; exact q2.elim
          | ex kk fs st' => rw [er] at q2; exact fun cls dd σ5 L5 H5 po5 rl5 x5 w5 => q2 cls dd σ5 L5 H5 (po3.trans po5) rl5 x5 w5
          | ok r st5 =>
            obtain ⟨fl, env5⟩ := r
            rw [er] at q2
            simp only [Res.bind_ok] at q2
            intro σ5 L5 H5 po5 rl5 re5 w5
            have q5 := AftS.shift (po3.trans po5) w5 q2
            cases fl with
            | nx => exact ⟨L5, st5, env5, po2.trans (po3.trans po5), rl5, re5, w5.trans w2, q5⟩
            | ct => exact ⟨L5, st5, env5, po2.trans (po3.trans po5), rl5, re5, w5.trans w2, q5⟩
            | bk => exact q5.now rl5 re5 rfl
            | rt d => exact q5.now rl5 re5 rfl
end
end Dn
/-! Dn: stores into several names, into places; op=. -/
namespace Dn
open PySem PySem.Spec PyProof.Rows L2
section
variable {X : Cx} {c : Wc} {vs : List Nat} {e a b d : Expr} {ra rb rd : Sl → Store → Res D} {rs : Sl → Store → Res (List D)} {pos : Pos} {r1 r2 : Sl → Store → SR} {s : Stmt} {ss s2 : List Stmt}
/-! ### several names -/
/-- names as targets -/
def namesAre (N : List Str) : List Nat → List Expr → Bool
  | [], [] => true
  | i :: is, .Name x _ :: es => decide (N[i]? = some x) && namesAre N is es
  | _, _ => false
theorem targets_ok (hN : X.N.Nodup) : ∀ {is : List Nat} {es : List Expr}, namesAre X.N is es = true → (∀ i ∈ is, ∀ x, X.N[i]? = some x → Loc X.env.scope x ∧ (X.fn x = true ∨ X.env.scope.names.lookup x = some .local)) → PGs X es (gNames is) ∧ (assignEach es X.env).length = is.length ∧ (assignEach es X.env).findIdx? (·.1) = none
  | [], [], _, _ => ⟨pgs_nil, rfl, rfl⟩
  | i :: is, .Name x p :: es, h, hx => by
    have h := Bool.and_eq_true_iff.mp (show (decide (X.N[i]? = some x) && namesAre X.N is es) = true from h)
    have hi := of_decide_eq_true h.1
    obtain ⟨g1, g2, g3⟩ := targets_ok hN h.2 fun j hj => hx j (List.mem_cons_of_mem _ hj)
    obtain ⟨l1, l2⟩ := hx i (List.mem_cons_self ..) x hi
    refine ⟨pgs_cons (pg_name hN hi l1 l2) g1 rfl, ?_, ?_⟩
    · show (assignEach es X.env).length + 1 = is.length + 1
      rw [g2]
    · show List.findIdx? (·.1) ((false, assign (.Name x p) X.env) :: assignEach es X.env) = none
      rw [List.findIdx?_cons]
      simp only [Bool.false_eq_true, if_false]
      rw [g3]
      rfl
theorem pg_many (hc : X.calm = true) (hN : X.N.Nodup) {is : List Nat} {es : List Expr} {k : Nat} (h : namesAre X.N is es = true) (hx : ∀ i ∈ is, ∀ x, X.N[i]? = some x → Loc X.env.scope x ∧ (X.fn x = true ∨ X.env.scope.names.lookup x = some .local)) : PG X (.Tuple es k pos) (gT X.K (.many is)) := by
  obtain ⟨g1, g2, g3⟩ := targets_ok hN h hx
  exact pg_tup hc g1 g2 g3
theorem s_unp {is : List Nat} {es : List Expr} {k : Nat} {pt : Pos} (hc : X.calm = true) (hN : X.N.Nodup) (h : namesAre X.N is es = true) (hx : ∀ i ∈ is, ∀ x, X.N[i]? = some x → Loc X.env.scope x ∧ (X.fn x = true ∨ X.env.scope.names.lookup x = some .local)) (hv : ∀ i ∈ is, i ∈ vs)
    (hs : swapsWithSole [.Tuple es k pt] a pos.line X.env = pure false) (hw : swappedStores [.Tuple es k pt] a X.env = pure none) (ha : SE X c a ra) :
    SS X c vs (.Assign [.Tuple es k pt] a pos) (fun env st => (ra env st).bind fun d st => match d with
      | .p (.tuple ds) => Res.of st ((setAll is (ds.map .p) env).map fun env => (.nx, env))
      | _ => .bad) := by
  refine PS.imp (ps_asg ha (pg_many hc hN h hx) hs hw rfl) fun D σ H h => ?_
  obtain ⟨G, L, st, env, rl, re, q⟩ := h
  refine ⟨G, L, st, env, rl, re, (q.bindE (RD X.K G)).mono fun x H1 ⟨L1, st1, d, po1, rl1, hd, q1⟩ => ?_⟩
  try dsimp only at q1
  split at q1
  · rename_i ds
    obtain ⟨env', e, q2⟩ := AftS.of_some q1
    refine gT_rel (tg := .many is) (it := .one (.p (.tuple ds))) (env' := env') hd e (re.mono po1) fun σ' re' w => ?_
    exact q2.now rl1 re' (w vs hv)
  · exact q1.elim
/-- a, b = x, y, by way of a tuple -/
theorem s_parT {is : List Nat} {es vs2 : List Expr} {k k2 : Nat} {pt pt2 : Pos} (hc : X.calm = true) (hN : X.N.Nodup) (h : namesAre X.N is es = true) (hx : ∀ i ∈ is, ∀ x, X.N[i]? = some x → Loc X.env.scope x ∧ (X.fn x = true ∨ X.env.scope.names.lookup x = some .local)) (hv : ∀ i ∈ is, i ∈ vs)
    (hl : is.length ≤ 100) (hs : swapsWithSole [.Tuple es k pt] (.Tuple vs2 k2 pt2) pos.line X.env = pure false) (hw : swappedStores [.Tuple es k pt] (.Tuple vs2 k2 pt2) X.env = pure none) (ha : SA X c vs2 rs) :
    SS X c vs (.Assign [.Tuple es k pt] (.Tuple vs2 k2 pt2) pos) (fun env st => (rs env st).bind fun ds st => Res.of st ((setAll is ds env).map fun env => (.nx, env))) := by
  refine PS.imp (ps_asg (pe_tupF ha) (pg_many hc hN h hx) hs hw rfl) fun D σ H h => ?_
  obtain ⟨G, L, st, env, rl, re, q⟩ := h
  refine ⟨G, L, st, env, rl, re, (q.bindE (RDs X.K G)).mono fun xs H1 ⟨L1, st1, ds, po1, rl1, hd, q1⟩ => ?_⟩
  try dsimp only at q1
  obtain ⟨env', e, q2⟩ := AftS.of_some q1
  have el := (setAll_len e).1
  have ex : xs.length = ds.length := Paired.length hd
  refine ⟨by rw [sizeLine_eq]; omega, fun p o ho hp => ?_⟩
  have po2 := Po.new1 (o := .frz o (.tup xs)) rl1 hp
  refine ⟨p, xs, rfl, .inl (.inr ⟨o, upd_same⟩), by omega, gNames_rel (hd.mono po2) e ((re.mono po1).mono po2) fun σ' re' w => ?_⟩
  exact AftS.now (q2.shift po2 rfl) (rl1.new1 hp) re' (w vs hv)
/-- a, b = x, y -/
theorem s_par2 {i j : Nat} {x y : Str} {px py pt : Pos} {kt k2 : Nat} {pt2 : Pos} (hc : X.calm = true) (hN : X.N.Nodup) (hi : X.N[i]? = some x) (hj : X.N[j]? = some y) (hij : i ≠ j) (hvi : i ∈ vs) (hvj : j ∈ vs)
    (hx : X.env.scope.names.lookup x = some .local) (hy : X.env.scope.names.lookup y = some .local)
    (hw : swappedStores [.Tuple [.Name x px, .Name y py] kt pt] (.Tuple [a, b] k2 pt2) X.env = pure (some [x, y])) (ha : SA X c [a, b] rs) :
    SS X c vs (.Assign [.Tuple [.Name x px, .Name y py] kt pt] (.Tuple [a, b] k2 pt2) pos) (fun env st => (rs env st).bind fun ds st => Res.of st ((setAll [i, j] ds env).map fun env => (.nx, env))) := by
  refine PS.imp (ps_par hc hN hi hj hij hx hy ha hw rfl) fun D σ H h => ?_
  obtain ⟨G, L, st, env, rl, re, q⟩ := h
  refine ⟨G, L, st, env, rl, re, (q.bindE (RDs X.K G)).mono fun us H1 ⟨L1, st1, ds, po1, rl1, hd, q1⟩ => ?_⟩
  obtain ⟨env', e, q2⟩ := AftS.of_some q1
  obtain ⟨hl, _⟩ := setAll_len e
  match ds, hl with
  | [d1, d2], _ =>
    cases hd with
    | cons h1 h2 =>
      cases h2 with
      | cons h2 h3 =>
        cases h3
        unfold setAll setAll setAll at e
        split at e
        · split at e
          · cases e
            exact ⟨_, _, rfl, q2.now rl1 (((re.mono po1).set h1).set h2) (by rw [wipe_set hvj, wipe_set hvi])⟩
          · cases e
        · cases e
theorem s_par3 {i j l : Nat} {x y z : Str} {px py pz pt : Pos} {kt k2 : Nat} {pt2 : Pos} (hc : X.calm = true) (hN : X.N.Nodup) (hi : X.N[i]? = some x) (hj : X.N[j]? = some y) (hl : X.N[l]? = some z) (hij : i ≠ j) (hil : i ≠ l) (hjl : j ≠ l) (hvi : i ∈ vs) (hvj : j ∈ vs) (hvl : l ∈ vs)
    (hx : X.env.scope.names.lookup x = some .local) (hy : X.env.scope.names.lookup y = some .local) (hz : X.env.scope.names.lookup z = some .local)
    (hw : swappedStores [.Tuple [.Name x px, .Name y py, .Name z pz] kt pt] (.Tuple [a, b, d] k2 pt2) X.env = pure (some [x, y, z])) (ha : SA X c [a, b, d] rs) :
    SS X c vs (.Assign [.Tuple [.Name x px, .Name y py, .Name z pz] kt pt] (.Tuple [a, b, d] k2 pt2) pos) (fun env st => (rs env st).bind fun ds st => Res.of st ((setAll [i, j, l] ds env).map fun env => (.nx, env))) := by
  refine PS.imp (ps_par3 hc hN hi hj hl hij hil hjl hx hy hz ha hw rfl) fun D σ H h => ?_
  obtain ⟨G, L, st, env, rl, re, q⟩ := h
  refine ⟨G, L, st, env, rl, re, (q.bindE (RDs X.K G)).mono fun us H1 ⟨L1, st1, ds, po1, rl1, hd, q1⟩ => ?_⟩
  obtain ⟨env', e, q2⟩ := AftS.of_some q1
  obtain ⟨hl, _⟩ := setAll_len e
  match ds, hl with
  | [d1, d2, d3], _ =>
    cases hd with
    | cons h1 h2 =>
      cases h2 with
      | cons h2 h3 =>
        cases h3 with
        | cons h3 h4 =>
          cases h4
          unfold setAll setAll setAll setAll at e
          split at e
          · split at e
            · split at e
              · cases e
                exact ⟨_, _, _, rfl, q2.now rl1 ((((re.mono po1).set h1).set h2).set h3) (by rw [wipe_set hvl, wipe_set hvj, wipe_set hvi])⟩
              · cases e
            · cases e
          · cases e
/-! ### o[i] = v -/
def rSet (K : PySem.W.Frag) : TSet := fun x y z H Q => ∃ G L st d e f st', Rl K G L st H ∧ RD K G L H x d ∧ RD K G L H y e ∧ RD K G L H z f ∧ setIx d e f st = some st' ∧ ∀ L' H', Po L H L' H' → Rl K G L' st' H' → Q H'
theorem p_set (hu : X.A.units + 1 < cLine) : PSet X (rSet X.K) := by
  intro pins s σ H x y z v u w Q I rx ry rz h
  obtain ⟨G, L, st, d, e, f, st', rl, hd, he, hf, hk, q⟩ := h
  exact set_core hu I rx ry rz rl hd he hf hk q
theorem asg_sub {o i : Expr} (hi : simpleE i = true) {env : Env} {pos : Pos} (v : Value) : assign (.Subscript o i pos) env v = (do
      let ov ← holding [v] (eval o env)
      let iv ← holding [v, ov] (eval i env)
      standAt pos
      holding [v, ov, iv] (setItem ov iv v)
      release [v, ov, iv] []) := by
  cases i <;> first | rfl | cases hi
/-- right sides that are no comprehension -/
def notComp : Expr → Bool
  | .ListComp .. => false
  | .SetComp .. => false
  | .DictComp .. => false
  | _ => true
theorem swaps_of {e : Expr} (h : notComp e = true) {t : Option Expr} {l : Nat} {env : Env} : swapsWith e t l env = pure false := by
  cases e <;> first | rfl | cases h
theorem sole_of {e tg : Expr} (h : notComp e = true) {l : Nat} {env : Env} : swapsWithSole [tg] e l env = pure false := swaps_of h
theorem sole_sub {e o i : Expr} {p : Pos} {l : Nat} {env : Env} : swapsWithSole [.Subscript o i p] e l env = pure false := by
  cases e <;> rfl
theorem stores_sub {e o i : Expr} {p : Pos} {env : Env} : swappedStores [.Subscript o i p] e env = pure none := rfl
theorem s_setix {o i : Expr} {p : Pos} (hu : X.A.units + 1 < cLine) (hv : SE X c a ra) (ho : SE X c b rb) (hi : SE X c d rd) (sd : simpleE d = true) :
    SS X c vs (.Assign [.Subscript b d p] a pos) (fun env st => (ra env st).bind fun z st => (rb env st).bind fun x st => (rd env st).bind fun y st => match setIx x y z st with
      | some st => .ok (.nx, env) st
      | none => .bad) := by
  refine PS.imp (ps_asg hv (pg_sub ho hi (p_set hu) (asg_sub sd)) sole_sub stores_sub rfl) fun D σ H h => ?_
  obtain ⟨G, L, st, env, rl, re, q⟩ := h
  refine ⟨G, L, st, env, rl, re, (q.bindE (RD X.K G)).mono fun z H1 ⟨L1, st1, f, po1, rl1, hf, q1⟩ => ?_⟩
  refine ⟨G, L1, st1, env, rl1, re.mono po1, (q1.bindE (RD X.K G)).mono fun x H2 ⟨L2, st2, dx, po2, rl2, hx, q2⟩ => ?_⟩
  refine ⟨G, L2, st2, env, rl2, (re.mono po1).mono po2, (q2.bindE (RD X.K G)).mono fun y H3 ⟨L3, st3, dy, po3, rl3, hy, q3⟩ => ?_⟩
  try dsimp only at q3
  split at q3
  · rename_i st4 e
    refine ⟨G, L3, st3, dx, dy, f, st4, rl3, RD.mono po3 hx, hy, RD.mono (po2.trans po3) hf, e, fun L' H' po' rl' => ?_⟩
    exact (AftS.shift po' rfl q3).now rl' ((re.mono ((po1.trans po2).trans po3)).mono po') rfl
  · exact q3.elim
/-! ### op= -/
theorem ip_any {op : Operator} {o : O2} (h : (op = .Add ∧ o = .add) ∨ (op = .Sub ∧ o = .sub)) : PIp X op (rD X.K (opA o)) := by
  intro pins s σ H x y v u Q I rx ry h2
  obtain ⟨G, L, st, d, e, rl, hd, he, q⟩ := h2
  rcases h with ⟨rfl, rfl⟩ | ⟨rfl, rfl⟩
  · unfold opA at q
    split at q
    · exact iop_add pins s σ H x y v u Q I rx ry ⟨_, _, fz_int hd, fz_int he, q.pure rl (.int _)⟩
    · split at q
      · rename_i hz
        obtain ⟨e1, z1⟩ := fz_str hd
        obtain ⟨e2, z2⟩ := fz_str he
        exact iop_add_str pins s σ H x y v u Q I rx ry ⟨_, _, e1, e2, hz, q.pure rl (.str _ (z1.app z2 hz))⟩
      · exact q.elim
    · rename_i hz; cases hz
    · exact q.elim
  · unfold opA at q
    split at q
    · rename_i hz; cases hz
    · rename_i hz; cases hz
    · exact iop_sub pins s σ H x y v u Q I rx ry ⟨_, _, fz_int hd, fz_int he, q.pure rl (.int _)⟩
    · exact q.elim
theorem s_aug {i : Nat} {x : Str} {op : Operator} {o : O2} {pos' : Pos} (hop : (op = .Add ∧ o = .add) ∨ (op = .Sub ∧ o = .sub)) (hi : X.N[i]? = some x) (hv : i ∈ vs) (hN : X.N.Nodup) (hx : Loc X.env.scope x) (hf : X.fn x = true ∨ X.env.scope.names.lookup x = some .local) (ha : SE X c a ra) :
    SS X c vs (.AugAssign (.Name x pos') op a pos) (fun env st => match env[i]? with
      | some (some x) => (ra env st).bind fun y st => (opA o x y st).nox.bind fun d st => Res.of st ((setE i d env).map fun env => (.nx, env))
      | _ => .bad) := by
  refine PS.imp (ps_aug hN hi hx ha (ip_any hop) hf) fun D σ H h => ?_
  obtain ⟨G, L, st, env, rl, re, q⟩ := h
  dsimp only at q
  split at q
  · rename_i dx e
    obtain ⟨v, h1, h2⟩ := re.at_ i dx e
    refine ⟨v, h1, G, L, st, env, rl, re, (q.bindE (RD X.K G)).mono fun y H1 ⟨L1, st1, dy, po1, rl1, hy, q1⟩ => ?_⟩
    refine ⟨G, L1, st1, dx, dy, rl1, RD.mono po1 h2, hy, Aft.nw (c := c) (σ := σ) ((q1.bindE (RD X.K G)).mono fun z H2 ⟨L2, st2, dz, po2, rl2, hz, q2⟩ => ?_)⟩
    obtain ⟨env', e, q3⟩ := AftS.of_some q2
    have e2 := setE_some e
    subst e2
    exact q3.now rl2 ((re.mono (po1.trans po2)).set hz) (wipe_set hv)
  · exact q.elim
def rGet (K : PySem.W.Frag) : V → V → Hp → VK → Prop := fun x y H Q => ∃ G L st d e r, Rl K G L st H ∧ RD K G L H x d ∧ RD K G L H y e ∧ getM d e st = some r ∧ ∀ v, RD K G L H v r → Q v H
theorem p_get (hu : X.A.units + 1 < cLine) : PGet X (rGet X.K) := by
  intro pins s σ H x y v u Q I rx ry h
  obtain ⟨G, L, st, d, e, r, rl, hd, he, e1, q⟩ := h
  unfold getM at e1
  split at e1
  · unfold getIx at e1
    simp only at e1
    split at e1
    · rename_i ds hst
      split at e1
      · rename_i i
        obtain ⟨j, h3, h4⟩ := Option.bind_eq_some_iff.mp e1
        obtain ⟨a, e2, e3, xs, e4, f⟩ := ref_rel rl hd hst (by simp)
        obtain ⟨w, h5, h6⟩ := f.get h4
        have ei := fz_int he
        subst e2 ei
        cases rx
        obtain ⟨t, rfl⟩ := ry
        obtain ⟨its, rv, pl, hz⟩ := I.list (.inl (.inl e4))
        obtain ⟨z, ew, rw'⟩ := rv.get h5
        have hlx := Paired.length f
        have hl := rv.length
        have hn := line63
        have fin : EP X pins σ Q z s := ⟨w, H, I, rw', q w h6⟩
        unfold ixOf at h3
        split at h3
        · split at h3
          · cases h3
            exact wpAny_getItem_list pl.isList (by assumption) (by omega) (by simpa using ew) fin
          · cases h3
        · split at h3
          · cases h3
            have ej : (i + (its.toArray.size : Int)).toNat = (i + (ds.length : Int)).toNat := by
              rw [List.size_toArray, ← hl, hlx]
            exact wpAny_getItem_list_neg pl.isList (by omega) (by rw [List.size_toArray]; omega) (by omega) (by rw [ej]; simpa using ew) fin
          · cases h3
      · cases e1
    · rename_i kvs hst
      split at e1
      · split at e1
        · rename_i hko
          obtain ⟨qk, e4, hq⟩ := key_rel he hko
          obtain ⟨a, e2, e3, ks, e5, f⟩ := ref_rel rl hd hst (by simp)
          obtain ⟨w, h5, h6⟩ := (dGet_rel hq f).1 _ e1
          subst e4 e2
          cases rx
          exact d_getItem hu I (by rw [← h5]; exact DGet.k e5) ry fun w' s3 I3 rw' => ⟨w, H, I3, rw', q w h6⟩
        · cases e1
      · cases e1
    · cases e1
  · cases e1
theorem aug_sub {o i : Expr} (hi : simpleE i = true) (ov iv new : Value) : augStore i ov iv new = (do holding [new, ov, iv] (setItem ov iv new); release [new, ov, iv] []; pure .next) := by
  cases i <;> first | rfl | cases hi
theorem s_augix {op : Operator} {o : O2} {p : Pos} (hop : (op = .Add ∧ o = .add) ∨ (op = .Sub ∧ o = .sub)) (hu : X.A.units + 1 < cLine) (hv : SE X c a ra) (ho : SE X c b rb) (hi : SE X c d rd) (sd : simpleE d = true) :
    SS X c vs (.AugAssign (.Subscript b d p) op a pos) (fun env st => (rb env st).bind fun x st => (rd env st).bind fun y st => match getM x y st with
      | some old => (ra env st).bind fun z st => (opA o old z st).nox.bind fun d st => (match setIx x y d st with
        | some st => .ok (.nx, env) st
        | none => .bad)
      | none => .bad) := by
  refine PS.imp (ps_augS ho hi (p_get hu) hv (ip_any hop) (p_set hu) (aug_sub (o := b) sd)) fun D σ H h => ?_
  obtain ⟨G, L, st, env, rl, re, q⟩ := h
  refine ⟨G, L, st, env, rl, re, (q.bindE (RD X.K G)).mono fun x H1 ⟨L1, st1, dx, po1, rl1, hx, q1⟩ => ?_⟩
  refine ⟨G, L1, st1, env, rl1, re.mono po1, (q1.bindE (RD X.K G)).mono fun y H2 ⟨L2, st2, dy, po2, rl2, hy, q2⟩ => ?_⟩
  try dsimp only at q2
  split at q2
  · rename_i old e
    refine ⟨G, L2, st2, dx, dy, old, rl2, RD.mono po2 hx, hy, e, fun v hv => ?_⟩
    refine ⟨G, L2, st2, env, rl2, (re.mono po1).mono po2, (q2.bindE (RD X.K G)).mono fun z H3 ⟨L3, st3, dz, po3, rl3, hz, q3⟩ => ?_⟩
    refine ⟨G, L3, st3, old, dz, rl3, RD.mono po3 hv, hz, Aft.nw (c := c) (σ := σ) ((q3.bindE (RD X.K G)).mono fun w H4 ⟨L4, st4, dw, po4, rl4, hw, q4⟩ => ?_)⟩
    try dsimp only at q4
    split at q4
    · rename_i st5 e5
      refine ⟨G, L4, st4, dx, dy, dw, st5, rl4, RD.mono ((po2.trans po3).trans po4) hx, RD.mono (po3.trans po4) hy, hw, e5, fun L' H' po' rl' => ?_⟩
      exact (AftS.shift po' rfl q4).now rl' ((re.mono (((po1.trans po2).trans po3).trans po4)).mono po') rfl
    · exact q4.elim
  · exact q2.elim
end
end Dn
/-! Dn: does a tree of ours stand for a text of the program? -/
namespace Dn
open PySem PySem.Spec PyProof.Rows L2
structure Cn where
  fns : List (Str × Nat × Nat × List Kw)
  blt : List Str
  cst : List (Str × PyData)
  exs : List (Str × Nat × List Str) := []
  hnd : List (Str × List Nat) := []
/-- the fields of the exceptions of number k -/
def Cn.nm (cn : Cn) (k : Nat) : List Str := match cn.exs[k]? with
  | some q => q.2.2
  | none => []
def isVis (sc : Scope) (x : Str) : Bool := match sc.names.lookup x with
  | some .local => true
  | some .cell => true
  | some .free => true
  | _ => false
def isLoc (sc : Scope) (x : Str) : Bool := match sc.names.lookup x with
  | some .local => true
  | some .cell => true
  | _ => false
def isLocal (sc : Scope) (x : Str) : Bool := decide (sc.names.lookup x = some .local)
def isGl (sc : Scope) (x : Str) : Bool := decide (sc.names.lookup x = some .globalImplicit)
def fnOk (fb : Option Scope) (x : Str) : Bool := match fb with
  | none => true
  | some s => s.names.lookup x == some .cell
def plainN (x : Str) : Bool := !(x == ("__debug__" : Str)) && !(x == ("__classdict__" : Str)) && !(x == ("__name__" : Str))
/-- a built-in name that nothing hides -/
def isB (cn : Cn) (sc : Scope) (x : Str) : Bool := isGl sc x && cn.blt.contains x
def constOf : PyData → Option Const
  | .none => some .none
  | .bool b => some (.bool b)
  | .int i => some (.int i)
  | .str s => if PyData.strOk s && decide (s.length ≤ sizeLine) then some (.str s) else none
  | _ => none
def opOf : O2 → Option Operator
  | .add => some .Add
  | .sub => some .Sub
  | .mul => some .Mult
  | .mod => some .Mod
  | .fdv => some .FloorDiv
  | .pow => some .Pow
  | .shl => some .LShift
  | .shr => some .RShift
  | .band => some .BitAnd
  | _ => none
def cmpOf : O2 → Option CmpOp
  | .eq => some .Eq
  | .ne => some .NotEq
  | .lt => some .Lt
  | .le => some .LtE
  | .gt => some .Gt
  | .ge => some .GtE
  | .inn => some .In
  | .nin => some .NotIn
  | _ => none
def methOf : O2 → Option Str
  | .app => some "append"
  | .ext => some "extend"
  | .popi => some "pop"
  | _ => none
def blt1 : O1 → Option Str
  | .len => some "len"
  | .abs => some "abs"
  | .all => some "all"
  | .any => some "any"
  | .sum => some "sum"
  | .srt => some "sorted"
  | .mx => some "max"
  | .mn => some "min"
  | _ => none
def ty1 : O1 → Option Str
  | .int => some "int"
  | .tup => some "tuple"
  | .lst _ => some "list"
  | .str => some "str"
  | _ => none
def tyS : Ty → Option Str
  | .str => some "str"
  | .tuple => some "tuple"
  | .list => some "list"
  | .int => some "int"
  | .bool => some "bool"
  | .dict => some "dict"
  | .none => none
def blt2 : O2 → Option Str
  | .mx2 => some "max"
  | .mn2 => some "min"
  | _ => none
def m0 : O1 → Option Str
  | .pop => some "pop"
  | .rev => some "reverse"
  | _ => none
def sameLine (a b : Pos) : Bool := a.endLine == b.line
def chkTg (N : List Str) (sc : Scope) (fb : Option Scope) (tg : Tg) (e : Expr) : Bool := (tg.slots.all fun i => match N[i]? with
    | some x => isLoc sc x && (fnOk fb x || isLocal sc x)
    | none => false) && (match tg, e with
  | .one i, .Name x _ => decide (N[i]? = some x)
  | .many is, .Tuple es _ _ => namesAre N is es
  | _, _ => false)
def ownOf (N : List Str) (is : List Nat) : List (Str × Nat) := is.map fun i => (N.getD i "", i)
mutual
def chkE (cn : Cn) (N : List Str) : E → Scope → Option Scope → Expr → Bool
  | .var i, sc, _, e => (match e with
    | .Name x _ => decide (N[i]? = some x) && isVis sc x && plainN x
    | _ => false)
  | .c d, _, _, e => (match e with
    | .Constant k _ _ => decide (constOf d = some k)
    | _ => false)
  | .g x d, sc, _, e => (match e with
    | .Name y _ => decide (y = x) && isGl sc x && plainN x && cn.cst.any fun q => decide (q.1 = x) && sameP q.2 d
    | _ => false)
  | .o1 o a, sc, fb, e => (match o with
    | .nt => (match e with
      | .UnaryOp .Not x _ => chkE cn N a sc fb x
      | _ => false)
    | .neg => (match e with
      | .UnaryOp .USub x _ => chkE cn N a sc fb x
      | _ => false)
    | .isN => (match e with
      | .Compare x [.Is] [.Constant .none _ _] _ => chkE cn N a sc fb x
      | _ => false)
    | .niN => (match e with
      | .Compare x [.IsNot] [.Constant .none _ _] _ => chkE cn N a sc fb x
      | _ => false)
    | .isin ts => (match ts with
      | [t] => (match e with
        | .Call (.Name f _) [x, .Name y _] [] _ => decide (f = "isinstance") && isB cn sc f && isB cn sc y && decide (tyS t = some y) && plainN y && chkE cn N a sc fb x && simpleE x
        | _ => false)
      | [t, u] => (match e with
        | .Call (.Name f _) [x, .Tuple [.Name y _, .Name z _] _ _] [] _ => decide (f = "isinstance") && isB cn sc f && isB cn sc y && isB cn sc z && decide (tyS t = some y) && decide (tyS u = some z) && plainN y && plainN z && chkE cn N a sc fb x && simpleE x
        | _ => false)
      | _ => false)
    | .sst => (match e with
      | .Call (.Name f _) [.Call (.Name g _) [x] [] _] [] _ => decide (f = "sorted") && decide (g = "set") && isB cn sc f && isB cn sc g && chkE cn N a sc fb x && simpleE x
      | _ => false)
    | .frz => chkE cn N a sc fb e
    | .tupr => (match e with
      | .Call (.Name f _) [.Call (.Name r _) [x] [] _] [] _ => decide (f = "tuple") && decide (r = "range") && isB cn sc f && isB cn sc r && chkE cn N a sc fb x && simpleE x
      | _ => false)
    | .upper => (match e with
      | .Call (.Attribute x m ap) [] [] cp => decide (m = "upper") && sameLine ap cp && chkE cn N a sc fb x && simpleE x
      | _ => false)
    | o => (match e with
      | .Call (.Name f _) [x] [] _ => isB cn sc f && (decide (blt1 o = some f) || decide (ty1 o = some f)) && chkE cn N a sc fb x && simpleE x
      | .Call (.Attribute x m ap) [] [] cp => decide (m0 o = some m) && sameLine ap cp && chkE cn N a sc fb x && simpleE x
      | _ => false))
  | .o2 o a b, sc, fb, e => (match e with
    | .BinOp x op y _ => decide (opOf o = some op) && chkE cn N a sc fb x && chkE cn N b sc fb y
    | .Compare x [op] [y] _ => decide (cmpOf o = some op) && chkE cn N a sc fb x && chkE cn N b sc fb y && simpleE y
    | .Subscript x y _ => decide (o = .ix) && chkE cn N a sc fb x && chkE cn N b sc fb y && simpleE y
    | .Call f args [] cp => (match f, args with
      | .Attribute x m ap, [y] => (decide (methOf o = some m) || (decide (o = .indx) && decide (m = "index"))) && sameLine ap cp && chkE cn N a sc fb x && simpleE x && chkE cn N b sc fb y && simpleE y
      | .Name f _, [x, y] => isB cn sc f && decide (blt2 o = some f) && chkE cn N a sc fb x && simpleE x && chkE cn N b sc fb y && simpleE y
      | _, _ => false)
    | _ => false)
  | .o3 o a b d, sc, fb, e => (match e with
    | .Call (.Attribute x m ap) [y, z] [] cp => decide (o = .ins) && decide (m = "insert") && sameLine ap cp && chkE cn N a sc fb x && simpleE x && chkE cn N b sc fb y && simpleE y && chkE cn N d sc fb z && simpleE z
    | _ => false)
  | .an es, sc, fb, e => (match e with
    | .BoolOp .And xs _ => !es.isEmpty && chkA cn N es sc fb xs
    | _ => false)
  | .orr es, sc, fb, e => (match e with
    | .BoolOp .Or xs _ => !es.isEmpty && chkA cn N es sc fb xs
    | _ => false)
  | .ite t a b, sc, fb, e => (match e with
    | .IfExp t' x y _ => chkT cn N t sc fb t' && chkE cn N a sc fb x && chkE cn N b sc fb y
    | _ => false)
  | .chain o o' a b d, sc, fb, e => (match e with
    | .Compare x [op, op'] [y, z] _ => decide (cmpOf o = some op) && decide (cmpOf o' = some op') && chkE cn N a sc fb x && chkE cn N b sc fb y && simpleE y && chkE cn N d sc fb z && simpleE z
    | _ => false)
  | .tup es, sc, fb, e => (match e with
    | .Tuple xs _ _ => chkA cn N es sc fb xs && xs.all simpleE
    | _ => false)
  | .lst _ es, sc, fb, e => (match e with
    | .List xs _ => chkA cn N es sc fb xs && xs.all simpleE
    | _ => false)
  | .dic kvs, sc, fb, e => (match e with
    | .Dict [] [] _ => kvs.isEmpty
    | .Dict keys vals _ => !keys.isEmpty && decide (keys.length ≤ 15) && chkP cn N kvs sc fb keys vals
    | _ => false)
  | .sl _ a lo hi, sc, fb, e => (match e with
    | .Subscript x (.Slice l h none _) _ => chkE cn N a sc fb x && chkO cn N lo sc fb l && chkO cn N hi sc fb h
    | _ => false)
  | .rv _ a, sc, fb, e => (match e with
    | .Subscript x (.Slice none none (some (.UnaryOp .USub (.Constant (.int 1) _ _) _)) _) _ => chkE cn N a sc fb x
    | _ => false)
  | .call _ f es, sc, fb, e => (match e with
    | .Call (.Name x _) xs [] _ => isGl sc x && plainN x && (cn.fns.any fun q => decide (q.1 = x) && decide (q.2.1 = f) && decide (q.2.2.1 = es.length)) && chkA cn N es sc fb xs && xs.all simpleE
    | _ => false)
  | .callk _ f pm es, sc, fb, e => (match e with
    | .Call (.Name x _) xs kws _ => isGl sc x && plainN x && (match kwNames kws with
      | some ks => (cn.fns.any fun q => decide (q.1 = x) && decide (q.2.1 = f) && decide (q.2.2.1 = pm.length) && q.2.2.2.any fun w => decide (w = (xs.length, ks, pm)))
      | none => false) && chkA cn N es sc fb (xs ++ kws.map (·.value)) && xs.all simpleE
    | _ => false)
  | .comp _ elt tg k its ifs, sc, fb, e => (match e with
    | .ListComp elt' [⟨tgE, iter, ifs', 0⟩] scope _ => chkW cn N its k sc fb iter && (match k, tgE with
        | 2, .Tuple .. => true
        | 2, _ => false
        | 3, .Tuple .. => true
        | 3, _ => false
        | _, _ => true) && blkC N sc scope (ownOf N tg.slots) && (tg.slots.all fun i => (N[i]?).isSome) && chkTg N (relS scope sc) (some scope) tg tgE && chkE cn N elt (relS scope sc) (some scope) elt' && chkTs cn N ifs (relS scope sc) (some scope) ifs' && decide (ifs.length ≤ 1) && simpleE iter
    | _ => false)
def chkA (cn : Cn) (N : List Str) : List E → Scope → Option Scope → List Expr → Bool
  | [], _, _, xs => xs.isEmpty
  | a :: es, sc, fb, xs => (match xs with
    | x :: xs => chkE cn N a sc fb x && chkA cn N es sc fb xs
    | [] => false)
def chkP (cn : Cn) (N : List Str) : List E → Scope → Option Scope → List (Option Expr) → List Expr → Bool
  | [], _, _, ks, vs => ks.isEmpty && vs.isEmpty
  | [_], _, _, _, _ => false
  | a :: b :: es, sc, fb, ks, vs => (match ks, vs with
    | some x :: ks, y :: vs => chkE cn N a sc fb x && chkE cn N b sc fb y && chkP cn N es sc fb ks vs
    | _, _ => false)
def chkO (cn : Cn) (N : List Str) : Option E → Scope → Option Scope → Option Expr → Bool
  | none, _, _, x => (match x with
    | none => true
    | some _ => false)
  | some a, sc, fb, x => (match x with
    | some x => chkE cn N a sc fb x
    | none => false)
/-- as a test -/
def chkT (cn : Cn) (N : List Str) : E → Scope → Option Scope → Expr → Bool
  | .o1 o a, sc, fb, e => (match e with
    | .UnaryOp .Not x _ => decide (o = .nt) && chkT cn N a sc fb x
    | .Compare x [op] [.Constant .none _ _] _ => ((decide (o = .isN) && decide (op = .Is)) || (decide (o = .niN) && decide (op = .IsNot))) && chkE cn N a sc fb x
    | .Call (.Name f p) [x, .Name y p2] [] pos => (match o with
      | .isin [t] => decide (f = "isinstance") && isB cn sc f && isB cn sc y && decide (tyS t = some y) && plainN y && chkE cn N a sc fb x && simpleE x
      | _ => false)
    | .Call (.Name f p) [x, .Tuple [.Name y p2, .Name z p3] k tp] [] pos => (match o with
      | .isin [t, u] => decide (f = "isinstance") && isB cn sc f && isB cn sc y && isB cn sc z && decide (tyS t = some y) && decide (tyS u = some z) && plainN y && plainN z && chkE cn N a sc fb x && simpleE x
      | _ => false)
    | .Call (.Name f p) [x] [] pos => isB cn sc f && decide (blt1 o = some f) && chkE cn N a sc fb x && simpleE x
    | _ => false)
  | .o2 o a b, sc, fb, e => (match e with
    | .Compare x [op] [y] _ => decide (cmpOf o = some op) && chkE cn N a sc fb x && chkE cn N b sc fb y && simpleE y
    | .Subscript x y _ => decide (o = .ix) && chkE cn N a sc fb x && chkE cn N b sc fb y && simpleE y
    | _ => false)
  | .chain o o' a b d, sc, fb, e => (match e with
    | .Compare x [op, op'] [y, z] _ => decide (cmpOf o = some op) && decide (cmpOf o' = some op') && chkE cn N a sc fb x && chkE cn N b sc fb y && simpleE y && chkE cn N d sc fb z && simpleE z
    | _ => false)
  | .an es, sc, fb, e => (match e with
    | .BoolOp .And xs _ => !es.isEmpty && chkTs cn N es sc fb xs
    | _ => false)
  | .orr es, sc, fb, e => (match e with
    | .BoolOp .Or xs _ => !es.isEmpty && chkTs cn N es sc fb xs
    | _ => false)
  | .var i, sc, _, e => (match e with
    | .Name x _ => decide (N[i]? = some x) && isVis sc x && plainN x
    | _ => false)
  | .c d, _, _, e => (match e with
    | .Constant k _ _ => decide (constOf d = some k)
    | _ => false)
  | .call _ f es, sc, fb, e => (match e with
    | .Call (.Name x _) xs [] _ => isGl sc x && plainN x && (cn.fns.any fun q => decide (q.1 = x) && decide (q.2.1 = f) && decide (q.2.2.1 = es.length)) && chkA cn N es sc fb xs && xs.all simpleE
    | _ => false)
  | _, _, _, _ => false
def chkTs (cn : Cn) (N : List Str) : List E → Scope → Option Scope → List Expr → Bool
  | [], _, _, xs => xs.isEmpty
  | a :: es, sc, fb, xs => (match xs with
    | x :: xs => chkT cn N a sc fb x && chkTs cn N es sc fb xs
    | [] => false)
/-- what is walked -/
def chkW (cn : Cn) (N : List Str) : List E → Nat → Scope → Option Scope → Expr → Bool
  | [], _, _, _, _ => false
  | a :: rest, k, sc, fb, e => (match k with
    | 0 => rest.isEmpty && chkE cn N a sc fb e
    | 1 => (match e with
      | .Call (.Name f _) (x :: xs) [] _ => decide (f = "range") && isB cn sc f && decide (rest.length ≤ 2) && chkE cn N a sc fb x && chkA cn N rest sc fb xs && (x :: xs).all simpleE
      | _ => false)
    | 2 => (match e with
      | .Call (.Name f _) [x] [] _ => decide (f = "enumerate") && isB cn sc f && rest.isEmpty && chkE cn N a sc fb x && simpleE x
      | _ => false)
    | 3 => (match e with
      | .Call (.Name f _) (x :: xs) [] _ => decide (f = "zip") && isB cn sc f && decide (rest.length = 1) && chkE cn N a sc fb x && chkA cn N rest sc fb xs && (x :: xs).all simpleE
      | _ => false)
    | 7 => (match e with
      | .Call (.Name f _) [x] [] _ => decide (f = "reversed") && isB cn sc f && rest.isEmpty && chkE cn N a sc fb x && simpleE x
      | _ => false)
    | _ => false)
end
end Dn
/-! Dn: raise, try. -/
namespace Dn
open PySem PySem.Spec PyProof.Rows L2
/-- the program's exceptions: class, names of the fields -/
abbrev Xt := Nat → Option (Addr × List Str)
/-- an exception in the air -/
def xrOf (K : PySem.W.Frag) (xt : Xt) (k : Nat) (fs : List PyData) (O : Off1) (H : Hp) (cls : Value) (dd : Option Addr) : Prop :=
  ∃ C ns dx ws, xt k = some (C, ns) ∧ cls = .ref C ∧ dd = some dx ∧ H dx = some (.xd (ns.zip ws).reverse) ∧ ws.length = ns.length ∧ FzA K O H ws fs
theorem xrOf_mono {K : PySem.W.Frag} {xt : Xt} {k : Nat} {fs : List PyData} {O O' : Off1} {H : Hp} {cls : Value} {dd : Option Addr} (h : ∀ b, O' b → O b) (x : xrOf K xt k fs O H cls dd) : xrOf K xt k fs O' H cls dd := by
  obtain ⟨C, ns, dx, ws, h1, h2, h3, h4, h5, h6⟩ := x
  exact ⟨C, ns, dx, ws, h1, h2, h3, h4, h5, FzA.mono ⟨fun b u e _ => e, fun b z => .inl (h b z)⟩ _ _ h6⟩
/-- what is asked of the classes -/
structure XtOk (K : PySem.W.Frag) (xt : Xt) : Prop where
  xf : ∀ k C ns, xt k = some (C, ns) → XfC K C
  no : ∀ k C ns, xt k = some (C, ns) → ∀ n ∈ ns, PySem.W.findIn K (.ref C) n = some none
  nd : ∀ k C ns, xt k = some (C, ns) → ns.Nodup
theorem zip_lookV : ∀ {ns : List Str} {ws : List V} {i : Nat} {x : Str} {u : V}, ns.Nodup → ns[i]? = some x → ws[i]? = some u → (ns.zip ws).reverse.lookup x = some u
  | [], _, _, _, _, _, h, _ => by simp at h
  | _ :: _, [], _, _, _, _, _, h => by simp at h
  | p :: ps, v :: us, 0, x, u, nd, h1, h2 => by
    simp at h1 h2
    subst h1
    subst h2
    have hn : (ps.zip us).reverse.lookup p = none := by
      cases e : (ps.zip us).reverse.lookup p with
      | none => rfl
      | some w => exact absurd (List.of_mem_zip (List.mem_reverse.mp (PySem.mem_of_lookup e))).1 (List.nodup_cons.mp nd).1
    rw [List.zip_cons_cons, List.reverse_cons, List.lookup_append, hn]
    simp [List.lookup]
  | p :: ps, v :: us, i + 1, x, u, nd, h1, h2 => by
    have e : (ps.zip us).reverse.lookup x = some u := zip_lookV (i := i) (List.nodup_cons.mp nd).2 (by simpa using h1) (by simpa using h2)
    rw [List.zip_cons_cons, List.reverse_cons, List.lookup_append, e] <;> rfl
/-! ### an except suite: return of written things and fields -/
theorem cst_pe {X : Cx} {d : PyData} {k : Const} (h : Dn.constOf d = some k) {j : Nat} {pos : Pos} : ∃ v, PE X (.Constant k j pos) (tC v) ∧ ∀ O H, Fz X.K O H v d := by
  unfold Dn.constOf at h
  split at h
  · cases h; exact ⟨_, pe_non, fun _ _ => .non⟩
  · cases h; exact ⟨_, pe_bl, fun _ _ => .bl _⟩
  · cases h; exact ⟨_, pe_int, fun _ _ => .int _⟩
  · split at h
    · rename_i hh
      cases h
      rw [Bool.and_eq_true] at hh
      exact ⟨_, pe_str, fun _ _ => .str _ ⟨hh.1, of_decide_eq_true hh.2⟩⟩
    · cases h
  · cases h
/-- the error's name (at its slot), its classes' fields -/
def chkRc (d : PyData) : Expr → Bool
  | .Constant k _ _ => decide (Dn.constOf d = some k)
  | _ => false
def chkRf (nm : Nat → List Str) (cs : List Nat) (n : Option Str) (j : Nat) : Expr → Bool
  | .Attribute (.Name y _) f _ => decide (n = some y) && cs.all fun k => decide ((nm k)[j]? = some f)
  | _ => false
def chkRi (nm : Nat → List Str) (cs : List Nat) (n : Option Str) (r : Ri) (e : Expr) : Bool := match r with
  | .c d => chkRc d e
  | .f j => chkRf nm cs n j e
def chkRis (nm : Nat → List Str) (cs : List Nat) (n : Option Str) : List Ri → List Expr → Bool
  | [], [] => true
  | r :: rs, e :: es => chkRi nm cs n r e && chkRis nm cs n rs es
  | _, _ => false
def chkRx (nm : Nat → List Str) (cs : List Nat) (n : Option Str) : Rx → Expr → Bool
  | .c d, e => chkRi nm cs n (.c d) e
  | .t its, e => (match e with
    | .Tuple es _ _ => chkRis nm cs n its es
    | _ => false)
section
variable {X : Cx} {a C dx : Addr} {oe : Obj} {pn : List (Addr × Obj)} {ns : List Str} {ws : List V} {fs : List PyData} {O : Off1} {n : Option Str} {i : Nat} {nm : Nat → List Str} {cs : List Nat} {k : Nat}
/-- what stands behind an exception's name -/
def SuP (K : PySem.W.Frag) (a dx : Addr) (ns : List Str) (ws : List V) (fs : List PyData) (O : Off1) (n : Option Str) (i : Nat) (σ : L2.St) (H : Hp) : Prop := H dx = some (.xd (ns.zip ws).reverse) ∧ (n ≠ none → σ[i]? = some (some (.ref a))) ∧ FzA K O H ws fs
theorem ri_ok (T : XfC X.K C) (hno : ∀ n ∈ ns, PySem.W.findIn X.K (.ref C) n = some none) (nd : ns.Nodup) (hz : Zc (.ref C) (some dx) oe) (hf : ∃ vs, oe.data = .fields vs) (hk : cs.contains k = true) (hnm : nm k = ns)
    (hn : ∀ y, n = some y → X.N[i]? = some y ∧ Vis X.env.scope y ∧ (y == ("__debug__" : Str)) = false ∧ (y == ("__classdict__" : Str)) = false) : ∀ {r : Ri} {e : Expr}, chkRi nm cs n r e = true →
    PE (X.suite a ((a, oe) :: pn)) e (fun σ H Q => SuP X.K a dx ns ws fs O n i σ H ∧ ∃ d, r.val fs = some d ∧ ∀ v, Fz X.K O H v d → Q v H)
  | .c d, e, h => by
    have h : chkRc d e = true := h
    cases e with
    | Constant k j pos =>
      obtain ⟨v, h1, h2⟩ := cst_pe (X := X.suite a ((a, oe) :: pn)) (of_decide_eq_true h)
      refine PE.imp h1 fun σ H Q q => ?_
      obtain ⟨_, d', e, q⟩ := q
      cases e
      exact q v (h2 _ _)
    | _ => cases h
  | .f j, e, h => by
    have h : chkRf nm cs n j e = true := h
    cases e with
    | Attribute e0 f p2 =>
      cases e0 with
      | Name y p =>
        have h : (decide (n = some y) && cs.all fun k => decide ((nm k)[j]? = some f)) = true := h
        rw [Bool.and_eq_true, decide_eq_true_eq, List.all_eq_true] at h
        obtain ⟨h1, h2⟩ := h
        obtain ⟨n1, n2, n3, n4⟩ := hn y h1
        have hj := of_decide_eq_true (h2 k (by simpa using hk))
        rw [hnm] at hj
        have hv : PE (X.suite a ((a, oe) :: pn)) (.Name y p) (tVar i) := pe_var (X := X.suite a ((a, oe) :: pn)) n1 n2 n3 n4
        refine PE.imp (pe_xf T (hno f (List.mem_of_getElem? hj)) hz hf hv) fun σ H Q q => ?_
        obtain ⟨⟨q1, q2, q3⟩, d, e, q⟩ := q
        obtain ⟨v, hv, fv⟩ := q3.get e
        exact ⟨.ref a, q2 (by rw [h1]; simp), rfl, rfl, dx, _, v, rfl, q1, zip_lookV nd hj hv, q v fv⟩
      | _ => cases h
    | _ => cases h
theorem ris_ok (T : XfC X.K C) (hno : ∀ n ∈ ns, PySem.W.findIn X.K (.ref C) n = some none) (nd : ns.Nodup) (hz : Zc (.ref C) (some dx) oe) (hf : ∃ vs, oe.data = .fields vs) (hk : cs.contains k = true) (hnm : nm k = ns)
    (hn : ∀ y, n = some y → X.N[i]? = some y ∧ Vis X.env.scope y ∧ (y == ("__debug__" : Str)) = false ∧ (y == ("__classdict__" : Str)) = false) : ∀ {rs : List Ri} {es : List Expr}, chkRis nm cs n rs es = true →
    PA (X.suite a ((a, oe) :: pn)) es (fun σ H Q => SuP X.K a dx ns ws fs O n i σ H ∧ ∃ ds, rs.mapM (Ri.val fs) = some ds ∧ ∀ vs, FzA X.K O H vs ds → Q vs H)
  | [], [], _ => by
    refine PA.imp pa_nil fun σ H Q q => ?_
    obtain ⟨_, ds, e, q⟩ := q
    cases e
    exact q [] .nil
  | [], _ :: _, h => by cases h
  | _ :: _, [], h => by cases h
  | r :: rs, e :: es, h => by
    simp only [chkRis, Bool.and_eq_true] at h
    have he : starEach (e :: es) X.env = (false, eval e X.env) :: starEach es X.env := by
      have h1 := h.1
      cases r with
      | c d =>
        have h1 : chkRc d e = true := h1
        cases e <;> first | rfl | (cases h1)
      | f j =>
        have h1 : chkRf nm cs n j e = true := h1
        cases e <;> first | rfl | (cases h1)
    refine PA.imp (pa_cons (ri_ok (ws := ws) (fs := fs) (O := O) T hno nd hz hf hk hnm hn h.1) (ris_ok T hno nd hz hf hk hnm hn h.2) he) fun σ H Q q => ?_
    obtain ⟨q0, ds, e, q⟩ := q
    rw [List.mapM_cons] at e
    obtain ⟨d, e1, e⟩ := Option.bind_eq_some_iff.mp e
    obtain ⟨ds', e2, e⟩ := Option.bind_eq_some_iff.mp e
    cases e
    exact ⟨q0, d, e1, fun v fv => ⟨q0, ds', e2, fun vs fvs => q _ (.cons fv fvs)⟩⟩
/-- the suite's end: a clause's wish -/
def tsR (K : PySem.W.Frag) (xt : Xt) (h : Hd) (n : Option Str) (i : Nat) : Ts := fun a cls d D σ H => ∃ k C ns dx ws fs G L st v0, h.cs.contains k = true ∧ xt k = some (C, ns) ∧ cls = .ref C ∧ d = some dx ∧ SuP K a dx ns ws fs (Off G L) n i σ H ∧ Rl K G L st H ∧ h.res.val fs = some v0 ∧
  ∀ v H', Po L H L H' → Rl K G L st H' → Fz K (Off G L) H' v v0 → D.rt v H'
theorem su_ok {xt : Xt} {h : Hd} {e : Expr} {pos : Pos} (ok : XtOk X.K xt) (hnm : ∀ k C ns, xt k = some (C, ns) → nm k = ns) (hn : ∀ y, n = some y → X.N[i]? = some y ∧ Vis X.env.scope y ∧ (y == ("__debug__" : Str)) = false ∧ (y == ("__classdict__" : Str)) = false)
    (hc : chkRx nm h.cs n h.res e = true) : SuOk X [.Return (some e) pos] (tsR X.K xt h n i) := by
  intro a oe cls d pn hz hf
  refine ⟨fun pins s σ H D I q => ?_⟩
  obtain ⟨k, C, ns, dx, ws, fs, G, L, st, v0, hk, hx, rfl, rfl, hp, rl, hv, q⟩ := q
  have T := ok.xf k C ns hx
  have hno := ok.no k C ns hx
  have nd := ok.nd k C ns hx
  have hm := hnm k C ns hx
  obtain ⟨cs, slot, res⟩ := h
  dsimp only at hc hk hv
  cases res with
  | c d =>
    have := ri_ok (X := X) (a := a) (pn := pn) (ws := ws) (fs := fs) (O := Off G L) T hno nd hz hf hk hm hn (r := .c d) hc
    refine (pss_one (ps_ret this)).run pins s σ H D I ?_
    exact ⟨hp, d, rfl, fun v fv => q v H .refl rl (by cases hv; exact fv)⟩
  | t its =>
    unfold chkRx at hc
    dsimp only at hc
    split at hc
    · have := ris_ok (X := X) (a := a) (pn := pn) (ws := ws) (fs := fs) (O := Off G L) T hno nd hz hf hk hm hn hc
      refine (pss_one (ps_ret (pe_tupF this))).run pins s σ H D I ?_
      obtain ⟨ds, e1, e2⟩ := Option.bind_eq_some_iff.mp hv
      split at e2
      · rename_i hl
        cases e2
        refine ⟨hp, ds, e1, fun vs fvs => ⟨by rw [fvs.len, sizeLine_eq]; omega, fun p o ho hpn => ?_⟩⟩
        exact q _ _ (Po.new1 rl hpn) (rl.new1 hpn) (Fz.tup (.inl ⟨o, upd_same, ho, rl.none hpn⟩) (FzA.mono (Po.new1 rl hpn).keep _ _ fvs))
      · cases e2
    · cases hc
end
def Wc.wr (c : Wc) (W : WX) : Wc := ⟨W, c.xr, c.xm⟩
/-- a class that is raised: number k, fields ns -/
structure ExK (X : Cx) (xt : Xt) (x : Str) (k : Nat) (ns : List Str) : Prop where
  ex : ∃ (C fI : Addr) (fd : FuncData) (j : Nat), xt k = some (C, ns) ∧ OexC X.K C ∧ PySem.W.findIn X.K (.ref C) "__init__" = some (some (.ref fI)) ∧ PySem.W.typeIn X.K (.ref fI) = some (.type "function") ∧
    FnOk X.prog X.w X.K X.mg X.base (L2.CX X.prog X.w) j fI fd (("self" : Str) :: ns) (spI C ns) ∧ Room (j + 1) X.A ∧ Binds X.K fd (("self" : Str) :: ns) [] ∧ X.mg x = some (.ref C) ∧ ns.length ≤ 1000
section
variable {X : Cx} {c : Wc} {vs : List Nat} {xt : Xt} {x : Str} {k : Nat} {ns : List Str} {e : Expr} {es : List Expr} {rs : Sl → Store → Res (List D)} {p pos pos' : Pos}
theorem s_raise (hx : c.xr = xrOf X.K xt) (E : ExK X xt x k ns) (hc : X.calm = true) (tk : Takes X c.W) (hg : Gl X x) (hdb : (x == ("__debug__" : Str)) = false) (ha : SA X c (e :: es) rs) (hlen : ∀ env st ds st', rs env st = .ok ds st' → ds.length = ns.length)
    (he : starEach (e :: es) X.env = (false, eval e X.env) :: starEach es X.env) (hpl : (backTo pos (starEach es X.env)).any (·.1) = false) :
    SS X c vs (.Raise (some (.Call (.Name x p) (e :: es) [] pos)) none pos') (fun env st => (rs env st).bind fun ds st => match allP ds with
    | some fs => .ex k fs st
    | none => .bad) := by
  obtain ⟨C, fI, fd, j, hxt, T, iC, tI, F1, hr, hb, hm, hn⟩ := E.ex
  refine PS.imp (ps_raise hc tk (pmk_oex T iC tI F1 hr hb .nil (passes_call tk fun _ _ _ _ z => z.elim) hg hm ha hdb he hpl)) fun D σ H h => ?_
  obtain ⟨G, L, st, env, rl, re, q⟩ := h
  have eq : ((rs env st).bind fun ds st => match allP ds with
    | some fs => (.ex k fs st : SR)
    | none => .bad) = (rs env st).bind fun ds st => if ds.length = ns.length then (match allP ds with
    | some fs => (.ex k fs st : SR)
    | none => .bad) else .bad := by
    cases e : rs env st with
    | ok ds st1 => simp only [Res.bind_ok, if_pos (hlen _ _ _ _ e)]
    | ex _ _ _ => rfl
    | bad => rfl
  change AftS X.K c G L H σ vs ((rs env st).bind _) D at q
  rw [eq] at q
  refine ⟨G, L, st, env, rl, re, (q.bindE (RDs X.K G)).mono fun us H1 ⟨L1, st1, ds, po1, rl1, hd, q1⟩ => ?_⟩
  split at q1
  · rename_i hl
    cases ep : allP ds with
    | none => rw [ep] at q1; exact q1.elim
    | some fs =>
      rw [ep] at q1
      have f := allP_rel hd ep
      have hul : us.length = ns.length := by rw [Paired.length hd, hl]
      refine ⟨by omega, fun a hna => ⟨a, us, by rw [List.append_nil], hul, upd_same, fun dx hdx hne => ?_⟩⟩
      rw [upd_ne hne] at hdx
      have hH : upd (del (upd (upd (upd H1 a (exo a C none)) dx (exd dx (ns.zip us).reverse)) a (exo a C (some dx))) a) dx (.xd (ns.zip us).reverse) = upd H1 dx (.xd (ns.zip us).reverse) := by
        funext b
        by_cases hb : b = dx
        · rw [hb, upd_same, upd_same]
        · rw [upd_ne hb, upd_ne hb]
          by_cases hb2 : b = a
          · rw [hb2, del_same, hna]
          · rw [del_ne hb2, upd_ne hb2, upd_ne hb, upd_ne hb2]
      refine ⟨rfl, dx, (ns.zip us).reverse, upd_same, by rw [upd_ne hne, upd_same], hdx, ?_⟩
      rw [hH]
      refine q1 (.ref C) (some dx) σ L1 _ (Po.new1 rl1 hdx) (rl1.new1 hdx) ?_ rfl
      rw [hx]
      exact ⟨C, ns, dx, us, hxt, rfl, rfl, upd_same, hul, FzA.mono (Po.new1 rl1 hdx).keep _ _ f⟩
  · exact q1.elim
/-- our clauses, theirs -/
inductive HdR (X : Cx) (xt : Xt) : List Hd → List (Value × Ts) → Prop
  | nil : HdR X xt [] []
  | bare {h : Hd} {hs : List Hd} {cv : Value} {l : List (Value × Ts)} (hm : ∀ k C ns, xt k = some (C, ns) → PySem.W.exmOne X.K (.ref C) cv = some (h.cs.contains k)) (hsl : h.slot = none) (r : HdR X xt hs l) : HdR X xt (h :: hs) ((cv, tsR X.K xt h none 0) :: l)
  | named {h : Hd} {hs : List Hd} {cv : Value} {n : Str} {i : Nat} {l : List (Value × Ts)} (hm : ∀ k C ns, xt k = some (C, ns) → PySem.W.exmOne X.K (.ref C) cv = some (h.cs.contains k)) (hsl : h.slot = some i) (r : HdR X xt hs l) : HdR X xt (h :: hs) ((cv, tsAs i (tsR X.K xt h (some n) i)) :: l)
theorem wipe_len2 {σ σ' : Sg} {vs : List Nat} (h : wipe σ' vs = wipe σ vs) : σ'.length = σ.length := by
  have := congrArg List.length h
  rwa [wipe_length, wipe_length] at this
theorem try_w (hx : c.xr = xrOf X.K xt) {G : Off1} {L : Lc} {H : Hp} {σ : Sg} {st' : Store} {env : Sl} {k : Nat} {fs : List PyData} {D : Ends} (hel : env.length = σ.length) : ∀ {hs : List Hd} {l : List (Value × Ts)}, HdR X xt hs l → AftS X.K c G L H σ vs (tryR hs (.ex k fs st') env) D →
    ∀ cls dd σ' L' H', Po L H L' H' → Rl X.K G L' st' H' → xrOf X.K xt k fs (Off G L') H' cls dd → wipe σ' vs = wipe σ vs → wMany X.K c.W D l cls dd σ' H' := by
  intro hs l hk
  induction hk with
  | nil =>
    intro q cls dd σ' L' H' po rl x w
    exact q cls dd σ' L' H' po rl (by rw [hx]; exact x) w
  | @bare h hs cv l hm hsl r ih =>
    intro q cls dd σ' L' H' po rl x w
    obtain ⟨C, ns, dx, ws, h1, h2, h3, h4, h5, h6⟩ := id x
    refine ⟨_, by rw [h2]; exact hm k C ns h1, fun hb a hna => ?_, fun hb => ?_⟩
    · have e : tryR (h :: hs) (.ex k fs st') env = (match h.res.val fs with
        | some d => if h.fits env then .ok (.rt (.p d), env.map fun _ => none) st' else .bad
        | none => .bad) := by
        unfold tryR
        dsimp only
        rw [List.find?_cons_of_pos (p := fun h : Hd => h.cs.contains k) hb]
        all_goals rfl
      rw [e] at q
      cases ev : h.res.val fs with
      | none => rw [ev] at q; exact q.elim
      | some v0 =>
        rw [ev] at q
        dsimp only at q
        split at q
        · refine ⟨k, C, ns, dx, ws, fs, G, L', st', v0, hb, h1, h2, h3, ⟨h4, fun z => absurd rfl z, h6⟩, rl, ev, fun v H'' po2 rl2 fv => ?_⟩
          refine q σ' L' H'' (po.trans po2) rl2 ⟨by rw [List.length_map, hel, wipe_len2 w], fun j d ej => ?_⟩ w v fv
          rw [List.getElem?_map] at ej
          cases en : env[j]? <;> rw [en] at ej <;> cases ej
        · exact q.elim
    · have e : tryR (h :: hs) (.ex k fs st') env = tryR hs (.ex k fs st') env := by
        unfold tryR
        dsimp only
        rw [List.find?_cons_of_neg (p := fun h : Hd => h.cs.contains k) (by rw [hb]; decide)]
      rw [e] at q
      exact ih q cls dd σ' L' H' po rl x w
  | @named h hs cv n i l hm hsl r ih =>
    intro q cls dd σ' L' H' po rl x w
    obtain ⟨C, ns, dx, ws, h1, h2, h3, h4, h5, h6⟩ := id x
    refine ⟨_, by rw [h2]; exact hm k C ns h1, fun hb a hna => ?_, fun hb => ?_⟩
    · have e : tryR (h :: hs) (.ex k fs st') env = (match h.res.val fs with
        | some d => if h.fits env then .ok (.rt (.p d), env.map fun _ => none) st' else .bad
        | none => .bad) := by
        unfold tryR
        dsimp only
        rw [List.find?_cons_of_pos (p := fun h : Hd => h.cs.contains k) hb]
        all_goals rfl
      rw [e] at q
      cases ev : h.res.val fs with
      | none => rw [ev] at q; exact q.elim
      | some v0 =>
        rw [ev] at q
        dsimp only at q
        split at q
        · rename_i hfit
          have hi : i < σ'.length := by
            unfold Hd.fits at hfit
            rw [hsl] at hfit
            have := of_decide_eq_true hfit
            rw [wipe_len2 w, ← hel]
            exact this
          refine ⟨k, C, ns, dx, ws, fs, G, L', st', v0, hb, h1, h2, h3, ⟨h4, fun _ => List.getElem?_set_self hi, h6⟩, rl, ev, fun v H'' po2 rl2 fv => ?_⟩
          refine q σ' L' H'' (po.trans po2) rl2 ⟨by rw [List.length_map, hel, wipe_len2 w], fun j d ej => ?_⟩ w v fv
          rw [List.getElem?_map] at ej
          cases en : env[j]? <;> rw [en] at ej <;> cases ej
        · exact q.elim
    · have e : tryR (h :: hs) (.ex k fs st') env = tryR hs (.ex k fs st') env := by
        unfold tryR
        dsimp only
        rw [List.find?_cons_of_neg (p := fun h : Hd => h.cs.contains k) (by rw [hb]; decide)]
      rw [e] at q
      exact ih q cls dd σ' L' H' po rl x w
theorem s_try (hx : c.xr = xrOf X.K xt) {body : List Stmt} {rb : Sl → Store → SR} {h₀ : ExceptHandler} {hds : List ExceptHandler} {hs : List Hd} {l : List (Value × Ts)} (hst : X.stack = X.env :: X.outer) (hf : X.env.frame = some X.env.locals) (hN : X.N.Nodup) (tk : Takes X c.W)
    (hb : ∀ (W : WX) (pn : List (Addr × Obj)) (xe : Value → Shared → Prop), Takes (X.tr pn xe) W → PassesOwn (model X.prog X.w) X.A X.env xe → SB (X.tr pn xe) (c.wr W) vs body rb)
    (hh : Hs X (h₀ :: hds) l) (hr : HdR X xt hs l) : SS X c vs (.Try body (h₀ :: hds) [] [] pos) (fun env st => tryR hs (rb env st) env) := by
  refine PS.imp (ps_try_hs (Wout := c.W) (tb := fun W => tS X.K (c.wr W) vs rb) hst hf hN tk hb hh) fun D σ H h => ?_
  obtain ⟨G, L, st, env, rl, re, q⟩ := h
  refine ⟨G, L, st, env, rl, re, ?_⟩
  dsimp only at q
  cases e : rb env st with
  | ok a st' => rw [e] at q; exact q
  | bad => rw [e] at q; exact q.elim
  | ex k fs st' =>
    rw [e] at q
    intro cls dd σ' L' H' po rl' x w
    have x' : c.xr k fs (Off G L') H' cls dd := x
    rw [hx] at x'
    exact try_w hx re.len hr q cls dd σ' L' H' po rl' x' w
end
end Dn
/-! Dn: what is checked is so. -/
namespace Dn
open PySem PySem.Spec PyProof.Rows L2
/-- what is known of the program's exceptions -/
structure ExG (cn : Cn) (X : Cx) (c : Wc) : Prop where
  ex : ∃ xt : Xt, c.xr = xrOf X.K xt ∧ XtOk X.K xt ∧ (∀ q ∈ cn.exs, ExK X xt q.1 q.2.1 q.2.2) ∧ (∀ k C ns, xt k = some (C, ns) → cn.nm k = ns) ∧
    ∀ q ∈ cn.hnd, ∃ cv, (X.mg q.1 = some cv ∨ (X.mg q.1 = none ∧ bootBuiltins q.1 = some cv ∧ q.1 ≠ "__name__")) ∧ ∀ k C ns, xt k = some (C, ns) → PySem.W.exmOne X.K (.ref C) cv = some (q.2.contains k)
structure Gx (cn : Cn) (N : List Str) (Φ : Calls) (X : Cx) (c : Wc) (sc : Scope) (fb : Option Scope) : Prop where
  hN : X.N = N
  nd : N.Nodup
  hsc : X.env.scope = sc
  kind : sc.kind = .function
  fn : ∀ x, fnOk fb x = true → X.fn x = true
  calm : X.calm = true
  un : X.A.units + 150 < cLine
  tk : Takes X c.W
  fns : ∀ q ∈ cn.fns, FnX X c Φ q.2.1 q.2.2.1 q.2.2.2 q.1
  blt : ∀ x ∈ cn.blt, X.mg x = none
  cst : ∀ q ∈ cn.cst, ∃ v u, X.mg q.1 = some u ∧ RelV v u ∧ ∀ O H, Fz X.K O H v q.2
  exs : ExG cn X c
  stk : fb = none → X.stack = X.env :: X.outer ∧ X.env.frame = some X.env.locals
section
variable {cn : Cn} {N : List Str} {Φ : Calls} {X : Cx} {c : Wc} {sc : Scope} {fb : Option Scope}
theorem vis_of {x : Str} (h : isVis sc x = true) : Vis sc x := by
  unfold isVis at h
  unfold Vis
  split at h <;> first | (rename_i e; rw [e]; simp; done) | cases h
theorem loc_of {x : Str} (h : isLoc sc x = true) : L2.Loc sc x := by
  unfold isLoc at h
  unfold L2.Loc
  split at h <;> first | (rename_i e; rw [e]; simp; done) | cases h
theorem plain_of {x : Str} (h : plainN x = true) : (x == ("__debug__" : Str)) = false ∧ (x == ("__classdict__" : Str)) = false ∧ x ≠ "__name__" := by
  unfold plainN at h
  simp only [Bool.and_eq_true, Bool.not_eq_true'] at h
  exact ⟨h.1.1, h.1.2, fun e => by rw [e] at h; exact absurd h.2 (by decide)⟩
theorem Gx.gl (g : Gx cn N Φ X c sc fb) {x : Str} (h : isGl sc x = true) : Gl X x := by
  unfold Gl Env.kindOf
  rw [g.hsc]
  exact of_decide_eq_true h
theorem Gx.isB (g : Gx cn N Φ X c sc fb) {x : Str} (h : Dn.isB cn sc x = true) : Gl X x ∧ X.mg x = none := by
  unfold Dn.isB at h
  rw [Bool.and_eq_true] at h
  exact ⟨g.gl h.1, g.blt x (by simpa using h.2)⟩
theorem bin_any {o : O2} {op : Operator} (h : opOf o = some op) : OpR X (binaryOp op) (rD X.K (op2 o)) ∧ ∀ x st, pre o x st = true := by
  cases o <;> first | (cases h; done) | skip
  all_goals (cases h; refine ⟨?_, fun _ _ => rfl⟩)
  · exact o_add
  · exact o_sub
  · exact o_mul
  · exact o_mod
  · exact o_fdv
  · exact o_pow
  · exact o_shl
  · exact o_band
  · exact o_shr
theorem cmp_any (hu : X.A.units + 150 < cLine) {o : O2} {op : CmpOp} (h : cmpOf o = some op) : OpR X (compareOp op) (rD X.K (op2 o)) ∧ ∀ x st, pre o x st = true := by
  cases o <;> first | (cases h; done) | skip
  all_goals (cases h; refine ⟨?_, fun _ _ => rfl⟩)
  · exact o_eq (by omega)
  · exact o_ne (by omega)
  · exact o_lt
  · exact o_le
  · exact o_gt
  · exact o_ge
  · exact o_in (by omega)
  · exact o_nin (by omega)
theorem const_ok {d : PyData} {k : Const} (h : constOf d = some k) {j : Nat} {pos : Pos} : SE X c (.Constant k j pos) (fun _ st => .ok (.p d) st) := by
  unfold constOf at h
  split at h
  · cases h; exact e_cst pe_non fun _ _ => .non
  · cases h; exact e_cst pe_bl fun _ _ => .bl _
  · cases h; exact e_cst pe_int fun _ _ => .int _
  · split at h
    · rename_i hh
      cases h
      rw [Bool.and_eq_true] at hh
      exact e_cst pe_str fun _ _ => .str _ ⟨hh.1, of_decide_eq_true hh.2⟩
    · cases h
  · cases h
theorem evs_len {es : List E} : ∀ {env : Sl} {st st' : Store} {ds : List D}, evs Φ es env st = .ok ds st' → ds.length = es.length := by
  induction es with
  | nil => intro env st st' ds h; cases h; rfl
  | cons e es ih =>
    intro env st st' ds h
    unfold evs at h
    cases e1 : ev Φ e env st with
    | bad => rw [e1] at h; cases h
    | ex k fs s => rw [e1] at h; cases h
    | ok d s =>
      rw [e1] at h
      simp only [Res.bind_ok] at h
      cases e2 : evs Φ es env s with
      | bad => rw [e2] at h; cases h
      | ex k fs s => rw [e2] at h; cases h
      | ok r s2 =>
        rw [e2] at h
        simp only [Res.bind_ok] at h
        cases h
        simp [ih e2]
theorem evs_app {es fs : List E} : ∀ {env : Sl} {st : Store}, evs Φ (es ++ fs) env st = (evs Φ es env st).bind fun ds st => (evs Φ fs env st).bind fun gs st => .ok (ds ++ gs) st := by
  induction es with
  | nil =>
    intro env st
    show evs Φ fs env st = (evs Φ fs env st).bind fun gs st => .ok gs st
    cases evs Φ fs env st <;> rfl
  | cons e es ih =>
    intro env st
    show (ev Φ e env st).bind _ = Res.bind ((ev Φ e env st).bind _) _
    rw [res_assoc]
    cases ev Φ e env st with
    | bad => rfl
    | ex k fs s => rfl
    | ok d s =>
      simp only [Res.bind_ok]
      rw [show es.append fs = es ++ fs from rfl, ih, res_assoc, res_assoc]
      cases evs Φ es env s with
      | bad => rfl
      | ex k fs s => rfl
      | ok d s =>
        simp only [Res.bind_ok]
        rw [res_assoc]
        cases evs Φ fs env s <;> rfl
theorem SE.to {e : Expr} {r r' : Sl → Store → Res D} (h : SE X c e r) (he : r = r') : SE X c e r' := he ▸ h
theorem tT_yes {σ : Sg} {H : Hp} {Q : Bool → Hp → Prop} {K : PySem.W.Frag} (h : tT K c (fun _ st => .ok (bz true) st) σ H Q) : Q true H := by
  obtain ⟨G, L, st, env, rl, re, q⟩ := h
  exact q true L H .refl rl rfl
theorem Gx.no (g : Gx cn N Φ X c sc fb) : Gx cn N Φ X c.no sc fb where
  hN := g.hN
  nd := g.nd
  hsc := g.hsc
  kind := g.kind
  fn := g.fn
  calm := g.calm
  un := g.un
  tk := fun u s' ⟨_, _, _, _, _, _, _, _, _, _, _, _, _, _, _, _, w⟩ => w.elim
  fns := fun q hq => ⟨by
    obtain ⟨fa, fd, ps, k, h⟩ := (g.fns q hq).ex
    exact ⟨fa, fd, ps, k, h⟩⟩
  blt := g.blt
  cst := g.cst
  exs := ⟨by
    obtain ⟨xt, h1, h2, h3, h4⟩ := g.exs.ex
    exact ⟨xt, h1, h2, fun q hq => ⟨(h3 q hq).ex⟩, h4⟩⟩
  stk := g.stk
/-- blocks -/
theorem Gx.blk (g : Gx cn N Φ X c sc fb) {scope : Scope} (hk : scope.kind = .function) (s : Shared) (H : Hp) (C : Addr) (cl : List (Str × Addr)) (fp : List Addr) : Gx cn N Φ (X.blk s H scope (compEnvC scope cl C X.env) fp) c.no (relS scope sc) (some scope) where
  hN := g.hN
  nd := g.nd
  hsc := by rw [← g.hsc]; rfl
  kind := hk
  fn := fun x h => h
  calm := g.calm
  un := g.un
  tk := fun u s' ⟨_, _, _, _, _, _, _, _, _, _, _, _, _, _, _, _, w⟩ => w
  fns := fun q hq => ⟨by
    obtain ⟨fa, fd, ps, k, h⟩ := (g.fns q hq).ex
    exact ⟨fa, fd, ps, k, h⟩⟩
  blt := g.blt
  cst := g.cst
  exs := ⟨by
    obtain ⟨xt, h1, h2, h3, h4⟩ := g.exs.ex
    exact ⟨xt, h1, h2, fun q hq => ⟨(h3 q hq).ex⟩, h4⟩⟩
  stk := fun e => by cases e
/-- a try's body -/
theorem Gx.tr {cn : Cn} {N : List Str} {Φ : Calls} {X : Cx} {c : Wc} {sc : Scope} (g : Gx cn N Φ X c sc none) {W : WX} {pn : List (Addr × Obj)} {xe : Value → Shared → Prop} (tk : Takes (X.tr pn xe) W) : Gx cn N Φ (X.tr pn xe) (c.wr W) sc none where
  hN := g.hN
  nd := g.nd
  hsc := g.hsc
  kind := g.kind
  fn := g.fn
  calm := g.calm
  un := g.un
  tk := tk
  fns := fun q hq => ⟨by
    obtain ⟨fa, fd, ps, k, h⟩ := (g.fns q hq).ex
    exact ⟨fa, fd, ps, k, h⟩⟩
  blt := g.blt
  cst := g.cst
  exs := ⟨by
    obtain ⟨xt, h1, h2, h3, h4⟩ := g.exs.ex
    exact ⟨xt, h1, h2, fun q hq => ⟨(h3 q hq).ex⟩, h4⟩⟩
  stk := g.stk
end
end Dn
namespace Dn
open PySem PySem.Spec PyProof.Rows L2
section
variable {cn : Cn} {N : List Str} {Φ : Calls} {X : Cx} {c : Wc} {sc : Scope} {fb : Option Scope} {x y z : Expr} {ra rb rd : Sl → Store → Res D} {pos p ap cp p2 : Pos} {f m : Str}
theorem o1_blt (hc : X.calm = true) (hu : X.A.units + 150 < cLine) {o : O1} (hb : blt1 o = some f) (hB : Gl X f ∧ X.mg f = none) (ha : SE X c x ra) (sx : simpleE x = true) : SE X c (.Call (.Name f p) [x] [] pos) (fun env st => (ra env st).bind fun x st => (op1 o x st).nox) := by
  cases o <;> first | (cases hb; done) | skip
  all_goals cases hb
  · exact e_blt1 c_len hB.1 hB.2 (by decide +kernel) (by decide) (by decide) ha sx
  · exact e_blt1 c_abs hB.1 hB.2 (by decide +kernel) (by decide) (by decide) ha sx
  · exact e_blt1 (c_all hc) hB.1 hB.2 (by decide +kernel) (by decide) (by decide) ha sx
  · exact e_blt1 (c_any hc) hB.1 hB.2 (by decide +kernel) (by decide) (by decide) ha sx
  · exact e_blt1 (c_sum hc) hB.1 hB.2 (by decide +kernel) (by decide) (by decide) ha sx
  · exact e_blt1 (c_srt (by omega)) hB.1 hB.2 (by decide +kernel) (by decide) (by decide) ha sx
  · exact e_blt1 (c_mn hc) hB.1 hB.2 (by decide +kernel) (by decide) (by decide) ha sx
  · exact e_blt1 (c_mx hc) hB.1 hB.2 (by decide +kernel) (by decide) (by decide) ha sx
theorem o1_ty {o : O1} (hb : ty1 o = some f) (hB : Gl X f ∧ X.mg f = none) (ha : SE X c x ra) (sx : simpleE x = true) : SE X c (.Call (.Name f p) [x] [] pos) (fun env st => (ra env st).bind fun x st => (op1 o x st).nox) := by
  cases o <;> first | (cases hb; done) | skip
  all_goals cases hb
  · exact e_ty1 c_int hB.1 hB.2 (by decide +kernel) (by decide) (by decide) ha sx
  · exact e_ty1 c_tup hB.1 hB.2 (by decide +kernel) (by decide) (by decide) ha sx
  · exact e_ty1 (c_lst _) hB.1 hB.2 (by decide +kernel) (by decide) (by decide) ha sx
  · exact e_ty1 c_str hB.1 hB.2 (by decide +kernel) (by decide) (by decide) ha sx
theorem type_list_reverse : typeOf (.builtin "list.reverse") = pure (.type "method_descriptor") := by show builtinType _ = _; rw [builtinType_eq_fast]; kernel_rfl
theorem type_list_extend : typeOf (.builtin "list.extend") = pure (.type "method_descriptor") := by show builtinType _ = _; rw [builtinType_eq_fast]; kernel_rfl
theorem type_list_insert : typeOf (.builtin "list.insert") = pure (.type "method_descriptor") := by show builtinType _ = _; rw [builtinType_eq_fast]; kernel_rfl
theorem isLst_no {o : O1} (ho : o = .pop ∨ o = .rev) (x : D) (st : Store) (h : isLst x st = false) : op1 o x st = .bad := by
  unfold isLst at h
  cases x with
  | p d => rcases ho with rfl | rfl <;> rfl
  | r k =>
    simp only at h
    split at h
    · cases h
    · rename_i hn
      rcases ho with rfl | rfl <;> unfold op1 <;> simp only <;> split <;> first | rfl | (rename_i ds e; exact absurd e (hn ds))
theorem o1_m0 {o : O1} (hb : m0 o = some m) (hl : sameLine ap cp = true) (ha : SE X c x ra) (sx : simpleE x = true) : SE X c (.Call (.Attribute x m ap) [] [] cp) (fun env st => (ra env st).bind fun x st => (op1 o x st).nox) := by
  cases o <;> first | (cases hb; done) | skip
  all_goals cases hb
  · exact e_m0 PySem.F.slot_list_pop PySem.F.type_list_pop m_pop (isLst_no (.inl rfl)) ha sx hl
  · exact e_m0 PySem.F.slot_list_reverse type_list_reverse m_rev (isLst_no (.inr rfl)) ha sx hl
theorem isi_any {t : Ty} {f yn : Str} (hf : f = "isinstance") (hB : Gl X f ∧ X.mg f = none) (hY : Gl X yn ∧ X.mg yn = none) (ht : tyS t = some yn) (hp : plainN yn = true) (ha : SE X c x ra) (sx : simpleE x = true) :
    SE X c (.Call (.Name f p) [x, .Name yn p2] [] pos) (fun env st => (ra env st).bind fun x st => (op1 (.isin [t]) x st).nox) := by
  subst hf
  obtain ⟨h1, h2, h3⟩ := plain_of hp
  cases t <;> first | (cases ht; done) | skip
  all_goals cases ht
  · exact e_isi1 (u := .str) (by decide) hB.1 hB.2 hY.1 hY.2 (by decide +kernel) h3 h1 ha sx
  · exact e_isi1 (u := .tuple) (by decide) hB.1 hB.2 hY.1 hY.2 (by decide +kernel) h3 h1 ha sx
  · exact e_isi1 (u := .list) (by decide) hB.1 hB.2 hY.1 hY.2 (by decide +kernel) h3 h1 ha sx
  · exact e_isi1 (u := .int) (by decide) hB.1 hB.2 hY.1 hY.2 (by decide +kernel) h3 h1 ha sx
  · exact e_isi1 (u := .bool) (by decide) hB.1 hB.2 hY.1 hY.2 (by decide +kernel) h3 h1 ha sx
  · exact e_isi1 (u := .dict) (by decide) hB.1 hB.2 hY.1 hY.2 (by decide +kernel) h3 h1 ha sx
theorem tyS_facts {t : Ty} {yn : Str} (ht : tyS t = some yn) : t ≠ .none ∧ bootBuiltins yn = some (.type (tyName t)) := by
  cases t <;> first | (cases ht; done) | skip
  all_goals cases ht
  all_goals exact ⟨by decide, by decide +kernel⟩
theorem isi_two {t u : Ty} {f yn zn : Str} {p3 tp : Pos} {x1 : Nat} (hf : f = "isinstance") (hB : Gl X f ∧ X.mg f = none) (hY : Gl X yn ∧ X.mg yn = none) (hZ : Gl X zn ∧ X.mg zn = none) (ht : tyS t = some yn) (hu : tyS u = some zn) (hp : plainN yn = true) (hp2 : plainN zn = true) (ha : SE X c x ra) (sx : simpleE x = true) :
    SE X c (.Call (.Name f p) [x, .Tuple [.Name yn p2, .Name zn p3] x1 tp] [] pos) (fun env st => (ra env st).bind fun x st => (op1 (.isin [t, u]) x st).nox) := by
  subst hf
  obtain ⟨h1, h2, h3⟩ := plain_of hp
  obtain ⟨g1, g2, g3⟩ := plain_of hp2
  obtain ⟨k1, k2⟩ := tyS_facts ht
  obtain ⟨k3, k4⟩ := tyS_facts hu
  exact e_isi2 k1 k3 hB.1 hB.2 hY k2 h3 h1 hZ k4 g3 g1 ha sx
theorem o2_m1 {o : O2} (hb : methOf o = some m) (hl : sameLine ap cp = true) (ha : SE X c x ra) (sx : simpleE x = true) (hb2 : SE X c y rb) (sy : simpleE y = true) :
    SE X c (.Call (.Attribute x m ap) [y] [] cp) (fun env st => (ra env st).bind fun x st => if pre o x st then (rb env st).bind fun y st => (op2 o x y st).nox else .bad) := by
  cases o <;> first | (cases hb; done) | skip
  all_goals cases hb
  · exact e_m1 PySem.F.slot_list_append PySem.F.type_list_append m_app ha sx hb2 sy hl
  · exact e_m1 PySem.F.slot_list_extend type_list_extend m_ext ha sx hb2 sy hl
  · exact e_m1 PySem.F.slot_list_pop PySem.F.type_list_pop m_popi ha sx hb2 sy hl
theorem o2_blt (hc : X.calm = true) {o : O2} (hb : blt2 o = some f) (hB : Gl X f ∧ X.mg f = none) (ha : SE X c x ra) (sx : simpleE x = true) (hb2 : SE X c y rb) (sy : simpleE y = true) :
    SE X c (.Call (.Name f p) [x, y] [] pos) (fun env st => (ra env st).bind fun x st => if pre o x st then (rb env st).bind fun y st => (op2 o x y st).nox else .bad) := by
  cases o <;> first | (cases hb; done) | skip
  all_goals cases hb
  · exact e_blt2 (c_mx2 hc) hB.1 hB.2 (by decide +kernel) (by decide) (by decide) ha sx hb2 sy
  · exact e_blt2 (c_mn2 hc) hB.1 hB.2 (by decide +kernel) (by decide) (by decide) ha sx hb2 sy
/-- a call without arguments -/
theorem e_call0 {pu : Bool} {kw : List Kw} {k : Nat} (F : FnX X c Φ k 0 kw f) (tk : Takes X c.W) (hg : Gl X f) (hdb : (f == ("__debug__" : Str)) = false) : SE X c (.Call (.Name f p) [] [] pos) (fun env st => callD Φ pu k [] st) := by
  obtain ⟨fa, fd, ps, kk, F, hr, hm, hk, hb, _⟩ := F.ex
  refine ⟨fun pins s σ H Q I h => ?_⟩
  obtain ⟨G, L, st, env, rl, re, q⟩ := h
  refine wpAny_Call_Name_kw (ld_glob I hg hm ?_ hdb)
  refine PySem.W.callWith_K0 I.kIn hk (run_fnS (us := []) (vs := []) (E := fun σ => WE c.W σ) F hr hb (passAt tk σ) I .nil ⟨rfl, ?_⟩)
  dsimp only at q
  unfold callD at q
  cases pu with
  | false => exact ⟨G, L, st, [], rl, .nil, Aft.toE (aft_trim q rl.len)⟩
  | true =>
    have q : Aft X.K c G L H σ (runP Φ k [] st) (RD X.K G) Q := q
    exact ⟨Off G L, [], [], [], pure_rl rl, .nil, Aft.toE (pure_aft (α := Unit) (ds := []) (xs := []) rl .nil rfl q)⟩
end
end Dn
namespace Dn
open PySem PySem.Spec PyProof.Rows L2
theorem fn_any {cn : Cn} {N : List Str} {Φ : Calls} {X : Cx} {c : Wc} {sc : Scope} {fb : Option Scope} (g : Gx cn N Φ X c sc fb) {x : Str} {f n : Nat} (h : (cn.fns.any fun q => decide (q.1 = x) && decide (q.2.1 = f) && decide (q.2.2.1 = n)) = true) : ∃ kw, FnX X c Φ f n kw x := by
  obtain ⟨q, hq, h⟩ := List.any_eq_true.mp h
  simp only [Bool.and_eq_true, decide_eq_true_eq] at h
  obtain ⟨⟨rfl, rfl⟩, rfl⟩ := h
  exact ⟨_, g.fns q hq⟩
theorem fn_anyk {cn : Cn} {N : List Str} {Φ : Calls} {X : Cx} {c : Wc} {sc : Scope} {fb : Option Scope} (g : Gx cn N Φ X c sc fb) {x : Str} {f n : Nat} {w : Kw} (h0 : (cn.fns.any fun q => decide (q.1 = x) && decide (q.2.1 = f) && decide (q.2.2.1 = n) && q.2.2.2.any fun v => decide (v = w)) = true) : ∃ kw, FnX X c Φ f n kw x ∧ w ∈ kw := by
  obtain ⟨q, hq, h⟩ := List.any_eq_true.mp h0
  rw [Bool.and_eq_true, Bool.and_eq_true, Bool.and_eq_true] at h
  obtain ⟨v, hv, e⟩ := List.any_eq_true.mp h.2
  have e1 := of_decide_eq_true h.1.1.1
  have e2 := of_decide_eq_true h.1.1.2
  have e3 := of_decide_eq_true h.1.2
  have e4 := of_decide_eq_true e
  subst e1 e2 e3 e4
  exact ⟨_, g.fns q hq, hv⟩
theorem chkA_len {cn : Cn} {N : List Str} {sc : Scope} {fb : Option Scope} : ∀ {es : List E} {xs : List Expr}, chkA cn N es sc fb xs = true → es.length = xs.length
  | [], xs, h => by
    unfold chkA at h
    cases xs with
    | nil => rfl
    | cons _ _ => cases h
  | a :: es, xs, h => by
    unfold chkA at h
    cases xs with
    | nil => cases h
    | cons x xs =>
      rw [Bool.and_eq_true] at h
      simp [chkA_len h.2]
theorem chkTs_len {cn : Cn} {N : List Str} {sc : Scope} {fb : Option Scope} : ∀ {es : List E} {xs : List Expr}, chkTs cn N es sc fb xs = true → es.length = xs.length
  | [], xs, h => by
    unfold chkTs at h
    cases xs with
    | nil => rfl
    | cons _ _ => cases h
  | a :: es, xs, h => by
    unfold chkTs at h
    cases xs with
    | nil => cases h
    | cons x xs =>
      rw [Bool.and_eq_true] at h
      simp [chkTs_len h.2]
theorem chkA_app {cn : Cn} {N : List Str} {sc : Scope} {fb : Option Scope} : ∀ {es : List E} {xs ys : List Expr}, chkA cn N es sc fb (xs ++ ys) = true → ∃ as bs, es = as ++ bs ∧ chkA cn N as sc fb xs = true ∧ chkA cn N bs sc fb ys = true
  | es, [], ys, h => ⟨[], es, rfl, rfl, h⟩
  | [], x :: xs, ys, h => by cases h
  | a :: es, x :: xs, ys, h => by
    unfold chkA at h
    have h : (chkE cn N a sc fb x && chkA cn N es sc fb (xs ++ ys)) = true := h
    rw [Bool.and_eq_true] at h
    obtain ⟨as, bs, rfl, h1, h2⟩ := chkA_app h.2
    exact ⟨a :: as, bs, rfl, by unfold chkA; rw [Bool.and_eq_true]; exact ⟨h.1, h1⟩, h2⟩
theorem own_snd (N : List Str) : ∀ is : List Nat, (ownOf N is).map (·.2) = is
  | [] => rfl
  | i :: is => by
    show i :: (ownOf N is).map (·.2) = i :: is
    rw [own_snd N is]
theorem folded_of {e : Expr} (h : simpleE e = true) {env : Env} (x : Value) : foldedSetIterable e env x = pure x := by
  cases e <;> first | rfl | cases h
theorem tg_ok {cn : Cn} {N : List Str} {Φ : Calls} {X : Cx} {c : Wc} {sc : Scope} {fb : Option Scope} (g : Gx cn N Φ X c sc fb) {tg : Tg} {e : Expr} (h : chkTg N sc fb tg e = true) : PG X e (gT X.K tg) := by
  unfold chkTg at h
  rw [Bool.and_eq_true] at h
  have hl : ∀ i ∈ tg.slots, ∀ x, X.N[i]? = some x → L2.Loc X.env.scope x ∧ (X.fn x = true ∨ X.env.scope.names.lookup x = some .local) := fun i hi x hx => by
    have := List.all_eq_true.mp h.1 i hi
    rw [← g.hN, hx] at this
    simp only [Bool.and_eq_true, Bool.or_eq_true] at this
    rw [g.hsc]
    refine ⟨loc_of this.1, ?_⟩
    rcases this.2 with z | z
    · exact .inl (g.fn x z)
    · exact .inr (of_decide_eq_true z)
  have h2 := h.2
  split at h2
  · rename_i i x p
    have e := of_decide_eq_true h2
    rw [← g.hN] at e
    obtain ⟨l1, l2⟩ := hl i (List.mem_cons_self ..) x e
    exact pg_name (by rw [g.hN]; exact g.nd) e l1 l2
  · rename_i is es k p
    rw [← g.hN] at h2
    exact pg_many g.calm (by rw [g.hN]; exact g.nd) h2 hl
  · cases h2
theorem val_name {x : Str} {p : Pos} {env : Env} (whole : Sem Value) : isTrue (.Name x p) env whole = (do let v ← whole; standAt (Expr.Name x p).pos; holding [v] (truthy v)) := rfl
theorem val_call {f : Expr} {as : List Expr} {ks : List Keyword} {p : Pos} {env : Env} (whole : Sem Value) : isTrue (.Call f as ks p) env whole = (do let v ← whole; standAt (Expr.Call f as ks p).pos; holding [v] (truthy v)) := rfl
theorem val_sub {a b : Expr} {p : Pos} {env : Env} (whole : Sem Value) : isTrue (.Subscript a b p) env whole = (do let v ← whole; standAt (Expr.Subscript a b p).pos; holding [v] (truthy v)) := rfl
theorem val_const {k : Const} {j : Nat} {p : Pos} {env : Env} (whole : Sem Value) : isTrue (.Constant k j p) env whole = (do let v ← whole; standAt (Expr.Constant k j p).pos; holding [v] (truthy v)) := rfl
theorem PTs.imp {X : Cx} {e : List Expr} {t t' : TT} (h : PTs X e t) (hi : ∀ σ H Q, t' σ H Q → t σ H Q) : PTs X e t' := ⟨fun pins s σ H Q I q => h.run pins s σ H Q I (hi σ H Q q)⟩
theorem kwNames_len : ∀ {kws : List Keyword} {ks : List Str}, kwNames kws = some ks → kws.length = ks.length
  | [], ks, h => by cases h; rfl
  | ⟨some x, v, q⟩ :: r, ks, h => by
    simp only [kwNames, Option.map_eq_some_iff] at h
    obtain ⟨l, h1, rfl⟩ := h
    simp [kwNames_len h1]
  | ⟨none, v, q⟩ :: r, ks, h => by cases h
mutual
theorem okE {cn : Cn} {N : List Str} {Φ : Calls} : ∀ (a : E) {X : Cx} {c : Wc} {sc : Scope} {fb : Option Scope} (g : Gx cn N Φ X c sc fb) (e : Expr), chkE cn N a sc fb e = true → SE X c e (fun env st => ev Φ a env st)
  | .var i, X, c, sc, fb, g, e, h => by
    unfold chkE at h
    split at h
    · simp only [Bool.and_eq_true, decide_eq_true_eq] at h
      obtain ⟨h1, h2, _⟩ := plain_of h.2
      exact e_var (by rw [g.hN]; exact h.1.1) (by rw [g.hsc]; exact vis_of h.1.2) h1 h2
    · cases h
  | .c d, X, c, sc, fb, g, e, h => by
    unfold chkE at h
    split at h
    · exact const_ok (of_decide_eq_true h)
    · cases h
  | .g x d, X, c, sc, fb, g, e, h => by
    unfold chkE at h
    split at h
    · simp only [Bool.and_eq_true, decide_eq_true_eq, List.any_eq_true] at h
      obtain ⟨⟨⟨rfl, hg⟩, hp⟩, q, hq, hx, hd⟩ := h
      obtain ⟨v, u, hm, r, f⟩ := g.cst q hq
      rw [hx] at hm
      rw [sameP_eq hd] at f
      obtain ⟨h1, h2, _⟩ := plain_of hp
      exact e_cst (pe_glob (g.gl hg) hm r h1) f
    · cases h
  | .o1 o a, X, c, sc, fb, g, e, h => by
    unfold chkE at h
    split at h
    · split at h
      · exact e_not (okE a g _ h)
      · cases h
    · split at h
      · exact e_neg (okE a g _ h)
      · cases h
    · split at h
      · exact e_isN (okE a g _ h)
      · cases h
    · split at h
      · exact e_niN (okE a g _ h)
      · cases h
    · split at h
      · split at h
        · simp only [Bool.and_eq_true, decide_eq_true_eq] at h
          obtain ⟨⟨⟨⟨⟨⟨h1, h2⟩, h3⟩, h4⟩, h5⟩, h6⟩, h7⟩ := h
          exact isi_any h1 (g.isB h2) (g.isB h3) h4 h5 (okE a g _ h6) h7
        · cases h
      · split at h
        · simp only [Bool.and_eq_true, decide_eq_true_eq] at h
          obtain ⟨⟨⟨⟨⟨⟨⟨⟨⟨h1, h2⟩, h3⟩, h4⟩, h5⟩, h6⟩, h7⟩, h8⟩, h9⟩, h10⟩ := h
          exact isi_two h1 (g.isB h2) (g.isB h3) (g.isB h4) h5 h6 h7 h8 (okE a g _ h9) h10
        · cases h
      · cases h
    · split at h
      · simp only [Bool.and_eq_true, decide_eq_true_eq] at h
        obtain ⟨⟨⟨⟨⟨h1, h2⟩, h3⟩, h4⟩, h5⟩, h6⟩ := h
        subst h1 h2
        exact e_sst g.calm (g.isB h3).1 (g.isB h3).2 (g.isB h4).1 (g.isB h4).2 (okE a g _ h5) h6
      · cases h
    · exact e_frz (okE a g _ h)
    · split at h
      · simp only [Bool.and_eq_true, decide_eq_true_eq] at h
        obtain ⟨⟨⟨⟨⟨h1, h2⟩, h3⟩, h4⟩, h5⟩, h6⟩ := h
        subst h1 h2
        exact e_tupr g.calm (g.isB h3).1 (g.isB h3).2 (g.isB h4).1 (g.isB h4).2 (okE a g _ h5) h6
      · cases h
    · split at h
      · simp only [Bool.and_eq_true, decide_eq_true_eq] at h
        obtain ⟨⟨⟨h1, h2⟩, h3⟩, h4⟩ := h
        subst h1
        exact e_upper (okE a g _ h3) h4 h2
      · cases h
    · split at h
      · simp only [Bool.and_eq_true, Bool.or_eq_true, decide_eq_true_eq] at h
        obtain ⟨⟨⟨h1, h2⟩, h3⟩, h4⟩ := h
        rcases h2 with h2 | h2
        · exact o1_blt g.calm g.un h2 (g.isB h1) (okE a g _ h3) h4
        · exact o1_ty h2 (g.isB h1) (okE a g _ h3) h4
      · simp only [Bool.and_eq_true, decide_eq_true_eq] at h
        obtain ⟨⟨⟨h1, h2⟩, h3⟩, h4⟩ := h
        exact o1_m0 h1 h2 (okE a g _ h3) h4
      · cases h
  | .o2 o a b, X, c, sc, fb, g, e, h => by
    unfold chkE at h
    split at h
    · simp only [Bool.and_eq_true, decide_eq_true_eq] at h
      obtain ⟨⟨h1, h2⟩, h3⟩ := h
      obtain ⟨r, hp⟩ := bin_any (X := X) h1
      refine (e_bin r (okE a g _ h2) (okE b g _ h3)).to ?_
      funext env st
      show _ = (ev Φ a env st).bind fun x st => if pre o x st then (ev Φ b env st).bind fun y st => (op2 o x y st).nox else .bad
      simp only [hp, if_true]
    · simp only [Bool.and_eq_true, decide_eq_true_eq] at h
      obtain ⟨⟨⟨h1, h2⟩, h3⟩, h4⟩ := h
      obtain ⟨r, hp⟩ := cmp_any g.un h1
      refine (e_cmp r (okE a g _ h2) (okE b g _ h3) (marks_of h4)).to ?_
      funext env st
      show _ = (ev Φ a env st).bind fun x st => if pre o x st then (ev Φ b env st).bind fun y st => (op2 o x y st).nox else .bad
      simp only [hp, if_true]
    · simp only [Bool.and_eq_true, decide_eq_true_eq] at h
      obtain ⟨⟨⟨h1, h2⟩, h3⟩, h4⟩ := h
      subst h1
      exact e_ix (o_ix (by have := g.un; omega)) (okE a g _ h2) (okE b g _ h3) (plainIx_of h4)
    · split at h
      · simp only [Bool.and_eq_true, Bool.or_eq_true, decide_eq_true_eq] at h
        obtain ⟨⟨⟨⟨⟨h1, h2⟩, h3⟩, h4⟩, h5⟩, h6⟩ := h
        rcases h1 with h1 | ⟨h1, h1'⟩
        · exact o2_m1 h1 h2 (okE a g _ h3) h4 (okE b g _ h5) h6
        · subst h1 h1'
          exact e_indx (by have := g.un; omega) (okE a g _ h3) h4 (okE b g _ h5) h6 h2
      · simp only [Bool.and_eq_true, decide_eq_true_eq] at h
        obtain ⟨⟨⟨⟨⟨h1, h2⟩, h3⟩, h4⟩, h5⟩, h6⟩ := h
        exact o2_blt g.calm h2 (g.isB h1) (okE a g _ h3) h4 (okE b g _ h5) h6
      · cases h
    · cases h
  | .o3 o a b d, X, c, sc, fb, g, e, h => by
    unfold chkE at h
    split at h
    · simp only [Bool.and_eq_true, decide_eq_true_eq] at h
      obtain ⟨⟨⟨⟨⟨⟨⟨⟨h1, h2⟩, h3⟩, h4⟩, h5⟩, h6⟩, h7⟩, h8⟩, h9⟩ := h
      subst h1 h2
      exact e_m2 PySem.F.slot_list_insert type_list_insert m_ins (okE a g _ h4) h5 (okE b g _ h6) h7 (okE d g _ h8) h9 h3
    · cases h
  | .an es, X, c, sc, fb, g, e, h => by
    unfold chkE at h
    split at h
    · simp only [Bool.and_eq_true, Bool.not_eq_true'] at h
      exact okAn es g _ _ h.1 h.2
    · cases h
  | .orr es, X, c, sc, fb, g, e, h => by
    unfold chkE at h
    split at h
    · simp only [Bool.and_eq_true, Bool.not_eq_true'] at h
      exact okOr es g _ _ h.1 h.2
    · cases h
  | .ite t a b, X, c, sc, fb, g, e, h => by
    unfold chkE at h
    split at h
    · simp only [Bool.and_eq_true] at h
      exact e_ite (okT t g _ h.1.1) (okE a g _ h.1.2) (okE b g _ h.2)
    · cases h
  | .chain o o' a b d, X, c, sc, fb, g, e, h => by
    unfold chkE at h
    split at h
    · simp only [Bool.and_eq_true, decide_eq_true_eq] at h
      obtain ⟨⟨⟨⟨⟨⟨h1, h2⟩, h3⟩, h4⟩, h5⟩, h6⟩, h7⟩ := h
      obtain ⟨r, hp⟩ := cmp_any g.un h1
      obtain ⟨r', hp'⟩ := cmp_any g.un h2
      exact e_chain r r' (okE a g _ h3) (okE b g _ h4) (okE d g _ h6) (marks_of h7)
    · cases h
  | .tup es, X, c, sc, fb, g, e, h => by
    unfold chkE at h
    split at h
    · simp only [Bool.and_eq_true] at h
      exact e_tup (okA es g _ h.1 h.2)
    · cases h
  | .lst m es, X, c, sc, fb, g, e, h => by
    unfold chkE at h
    split at h
    · simp only [Bool.and_eq_true] at h
      exact e_lst (okA es g _ h.1 h.2)
    · cases h
  | .dic kvs, X, c, sc, fb, g, e, h => by
    unfold chkE at h
    split at h
    · cases kvs with
      | nil => exact e_dic0.to rfl
      | cons _ _ => cases h
    · simp only [Bool.and_eq_true, decide_eq_true_eq, Bool.not_eq_true'] at h
      obtain ⟨⟨h1, h2⟩, h3⟩ := h
      obtain ⟨hp, hl, ha⟩ := okP kvs g.no _ _ _ h3
      exact e_dic hp ha hl (fun z => by rw [z] at h1; cases h1) h2
    · cases h
  | .sl m a lo hi, X, c, sc, fb, g, e, h => by
    unfold chkE at h
    split at h
    · simp only [Bool.and_eq_true] at h
      exact e_sl (okE a g _ h.1.1) (okO lo g _ h.1.2) (okO hi g _ h.2)
    · cases h
  | .rv m a, X, c, sc, fb, g, e, h => by
    unfold chkE at h
    split at h
    · exact e_rv (okE a g _ h)
    · cases h
  | .call pu f es, X, c, sc, fb, g, e, h => by
    unfold chkE at h
    split at h
    · rename_i x p xs pos
      simp only [Bool.and_eq_true] at h
      obtain ⟨⟨⟨⟨h1, h2⟩, h3⟩, h4⟩, h5⟩ := h
      obtain ⟨kw, F⟩ := fn_any g h3
      obtain ⟨p1, p2, _⟩ := plain_of h2
      have hl := chkA_len h4
      cases xs with
      | nil =>
        cases es with
        | nil => exact e_call0 F g.tk (g.gl h1) p1
        | cons _ _ => cases hl
      | cons x' xs' =>
        exact e_call F g.tk (g.gl h1) p1 (okA es g _ h4 h5) hl.symm h5 fun env st ds st' he => by rw [evs_len he, hl]
    · cases h
  | .callk pu f pm es, X, c, sc, fb, g, e, h => by
    unfold chkE at h
    split at h
    · rename_i x p xs kws pos
      simp only [Bool.and_eq_true] at h
      obtain ⟨⟨⟨⟨h1, h2⟩, h3⟩, h4⟩, h5⟩ := h
      obtain ⟨p1, p2, _⟩ := plain_of h2
      split at h3
      · rename_i ks hks
        obtain ⟨kw, F, hm⟩ := fn_anyk g h3
        obtain ⟨hA, hK⟩ := okK es g xs kws h4 h5
        have hl := chkA_len h4
        rw [List.length_append, List.length_map] at hl
        have hkl : kws.length = ks.length := kwNames_len hks
        have hev : (fun env st => ev Φ (.callk pu f pm es) env st) = fun env st => (evs Φ (es.take xs.length) env st).bind fun ds st => (evs Φ (es.drop xs.length) env st).bind fun gs st => match permD pm (ds ++ gs) with
            | some ds => callD Φ pu f ds st
            | none => .bad := by
          funext env st
          show (evs Φ es env st).bind _ = _
          rw [← List.take_append_drop xs.length es, evs_app, res_assoc]
          rw [List.take_append_drop xs.length es]
          cases evs Φ (es.take xs.length) env st with
          | bad => rfl
          | ex k fs s => rfl
          | ok ds s =>
            simp only [Res.bind_ok, res_assoc]
            first | done | rfl
        rw [hev]
        have l2 : ∀ env st ds st', evs Φ (es.drop xs.length) env st = .ok ds st' → ds.length = ks.length := fun env st ds st' he => by rw [evs_len he, List.length_drop]; omega
        cases xs with
        | nil => exact e_callk0 F g.tk (g.gl h1) p1 hK hm hks l2
        | cons x' xs' => exact e_callk F g.tk (g.gl h1) p1 hA hK hm hks h5 (fun env st ds st' he => by rw [evs_len he, List.length_take]; omega) l2
      · cases h3
    · cases h
  | .comp m elt tg k its ifs, X, c, sc, fb, g, e, h => by
    unfold chkE at h
    split at h
    · rename_i elt' tgE iter ifs' scope pos
      simp only [Bool.and_eq_true, decide_eq_true_eq] at h
      obtain ⟨⟨⟨⟨⟨⟨⟨⟨h1, h2⟩, h3⟩, h4⟩, h5⟩, h6⟩, h7⟩, h8⟩, h9⟩ := h
      have hb := blkOk_by h3
      have gb := fun s H C cl fp => g.blk (scope := scope) hb.kind s H C cl fp
      have hi := okW its k g tgE iter h2 h1
      refine (e_comp (m := m) (own := ownOf N tg.slots) (rc := fun env st => evAn Φ ifs env st) (re := fun env st => ev Φ elt env st) g.calm (by rw [g.hN]; exact g.nd) hi (by rw [g.hN, g.hsc]; exact hb) (own_snd N _) (fun s H C cl fp => tg_ok (gb s H C cl fp) h5) (fun s H C cl fp => ?_) (fun s H C cl fp => okE elt (gb s H C cl fp) _ h6) (folded_of h9)).to rfl
      exact okIfs ifs (gb s H C cl fp) _ h7 h8
    · cases h
theorem okP {cn : Cn} {N : List Str} {Φ : Calls} : ∀ (es : List E) {X : Cx} {c : Wc} {sc : Scope} {fb : Option Scope} (g : Gx cn N Φ X c sc fb) (pos : Pos) (ks : List (Option Expr)) (vs : List Expr), chkP cn N es sc fb ks vs = true → SPs X c pos ks vs (fun env st => evs Φ es env st) ∧ ks.length = vs.length ∧ ks.all (·.isSome) = true
  | [], X, c, sc, fb, g, pos, ks, vs, h => by
    unfold chkP at h
    rw [Bool.and_eq_true] at h
    cases ks with
    | cons _ _ => cases h.1
    | nil =>
      cases vs with
      | cons _ _ => cases h.2
      | nil => exact ⟨sps_nil, rfl, rfl⟩
  | [_], X, c, sc, fb, g, pos, ks, vs, h => by
    unfold chkP at h
    cases h
  | a :: b :: es, X, c, sc, fb, g, pos, ks, vs, h => by
    unfold chkP at h
    split at h
    · simp only [Bool.and_eq_true] at h
      obtain ⟨⟨h1, h2⟩, h3⟩ := h
      obtain ⟨hp, hl, ha⟩ := okP es g pos _ _ h3
      exact ⟨sps_cons (okE a g _ h1) (okE b g _ h2) hp, by simp [hl], by simp [ha]⟩
    · cases h
theorem okA {cn : Cn} {N : List Str} {Φ : Calls} : ∀ (es : List E) {X : Cx} {c : Wc} {sc : Scope} {fb : Option Scope} (g : Gx cn N Φ X c sc fb) (xs : List Expr), chkA cn N es sc fb xs = true → xs.all simpleE = true → SA X c xs (fun env st => evs Φ es env st)
  | [], X, c, sc, fb, g, xs, h, _ => by
    unfold chkA at h
    cases xs with
    | nil => exact a_nil
    | cons _ _ => cases h
  | a :: es, X, c, sc, fb, g, xs, h, hs => by
    unfold chkA at h
    cases xs with
    | nil => cases h
    | cons x xs =>
      simp only [Bool.and_eq_true] at h
      rw [List.all_cons, Bool.and_eq_true] at hs
      exact a_cons (okE a g _ h.1) (okA es g _ h.2 hs.2) (star_of hs.1)
/-- arguments by place, then by name -/
theorem okK {cn : Cn} {N : List Str} {Φ : Calls} : ∀ (es : List E) {X : Cx} {c : Wc} {sc : Scope} {fb : Option Scope} (g : Gx cn N Φ X c sc fb) (xs : List Expr) (kws : List Keyword), chkA cn N es sc fb (xs ++ kws.map (·.value)) = true → xs.all simpleE = true →
    SA X c xs (fun env st => evs Φ (es.take xs.length) env st) ∧ SK X c kws (fun env st => evs Φ (es.drop xs.length) env st)
  | [], X, c, sc, fb, g, xs, kws, h, hs => by
    cases xs with
    | nil =>
      cases kws with
      | nil => exact ⟨a_nil, k_nil⟩
      | cons _ _ => cases h
    | cons _ _ => cases h
  | a :: es, X, c, sc, fb, g, xs, kws, h, hs => by
    cases xs with
    | nil =>
      cases kws with
      | nil => cases h
      | cons kw kws =>
        obtain ⟨nm, v, kp⟩ := kw
        have h : (chkE cn N a sc fb v && chkA cn N es sc fb (kws.map (·.value))) = true := by unfold chkA at h; exact h
        rw [Bool.and_eq_true] at h
        exact ⟨a_nil, k_cons (okE a g _ h.1) (okK es g [] kws h.2 rfl).2⟩
    | cons x xs =>
      have h : (chkE cn N a sc fb x && chkA cn N es sc fb (xs ++ kws.map (·.value))) = true := by unfold chkA at h; exact h
      rw [Bool.and_eq_true] at h
      rw [List.all_cons, Bool.and_eq_true] at hs
      obtain ⟨q1, q2⟩ := okK es g xs kws h.2 hs.2
      exact ⟨a_cons (okE a g _ h.1) q1 (star_of hs.1), q2⟩
theorem okO {cn : Cn} {N : List Str} {Φ : Calls} : ∀ (a : Option E) {X : Cx} {c : Wc} {sc : Scope} {fb : Option Scope} (g : Gx cn N Φ X c sc fb) (e : Option Expr), chkO cn N a sc fb e = true → SO X c e (fun env st => evO Φ a env st)
  | none, X, c, sc, fb, g, e, h => by
    unfold chkO at h
    cases e with
    | none => exact o_none
    | some _ => cases h
  | some a, X, c, sc, fb, g, e, h => by
    unfold chkO at h
    cases e with
    | none => cases h
    | some x => exact o_some (okE a g _ h)
theorem okAn {cn : Cn} {N : List Str} {Φ : Calls} : ∀ (es : List E) {X : Cx} {c : Wc} {sc : Scope} {fb : Option Scope} (g : Gx cn N Φ X c sc fb) (xs : List Expr) (pos : Pos), es.isEmpty = false → chkA cn N es sc fb xs = true → SE X c (.BoolOp .And xs pos) (fun env st => evAn Φ es env st)
  | [], X, c, sc, fb, g, xs, pos, hn, h => by cases hn
  | a :: es, X, c, sc, fb, g, xs, pos, _, h => by
    unfold chkA at h
    cases xs with
    | nil => cases h
    | cons x xs =>
      simp only [Bool.and_eq_true] at h
      cases es with
      | nil =>
        have h2 := h.2
        unfold chkA at h2
        cases xs with
        | nil => exact e_one (okE a g _ h.1)
        | cons _ _ => cases h2
      | cons b es =>
        have h2 := chkA_len h.2
        cases xs with
        | nil => cases h2
        | cons y ys => exact e_and (okE a g _ h.1) (okAn (b :: es) g (y :: ys) pos rfl h.2)
theorem okOr {cn : Cn} {N : List Str} {Φ : Calls} : ∀ (es : List E) {X : Cx} {c : Wc} {sc : Scope} {fb : Option Scope} (g : Gx cn N Φ X c sc fb) (xs : List Expr) (pos : Pos), es.isEmpty = false → chkA cn N es sc fb xs = true → SE X c (.BoolOp .Or xs pos) (fun env st => evOr Φ es env st)
  | [], X, c, sc, fb, g, xs, pos, hn, h => by cases hn
  | a :: es, X, c, sc, fb, g, xs, pos, _, h => by
    unfold chkA at h
    cases xs with
    | nil => cases h
    | cons x xs =>
      simp only [Bool.and_eq_true] at h
      cases es with
      | nil =>
        have h2 := h.2
        unfold chkA at h2
        cases xs with
        | nil => exact e_one (okE a g _ h.1)
        | cons _ _ => cases h2
      | cons b es =>
        have h2 := chkA_len h.2
        cases xs with
        | nil => cases h2
        | cons y ys => exact e_or (okE a g _ h.1) (okOr (b :: es) g (y :: ys) pos rfl h.2)
theorem okT {cn : Cn} {N : List Str} {Φ : Calls} : ∀ (a : E) {X : Cx} {c : Wc} {sc : Scope} {fb : Option Scope} (g : Gx cn N Φ X c sc fb) (e : Expr), chkT cn N a sc fb e = true → ST X c e (fun env st => ev Φ a env st)
  | .o1 o a, X, c, sc, fb, g, e, h => by
    unfold chkT at h
    split at h
    · simp only [Bool.and_eq_true, decide_eq_true_eq] at h
      obtain ⟨rfl, h2⟩ := h
      exact t_not (okT a g _ h2)
    · simp only [Bool.and_eq_true, Bool.or_eq_true, decide_eq_true_eq] at h
      obtain ⟨h1, h2⟩ := h
      rcases h1 with ⟨rfl, rfl⟩ | ⟨rfl, rfl⟩
      · exact t_isN (okE a g _ h2)
      · exact t_niN (okE a g _ h2)
    · split at h
      · simp only [Bool.and_eq_true, decide_eq_true_eq] at h
        obtain ⟨⟨⟨⟨⟨⟨h1, h2⟩, h3⟩, h4⟩, h5⟩, h6⟩, h7⟩ := h
        exact t_val (isi_any h1 (g.isB h2) (g.isB h3) h4 h5 (okE a g _ h6) h7) val_call
      · cases h
    · split at h
      · simp only [Bool.and_eq_true, decide_eq_true_eq] at h
        obtain ⟨⟨⟨⟨⟨⟨⟨⟨⟨h1, h2⟩, h3⟩, h4⟩, h5⟩, h6⟩, h7⟩, h8⟩, h9⟩, h10⟩ := h
        exact t_val (isi_two h1 (g.isB h2) (g.isB h3) (g.isB h4) h5 h6 h7 h8 (okE a g _ h9) h10) val_call
      · cases h
    · simp only [Bool.and_eq_true, decide_eq_true_eq] at h
      obtain ⟨⟨⟨h1, h2⟩, h3⟩, h4⟩ := h
      exact t_val (o1_blt g.calm g.un h2 (g.isB h1) (okE a g _ h3) h4) val_call
    · cases h
  | .o2 o a b, X, c, sc, fb, g, e, h => by
    unfold chkT at h
    split at h
    · simp only [Bool.and_eq_true, decide_eq_true_eq] at h
      obtain ⟨⟨⟨h1, h2⟩, h3⟩, h4⟩ := h
      obtain ⟨r, hp⟩ := cmp_any g.un h1
      have e1 : (fun env st => ev Φ (.o2 o a b) env st) = fun env st => (ev Φ a env st).bind fun x st => (ev Φ b env st).bind fun y st => (op2 o x y st).nox := by
        funext env st
        show ((ev Φ a env st).bind fun x st => if pre o x st then (ev Φ b env st).bind fun y st => (op2 o x y st).nox else .bad) = _
        simp only [hp, if_true]
      rw [e1]
      exact t_cmp r (okE a g _ h2) (okE b g _ h3) (marks_of h4)
    · simp only [Bool.and_eq_true, decide_eq_true_eq] at h
      obtain ⟨⟨⟨h1, h2⟩, h3⟩, h4⟩ := h
      subst h1
      exact t_val (e_ix (o_ix (by have := g.un; omega)) (okE a g _ h2) (okE b g _ h3) (plainIx_of h4)) val_sub
    · cases h
  | .chain o o' a b d, X, c, sc, fb, g, e, h => by
    unfold chkT at h
    split at h
    · simp only [Bool.and_eq_true, decide_eq_true_eq] at h
      obtain ⟨⟨⟨⟨⟨⟨h1, h2⟩, h3⟩, h4⟩, h5⟩, h6⟩, h7⟩ := h
      obtain ⟨r, hp⟩ := cmp_any g.un h1
      obtain ⟨r', hp'⟩ := cmp_any g.un h2
      exact t_chain r r' (okE a g _ h3) (okE b g _ h4) (okE d g _ h6) (marks_of h7)
    · cases h
  | .an es, X, c, sc, fb, g, e, h => by
    unfold chkT at h
    split at h
    · simp only [Bool.and_eq_true, Bool.not_eq_true'] at h
      exact (okWAn es g _ _ h.1 h.2).pt
    · cases h
  | .orr es, X, c, sc, fb, g, e, h => by
    unfold chkT at h
    split at h
    · simp only [Bool.and_eq_true, Bool.not_eq_true'] at h
      exact (okWOr es g _ _ h.1 h.2).pt
    · cases h
  | .var i, X, c, sc, fb, g, e, h => by
    unfold chkT at h
    split at h
    · rename_i x p
      have h' : chkE cn N (.var i) sc fb (.Name x p) = true := by unfold chkE; exact h
      simp only [Bool.and_eq_true, decide_eq_true_eq] at h
      obtain ⟨h1, h2, _⟩ := plain_of h.2
      exact t_val (e_var (by rw [g.hN]; exact h.1.1) (by rw [g.hsc]; exact vis_of h.1.2) h1 h2) val_name
    · cases h
  | .c d, X, c, sc, fb, g, e, h => by
    unfold chkT at h
    split at h
    · exact t_val (const_ok (of_decide_eq_true h)) val_const
    · cases h
  | .call pu f es, X, c, sc, fb, g, e, h => by
    unfold chkT at h
    split at h
    · rename_i x p xs pos
      simp only [Bool.and_eq_true] at h
      obtain ⟨⟨⟨⟨h1, h2⟩, h3⟩, h4⟩, h5⟩ := h
      obtain ⟨kw, F⟩ := fn_any g h3
      obtain ⟨p1, p2, _⟩ := plain_of h2
      have hl := chkA_len h4
      cases xs with
      | nil =>
        cases es with
        | nil => exact t_val (e_call0 F g.tk (g.gl h1) p1) val_call
        | cons _ _ => cases hl
      | cons x' xs' =>
        exact t_val (e_call F g.tk (g.gl h1) p1 (okA es g _ h4 h5) hl.symm h5 fun env st ds st' he => by rw [evs_len he, hl]) val_call
    · cases h
  | .g .., _, _, _, _, _, _, h => by cases h
  | .o3 .., _, _, _, _, _, _, h => by cases h
  | .ite .., _, _, _, _, _, _, h => by cases h
  | .tup .., _, _, _, _, _, _, h => by cases h
  | .lst .., _, _, _, _, _, _, h => by cases h
  | .dic .., _, _, _, _, _, _, h => by cases h
  | .sl .., _, _, _, _, _, _, h => by cases h
  | .rv .., _, _, _, _, _, _, h => by cases h
  | .callk .., _, _, _, _, _, _, h => by cases h
  | .comp .., _, _, _, _, _, _, h => by cases h
theorem okWAn {cn : Cn} {N : List Str} {Φ : Calls} : ∀ (es : List E) {X : Cx} {c : Wc} {sc : Scope} {fb : Option Scope} (g : Gx cn N Φ X c sc fb) (xs : List Expr) (pos : Pos), es.isEmpty = false → chkTs cn N es sc fb xs = true → SW X c (.BoolOp .And xs pos) (fun env st => evAn Φ es env st)
  | [], X, c, sc, fb, g, xs, pos, hn, h => by cases hn
  | a :: es, X, c, sc, fb, g, xs, pos, _, h => by
    unfold chkTs at h
    cases xs with
    | nil => cases h
    | cons x xs =>
      simp only [Bool.and_eq_true] at h
      cases es with
      | nil =>
        have h2 := h.2
        unfold chkTs at h2
        cases xs with
        | nil => exact w_one (.inl rfl) (okT a g _ h.1)
        | cons _ _ => cases h2
      | cons b es =>
        have h2 := chkTs_len h.2
        cases xs with
        | nil => cases h2
        | cons y ys => exact w_and (okT a g _ h.1) (okWAn (b :: es) g (y :: ys) pos rfl h.2)
theorem okWOr {cn : Cn} {N : List Str} {Φ : Calls} : ∀ (es : List E) {X : Cx} {c : Wc} {sc : Scope} {fb : Option Scope} (g : Gx cn N Φ X c sc fb) (xs : List Expr) (pos : Pos), es.isEmpty = false → chkTs cn N es sc fb xs = true → SW X c (.BoolOp .Or xs pos) (fun env st => evOr Φ es env st)
  | [], X, c, sc, fb, g, xs, pos, hn, h => by cases hn
  | a :: es, X, c, sc, fb, g, xs, pos, _, h => by
    unfold chkTs at h
    cases xs with
    | nil => cases h
    | cons x xs =>
      simp only [Bool.and_eq_true] at h
      cases es with
      | nil =>
        have h2 := h.2
        unfold chkTs at h2
        cases xs with
        | nil => exact w_one (.inr rfl) (okT a g _ h.1)
        | cons _ _ => cases h2
      | cons b es =>
        have h2 := chkTs_len h.2
        cases xs with
        | nil => cases h2
        | cons y ys => exact w_or (okT a g _ h.1) (okWOr (b :: es) g (y :: ys) pos rfl h.2)
theorem okIfs {cn : Cn} {N : List Str} {Φ : Calls} : ∀ (es : List E) {X : Cx} {c : Wc} {sc : Scope} {fb : Option Scope} (g : Gx cn N Φ X c sc fb) (xs : List Expr), chkTs cn N es sc fb xs = true → es.length ≤ 1 → PTs X xs (tT X.K c (fun env st => evAn Φ es env st))
  | [], X, c, sc, fb, g, xs, h, _ => by
    unfold chkTs at h
    cases xs with
    | nil => exact PTs.imp pts_nil fun σ H Q q => tT_yes q
    | cons _ _ => cases h
  | [a], X, c, sc, fb, g, xs, h, _ => by
    unfold chkTs at h
    cases xs with
    | nil => cases h
    | cons x xs =>
      simp only [Bool.and_eq_true] at h
      have h2 := h.2
      unfold chkTs at h2
      cases xs with
      | nil => exact pts_one (okT a g _ h.1)
      | cons _ _ => cases h2
  | _ :: _ :: _, _, _, _, _, _, _, _, hl => by simp at hl
theorem okW {cn : Cn} {N : List Str} {Φ : Calls} : ∀ (its : List E) (k : Nat) {X : Cx} {c : Wc} {sc : Scope} {fb : Option Scope} (g : Gx cn N Φ X c sc fb) (tgE e : Expr), (match k, tgE with
        | 2, .Tuple .. => true
        | 2, _ => false
        | 3, .Tuple .. => true
        | 3, _ => false
        | _, _ => true) = true → chkW cn N its k sc fb e = true → SI X c tgE k e (fun env st => evs Φ its env st)
  | [], k, X, c, sc, fb, g, tgE, e, ht, h => by cases h
  | a :: rest, k, X, c, sc, fb, g, tgE, e, ht, h => by
    unfold chkW at h
    split at h
    · simp only [Bool.and_eq_true] at h
      cases rest with
      | nil => exact i_seq (okE a g _ h.2)
      | cons _ _ => cases h.1
    · split at h
      · rename_i f p x xs pos
        simp only [Bool.and_eq_true, decide_eq_true_eq] at h
        obtain ⟨⟨⟨⟨⟨rfl, h2⟩, h3⟩, h4⟩, h5⟩, h6⟩ := h
        obtain ⟨b1, b2⟩ := g.isB h2
        have hA : SA X c (x :: xs) (fun env st => evs Φ (a :: rest) env st) := by
          rw [List.all_cons, Bool.and_eq_true] at h6
          exact a_cons (okE a g _ h4) (okA rest g _ h5 h6.2) (star_of h6.1)
        have hl := chkA_len h5
        rw [List.all_cons, Bool.and_eq_true] at h6
        match rest, xs, hl, h3, hA, h6 with
        | [], [], _, _, hA, h6 => exact i_rng1 b1 b2 hA h6.1 fun env st ds st' he => evs_len he
        | [b], [y], _, _, hA, h6 =>
          have h7 := h6.2
          simp only [List.all_cons, List.all_nil, Bool.and_true] at h7
          exact i_rng2 b1 b2 hA h6.1 h7 fun env st ds st' he => evs_len he
        | [b, d], [y, z], _, _, hA, h6 =>
          have h7 := h6.2
          simp only [List.all_cons, List.all_nil, Bool.and_true, Bool.and_eq_true] at h7
          exact i_rng3 b1 b2 hA h6.1 h7.1 h7.2 fun env st ds st' he => evs_len he
        | _ :: _ :: _ :: _, _, _, hh, _, _ => simp at hh
      · cases h
    · split at h
      · rename_i f p x pos
        simp only [Bool.and_eq_true, decide_eq_true_eq] at h
        obtain ⟨⟨⟨⟨rfl, h2⟩, h3⟩, h4⟩, h5⟩ := h
        obtain ⟨b1, b2⟩ := g.isB h2
        cases rest with
        | nil =>
          have hA := a_cons (okE (Φ := Φ) a g _ h4) a_nil (star_of h5)
          cases tgE with
          | Tuple elts kk tp => exact i_enum b1 b2 hA h5 fun env st ds st' he => evs_len (es := [a]) he
          | _ => cases ht
        | cons _ _ => cases h3
      · cases h
    · split at h
      · rename_i f p x xs pos
        simp only [Bool.and_eq_true, decide_eq_true_eq] at h
        obtain ⟨⟨⟨⟨⟨rfl, h2⟩, h3⟩, h4⟩, h5⟩, h6⟩ := h
        obtain ⟨b1, b2⟩ := g.isB h2
        have hA : SA X c (x :: xs) (fun env st => evs Φ (a :: rest) env st) := by
          rw [List.all_cons, Bool.and_eq_true] at h6
          exact a_cons (okE a g _ h4) (okA rest g _ h5 h6.2) (star_of h6.1)
        have hl := chkA_len h5
        rw [List.all_cons, Bool.and_eq_true] at h6
        match rest, xs, hl, h3, hA, h6 with
        | [b], [y], _, _, hA, h6 =>
          have h7 := h6.2
          simp only [List.all_cons, List.all_nil, Bool.and_true] at h7
          cases tgE with
          | Tuple elts kk tp => exact i_zip b1 b2 hA h6.1 h7 fun env st ds st' he => evs_len he
          | _ => cases ht
      · cases h
    · split at h
      · rename_i f p x pos
        simp only [Bool.and_eq_true, decide_eq_true_eq] at h
        obtain ⟨⟨⟨⟨rfl, h2⟩, h3⟩, h4⟩, h5⟩ := h
        obtain ⟨b1, b2⟩ := g.isB h2
        cases rest with
        | nil => exact i_rev b1 b2 (okE a g _ h4) h5
        | cons _ _ => cases h3
      · cases h
    · cases h
end
end Dn
namespace Dn
open PySem PySem.Spec PyProof.Rows L2
def isComp : E → Bool
  | .comp .. => true
  | _ => false
def isStar : Expr → Bool
  | .Starred .. => true
  | _ => false
/-- does the compiler store this comprehension's list early? -/
def swB (sc : Scope) (x : Str) (p : Pos) : Expr → Bool
  | .ListComp _ _ s pos => isLocal sc x && (p.line == pos.line) && !(s.names.any fun (n, k) => n == x && (k == .local || k == .cell))
  | _ => false
def storesNone (es : List Expr) : Expr → Bool
  | .Tuple vs _ _ => !(es.length == 2 || es.length == 3) || vs.all (foldedForSure 8)
  | _ => true
def storesCell (sc : Scope) (es : List Expr) : Bool := es.any fun t => match t with
  | .Name x _ => !isLocal sc x
  | _ => false
def storesOk (sc : Scope) (es : List Expr) (v : Expr) : Bool := storesNone es v || storesCell sc es
def parOk (sc : Scope) (N : List Str) (is : List Nat) (ts vs : List Expr) : Bool :=
  namesAre N is ts && (is.all fun i => match N[i]? with
    | some x => isLocal sc x
    | none => false) && decide is.Nodup && (ts.all fun t => t.pos.line == ((ts.head?.map (·.pos.line)).getD 0)) && !(vs.any isStar) && !(vs.all (foldedForSure 8)) && !(vs.all (constantsAlone 8)) && decide (vs.length = ts.length)
def slotsOk (N : List Str) (sc : Scope) (is : List Nat) : Bool := is.all fun i => match N[i]? with
  | some x => isLoc sc x
  | none => false
def augOp : O2 → Option Operator
  | .add => some .Add
  | .sub => some .Sub
  | _ => none
/-- one except clause -/
def chkHd (cn : Cn) (N : List Str) (sc : Scope) (h : Hd) : ExceptHandler → Bool
  | .ExceptHandler (some (.Name x _)) nm [.Return (some e) _] _ => isGl sc x && plainN x && (cn.hnd.any fun q => decide (q.1 = x) && decide (q.2 = h.cs)) && chkRx cn.nm h.cs nm h.res e && (match nm, h.slot with
      | none, none => true
      | some n, some i => decide (N[i]? = some n) && isLocal sc n && plainN n
      | _, _ => false)
  | _ => false
def chkHds (cn : Cn) (N : List Str) (sc : Scope) : List Hd → List ExceptHandler → Bool
  | [], [] => true
  | h :: hs, e :: es => chkHd cn N sc h e && chkHds cn N sc hs es
  | _, _ => false
mutual
def chkS (cn : Cn) (N : List Str) (sc : Scope) : S → Stmt → Bool
  | .set i a, s => (match s with
    | .Assign [.Name x p] v pos => decide (N[i]? = some x) && isLoc sc x && chkE cn N a sc none v && (notComp v || (isComp a && (match v with
        | .ListComp .. => true
        | _ => false)))
    | _ => false)
  | .unp is a, s => (match s with
    | .Assign [.Tuple es _ _] v pos => namesAre N is es && slotsOk N sc is && chkE cn N a sc none v && notComp v && storesNone es v
    | _ => false)
  | .par is as, s => (match s with
    | .Assign [.Tuple ts _ _] (.Tuple vs k2 p2) pos => chkA cn N as sc none vs && vs.all simpleE && ((parOk sc N is ts vs && (decide (is.length = 2) || decide (is.length = 3))) || (namesAre N is ts && slotsOk N sc is && decide (is.length ≤ 100) && storesOk sc ts (.Tuple vs k2 p2)))
    | _ => false)
  | .setix o i v, s => (match s with
    | .Assign [.Subscript o' i' _] v' pos => chkE cn N o sc none o' && chkE cn N i sc none i' && simpleE i' && chkE cn N v sc none v'
    | _ => false)
  | .aug i o a, s => (match s with
    | .AugAssign (.Name x _) op v pos => decide (N[i]? = some x) && isLoc sc x && decide (augOp o = some op) && chkE cn N a sc none v
    | _ => false)
  | .augix o i op a, s => (match s with
    | .AugAssign (.Subscript o' i' _) op' v pos => chkE cn N o sc none o' && chkE cn N i sc none i' && simpleE i' && decide (augOp op = some op') && chkE cn N a sc none v
    | _ => false)
  | .ex a, s => (match s with
    | .Expr e _ => chkE cn N a sc none e && notComp e
    | _ => false)
  | .ret a, s => (match s with
    | .Return (some e) _ => chkE cn N a sc none e
    | _ => false)
  | .retN, s => (match s with
    | .Return none _ => true
    | _ => false)
  | .iff t a b, s => (match s with
    | .If t' a' b' _ => chkT cn N t sc none t' && chkB cn N sc a a' && chkB cn N sc b b'
    | _ => false)
  | .for_ tg k its body, s => (match s with
    | .For tgE iter ss [] _ => chkW cn N its k sc none iter && (match k, tgE with
        | 2, .Tuple .. => true
        | 2, _ => false
        | 3, .Tuple .. => true
        | 3, _ => false
        | _, _ => true) && chkTg N sc none tg tgE && simpleE iter && chkB cn N sc body ss
    | _ => false)
  | .whl t body, s => (match s with
    | .While t' ss [] _ => chkT cn N t sc none t' && chkB cn N sc body ss
    | _ => false)
  | .brk, s => (match s with
    | .Break _ => true
    | _ => false)
  | .cont, s => (match s with
    | .Continue _ => true
    | _ => false)
  | .pass, s => (match s with
    | .Pass _ => true
    | _ => false)
  | .raise k as, s => (match s with
    | .Raise (some (.Call (.Name x _) (e :: es) [] _)) none _ => isGl sc x && plainN x && (e :: es).all simpleE && chkA cn N as sc none (e :: es) && cn.exs.any fun q => decide (q.1 = x) && decide (q.2.1 = k) && decide (q.2.2.length = as.length)
    | _ => false)
  | .try_ body hs, s => (match s with
    | .Try ss (hd :: hds) [] [] _ => chkB cn N sc body ss && chkHds cn N sc hs (hd :: hds)
    | _ => false)
def chkB (cn : Cn) (N : List Str) (sc : Scope) : List S → List Stmt → Bool
  | [], ss => ss.isEmpty
  | a :: as, ss => (match ss with
    | s :: ss => chkS cn N sc a s && chkB cn N sc as ss
    | [] => false)
end
theorem sw_lc {elt : Expr} {gs : List Comprehension} {s : Scope} {pos p : Pos} {x : Str} {l : Nat} {env : Env} {sc : Scope} (hk : env.scope.kind = .function) (hs : env.scope = sc) : swapsWith (.ListComp elt gs s pos) (some (.Name x p)) l env = pure (swB sc x p (.ListComp elt gs s pos)) := by
  have hb : env.blockKind = .function := by unfold Env.blockKind; rw [hk]; rfl
  have e : (env.kindOf x == some .local) = isLocal sc x := by
    unfold Env.kindOf isLocal
    rw [hs]
    rw [Bool.eq_iff_iff]
    simp
  unfold swapsWith swB
  simp only [hb, e, Expr.pos]
  rfl
theorem stores_none {es : List Expr} {k : Nat} {pt : Pos} {v : Expr} {env : Env} (h : storesNone es v = true) : swappedStores [.Tuple es k pt] v env = pure none := by
  cases v with
  | Tuple vs k2 p2 =>
    unfold storesNone at h
    simp only [Bool.or_eq_true, Bool.not_eq_true'] at h
    unfold swappedStores
    simp only
    split
    · rfl
    · rename_i hc
      rcases h with h | h
      · exact absurd (by simp [h]) hc
      · split
        · rfl
        · split
          · rfl
          · first | rfl | (rw [if_pos h]; rfl) | (rw [if_pos h]; done)
  | _ => rfl
theorem fm_lt {α β : Type} (f : α → Option β) : ∀ {l : List α} {a : α}, a ∈ l → f a = none → (l.filterMap f).length < l.length
  | b :: l, a, h, e => by
    have h0 : (l.filterMap f).length ≤ l.length := List.length_filterMap_le f l
    rcases List.mem_cons.mp h with rfl | h
    · rw [List.filterMap_cons_none e]
      simp only [List.length_cons]
      omega
    · have ih := fm_lt f h e
      cases q : f b with
      | none => rw [List.filterMap_cons_none q]; simp only [List.length_cons]; omega
      | some c => rw [List.filterMap_cons_some q]; simp only [List.length_cons]; omega
theorem stores_cell {es vs : List Expr} {k k2 : Nat} {pt p2 : Pos} {env : Env} {sc : Scope} (hs : env.scope = sc) (h : storesCell sc es = true) : swappedStores [.Tuple es k pt] (.Tuple vs k2 p2) env = pure none := by
  unfold swappedStores
  simp only
  split
  · rfl
  · split
    · rfl
    · rw [if_pos]
      · obtain ⟨t, ht, e⟩ := List.any_eq_true.mp h
        have hlt := fm_lt (fun t => match t with
          | .Name id pos => if env.kindOf id == some .local && pos.line == (es.head?.map (·.pos.line)).getD 0 then some id else none
          | _ => none) ht (by
            cases t with
            | Name x p =>
              have e : (!isLocal sc x) = true := e
              have e2 : (env.kindOf x == some .local) = isLocal sc x := by
                unfold Env.kindOf isLocal
                rw [hs]
                rw [Bool.eq_iff_iff]
                simp
              show (if (env.kindOf x == some .local) && _ then _ else _) = _
              rw [e2]
              rw [if_neg]
              simp at e
              simp [e]
            | _ => rfl)
        rw [Bool.or_eq_true]
        left
        rw [bne_iff_ne]
        exact Nat.ne_of_lt hlt
theorem stores_ok {es vs : List Expr} {k k2 : Nat} {pt p2 : Pos} {env : Env} {sc : Scope} (hs : env.scope = sc) (h : storesOk sc es (.Tuple vs k2 p2) = true) : swappedStores [.Tuple es k pt] (.Tuple vs k2 p2) env = pure none :=
  (Bool.or_eq_true_iff.mp h).elim stores_none (stores_cell hs)
section
variable {cn : Cn} {N : List Str} {Φ : Calls} {X : Cx} {c : Wc} {sc : Scope}
theorem slot_ok (g : Gx cn N Φ X c sc none) {i : Nat} {x : Str} (h : N[i]? = some x) (hl : isLoc sc x = true) : X.N[i]? = some x ∧ i ∈ List.range N.length ∧ X.N.Nodup ∧ L2.Loc X.env.scope x ∧ (X.fn x = true ∨ X.env.scope.names.lookup x = some .local) :=
  ⟨by rw [g.hN]; exact h, List.mem_range.mpr (List.getElem?_eq_some_iff.mp h).1, by rw [g.hN]; exact g.nd, by rw [g.hsc]; exact loc_of hl, .inl (g.fn x rfl)⟩
theorem slots_ok (g : Gx cn N Φ X c sc none) {is : List Nat} (h : slotsOk N sc is = true) : (∀ i ∈ is, ∀ x, X.N[i]? = some x → L2.Loc X.env.scope x ∧ (X.fn x = true ∨ X.env.scope.names.lookup x = some .local)) ∧ ∀ i ∈ is, i ∈ List.range N.length := by
  refine ⟨fun i hi x hx => ?_, fun i hi => ?_⟩
  · have := List.all_eq_true.mp h i hi
    rw [← g.hN, hx] at this
    exact ⟨by rw [g.hsc]; exact loc_of this, .inl (g.fn x rfl)⟩
  · have := List.all_eq_true.mp h i hi
    cases e : N[i]? with
    | none => rw [e] at this; cases this
    | some x => exact List.mem_range.mpr (List.getElem?_eq_some_iff.mp e).1
theorem Gx.nd_inj {Φ : Calls} {fb : Option Scope} (g : Gx cn N Φ X c sc fb) {i j : Nat} {x : Str} (e1 : N[i]? = some x) (e2 : N[j]? = some x) : i = j := nodup_ix g.nd e1 e2
theorem names_cons {i : Nat} {is : List Nat} {ts : List Expr} (h : namesAre N (i :: is) ts = true) : ∃ x p r, ts = .Name x p :: r ∧ N[i]? = some x ∧ namesAre N is r = true := by
  cases ts with
  | nil => cases h
  | cons t r =>
    cases t with
    | Name x p =>
      have h := Bool.and_eq_true_iff.mp (show (decide (N[i]? = some x) && namesAre N is r) = true from h)
      exact ⟨x, p, r, rfl, of_decide_eq_true h.1, h.2⟩
    | _ => cases h
theorem names_nil {ts : List Expr} (h : namesAre N [] ts = true) : ts = [] := by
  cases ts with
  | nil => rfl
  | cons t r => cases h
theorem dups2 {x y : Str} (h : x ≠ y) : ([x, y] : List Str).eraseDups.length = 2 := by
  have hb : (y == x) = false := by simpa using fun e => h e.symm
  simp [List.eraseDups, List.eraseDupsBy, List.eraseDupsBy.loop, hb]
theorem dups3 {x y z : Str} (h : x ≠ y) (h2 : x ≠ z) (h3 : y ≠ z) : ([x, y, z] : List Str).eraseDups.length = 3 := by
  have hb : (y == x) = false := by simpa using fun e => h e.symm
  have hb2 : (z == x) = false := by simpa using fun e => h2 e.symm
  have hb3 : (z == y) = false := by simpa using fun e => h3 e.symm
  simp [List.eraseDups, List.eraseDupsBy, List.eraseDupsBy.loop, hb, hb2, hb3]
theorem any_star {vs : List Expr} : (vs.any fun | .Starred .. => true | _ => false) = vs.any isStar := by
  congr 1
theorem par2_stores {x y : Str} {px py pt p2 : Pos} {k k2 : Nat} {vs : List Expr} {env : Env} (hk : env.blockKind = .function) (hx : env.kindOf x = some .local) (hy : env.kindOf y = some .local) (hl : (py.line == px.line) = true) (hne : x ≠ y)
    (h5 : vs.any isStar = false) (h6 : vs.all (foldedForSure 8) = false) (h7 : vs.all (constantsAlone 8) = false) (h8 : vs.length = 2) : swappedStores [.Tuple [.Name x px, .Name y py] k pt] (.Tuple vs k2 p2) env = pure (some [x, y]) := by
  have hl' : py.line = px.line := by simpa using hl
  have hd := dups2 hne
  unfold swappedStores
  simp only [any_star, hk, h5, h6, h7, h8]
  simp only [List.filterMap, Expr.pos, List.head?, Option.map, Option.getD, hx, hy, hl']
  simp
  rw [if_neg, if_pos hd]
  rintro ⟨z, hz, e⟩
  have := List.any_eq_false.mp h5 z hz
  exact this (by cases z <;> first | rfl | cases e)
theorem par3_stores {x y z : Str} {px py pz pt p2 : Pos} {k k2 : Nat} {vs : List Expr} {env : Env} (hk : env.blockKind = .function) (hx : env.kindOf x = some .local) (hy : env.kindOf y = some .local) (hz : env.kindOf z = some .local) (hl : (py.line == px.line) = true) (hl2 : (pz.line == px.line) = true) (hne : x ≠ y) (hne2 : x ≠ z) (hne3 : y ≠ z)
    (h5 : vs.any isStar = false) (h6 : vs.all (foldedForSure 8) = false) (h7 : vs.all (constantsAlone 8) = false) (h8 : vs.length = 3) : swappedStores [.Tuple [.Name x px, .Name y py, .Name z pz] k pt] (.Tuple vs k2 p2) env = pure (some [x, y, z]) := by
  have hl' : py.line = px.line := by simpa using hl
  have hl2' : pz.line = px.line := by simpa using hl2
  have hd := dups3 hne hne2 hne3
  unfold swappedStores
  simp only [any_star, hk, h5, h6, h7, h8]
  simp only [List.filterMap, Expr.pos, List.head?, Option.map, Option.getD, hx, hy, hz, hl', hl2']
  simp
  rw [if_neg, if_pos hd]
  rintro ⟨z, hz, e⟩
  have := List.any_eq_false.mp h5 z hz
  exact this (by cases z <;> first | rfl | cases e)
theorem par_ok (g : Gx cn N Φ X c sc none) {is : List Nat} {ts vs : List Expr} {as : List E} {k k2 : Nat} {pt p2 pos : Pos} (h : parOk sc N is ts vs = true) (hl : is.length = 2 ∨ is.length = 3) (ha : chkA cn N as sc none vs = true) (hs : vs.all simpleE = true) :
    SS X c (List.range N.length) (.Assign [.Tuple ts k pt] (.Tuple vs k2 p2) pos) (fun env st => exS Φ (.par is as) env st) := by
  unfold parOk at h
  simp only [Bool.and_eq_true, Bool.not_eq_true', decide_eq_true_eq] at h
  obtain ⟨⟨⟨⟨⟨⟨⟨h1, h2⟩, h3⟩, h4⟩, h5⟩, h6⟩, h7⟩, h8⟩ := h
  have hb : X.env.blockKind = .function := by unfold Env.blockKind; rw [g.hsc, g.kind]; rfl
  have loc : ∀ i ∈ is, ∀ x, N[i]? = some x → X.env.scope.names.lookup x = some .local := fun i hi x hx => by
    have := List.all_eq_true.mp h2 i hi
    rw [hx] at this
    rw [g.hsc]
    exact of_decide_eq_true this
  have hA := okA (Φ := Φ) as g vs ha hs
  have inj : ∀ {i j : Nat} {x y : Str}, N[i]? = some x → N[j]? = some y → i ≠ j → x ≠ y := fun {i j x y} e1 e2 n e => by
    subst e
    exact n (g.nd_inj e1 e2)
  rcases hl with hl | hl
  · match is, hl with
    | [i, j], _ =>
      obtain ⟨x, px, r1, rfl, e1, h1⟩ := names_cons h1
      obtain ⟨y, py, r2, rfl, e2, h1⟩ := names_cons h1
      have := names_nil h1
      subst this
      match vs, h8 with
      | [a, b], _ =>
        have hij : i ≠ j := by simpa using h3
        have l1 := loc i (by simp) x e1
        have l2 := loc j (by simp) y e2
        have hl4 : (py.line == px.line) = true := List.all_eq_true.mp h4 (.Name y py) (by simp)
        exact s_par2 g.calm (by rw [g.hN]; exact g.nd) (by rw [g.hN]; exact e1) (by rw [g.hN]; exact e2) hij (List.mem_range.mpr (List.getElem?_eq_some_iff.mp e1).1) (List.mem_range.mpr (List.getElem?_eq_some_iff.mp e2).1) l1 l2
          (par2_stores hb l1 l2 hl4 (inj e1 e2 hij) h5 h6 h7 rfl) hA
  · match is, hl with
    | [i, j, l], _ =>
      obtain ⟨x, px, r1, rfl, e1, h1⟩ := names_cons h1
      obtain ⟨y, py, r2, rfl, e2, h1⟩ := names_cons h1
      obtain ⟨z, pz, r3, rfl, e3, h1⟩ := names_cons h1
      have := names_nil h1
      subst this
      match vs, h8 with
      | [a, b, d], _ =>
        have hn : (¬ i = j ∧ ¬ i = l) ∧ ¬ j = l := by simpa using h3
        have l1 := loc i (by simp) x e1
        have l2 := loc j (by simp) y e2
        have l3 := loc l (by simp) z e3
        have hl4 : (py.line == px.line) = true := List.all_eq_true.mp h4 (.Name y py) (by simp)
        have hl5 : (pz.line == px.line) = true := List.all_eq_true.mp h4 (.Name z pz) (by simp)
        exact s_par3 g.calm (by rw [g.hN]; exact g.nd) (by rw [g.hN]; exact e1) (by rw [g.hN]; exact e2) (by rw [g.hN]; exact e3) hn.1.1 hn.1.2 hn.2 (List.mem_range.mpr (List.getElem?_eq_some_iff.mp e1).1) (List.mem_range.mpr (List.getElem?_eq_some_iff.mp e2).1) (List.mem_range.mpr (List.getElem?_eq_some_iff.mp e3).1) l1 l2 l3
          (par3_stores hb l1 l2 l3 hl4 hl5 (inj e1 e2 hn.1.1) (inj e1 e3 hn.1.2) (inj e2 e3 hn.2) h5 h6 h7 rfl) hA
theorem aug_any {o : O2} {op : Operator} (h : augOp o = some op) : (op = .Add ∧ o = .add) ∨ (op = .Sub ∧ o = .sub) := by
  cases o <;> first | (cases h; done) | skip
  · cases h; exact .inl ⟨rfl, rfl⟩
  · cases h; exact .inr ⟨rfl, rfl⟩
theorem hds_ok (g : Gx cn N Φ X c sc none) {xt : Xt} (x2 : XtOk X.K xt) (x4 : ∀ k C ns, xt k = some (C, ns) → cn.nm k = ns)
    (x5 : ∀ q ∈ cn.hnd, ∃ cv, (X.mg q.1 = some cv ∨ (X.mg q.1 = none ∧ bootBuiltins q.1 = some cv ∧ q.1 ≠ "__name__")) ∧ ∀ k C ns, xt k = some (C, ns) → PySem.W.exmOne X.K (.ref C) cv = some (q.2.contains k)) :
    ∀ {hs : List Hd} {es : List ExceptHandler}, chkHds cn N sc hs es = true → ∃ l, Hs X es l ∧ HdR X xt hs l
  | [], [], _ => ⟨[], .nil, .nil⟩
  | [], _ :: _, h => by cases h
  | _ :: _, [], h => by cases h
  | h :: hs, e :: es, hh => by
    simp only [chkHds, Bool.and_eq_true] at hh
    obtain ⟨l, l1, l2⟩ := hds_ok g x2 x4 x5 hh.2
    have h1 := hh.1
    unfold chkHd at h1
    split at h1
    · simp only [Bool.and_eq_true] at h1
      obtain ⟨⟨⟨⟨a1, a2⟩, a3⟩, a4⟩, a5⟩ := h1
      obtain ⟨q, hq, e⟩ := List.any_eq_true.mp a3
      simp only [Bool.and_eq_true, decide_eq_true_eq] at e
      obtain ⟨e1, e2⟩ := e
      obtain ⟨cv, c1, c2⟩ := x5 q hq
      rw [e1] at c1
      rw [e2] at c2
      split at a5
      · rename_i hsl
        exact ⟨_, .bare ⟨g.gl a1, (plain_of a2).1, c1⟩ (by simp) (su_ok x2 x4 (fun y z => by cases z) a4) l1, .bare c2 hsl l2⟩
      · rename_i n i hsl
        simp only [Bool.and_eq_true, decide_eq_true_eq] at a5
        obtain ⟨⟨b1, b2⟩, b3⟩ := a5
        have hl : sc.names.lookup n = some .local := of_decide_eq_true b2
        have hN : X.N[i]? = some n := by rw [g.hN]; exact b1
        have hk : X.env.kindOf n = some .local := by
          unfold Env.kindOf
          rw [g.hsc]
          exact hl
        exact ⟨_, .named ⟨g.gl a1, (plain_of a2).1, c1⟩ (by simp) hN hk (su_ok x2 x4 (fun y z => by
          cases z
          exact ⟨hN, .inl (by rw [g.hsc]; exact hl), (plain_of b3).1, (plain_of b3).2.1⟩) a4) l1, .named c2 hsl l2⟩
      · cases a5
    · cases h1
mutual
theorem okS : ∀ (a : S) (X : Cx) (c : Wc) (g : Gx cn N Φ X c sc none) (hp : PassesOwn (model X.prog X.w) X.A X.env X.xe) (s : Stmt), chkS cn N sc a s = true → SS X c (List.range N.length) s (fun env st => exS Φ a env st)
  | .set i a, X, c, g, hp, s, h => by
    unfold chkS at h
    split at h
    · rename_i x p v pos
      simp only [Bool.and_eq_true, decide_eq_true_eq] at h
      obtain ⟨⟨⟨h1, h2⟩, h3⟩, h4⟩ := h
      obtain ⟨s1, s2, s3, s4, s5⟩ := slot_ok g h1 h2
      have hk : X.env.scope.kind = .function := by rw [g.hsc]; exact g.kind
      by_cases hn : notComp v = true
      · exact s_set s1 s2 s3 s4 (swaps_of hn) s5 (okE a g v h3)
      · have hn : notComp v = false := by simpa using hn
        rw [hn] at h4
        simp only [Bool.false_or, Bool.and_eq_true] at h4
        obtain ⟨h5, h6⟩ := h4
        split at h6
        · rename_i elt0 gens0 scope0 pos0 hEq0
          have hsw := sw_lc (elt := elt0) (gs := gens0) (s := scope0) (pos := pos0) (p := p) (x := x) (l := pos.line) hk g.hsc
          cases hb : swB sc x p (.ListComp elt0 gens0 scope0 pos0) with
          | false =>
            rw [hb] at hsw
            exact s_set s1 s2 s3 s4 hsw s5 (okE a g _ h3)
          | true =>
            rw [hb] at hsw
            have hloc : X.env.scope.names.lookup x = some .local := by
              unfold swB at hb
              simp only [Bool.and_eq_true] at hb
              rw [g.hsc]
              exact of_decide_eq_true hb.1.1
            cases a with
            | comp m elt tg k its ifs =>
              unfold chkE at h3
              split at h3
              · rename_i e0 elt' tgE iter ifs' scope pos' hEq
                cases hEq
                simp only [Bool.and_eq_true, decide_eq_true_eq] at h3
                obtain ⟨⟨⟨⟨⟨⟨⟨⟨h1, h2⟩, h3⟩, h4⟩, h5⟩, h6⟩, h7⟩, h8⟩, h9⟩ := h3
                have hb := blkOk_by h3
                have gb := fun s H C cl fp => g.blk (scope := scope0) hb.kind s H C cl fp
                have hi := okW (Φ := Φ) its k g tgE iter h2 h1
                exact s_setLc (m := m) (own := ownOf N tg.slots) (rc := fun env st => evAn Φ ifs env st) (re := fun env st => ev Φ elt env st) g.calm s3 s1 s2 hloc hsw hi (by rw [g.hN, g.hsc]; exact hb) (own_snd N _) (fun s H C cl fp => tg_ok (gb s H C cl fp) h5) (fun s H C cl fp => okIfs ifs (gb s H C cl fp) _ h7 h8) (fun s H C cl fp => okE elt (gb s H C cl fp) _ h6) (folded_of h9)
              · cases h3
            | _ => cases h5
        · cases h6
    · cases h
  | .unp is a, X, c, g, hp, s, h => by
    unfold chkS at h
    split at h
    · simp only [Bool.and_eq_true] at h
      obtain ⟨⟨⟨⟨h1, h2⟩, h3⟩, h4⟩, h5⟩ := h
      obtain ⟨q1, q2⟩ := slots_ok g h2
      exact s_unp g.calm (by rw [g.hN]; exact g.nd) (by rw [g.hN]; exact h1) q1 q2 (sole_of h4) (stores_none h5) (okE a g _ h3)
    · cases h
  | .par is as, X, c, g, hp, s, h => by
    unfold chkS at h
    split at h
    · simp only [Bool.and_eq_true, Bool.or_eq_true, decide_eq_true_eq] at h
      obtain ⟨⟨h3, h4⟩, h5⟩ := h
      rcases h5 with ⟨h1, h2⟩ | ⟨⟨⟨h1, h2⟩, h5⟩, h6⟩
      · exact par_ok g h1 h2 h3 h4
      · obtain ⟨q1, q2⟩ := slots_ok g h2
        exact s_parT g.calm (by rw [g.hN]; exact g.nd) (by rw [g.hN]; exact h1) q1 q2 h5 (sole_of rfl) (stores_ok g.hsc h6) (okA as g _ h3 h4)
    · cases h
  | .setix o i v, X, c, g, hp, s, h => by
    unfold chkS at h
    split at h
    · simp only [Bool.and_eq_true] at h
      obtain ⟨⟨⟨h1, h2⟩, h3⟩, h4⟩ := h
      exact s_setix (o := .Name "x" ⟨0, 0, 0, 0⟩) (i := .Name "x" ⟨0, 0, 0, 0⟩) (by have := g.un; omega) (okE v g _ h4) (okE o g _ h1) (okE i g _ h2) h3
    · cases h
  | .aug i o a, X, c, g, hp, s, h => by
    unfold chkS at h
    split at h
    · simp only [Bool.and_eq_true, decide_eq_true_eq] at h
      obtain ⟨⟨⟨h1, h2⟩, h3⟩, h4⟩ := h
      obtain ⟨s1, s2, s3, s4, s5⟩ := slot_ok g h1 h2
      exact s_aug (aug_any h3) s1 s2 s3 s4 s5 (okE a g _ h4)
    · cases h
  | .augix o i op a, X, c, g, hp, s, h => by
    unfold chkS at h
    split at h
    · simp only [Bool.and_eq_true, decide_eq_true_eq] at h
      obtain ⟨⟨⟨⟨h1, h2⟩, h3⟩, h4⟩, h5⟩ := h
      exact s_augix (aug_any h4) (by have := g.un; omega) (okE a g _ h5) (okE o g _ h1) (okE i g _ h2) h3
    · cases h
  | .ex a, X, c, g, hp, s, h => by
    unfold chkS at h
    split at h
    · simp only [Bool.and_eq_true] at h
      exact s_ex (okE a g _ h.1) (swaps_of h.2)
    · cases h
  | .ret a, X, c, g, hp, s, h => by
    unfold chkS at h
    split at h
    · exact s_ret (okE a g _ h)
    · cases h
  | .retN, X, c, g, hp, s, h => by
    unfold chkS at h
    split at h
    · exact s_retN
    · cases h
  | .iff t a b, X, c, g, hp, s, h => by
    unfold chkS at h
    split at h
    · simp only [Bool.and_eq_true] at h
      exact s_iff (okT t g _ h.1.1) (okB a X c g hp _ h.1.2) (okB b X c g hp _ h.2)
    · cases h
  | .for_ tg k its body, X, c, g, hp, s, h => by
    unfold chkS at h
    split at h
    · simp only [Bool.and_eq_true] at h
      obtain ⟨⟨⟨⟨h1, h2⟩, h3⟩, h4⟩, h5⟩ := h
      have hv : ∀ i ∈ tg.slots, i ∈ List.range N.length := fun i hi => by
        unfold chkTg at h3
        rw [Bool.and_eq_true] at h3
        have := List.all_eq_true.mp h3.1 i hi
        cases e : N[i]? with
        | none => rw [e] at this; cases this
        | some x => exact List.mem_range.mpr (List.getElem?_eq_some_iff.mp e).1
      exact s_for hp g.calm (okW its k g _ _ h2 h1) (tg_ok g h3) hv (okB body X c g hp _ h5) (folded_of h4)
    · cases h
  | .whl t body, X, c, g, hp, s, h => by
    unfold chkS at h
    split at h
    · simp only [Bool.and_eq_true] at h
      exact s_whl (n := fuel) hp (okT t g _ h.1) (okB body X c g hp _ h.2)
    · cases h
  | .brk, X, c, g, hp, s, h => by
    unfold chkS at h
    split at h
    · exact s_brk
    · cases h
  | .cont, X, c, g, hp, s, h => by
    unfold chkS at h
    split at h
    · exact s_cont
    · cases h
  | .pass, X, c, g, hp, s, h => by
    unfold chkS at h
    split at h
    · exact s_pass
    · cases h
  | .raise k as, X, c, g, hp, s, h => by
    unfold chkS at h
    split at h
    · simp only [Bool.and_eq_true] at h
      obtain ⟨⟨⟨⟨h1, h2⟩, h3⟩, h4⟩, h5⟩ := h
      obtain ⟨q, hq, e⟩ := List.any_eq_true.mp h5
      simp only [Bool.and_eq_true, decide_eq_true_eq] at e
      obtain ⟨⟨e1, e2⟩, e3⟩ := e
      obtain ⟨xt, x1, x2, x3, x4⟩ := g.exs.ex
      have E := x3 q hq
      rw [e1, e2] at E
      have h3' := h3
      rw [List.all_cons, Bool.and_eq_true] at h3'
      exact s_raise x1 E g.calm g.tk (g.gl h1) (plain_of h2).1 (okA as g _ h4 h3) (fun env st ds st' e => by rw [evs_len e, e3]) (star_of h3'.1) (back_of h3'.2)
    · cases h
  | .try_ body hs, X, c, g, hp, s, h => by
    unfold chkS at h
    split at h
    · rw [Bool.and_eq_true] at h
      obtain ⟨xt, x1, x2, x3, x4, x5⟩ := g.exs.ex
      obtain ⟨l, l1, l2⟩ := hds_ok g x2 x4 x5 h.2
      exact s_try x1 (g.stk rfl).1 (g.stk rfl).2 (by rw [g.hN]; exact g.nd) g.tk (fun W pn xe tk ps => okB body _ _ (g.tr tk) ps _ h.1) l1 l2
    · cases h
theorem okB : ∀ (as : List S) (X : Cx) (c : Wc) (g : Gx cn N Φ X c sc none) (hp : PassesOwn (model X.prog X.w) X.A X.env X.xe) (ss : List Stmt), chkB cn N sc as ss = true → SB X c (List.range N.length) ss (fun env st => exB Φ as env st)
  | [], X, c, g, hp, ss, h => by
    unfold chkB at h
    cases ss with
    | nil => exact b_nil
    | cons _ _ => cases h
  | a :: as, X, c, g, hp, ss, h => by
    unfold chkB at h
    cases ss with
    | nil => cases h
    | cons s ss =>
      simp only [Bool.and_eq_true] at h
      exact b_cons (okS a X c g hp s h.1) (okB as X c g hp ss h.2)
end
end
end Dn
/-! Dn: the program's exception classes as the top has left them. -/
namespace Dn
open PySem PySem.Spec PyProof.Rows L2
/-- a class: its name, number, fields, its __init__ as written, its qualified name -/
structure Ex where
  x : Str
  k : Nat
  ns : List Str
  st : Stmt
  qual : Str
abbrev InV : Type := Option (Str × Str × Arguments × FuncBody × Scope × Addr × List Str × Addr)
def inAd (K : PySem.W.Frag) (x : Str) : Addr := He.ma K (He.ga K x) "__init__"
def inObs (K : PySem.W.Frag) (q : Ex) : InV := match K.lookup (inAd K q.x) with
  | some ⟨_, _, .func fd, _⟩ => some (fd.name, fd.qualname, fd.params, fd.body, fd.scope, fd.globals, fd.closure.map (·.1), fd.builtins)
  | _ => none
def Ex.val (q : Ex) : InV := some ("__init__", q.qual, defArgs q.st, .stmts (defBody q.st), defScope q.st, mainGlobals, ["__class__"], builtinsNs)
def oexB (K : PySem.W.Frag) (C : Addr) : Bool := (match K.lookup C with
  | some ⟨.type "type", _, .cls cd, sl⟩ => (match cd.mro, sl.toList with
    | .ref C' :: bm, [_, _, _, _, some (.builtin n), _] => C' == C && n == "ValueError.__new__" && !cd.hasDel && cd.hasDict && PySem.HandSPX.refsVE bm
    | _, _ => false)
  | _ => false) && He.eqO (PySem.W.findIn K (.ref C) "__setattr__") (some (some (.builtin "object.__setattr__"))) && decide (PySem.W.subIn K (.ref C) (.type "BaseException") = some true) && decide (PySem.W.typeIn K (.ref C) = some (.type "type")) && PySem.W.keepIn K (.ref C)
theorem oexB_ok {K : PySem.W.Frag} {C : Addr} (h : oexB K C = true) : OexC K C := by
  unfold oexB at h
  simp only [Bool.and_eq_true, decide_eq_true_eq] at h
  obtain ⟨⟨⟨⟨q, h2⟩, h3⟩, h4⟩, h5⟩ := h
  refine ⟨?_, He.eqO_ok h2, h3, h4, h5⟩
  split at q
  · rename_i dd cd sl ho
    split at q
    · rename_i C' bm k0 k1 k2 k3 n k5 hm hs
      simp only [Bool.and_eq_true, beq_iff_eq, Bool.not_eq_true'] at q
      obtain ⟨⟨⟨⟨rfl, rfl⟩, hdel⟩, hdd⟩, ht⟩ := q
      obtain ⟨nm, bs, mro, ns, qn, hd, sn, sub, ab, col, del⟩ := cd
      dsimp only at hm hdel hdd
      subst hm hdel hdd
      have hsl : sl = #[k0, k1, k2, k3, some (.builtin "ValueError.__new__"), k5] := by
        obtain ⟨l⟩ := sl
        simp only at hs
        rw [hs]
      subst hsl
      exact ⟨nm, qn, ns, bs, bm, sn, sub, ab, col, dd, k0, k1, k2, k3, k5, ho, ht⟩
    · cases q
  · cases q
/-- the function object's other parts -/
def inB (K : PySem.W.Frag) (C f : Addr) (fl qual : Str) : Bool := match K.lookup f with
  | some ⟨_, _, .func fd, _⟩ => decide (fd.defaults = .none) && decide (fd.kwdefaults = .none) && (match fd.closure with
      | [(_, cc)] => (match K.lookup cc with
        | some ⟨_, _, .cell (some v), _⟩ => decide (v = .ref C)
        | _ => false)
      | _ => false) && PySem.W.codeIn K fd.code qual && (match fd.code with
      | .ref cda => (match K.lookup cda with
        | some ⟨_, _, .fields vs, _⟩ => (match (vs[2]? : Option Value) with
          | some (.str file _) => decide (fl = file)
          | _ => false)
        | _ => false)
      | _ => false)
  | _ => false
def exK (K : PySem.W.Frag) (fl : Str) (q : Ex) : Bool :=
  (He.Fa.glo q.x).ok K && oexB K (He.ga K q.x) && xfB K (He.ga K q.x) && (He.Fa.free "super").ok K && He.eqO (PySem.W.nsIn K cStatics "thirdparty.any") (some none) && He.eqO (PySem.W.findIn K (.ref (He.ga K q.x)) "__init__") (some (some (.ref (inAd K q.x)))) &&
    decide (PySem.W.typeIn K (.ref (inAd K q.x)) = some (.type "function")) && He.eqO (PySem.W.ks_superIn K (He.ga K q.x) (He.ga K q.x) "__init__") (some (some (.builtin "ValueError.__init__"))) && (q.ns.all fun n => He.eqO (PySem.W.findIn K (.ref (He.ga K q.x)) n) (some none)) && inB K (He.ga K q.x) (inAd K q.x) fl q.qual
/-- what is asked of the written __init__ -/
def Ex.ok (q : Ex) : Bool := (match defBody q.st with
  | .Expr (.Call (.Attribute (.Call (.Name s _) [] [] _) i p2) es [] pos) _ :: ss => decide (s = "super") && decide (i = "__init__") && (p2.endLine == pos.line) && nmL q.ns es && stL q.ns ss
  | _ => false) && decide ((defScope q.st).kind = .function) && !(defScope q.st).isCoroutine && !(defScope q.st).isGenerator && ((defScope q.st).names.all fun x => !decide (x.2 = .cell)) &&
    (q.ns.all fun x => decide ((defScope q.st).names.lookup x = some .local) && !(x == ("__debug__" : Str))) && decide ((("self" : Str) :: q.ns).Nodup) && decide (q.ns.length = 1 ∨ q.ns.length = 2 ∨ q.ns.length = 3) &&
    decide ((defScope q.st).names.lookup ("super" : Str) = some .globalImplicit) && decide ((defScope q.st).names.lookup ("__class__" : Str) = some .free) && decide ((defScope q.st).names.lookup ("self" : Str) = some .local) &&
    (match ((defArgs q.st).posonlyargs ++ (defArgs q.st).args).head? with
      | some ar => decide (ar.arg = "self")
      | none => false)
theorem sup_ev {p0 p1 p2 pos : Pos} {ns : List Str} {es : List Expr} (h : nmL ns es = true) (hl : ns.length = 1 ∨ ns.length = 2 ∨ ns.length = 3) (hp : (p2.endLine == pos.line) = true) : SupEv p0 p1 p2 pos es ∧ ∀ (l : Nat) env, swapsWith (.Call (.Attribute (.Call (.Name "super" p0) [] [] p1) "__init__" p2) es [] pos) none l env = pure false := by
  have mp : ∀ (o : Expr) (env : Env), methodCallPos true o env p2 pos = pure pos := fun o env => by
    unfold methodCallPos
    rw [if_pos (by rw [hp]; rfl)]
  have ev : ∀ (es : List Expr) (env : Env), methodCallForm (es.length + 0) (backTo pos (starEach es env)) [] = true → ∃ pl : Sem Bool, eval (.Call (.Attribute (.Call (.Name "super" p0) [] [] p1) "__init__" p2) es [] pos) env = (do
      let ov ← attributeBase (.Call (.Name "super" p0) [] [] p1) "__init__" env (eval (.Call (.Name "super" p0) [] [] p1) env)
      standAt p2.atName
      let (f, first) ← holding [ov] (getMethod ov "__init__" pl)
      callWith pos f first (backTo pos (starEach es env)) []) := fun es env hf => by
    refine ⟨(do return (← importBound (.Call (.Name "super" p0) [] [] p1) env).getD true), ?_⟩
    show (do
      let ov ← attributeBase (.Call (.Name "super" p0) [] [] p1) "__init__" env (eval (.Call (.Name "super" p0) [] [] p1) env)
      standAt p2.atName
      methodCall (.Call (.Name "super" p0) [] [] p1) "__init__" p2 pos env ov (es.length + 0) (backTo pos (starEach es env)) []) = _
    unfold methodCall calleeOf
    simp only [hf, mp, pure_bind, if_true]
  have one : ∀ {n : Str} {ns : List Str} {es : List Expr}, nmL (n :: ns) es = true → ∃ p es', es = .Name n p :: es' ∧ nmL ns es' = true := by
    intro n ns es h
    cases es with
    | nil => cases h
    | cons e es =>
      cases e with
      | Name x p =>
        simp only [nmL, Bool.and_eq_true, decide_eq_true_eq] at h
        obtain ⟨rfl, h⟩ := h
        exact ⟨p, es, rfl, h⟩
      | _ => cases h
  have nil : ∀ {es : List Expr}, nmL [] es = true → es = [] := by
    intro es h
    cases es with
    | nil => rfl
    | cons _ _ => cases h
  match ns, hl, h with
  | [a], _, h =>
    obtain ⟨p, es1, rfl, h1⟩ := one h
    obtain rfl := nil h1
    exact ⟨fun env => ev _ env rfl, fun l env => by rfl⟩
  | [a, b], _, h =>
    obtain ⟨p, es1, rfl, h1⟩ := one h
    obtain ⟨p', es2, rfl, h2⟩ := one h1
    obtain rfl := nil h2
    exact ⟨fun env => ev _ env rfl, fun l env => by rfl⟩
  | [a, b, c], _, h =>
    obtain ⟨p, es1, rfl, h1⟩ := one h
    obtain ⟨p', es2, rfl, h2⟩ := one h1
    obtain ⟨p'', es3, rfl, h3⟩ := one h2
    obtain rfl := nil h3
    exact ⟨fun env => ev _ env rfl, fun l env => by rfl⟩
/-- .. and of its parameters -/
def Ex.Bd (q : Ex) : Prop := ∀ (doc pm : Value) (an : Option Addr) (cda cc : Addr) (ct : Value) (us : List Value), us.length = q.ns.length + 1 → bindArgs (PySem.W.fnX "__init__" q.qual (defArgs q.st) (defBody q.st) (defScope q.st) [("__class__", cc)] .none .none doc pm an (.ref cda) ct) ⟨us, []⟩ = pure ((("self" : Str) :: q.ns).zip us)
structure ExF (P : Program) (w : World) (K : PySem.W.Frag) (mg : Str → Option Value) (q : Ex) : Prop where
  T : OexC K (He.ga K q.x)
  xf : XfC K (He.ga K q.x)
  no : ∀ n ∈ q.ns, PySem.W.findIn K (.ref (He.ga K q.x)) n = some none
  nd : q.ns.Nodup
  hm : mg q.x = some (.ref (He.ga K q.x))
  ini : PySem.W.findIn K (.ref (He.ga K q.x)) "__init__" = some (some (.ref (inAd K q.x)))
  ty : PySem.W.typeIn K (.ref (inAd K q.x)) = some (.type "function")
  fn : ∃ fd, (∀ base, FnOk P w K mg base (L2.CX P w) 1 (inAd K q.x) fd (("self" : Str) :: q.ns) (spI (He.ga K q.x) q.ns)) ∧ Binds K fd (("self" : Str) :: q.ns) []
theorem ex_ok {P : Program} {w : World} {K : PySem.W.Frag} {h : Heap} {mg : Str → Option Value} {fl : Str} {q : Ex} (X : K.In h) (G : h.Ns mainGlobals mg) (hfile : P.main.file = fl) (htop : (P.main.scope.names.lookup ("super" : Str)).isSome = false)
    (c : exK K fl q = true) (o : inObs K q = q.val) (s : q.ok = true) (bd : q.Bd) : ExF P w K mg q := by
  unfold exK at c
  simp only [Bool.and_eq_true, decide_eq_true_eq] at c
  obtain ⟨⟨⟨⟨⟨⟨⟨⟨⟨c1, c2⟩, c3⟩, c4⟩, c5⟩, c6⟩, c7⟩, c8⟩, c9⟩, c10⟩ := c
  unfold Ex.ok at s
  simp only [Bool.and_eq_true, decide_eq_true_eq, Bool.not_eq_true'] at s
  obtain ⟨⟨⟨⟨⟨⟨⟨⟨⟨⟨⟨s1, s2⟩, s3⟩, s4⟩, s5⟩, s6⟩, s7⟩, s8⟩, s9⟩, s10⟩, s11⟩, s12⟩ := s
  have T := oexB_ok c2
  have hno : ∀ n ∈ q.ns, PySem.W.findIn K (.ref (He.ga K q.x)) n = some none := fun n hn => He.eqO_ok (List.all_eq_true.mp c9 n hn)
  refine ⟨T, xfB_ok c3, hno, (List.nodup_cons.mp s7).2, He.glo_ok X G c1, He.eqO_ok c6, c7, ?_⟩
  have hms : mg "super" = none := He.free_ok X G c4
  unfold inB at c10
  unfold inObs at o
  cases e : K.lookup (inAd K q.x) with
  | none => rw [e] at c10; cases c10
  | some ob =>
    obtain ⟨oc, od, dt, osl⟩ := ob
    rw [e] at c10 o
    cases dt with
    | func fd =>
      dsimp only at c10 o
      obtain ⟨name, qualname, params, body, scope, globals, closure, defaults, kwdefaults, doc, pm, an, code, ct, builtins⟩ := fd
      simp only [Bool.and_eq_true, decide_eq_true_eq] at c10
      obtain ⟨⟨⟨⟨d1, d2⟩, d3⟩, d4⟩, d5⟩ := c10
      unfold Ex.val at o
      simp only [Option.some.injEq, Prod.mk.injEq] at o
      obtain ⟨rfl, rfl, rfl, rfl, rfl, rfl, o7, rfl⟩ := o
      subst d1 d2
      cases closure with
      | nil => cases d3
      | cons pr rest =>
        cases rest with
        | cons _ _ => simp at o7
        | nil =>
          obtain ⟨cn, cc⟩ := pr
          simp only [List.map_cons, List.map_nil, List.cons.injEq, and_true] at o7
          subst o7
          dsimp only at d3
          cases ecc : K.lookup cc with
          | none => rw [ecc] at d3; cases d3
          | some oc2 =>
            obtain ⟨cl, cld, cdt, csl⟩ := oc2
            rw [ecc] at d3
            cases cdt with
            | cell ov =>
              cases ov with
              | none => cases d3
              | some v =>
                have hv : v = .ref (He.ga K q.x) := of_decide_eq_true d3
                subst hv
                cases code with
                | ref cda =>
                  dsimp only at d5
                  cases ecd : K.lookup cda with
                  | none => rw [ecd] at d5; cases d5
                  | some oc3 =>
                    obtain ⟨ccl, cdd, cdt3, ccs⟩ := oc3
                    rw [ecd] at d5
                    cases cdt3 with
                    | fields vs =>
                      dsimp only at d5
                      cases evs : (vs[2]? : Option Value) with
                      | none => rw [evs] at d5; cases d5
                      | some u =>
                        rw [evs] at d5
                        cases u with
                        | str file tf =>
                          have hfl : fl = file := of_decide_eq_true d5
                          split at s1
                          · rename_i sp p0 p1 ini p2 es pos p3 ss hbody
                            simp only [Bool.and_eq_true, decide_eq_true_eq] at s1
                            obtain ⟨⟨⟨⟨rfl, rfl⟩, n0⟩, n1⟩, n2⟩ := s1
                            split at s12
                            · rename_i ar har
                              have har2 : ar.arg = "self" := of_decide_eq_true s12
                              have Bd := bd
                              unfold Ex.Bd at Bd
                              rw [hbody] at e Bd
                              obtain ⟨v1, v2⟩ := sup_ev (p0 := p0) (p1 := p1) (p2 := p2) (pos := pos) n1 s8 n0
                              have hne : q.ns ≠ [] := fun z => by rw [z] at s8; simp at s8
                              refine ⟨_, fun base => init_ok (k := 0) ?_ d4 s2 s3 s4 (fun x hx => by simpa using List.all_eq_true.mp s5 x hx) (fun x hx => ?_) s7 n1 n2 hne (by omega) v1 (v2 _), .all fun us hl => Bd doc pm an cda cc ct us (by simpa using hl)⟩
                              · exact ⟨T, ⟨oc, od, osl, e⟩, ⟨_, _, _, ecc⟩, ⟨_, _, _, _, file, tf, ecd, evs, by rw [hfile, hfl]; simp⟩, hms, htop, s9, s10, s11, ⟨ar, har, har2⟩, He.eqO_ok c5, He.eqO_ok c8⟩
                              · have := List.all_eq_true.mp s6 x hx
                                simp only [Bool.and_eq_true, decide_eq_true_eq, Bool.not_eq_true'] at this
                                exact ⟨this, hno x hx⟩
                            · cases s12
                          · cases s1
                        | _ => cases d5
                    | _ => cases d5
                | _ => cases d5
            | _ => cases d3
    | _ => cases c10
end Dn
/-! Dn: a whole program. -/
namespace Dn
open PySem PySem.Spec PyProof.Rows L2
/-- a def: our tree of it, where it stands -/
structure Fr where
  d : FDef
  st : Stmt
  kw : List Kw
def Fr.ps (r : Fr) : List Str := r.d.N.take r.d.pars
def Fr.dd (r : Fr) : He.DefD := ⟨(r.d.nm, none), r.d.nm, r.d.nm, defArgs r.st, defBody r.st, defScope r.st, [], []⟩
abbrev FnP (K : PySem.W.Frag) (r : Fr) (f : Addr) (fd : FuncData) : Prop := FunD K r.d.nm r.d.nm (defArgs r.st) (defBody r.st) (defScope r.st) [] [] f fd
def cnOf (frs : List Fr) (blt : List Str) (csts : List (Str × PyData)) (exs : List Ex) (hnd : List (Str × List Nat)) : Cn := ⟨frs.zipIdx.map fun q => (q.1.d.nm, q.2, q.1.d.pars, q.1.kw), blt, csts, exs.map fun q => (q.x, q.k, q.ns), hnd⟩
def xtOf (K : PySem.W.Frag) (exs : List Ex) : Xt := fun k => (exs[k]?).map fun q => (He.ga K q.x, q.ns)
def wcX (K : PySem.W.Frag) (exs : List Ex) : Wc := ⟨fun _ _ _ _ => False, xrOf K (xtOf K exs), xrOf_mono⟩
/-- what is known of the exceptions -/
structure ExsOk (P : Program) (w : World) (K : PySem.W.Frag) (mg : Str → Option Value) (exs : List Ex) (hnd : List (Str × List Nat)) : Prop where
  num : ∀ (i : Nat) (q : Ex), exs[i]? = some q → q.k = i
  ex : ∀ q ∈ exs, ExF P w K mg q
  len : ∀ q ∈ exs, q.ns.length ≤ 1000
  hd : ∀ p ∈ hnd, mg p.1 = some (.ref (He.ga K p.1)) ∧ ∀ q ∈ exs, PySem.W.exmOne K (.ref (He.ga K q.x)) (.ref (He.ga K p.1)) = some (p.2.contains q.k)
theorem ExsOk.g {P : Program} {w : World} {K : PySem.W.Frag} {mg : Str → Option Value} {exs : List Ex} {hnd : List (Str × List Nat)} (h : ExsOk P w K mg exs hnd) {frs : List Fr} {blt : List Str} {csts : List (Str × PyData)} {X : Cx} {c : Wc} (hP : X.prog = P) (hw : X.w = w) (hK : X.K = K) (hm : X.mg = mg) (hr : Room 2 X.A) (hc : c.xr = xrOf K (xtOf K exs)) : ExG (cnOf frs blt csts exs hnd) X c := by
  subst hP hw hK hm
  have at_ : ∀ k C ns, xtOf X.K exs k = some (C, ns) → ∃ q, exs[k]? = some q ∧ C = He.ga X.K q.x ∧ ns = q.ns := fun k C ns e => by
    unfold xtOf at e
    obtain ⟨q, h1, h2⟩ := Option.map_eq_some_iff.mp e
    cases h2
    exact ⟨q, h1, rfl, rfl⟩
  refine ⟨xtOf X.K exs, hc, ⟨fun k C ns e => ?_, fun k C ns e => ?_, fun k C ns e => ?_⟩, fun p hp => ?_, fun k C ns e => ?_, fun p hp => ?_⟩
  · obtain ⟨q, h1, rfl, rfl⟩ := at_ k C ns e
    exact (h.ex q (List.mem_of_getElem? h1)).xf
  · obtain ⟨q, h1, rfl, rfl⟩ := at_ k C ns e
    exact (h.ex q (List.mem_of_getElem? h1)).no
  · obtain ⟨q, h1, rfl, rfl⟩ := at_ k C ns e
    exact (h.ex q (List.mem_of_getElem? h1)).nd
  · obtain ⟨q, hq, rfl⟩ := List.mem_map.mp (show p ∈ exs.map fun q => (q.x, q.k, q.ns) from hp)
    have F := h.ex q hq
    obtain ⟨fd, f1, f2⟩ := F.fn
    obtain ⟨i, hi⟩ := List.mem_iff_getElem?.mp hq
    refine ⟨He.ga X.K q.x, inAd X.K q.x, fd, 1, ?_, F.T, F.ini, F.ty, f1 X.base, hr, f2, F.hm, h.len q hq⟩
    show xtOf X.K exs q.k = _
    unfold xtOf
    rw [h.num i q hi, hi]
    rfl
  · obtain ⟨q, h1, rfl, rfl⟩ := at_ k C ns e
    unfold Cn.nm
    show (match (exs.map fun q => (q.x, q.k, q.ns))[k]? with
      | some q => q.2.2
      | none => []) = _
    rw [List.getElem?_map, h1]
    rfl
  · obtain ⟨h1, h2⟩ := h.hd p hp
    refine ⟨_, .inl h1, fun k C ns e => ?_⟩
    obtain ⟨q, e1, rfl, rfl⟩ := at_ k C ns e
    rw [h2 q (List.mem_of_getElem? e1), h.num k q e1]
/-- what the module's constants are -/
abbrev CstOk (K : PySem.W.Frag) (mg : Str → Option Value) (csts : List (Str × PyData)) : Prop := ∀ q ∈ csts, ∃ v u, mg q.1 = some u ∧ RelV v u ∧ ∀ O H, Fz K O H v q.2
def scB (N ps : List Str) (sc : Scope) : Bool := decide (sc.kind = .function) && !sc.isCoroutine && !sc.isGenerator && decide N.Nodup && decide (N.take ps.length = ps) && (ps.all fun x => isLoc sc x) && (sc.names.all fun y => !decide (y.2 = .free))
theorem scB_ok {N ps : List Str} {sc : Scope} (h : scB N ps sc = true) : FnScope N ps sc := by
  unfold scB at h
  simp only [Bool.and_eq_true, Bool.not_eq_true', decide_eq_true_eq, List.all_eq_true] at h
  obtain ⟨⟨⟨⟨⟨⟨h1, h2⟩, h3⟩, h4⟩, h5⟩, h6⟩, h7⟩ := h
  exact ⟨h1, h2, h3, h4, h5, fun x hx => loc_of (h6 x hx), fun y hy => by have := h7 y hy; simpa using this⟩
/-- what is asked of a def's text -/
def Fr.ok (cn : Cn) (r : Fr) : Bool := chkB cn r.d.N (defScope r.st) r.d.body (defBody r.st) && scB r.d.N r.ps (defScope r.st) && decide (r.d.pars ≤ r.d.N.length)
/-- .. and of its parameters -/
structure BdOk (r : Fr) : Prop where
  pos : ∀ (kV doc pm : Value) (an : Option Addr) (cdv ct : Value) (us : List Value), us.length = r.ps.length → bindArgs (PySem.W.fnOf r.d.nm r.d.nm (defArgs r.st) (defBody r.st) (defScope r.st) .none kV doc pm an cdv ct) ⟨us, []⟩ = pure (r.ps.zip us)
  kw : ∀ q ∈ r.kw, ∀ (kV doc pm : Value) (an : Option Addr) (cdv ct : Value) (us ws : List Value), us.length = q.1 → ws.length = q.2.1.length →
    bindArgs (PySem.W.fnOf r.d.nm r.d.nm (defArgs r.st) (defBody r.st) (defScope r.st) .none kV doc pm an cdv ct) ⟨us, q.2.1.zip ws⟩ = pure (r.ps.zip (permV Value.none q.2.2 (us ++ ws)))
section
variable {P : Program} {w : World} {K : PySem.W.Frag} {mg : Str → Option Value} {base : Heap}
theorem FnP.kwB {r : Fr} {f : Addr} {fd : FuncData} (F : FnP K r f fd) (b : BdOk r) {q : Kw} (hq : q ∈ r.kw) : KwB K fd r.ps q := by
  obtain ⟨oc, od, dV, kV, doc, pm, an, cdv, ct, osl, rfl, lk, hcd, hD, hK⟩ := F.ex
  rcases hD with ⟨_, rfl⟩ | ⟨e, _⟩
  · exact fun s us ws _ h1 h2 => BindsTo.of_eq (b.kw q hq kV doc pm an cdv ct us ws h1 h2)
  · exact absurd rfl e
theorem start_re {G : Off1} {L : Lc} {H : Hp} {vs : List V} {ds : List D} {N : List Str} (h : RDs K G L H vs ds) : RE K G L H (L2.start N vs) (ds.map some ++ List.replicate (N.length - ds.length) none) := by
  have hl := Paired.length h
  unfold L2.start
  rw [hl]
  refine ⟨by simp [hl], fun i d e => ?_⟩
  by_cases hi : i < ds.length
  · rw [List.getElem?_append_left (by simpa using hi), List.getElem?_map] at e
    cases e2 : ds[i]? with
    | none => rw [e2] at e; cases e
    | some d' =>
      rw [e2] at e
      cases e
      obtain ⟨v, h1, h2⟩ := h.get e2
      refine ⟨v, ?_, h2⟩
      rw [List.getElem?_append_left (by simpa [hl] using hi), List.getElem?_map, h1]
      rfl
  · rw [List.getElem?_append_right (by simpa using hi), List.getElem?_replicate] at e
    split at e <;> cases e
theorem one_fn {frs : List Fr} {blt : List Str} {csts : List (Str × PyData)} {exs : List Ex} {hnd : List (Str × List Nat)} {k : Nat} (hex : ExsOk P w K mg exs hnd) (hcst : CstOk K mg csts) (hok : ∀ r ∈ frs, r.ok (cnOf frs blt csts exs hnd) = true) (hb : ∀ r ∈ frs, BdOk r) (hK : ∀ r ∈ frs, ∃ f fd, FnP K r f fd ∧ mg r.d.nm = some (.ref f)) (hblt : ∀ x ∈ blt, mg x = none)
    (ih : ∀ (i : Nat) (r : Fr) (f : Addr) (fd : FuncData), frs[i]? = some r → FnP K r f fd → FnOk P w K mg base (L2.CX P w) (k + 2) f fd r.ps (spD K (wcX K exs) (callF (frs.map (·.d)) k) i r.d.pars))
    {i : Nat} {r : Fr} {f : Addr} {fd : FuncData} (hi : frs[i]? = some r) (F : FnP K r f fd) : FnOk P w K mg base (L2.CX P w) (k + 1 + 2) f fd r.ps (spD K (wcX K exs) (callF (frs.map (·.d)) (k + 1)) i r.d.pars) := by
  have hr := hok r (List.mem_of_getElem? hi)
  unfold Fr.ok at hr
  simp only [Bool.and_eq_true, decide_eq_true_eq] at hr
  obtain ⟨⟨h1, h2⟩, h3⟩ := hr
  have S := scB_ok h2
  obtain ⟨c, hc⟩ : ∃ c : Wc, c = wcX K exs := ⟨_, rfl⟩
  rw [← hc] at ih ⊢
  have hps : r.ps.length = r.d.pars := by unfold Fr.ps; rw [List.length_take]; omega
  refine FunD.ok F S (fun vs H Q E h => by rw [hps]; exact h.1) fun cdv A outer s H vs Q E hroom hsp => ?_
  have g : Gx (cnOf frs blt csts exs hnd) r.d.N (callF (frs.map (·.d)) k) (cxOf (L2.CX P w) P w K mg base r.d.N r.d.nm (defScope r.st) f cdv A outer s H E) (c.to E) (defScope r.st) none :=
    { hN := rfl
      nd := S.nd
      hsc := rfl
      kind := S.kind
      fn := fun _ _ => rfl
      calm := rfl
      un := by have := hroom.un; show (A.deeper _).units + 150 < cLine; omega
      tk := takes_of rfl rfl rfl rfl
      fns := fun q hq => by
        unfold cnOf at hq
        obtain ⟨⟨r', j⟩, hm, e⟩ := List.mem_map.mp hq
        subst e
        have hj : frs[j]? = some r' := by
          have := List.mem_zipIdx_iff_getElem?.mp hm
          simpa using this
        have hmem := List.mem_of_getElem? hj
        obtain ⟨f', fd', F', hm'⟩ := hK r' hmem
        have bd := hb r' hmem
        have hr' := hok r' hmem
        unfold Fr.ok at hr'
        simp only [Bool.and_eq_true, decide_eq_true_eq] at hr'
        refine ⟨f', fd', r'.ps, k + 2, ih j r' f' fd' hj F', hroom, hm', F'.kp, F'.bindsN bd.pos, fun q hq => FnP.kwB F' bd hq⟩
      blt := hblt
      cst := hcst
      exs := hex.g rfl rfl rfl rfl (hroom.mono (by omega)) (by rw [hc]; rfl)
      stk := fun _ => ⟨rfl, rfl⟩ }
  refine ⟨_, okB r.d.body _ _ g (passes_of rfl) _ h1, ?_⟩
  obtain ⟨hl, G, L, st, ds, rl, hv, q⟩ := hsp
  have hdl : ds.length = r.d.pars := by rw [← Paired.length hv, hl]
  refine ⟨G, L, st, startE r.d ds, rl, ?_, ?_⟩
  · unfold startE
    rw [← hdl]
    exact start_re hv
  · have e : callF (frs.map (·.d)) (k + 1) i ds st = bodyR (callF (frs.map (·.d)) k) r.d ds st := by
      show (match (frs.map Fr.d)[i]? with
        | some d' => bodyR (callF (frs.map Fr.d) k) d' ds st
        | none => .bad) = _
      rw [List.getElem?_map, hi]
      rfl
    rw [e] at q
    unfold bodyR at q
    rw [if_pos ⟨hdl, h3⟩] at q
    cases eb : exB (callF (frs.map (·.d)) k) r.d.body (startE r.d ds) st with
    | bad => rw [eb] at q; exact q.elim
    | ex kk fs st' =>
      rw [eb] at q
      show AftS K (c.to E) G L H (L2.start r.d.N vs) (List.range r.d.N.length) (exB (callF (frs.map (·.d)) k) r.d.body (startE r.d ds) st) _
      rw [eb]
      exact fun cls dd σ' L' H' po rl' x _ => q cls dd L' H' po rl' x
    | ok a st' =>
      obtain ⟨fl, env'⟩ := a
      rw [eb] at q
      simp only [Res.bind_ok] at q
      show AftS K (c.to E) G L H (L2.start r.d.N vs) (List.range r.d.N.length) (exB (callF (frs.map (·.d)) k) r.d.body (startE r.d ds) st) _
      rw [eb]
      intro σ' L' H' po rl' re' _
      cases fl with
      | nx => exact q .non L' H' po rl' Fz.non
      | rt d => exact fun v hd => q v L' H' po rl' hd
      | bk => exact q.elim
      | ct => exact q.elim
theorem all_fns {frs : List Fr} {blt : List Str} {csts : List (Str × PyData)} {exs : List Ex} {hnd : List (Str × List Nat)} (hex : ExsOk P w K mg exs hnd) (hcst : CstOk K mg csts) (hok : ∀ r ∈ frs, r.ok (cnOf frs blt csts exs hnd) = true) (hb : ∀ r ∈ frs, BdOk r) (hK : ∀ r ∈ frs, ∃ f fd, FnP K r f fd ∧ mg r.d.nm = some (.ref f)) (hblt : ∀ x ∈ blt, mg x = none) :
    ∀ (k i : Nat) (r : Fr) (f : Addr) (fd : FuncData), frs[i]? = some r → FnP K r f fd → FnOk P w K mg base (L2.CX P w) (k + 2) f fd r.ps (spD K (wcX K exs) (callF (frs.map (·.d)) k) i r.d.pars)
  | 0, i, r, f, fd, hi, F => by
    have no : ∀ vs H Q E, ¬ spD K (wcX K exs) (callF (frs.map (·.d)) 0) i r.d.pars vs H Q E := fun vs H Q E h => by
      obtain ⟨_, G, L, st, ds, _, _, q⟩ := h
      exact q
    exact ⟨fun vs H Q E h => absurd h (no vs H Q E), fun A outer s H args us vs Q E _ _ _ _ h => absurd h (no vs H Q E)⟩
  | k + 1, i, r, f, fd, hi, F => one_fn hex hcst hok hb hK hblt (all_fns hex hcst hok hb hK hblt k) hi F
/-! ### the law -/
theorem law_sp {c : Wc} {F : List FDef} {k i : Nat} {st' : Store} {H : Hp} {a : Addr} {ns : List Int} {E : XK} (hS : SqL K H a (ns.map V.int)) (h : callF F k i [.p (.list (ns.map .int))] [] = .ok (.p (.bool true)) st') :
    spD K c (callF F k) i 1 [.ref a] H (fun v _ => v = .bl true) E := by
  refine ⟨rfl, fun _ => False, [], [], [.p (.list (ns.map .int))], ⟨rfl, fun i j a e => by simp at e, fun i a o e => by simp at e, fun a z => by rcases z with z | ⟨i, e⟩; exact z.elim; simp at e, fun a ⟨i, e⟩ => by simp at e, fun i e => by simp at e⟩, .cons ?_ .nil, ?_⟩
  · refine .lst ?_ (fz_ints _ ns)
    rcases hS with hS | hS
    · exact .inl ⟨hS, fun z => by rcases z with z | ⟨i, e⟩; exact z; simp at e⟩
    · exact .inr (.inr hS)
  · rw [h]
    intro v L' H' po rl hd
    exact fz_bool hd
end
end Dn
namespace Dn
open PySem PySem.Spec PyProof.Rows L2
def faOf (frs : List Fr) (blt : List Str) : List He.Fa := frs.map (fun r => .glo r.d.nm) ++ blt.map .free
/-- small data as values -/
def vOf : PyData → Option V
  | .int i => some (.int i)
  | .str x => if PyData.strOk x && decide (x.length ≤ sizeLine) then some (.str x) else none
  | .bool b => some (.bl b)
  | .none => some .non
  | _ => none
def vsOf : List PyData → Option (List V)
  | [] => some []
  | d :: ds => (vOf d).bind fun v => (vsOf ds).map (v :: ·)
def tupC (K : PySem.W.Frag) (x : Str) (vs : List V) : Bool := match K.lookup (He.ga K x) with
  | some ⟨.type c, none, .seq its _, _⟩ => decide (c = "tuple") && (decide (its.size ≤ sizeLine) && He.relAll vs its.toList)
  | _ => false
def cstB (K : PySem.W.Frag) (q : Str × PyData) : Bool := match q.2 with
  | .str z => (He.Fa.str q.1 z).ok K && PyData.strOk z && decide (z.length ≤ sizeLine)
  | .int i => (He.Fa.int q.1 i).ok K
  | .tuple ds => (He.Fa.glo q.1).ok K && (match vsOf ds with
    | some vs => tupC K q.1 vs
    | none => false)
  | _ => false
theorem vOf_fz {K : PySem.W.Frag} {O : Off1} {H : Hp} {d : PyData} {v : V} (h : vOf d = some v) : Fz K O H v d := by
  cases d with
  | int i => cases h; exact .int i
  | str x =>
    have h' : (if PyData.strOk x && decide (x.length ≤ sizeLine) then some (V.str x) else none) = some v := h
    by_cases hh : (PyData.strOk x && decide (x.length ≤ sizeLine)) = true
    · rw [if_pos hh] at h'
      cases h'
      rw [Bool.and_eq_true] at hh
      exact .str x ⟨hh.1, of_decide_eq_true hh.2⟩
    · rw [if_neg hh] at h'
      cases h'
  | bool b => cases h; exact .bl b
  | none => cases h; exact .non
  | _ => cases h
theorem vsOf_fz {K : PySem.W.Frag} {O : Off1} {H : Hp} : ∀ {ds : List PyData} {vs : List V}, vsOf ds = some vs → FzA K O H vs ds
  | [], vs, h => by cases h; exact .nil
  | d :: ds, vs, h => by
    unfold vsOf at h
    obtain ⟨v, h1, h2⟩ := Option.bind_eq_some_iff.mp h
    obtain ⟨ws, h3, rfl⟩ := Option.map_eq_some_iff.mp h2
    exact .cons (vOf_fz h1) (vsOf_fz h3)
theorem tupC_ok {K : PySem.W.Frag} {x : Str} {vs : List V} (h : tupC K x vs = true) : TupK K (He.ga K x) vs := by
  unfold tupC at h
  cases q : K.lookup (He.ga K x) with
  | none => rw [q] at h; cases h
  | some o =>
    obtain ⟨oc, od, dt, osl⟩ := o
    rw [q] at h
    cases oc with
    | type c =>
      cases od with
      | none =>
        cases dt with
        | seq its n =>
          obtain ⟨h1, h2⟩ := He.ba (show (decide (c = "tuple") && (decide (its.size ≤ sizeLine) && He.relAll vs its.toList)) = true from h)
          obtain ⟨h3, h4⟩ := He.ba h2
          exact ⟨_, its, n, q, congrArg Value.type (of_decide_eq_true h1), rfl, rfl, of_decide_eq_true h3, He.relAll_ok h4⟩
        | _ => cases h
      | some a => cases dt <;> cases h
    | _ => cases od <;> cases dt <;> cases h
theorem cstB_ok {K : PySem.W.Frag} {h : Heap} {mg : Str → Option Value} (X : K.In h) (G : h.Ns mainGlobals mg) {csts : List (Str × PyData)} (hc : csts.all (cstB K) = true) : CstOk K mg csts := fun q hq => by
  have e := List.all_eq_true.mp hc q hq
  obtain ⟨x, d⟩ := q
  unfold cstB at e
  cases d with
  | str z =>
    simp only [Bool.and_eq_true, decide_eq_true_eq] at e
    obtain ⟨t, hm⟩ := He.str_ok X G e.1.1
    exact ⟨.str z, _, hm, ⟨t, rfl⟩, fun O H => .str z ⟨e.1.2, e.2⟩⟩
  | int i =>
    obtain ⟨t, hm⟩ := He.int_ok X G e
    exact ⟨.int i, _, hm, ⟨t, rfl⟩, fun O H => .int i⟩
  | tuple ds =>
    simp only [Bool.and_eq_true] at e
    cases ev : vsOf ds with
    | none => rw [ev] at e; cases e.2
    | some vs =>
      rw [ev] at e
      exact ⟨.ref (He.ga K x), _, He.glo_ok X G e.1, rfl, fun O H => .tup (.inr (tupC_ok e.2)) (vsOf_fz ev)⟩
  | _ => cases e
/-! ### what the program's top has left -/
abbrev AlX : Type := Bool × List He.FnW × List InV
/-- the clauses' classes -/
def hndB (K : PySem.W.Frag) (exs : List Ex) (hnd : List (Str × List Nat)) : Bool := hnd.all fun p => (He.Fa.glo p.1).ok K && exs.all fun q => decide (PySem.W.exmOne K (.ref (He.ga K q.x)) (.ref (He.ga K p.1)) = some (p.2.contains q.k))
structure Pr where
  fa : List He.Fa
  fn : List He.DefD
  cs : List (Str × PyData)
  fl : Str
  exs : List Ex
  hnd : List (Str × List Nat)
def obsX (p : Pr) (K : PySem.W.Frag) : AlX := ((p.fa.all fun f => f.ok K) && (p.fn.all fun d => d.ok K) && p.cs.all (cstB K) && p.exs.all (exK K p.fl) && hndB K p.exs p.hnd, p.fn.map fun d => He.fnW K d.at_, p.exs.map (inObs K))
def valX (p : Pr) : AlX := (true, p.fn.map He.DefD.val, p.exs.map Ex.val)
def SaysX (p : Pr) (K : PySem.W.Frag) : Prop := obsX p K = valX p
def obsXG (n : Nat) (p : Pr) (g : Addr → Option Obj) : AlX := obsX p (He.frG g (cStatics :: He.asD g n))
def hookX (n : Nat) (p : Pr) : PySem.W.Hook where
  α := AlX
  obs := fun z => obsXG n p z.heap.get?
  val := fun _ => valX p
  says := fun _ hp => ∃ K : PySem.W.Frag, K.In hp ∧ SaysX p K
  of := fun _ _ q => ⟨_, He.frG_in, q⟩
  keeps := fun _ _ _ ⟨K, hK, q⟩ k => ⟨K, PySem.W.Frag.In.keeps hK k, q⟩
theorem obsXG_eq {n : Nat} {p : Pr} {g : Addr → Option Obj} {z : Shared} (h : ∀ a, g a = z.heap.get? a) : obsXG n p g = (hookX n p).obs z := by
  have q : g = z.heap.get? := funext h
  rw [q] <;> rfl
theorem map_at {α β : Type} {f g : α → β} : ∀ {l : List α}, l.map f = l.map g → ∀ a ∈ l, f a = g a
  | [], _, a, h => by cases h
  | x :: l, e, a, h => by
    simp only [List.map_cons, List.cons.injEq] at e
    rcases List.mem_cons.mp h with rfl | h
    · exact e.1
    · exact map_at e.2 a h
structure Told (p : Pr) (K : PySem.W.Frag) : Prop where
  d : He.SaysD p.fa p.fn K
  c : p.cs.all (cstB K) = true
  e : p.exs.all (exK K p.fl) = true
  h : hndB K p.exs p.hnd = true
  o : ∀ q ∈ p.exs, inObs K q = q.val
theorem SaysX.told {p : Pr} {K : PySem.W.Frag} (c : SaysX p K) : Told p K := by
  have h1 : ((p.fa.all fun f => f.ok K) && (p.fn.all fun d => d.ok K) && p.cs.all (cstB K) && p.exs.all (exK K p.fl) && hndB K p.exs p.hnd) = true := congrArg (fun z : AlX => z.1) c
  have h2 : p.fn.map (fun d => He.fnW K d.at_) = p.fn.map He.DefD.val := congrArg (fun z : AlX => z.2.1) c
  have h3 : p.exs.map (inObs K) = p.exs.map Ex.val := congrArg (fun z : AlX => z.2.2) c
  obtain ⟨h1, e5⟩ := Bool.and_eq_true_iff.mp h1
  obtain ⟨h1, e4⟩ := Bool.and_eq_true_iff.mp h1
  obtain ⟨e12, e3⟩ := Bool.and_eq_true_iff.mp h1
  exact ⟨Prod.ext e12 h2, e3, e4, e5, map_at h3⟩
/-- what is asked of the written classes -/
def exsB (exs : List Ex) : Bool := (exs.zipIdx.all fun q => decide (q.1.k = q.2)) && exs.all Ex.ok
theorem exs_ok {P : Program} {w : World} {K : PySem.W.Frag} {h : Heap} {mg : Str → Option Value} {p : Pr} (X : K.In h) (G : h.Ns mainGlobals mg) (hfile : P.main.file = p.fl) (htop : (P.main.scope.names.lookup ("super" : Str)).isSome = false) (t : Told p K) (s : exsB p.exs = true) (bd : ∀ q ∈ p.exs, q.Bd) : ExsOk P w K mg p.exs p.hnd := by
  obtain ⟨s1, s2⟩ := Bool.and_eq_true_iff.mp s
  rw [List.all_eq_true] at s1 s2
  refine ⟨fun i q hq => ?_, fun q hq => ex_ok X G hfile htop (List.all_eq_true.mp t.e q hq) (t.o q hq) (s2 q hq) (bd q hq), fun q hq => ?_, fun r hr => ?_⟩
  · have : (q, i) ∈ p.exs.zipIdx := by
      rw [List.mem_zipIdx_iff_getElem?]
      simpa using hq
    simpa using s1 (q, i) this
  · have := s2 q hq
    unfold Ex.ok at this
    simp only [Bool.and_eq_true, decide_eq_true_eq] at this
    have h3 := this.1.1.1.1.2
    omega
  · have := List.all_eq_true.mp t.h r hr
    rw [Bool.and_eq_true, List.all_eq_true] at this
    exact ⟨He.glo_ok X G this.1, fun q hq => by simpa using this.2 q hq⟩
theorem prog_facts {K : PySem.W.Frag} {h : Heap} {mg : Str → Option Value} {frs : List Fr} {blt : List Str} (X : K.In h) (G : h.Ns mainGlobals mg) (c : He.SaysD (faOf frs blt) (frs.map Fr.dd) K) :
    (∀ r ∈ frs, ∃ f fd, FnP K r f fd ∧ mg r.d.nm = some (.ref f)) ∧ ∀ x ∈ blt, mg x = none := by
  refine ⟨fun r hr => ?_, fun x hx => ?_⟩
  · obtain ⟨i, hi⟩ := List.mem_iff_getElem?.mp hr
    obtain ⟨fd, F⟩ := c.def_ i (d := r.dd) (by rw [List.getElem?_map, hi]; rfl)
    have hm : (He.Fa.glo r.d.nm) ∈ faOf frs blt := List.mem_append_left _ (List.mem_map.mpr ⟨r, hr, rfl⟩)
    obtain ⟨j, hj⟩ := List.mem_iff_getElem?.mp hm
    exact ⟨_, fd, F, He.glo_ok X G (c.fact j hj)⟩
  · have hm : (He.Fa.free x) ∈ faOf frs blt := List.mem_append_right _ (List.mem_map.mpr ⟨x, hx, rfl⟩)
    obtain ⟨j, hj⟩ := List.mem_iff_getElem?.mp hm
    exact He.free_ok X G (c.fact j hj)
/-- what the walk's end asks for -/
theorem law_facts {P : Program} {w : World} {K : PySem.W.Frag} {h : Heap} {mg : Str → Option Value} {fa : Addr} {frs : List Fr} {blt : List Str} {csts : List (Str × PyData)} {fl : Str} {exs : List Ex} {hnd : List (Str × List Nat)} {i n k : Nat} {r : Fr} (X : K.In h) (G : h.Ns mainGlobals mg) (c : SaysX ⟨faOf frs blt, frs.map Fr.dd, csts, fl, exs, hnd⟩ K)
    (hfile : P.main.file = fl) (htop : (P.main.scope.names.lookup ("super" : Str)).isSome = false) (hxs : exsB exs = true) (hbd : ∀ q ∈ exs, q.Bd) (hok : frs.all (Fr.ok (cnOf frs blt csts exs hnd)) = true) (hb : ∀ r ∈ frs, BdOk r) (hi : frs[i]? = some r) (hp : r.ps = [("script" : Str)]) (hp1 : r.d.pars = 1) (hfa : mg r.d.nm = some (.ref fa))
    (law : ∀ ns : List Int, ns.length ≤ n → ∃ st', callF (frs.map (·.d)) k i [.p (.list (ns.map .int))] [] = .ok (.p (.bool true)) st') :
    ∃ (K : PySem.W.Frag) (fd : FuncData) (sp : Sp), K.In h ∧ (∀ (s : Shared) (u : Value), BindsTo s fd ⟨[u], []⟩ [("script", u)]) ∧
        (∀ (H : Hp) (a : Addr) (ns : List Int), ns.length ≤ n → Only H → SqL K H a (ns.map V.int) → sp [.ref a] H (fun v _ => v = .bl true) fun _ _ _ => False) ∧
        ∀ base : Heap, K.In base → base.Ns mainGlobals mg → FnOk P w K mg base (L2.CX P w) (k + 2) fa fd [("script" : Str)] sp := by
  have t := c.told
  have hcst := cstB_ok X G t.c
  have hex := exs_ok (P := P) (w := w) X G hfile htop t hxs hbd
  have cD := t.d
  obtain ⟨h1, h2⟩ := prog_facts X G cD
  obtain ⟨f, fd, F, hm⟩ := h1 r (List.mem_of_getElem? hi)
  rw [hfa] at hm
  cases hm
  have bd := hb r (List.mem_of_getElem? hi)
  refine ⟨K, fd, spD K (wcX K exs) (callF (frs.map (·.d)) k) i 1, X, fun s u => ?_, fun H a ns hl _ hS => ?_, fun base _ _ => ?_⟩
  · have := FunD.bindsA (ps := r.ps) F bd.pos s [u] (by rw [hp]; rfl)
    rw [hp] at this
    exact this
  · obtain ⟨st', e⟩ := law ns hl
    exact law_sp hS e
  · have := all_fns (P := P) (w := w) (base := base) hex hcst (fun r hr => List.all_eq_true.mp hok r hr) hb h1 h2 k i r fa fd hi F
    rw [hp, hp1] at this
    exact this
end Dn
namespace Dn
open PySem PySem.Spec PyProof.Rows L2
/-- the end of the walk, what a call may let out told by the world -/
theorem walkD {l : PySem.W.OpenLaw} {num lev : Nat} {pr : Program} {lo : List Str} {XQ : (Str → Option Value) → Heap → Prop} {YQ : World → Heap → Prop} {df : DefRec}
    (em : l.most = some num) (le : num ≤ sizeLine) (nd : df.params.defaults = []) (room : Room lev callerA)
    (facts : ∀ (w : World) (mg : Str → Option Value) (at_ : Addr) (hp : Heap), YQ w hp → hp.Ns mainGlobals mg → mg df.name = some (.ref at_) →
      ∃ (K : PySem.W.Frag) (fd : FuncData) (sp : Sp), K.In hp ∧ (∀ (s : Shared) (u : Value), BindsTo s fd ⟨[u], []⟩ [("script", u)]) ∧
        (∀ (H : Hp) (a : Addr) (ns : List Int), ns.length ≤ num → Only H → SqL K H a (ns.map V.int) → sp [.ref a] H (fun v _ => v = .bl true) fun _ _ _ => False) ∧
        ∀ b0 : Heap, K.In b0 → b0.Ns mainGlobals mg → FnOk l.prog w K mg b0 (L2.CX l.prog w) lev at_ fd [("script" : Str)] sp) :
    PySem.W.WalkO pr lo XQ YQ l.row.toRowW df [] (fun f vs => PySem.call f vs) := by
  refine Att.attach_call em nd fun w t0 t1 mg mb at_ ob pm cdv dcv la us ns G Y io ie ic ig iobj iints ilen iz => ?_
  obtain ⟨K, fd, sp, KX, hb, hsp, hF⟩ := facts w mg at_ _ Y G.T.g ig
  exact law_call KX G.T.g G.T.b G.T.builtins G.T.nolimit iz iobj iints (Nat.le_trans ilen le) room hF hb (fun H hO hS => hsp H la ns ilen hO hS) fun H e s' ⟨_, _, _, _, _, _, _, _, _, _, _, _, z⟩ => z
end Dn
namespace Dn
theorem all_nil {α : Type} {P : α → Prop} : ∀ r ∈ ([] : List α), P r := fun r hr => absurd hr (List.not_mem_nil)
theorem all_cons {α : Type} {P : α → Prop} {a : α} {l : List α} (h : P a) (hl : ∀ r ∈ l, P r) : ∀ r ∈ a :: l, P r := fun r hr => by
  rcases List.mem_cons.mp hr with rfl | hr
  · exact h
  · exact hl r hr
end Dn
namespace Dn
open PySem
/-- a class's __init__ as written -/
def isFd : Stmt → Bool
  | .FunctionDef .. => true
  | _ => false
def inSt (s : Stmt) : Stmt := match s with
  | .ClassDef _ _ _ body _ _ _ _ _ _ _ => (match body.find? isFd with
    | some f => f
    | none => s)
  | s => s
end Dn
/-! Dn: plain laws: what a tree does, told by what is wished of its end. -/
namespace Dn
open PySem
/-- it ends well, with Q -/
def wpR {α : Type} (r : Res α) (Q : α → Store → Prop) : Prop := match r with
  | .ok a st => Q a st
  | _ => False
@[simp] theorem wpR_ok {α : Type} {a : α} {st : Store} {Q : α → Store → Prop} : wpR (.ok a st) Q = Q a st := rfl
@[simp] theorem wpR_bind {α β : Type} {m : Res α} {f : α → Store → Res β} {Q : β → Store → Prop} : wpR (m.bind f) Q = wpR m (fun a st => wpR (f a st) Q) := by
  cases m <;> rfl
@[simp] theorem wpR_nox {α : Type} {m : Res α} {Q : α → Store → Prop} : wpR m.nox Q = wpR m Q := by
  cases m <;> rfl
@[simp] theorem wpR_of {α : Type} {st : Store} {o : Option α} {Q : α → Store → Prop} : wpR (Res.of st o) Q = ∃ a, o = some a ∧ Q a st := by
  cases o <;> simp [Res.of, wpR]
theorem wpR_mono {α : Type} {r : Res α} {Q Q' : α → Store → Prop} (h : wpR r Q) (hi : ∀ a st, Q a st → Q' a st) : wpR r Q' := by
  cases r with
  | ok a st => exact hi _ _ h
  | ex c fs st => exact h.elim
  | bad => exact h.elim
theorem wpR_eq {α : Type} {r : Res α} {a : α} {st : Store} {Q : α → Store → Prop} (h : r = .ok a st) (q : Q a st) : wpR r Q := by rw [h]; exact q
theorem wpR_out {α : Type} {r : Res α} {Q : α → Store → Prop} (h : wpR r Q) : ∃ a st, r = .ok a st ∧ Q a st := by
  cases r with
  | ok a st => exact ⟨a, st, rfl, h⟩
  | ex c fs st => exact h.elim
  | bad => exact h.elim
/-! ### the tree's readings, one step each -/
section
variable {Φ : Calls} {env : Sl} {st : Store} {Q : D → Store → Prop} {QS : Flow × Sl → Store → Prop} {a b c : E} {es : List E} {s : S} {ss : List S}
@[simp] theorem truth_bz (b : Bool) : truth (bz b) = some b := rfl
@[simp] theorem truth_b (b : Bool) : truth (.p (.bool b)) = some b := rfl
/-- a test's two ways -/
theorem wpR_truth {α : Type} {d : D} {b : Bool} {t f : Res α} {Q : α → Store → Prop} (h : truth d = some b) : wpR (match truth d with
    | some true => t
    | some false => f
    | none => .bad) Q = if b then wpR t Q else wpR f Q := by
  rw [h]
  cases b <;> rfl
/-- what goes on behind a statement -/
def goOn (Φ : Calls) (ss : List S) (QS : Flow × Sl → Store → Prop) (r : Flow × Sl) (st : Store) : Prop := match r.1 with
  | .nx => wpR (exB Φ ss r.2 st) QS
  | .bk => QS (.bk, r.2) st
  | .ct => QS (.ct, r.2) st
  | .rt d => QS (.rt d, r.2) st
@[simp] theorem goOn_nx : goOn Φ ss QS (.nx, env) st = wpR (exB Φ ss env st) QS := rfl
@[simp] theorem goOn_bk : goOn Φ ss QS (.bk, env) st = QS (.bk, env) st := rfl
@[simp] theorem goOn_ct : goOn Φ ss QS (.ct, env) st = QS (.ct, env) st := rfl
@[simp] theorem goOn_rt {d : D} : goOn Φ ss QS (.rt d, env) st = QS (.rt d, env) st := rfl
theorem wp_cons : wpR (exB Φ (s :: ss) env st) QS = wpR (exS Φ s env st) (goOn Φ ss QS) := by
  show wpR ((exS Φ s env st).bind _) QS = _
  rw [wpR_bind]
  congr 1
  funext r st'
  obtain ⟨fl, e⟩ := r
  cases fl <;> rfl
theorem wp_nil : wpR (exB Φ [] env st) QS = QS (.nx, env) st := rfl
theorem wp_set {i : Nat} : wpR (exS Φ (.set i a) env st) QS = wpR (ev Φ a env st) (fun d st => ∃ e, setE i d env = some e ∧ QS (.nx, e) st) := by
  show wpR ((ev Φ a env st).bind _) QS = _
  rw [wpR_bind]
  congr 1
  funext d st'
  rw [wpR_of]
  apply propext
  constructor
  · rintro ⟨a, h1, h2⟩
    simp only [Option.map_eq_some_iff] at h1
    obtain ⟨e, h1, rfl⟩ := h1
    exact ⟨e, h1, h2⟩
  · rintro ⟨e, h1, h2⟩
    exact ⟨_, by rw [h1]; rfl, h2⟩
theorem wp_ret : wpR (exS Φ (.ret a) env st) QS = wpR (ev Φ a env st) (fun d st => QS (.rt d, env) st) := by
  show wpR ((ev Φ a env st).bind _) QS = _
  rw [wpR_bind]
  rfl
theorem wp_ex : wpR (exS Φ (.ex a) env st) QS = wpR (ev Φ a env st) (fun _ st => QS (.nx, env) st) := by
  show wpR ((ev Φ a env st).bind _) QS = _
  rw [wpR_bind]
  rfl
theorem wp_iff {t : List S} {f : List S} : wpR (exS Φ (.iff a t f) env st) QS = wpR (ev Φ a env st) (fun d st => ∃ b, truth d = some b ∧ wpR (exB Φ (if b then t else f) env st) QS) := by
  show wpR ((ev Φ a env st).bind _) QS = _
  rw [wpR_bind]
  congr 1
  funext d st'
  cases e : truth d with
  | none => simp [wpR]
  | some b => cases b <;> simp
end
/-! ### loops -/
section
variable {ok : Store → Bool} {f : It → Sl → Store → SR} {QS : Flow × Sl → Store → Prop}
/-- a loop with an invariant by what is still to come; the body goes on (or breaks, returns) -/
theorem wp_for (P : List It → Sl → Store → Prop) (h : ∀ x xs env st, P (x :: xs) env st → ok st = true ∧ wpR (f x env st) (fun r st => match r.1 with
    | .nx => P xs r.2 st
    | .ct => P xs r.2 st
    | .bk => QS (.nx, r.2) st
    | .rt d => QS (.rt d, r.2) st)) (hd : ∀ env st, P [] env st → ok st = true ∧ QS (.nx, env) st) : ∀ (xs : List It) (env : Sl) (st : Store), P xs env st → wpR (forM' ok f xs env st) QS
  | [], env, st, p => by
    obtain ⟨h1, h2⟩ := hd env st p
    unfold forM'
    rw [if_pos h1]
    exact h2
  | x :: xs, env, st, p => by
    obtain ⟨h1, h2⟩ := h x xs env st p
    unfold forM'
    rw [if_pos h1, wpR_bind]
    refine wpR_mono h2 fun r st' q => ?_
    obtain ⟨fl, e⟩ := r
    cases fl with
    | nx => exact wp_for P h hd xs e st' q
    | ct => exact wp_for P h hd xs e st' q
    | bk => exact q
    | rt d => exact q
/-- a comprehension whose turns change nothing -/
theorem compM_pure {f : It → Store → Res (Option D)} {g : It → Option D} {st : Store} (hok : ok st = true) : ∀ {xs : List It}, (∀ x ∈ xs, f x st = .ok (g x) st) → compM ok f xs st = .ok (xs.filterMap g) st
  | [], _ => by unfold compM; rw [hok]; rfl
  | x :: xs, h => by
    unfold compM
    rw [hok, h x (by simp)]
    simp only [if_true, Res.bind_ok]
    rw [compM_pure hok fun y hy => h y (by simp [hy])]
    cases e : g x <;> simp [e]
/-- .. with an invariant: what has come, by what is still to come -/
theorem wp_comp {f : It → Store → Res (Option D)} {Q : List D → Store → Prop} (P : List It → List D → Store → Prop) (h : ∀ x xs acc st, P (x :: xs) acc st → ok st = true ∧ wpR (f x st) (fun o st => P xs (acc ++ o.toList) st))
    (hd : ∀ acc st, P [] acc st → ok st = true ∧ Q acc st) : ∀ (xs : List It) (acc : List D) (st : Store), P xs acc st → wpR (compM ok f xs st) (fun ds st => Q (acc ++ ds) st)
  | [], acc, st, p => by
    obtain ⟨h1, h2⟩ := hd acc st p
    unfold compM
    rw [if_pos h1]
    simpa using h2
  | x :: xs, acc, st, p => by
    obtain ⟨h1, h2⟩ := h x xs acc st p
    unfold compM
    rw [if_pos h1, wpR_bind]
    refine wpR_mono h2 fun o st' q => ?_
    rw [wpR_bind]
    refine wpR_mono (wp_comp P h hd xs _ st' q) fun ds st'' q2 => ?_
    cases o with
    | none => simpa using q2
    | some d => simpa using q2
end
/-! ### calls -/
theorem callF_eq {F : List FDef} {f n : Nat} {d : FDef} {args : List D} {st : Store} (h : F[f]? = some d) : callF F (n + 1) f args st = bodyR (callF F n) d args st := by
  show (match F[f]? with
    | some d => bodyR (callF F n) d args st
    | none => .bad) = _
  rw [h]
/-- a body's end -/
def endB (Q : D → Store → Prop) (r : Flow × Sl) (st : Store) : Prop := match r.1 with
  | .rt v => Q v st
  | .nx => Q (.p .none) st
  | _ => False
@[simp] theorem endB_rt {Q : D → Store → Prop} {v : D} {env : Sl} {st : Store} : endB Q (.rt v, env) st = Q v st := rfl
@[simp] theorem endB_nx {Q : D → Store → Prop} {env : Sl} {st : Store} : endB Q (.nx, env) st = Q (.p .none) st := rfl
theorem wp_call {F : List FDef} {f n : Nat} {d : FDef} {args : List D} {st : Store} {Q : D → Store → Prop} (h : F[f]? = some d) (hl : args.length = d.pars ∧ d.pars ≤ d.N.length) : wpR (callF F (n + 1) f args st) Q = wpR (exB (callF F n) d.body (startE d args) st) (endB Q) := by
  rw [callF_eq h]
  unfold bodyR
  rw [if_pos hl, wpR_bind]
  congr 1
  funext r st'
  obtain ⟨fl, e⟩ := r
  cases fl <;> rfl
/-- a pure function: f of these data is v -/
def Gives (F : List FDef) (n f : Nat) (xs : List PyData) (v : PyData) : Prop := ∃ d st', callF F n f (xs.map .p) [] = .ok d st' ∧ thaw d st' = some v
theorem Gives.of {F : List FDef} {n f : Nat} {xs : List PyData} {v : PyData} (h : wpR (callF F n f (xs.map .p) []) (fun d st => thaw d st = some v)) : Gives F n f xs v := wpR_out h
theorem Gives.run {F : List FDef} {n f : Nat} {xs : List PyData} {v : PyData} (h : Gives F n f xs v) (st : Store) : callD (callF F n) true f (xs.map .p) st = .ok (.p v) st := by
  obtain ⟨d, st', e1, e2⟩ := h
  have hp : ∀ l : List PyData, allP (l.map .p) = some l := fun l => by
    induction l with
    | nil => rfl
    | cons a l ih => simp [allP, ih]
  unfold callD
  simp only [if_true, hp]
  unfold runP
  rw [e1]
  simp [e2]
/-! ### equal data, members -/
@[simp] theorem eqD_int (a b : Int) : eqD (.int a) (.int b) = some (decide (a = b)) := by
  unfold eqD
  rw [if_pos (by simp [PyData.depth])]
  simp [PyData.eqv]
  rfl
@[simp] theorem eqD_str (a b : Str) : eqD (.str a) (.str b) = some (decide (a = b)) := by
  unfold eqD
  rw [if_pos (by simp [PyData.depth])]
  simp [PyData.eqv]
  rfl
theorem depth_strs : ∀ xs : List Str, PyData.depthAll (xs.map .str) ≤ 1
  | [] => by decide
  | s :: r => by
    have := depth_strs r
    simp [PyData.depthAll, PyData.depth]
    omega
theorem depth_ints : ∀ xs : List Int, PyData.depthAll (xs.map .int) ≤ 1
  | [] => by decide
  | s :: r => by
    have := depth_ints r
    simp [PyData.depthAll, PyData.depth]
    omega
theorem eqv_str (a b : Str) : PyData.eqv (.str a) (.str b) = decide (a = b) := by
  simp [PyData.eqv]
  rfl
theorem eqv_int (a b : Int) : PyData.eqv (.int a) (.int b) = decide (a = b) := by
  simp [PyData.eqv]
  rfl
@[simp] theorem inP_str (xs : List Str) (s : Str) : inP (.str s) (xs.map .str) = some (decide (s ∈ xs)) := by
  unfold inP
  have := depth_strs xs
  rw [if_pos (by simp [PyData.depth])]
  congr 1
  rw [List.any_map, Bool.eq_iff_iff]
  simp [eqv_str]
@[simp] theorem inP_int (xs : List Int) (s : Int) : inP (.int s) (xs.map .int) = some (decide (s ∈ xs)) := by
  unfold inP
  rw [if_pos (by simp [PyData.depth])]
  congr 1
  rw [List.any_map, Bool.eq_iff_iff]
  simp [eqv_int]
@[simp] theorem boolsOf_map (bs : List Bool) : boolsOf (bs.map .bool) = some bs := by
  induction bs with
  | nil => rfl
  | cons b bs ih => simp [boolsOf, ih]
@[simp] theorem intsOf_map (bs : List Int) : intsOf (bs.map .int) = some bs := by
  induction bs with
  | nil => rfl
  | cons b bs ih => simp [intsOf, ih]
@[simp] theorem strsOf_map (bs : List Str) : strsOf (bs.map .str) = some bs := by
  induction bs with
  | nil => rfl
  | cons b bs ih => simp [strsOf, ih]
@[simp] theorem allP_maps (l : List PyData) : allP (l.map .p) = some l := allP_map l
theorem idxOf_str {xs : List Str} (s : Str) : ∀ {i : Nat}, xs.Nodup → xs[i]? = some s → Dn.idxOf (.str s) (xs.map .str) = some i := by
  induction xs with
  | nil => intro i _ h; simp at h
  | cons x xs ih =>
    intro i hn h
    rw [List.nodup_cons] at hn
    cases i with
    | zero =>
      simp at h
      subst h
      simp [Dn.idxOf, eqv_str]
    | succ i =>
      simp at h
      have hx : x ≠ s := fun e => hn.1 (e ▸ List.mem_of_getElem? h)
      simp [Dn.idxOf, eqv_str, hx, ih hn.2 h]
/-- a comprehension whose turns change nothing -/
theorem ev_comp {Φ : Calls} {env : Sl} {st : Store} {elt : E} {tg : Tg} {k : Nat} {its ifs : List E} {ds : List D} {items : List It} {c : It → Bool} {g : It → PyData} (h1 : evs Φ its env st = .ok ds st) (h2 : walkOf k ds st = some items) (h3 : still ds st st = true)
    (h4 : ∀ x ∈ items, ∃ e, bindT tg x (wipeE env tg.slots) = some e ∧ evAn Φ ifs e st = .ok (bz (c x)) st ∧ (c x = true → ev Φ elt e st = .ok (.p (g x)) st)) (hl : items.length ≤ sizeLine) :
    ev Φ (.comp false elt tg k its ifs) env st = .ok (.p (.list ((items.filter c).map g))) st := by
  show (evs Φ its env st).bind _ = _
  rw [h1]
  simp only [Res.bind_ok, h2]
  rw [compM_pure (g := fun x => if c x then some (.p (g x)) else none) h3]
  · simp only [Res.bind_ok]
    have e : (items.filterMap fun x => if c x = true then some (D.p (g x)) else none) = ((items.filter c).map g).map .p := by
      clear h4 hl h2
      induction items with
      | nil => rfl
      | cons x xs ih =>
        by_cases hc : c x = true
        · simp [hc, ih]
        · simp [hc, ih]
    rw [e]
    unfold newL
    rw [if_neg]
    · show (Res.of st ((allP (((items.filter c).map g).map D.p)).map fun xs => D.p (.list xs))).nox = _
      rw [allP_map]
      rfl
    · have := List.length_filter_le c items
      simp
      omega
  · intro x hx
    obtain ⟨e, q1, q2, q3⟩ := h4 x hx
    rw [q1]
    simp only [q2, Res.bind_ok, truth_bz]
    cases hc : c x with
    | true => simp [q3 hc]
    | false => simp
/-- .. over a sequence of data -/
theorem ev_compS {Φ : Calls} {env : Sl} {st : Store} {elt : E} {tg : Tg} {its ifs : List E} {d : D} {xs : List PyData} {c : PyData → Bool} {g : PyData → PyData} (h1 : evs Φ its env st = .ok [d] st) (h2 : d = .p (.tuple xs) ∨ d = .p (.list xs))
    (h4 : ∀ x ∈ xs, ∃ e, bindT tg (.one (.p x)) (wipeE env tg.slots) = some e ∧ evAn Φ ifs e st = .ok (bz (c x)) st ∧ (c x = true → ev Φ elt e st = .ok (.p (g x)) st)) (hl : xs.length ≤ sizeLine) :
    ev Φ (.comp false elt tg 0 its ifs) env st = .ok (.p (.list ((xs.filter c).map g))) st := by
  have hw : walkOf 0 [d] st = some (xs.map fun x => .one (.p x)) := by
    rcases h2 with rfl | rfl <;> simp [walkOf, seqD]
  have hs : still [d] st st = true := by
    rcases h2 with rfl | rfl <;> rfl
  rw [ev_comp (c := fun | .one (.p x) => c x | _ => false) (g := fun | .one (.p x) => g x | _ => .none) h1 hw hs]
  · congr 3
    clear h4 hl hw h1 h2 hs
    induction xs with
    | nil => rfl
    | cons x xs ih =>
      by_cases hc : c x = true
      · simp [hc] at ih ⊢
        exact ih
      · simp [hc] at ih ⊢
        exact ih
  · intro it hit
    obtain ⟨x, hx, rfl⟩ := List.mem_map.mp hit
    exact h4 x hx
  · simpa using hl
/-! ### one step each (comprehensions, loops, calls stay) -/
section
variable {Φ : Calls} {env : Sl} {st : Store} {a b c : E} {es : List E} {s : S} {ss : List S}
@[simp] theorem ev_var {i : Nat} : ev Φ (.var i) env st = (match env[i]? with
    | some (some d) => .ok d st
    | _ => .bad) := rfl
@[simp] theorem ev_c {d : PyData} : ev Φ (.c d) env st = .ok (.p d) st := rfl
@[simp] theorem ev_o1 {o : O1} : ev Φ (.o1 o a) env st = (ev Φ a env st).bind fun x st => (op1 o x st).nox := rfl
@[simp] theorem ev_o2 {o : O2} : ev Φ (.o2 o a b) env st = (ev Φ a env st).bind fun x st => if pre o x st then (ev Φ b env st).bind fun y st => (op2 o x y st).nox else .bad := rfl
@[simp] theorem ev_o3 {o : O3} : ev Φ (.o3 o a b c) env st = (ev Φ a env st).bind fun x st => if isLst x st then (ev Φ b env st).bind fun y st => (ev Φ c env st).bind fun z st => (op3 o x y z st).nox else .bad := rfl
@[simp] theorem ev_an : ev Φ (.an es) env st = evAn Φ es env st := rfl
@[simp] theorem ev_orr : ev Φ (.orr es) env st = evOr Φ es env st := rfl
@[simp] theorem ev_ite : ev Φ (.ite c a b) env st = (ev Φ c env st).bind fun x st => match truth x with
    | some true => ev Φ a env st
    | some false => ev Φ b env st
    | none => .bad := rfl
@[simp] theorem ev_tup : ev Φ (.tup es) env st = (evs Φ es env st).bind fun ds st => Res.of st ((allP ds).bind fun xs => if xs.length ≤ sizeLine then some (.p (.tuple xs)) else none) := rfl
@[simp] theorem ev_lst {m : Bool} : ev Φ (.lst m es) env st = (evs Φ es env st).bind fun ds st => newL m ds st := rfl
@[simp] theorem ev_sl {m : Bool} {lo hi : Option E} : ev Φ (.sl m a lo hi) env st = (ev Φ a env st).bind fun x st => (evO Φ lo env st).bind fun l st => (evO Φ hi env st).bind fun h st => (asNew m (cutD x l h st) st).nox := rfl
@[simp] theorem ev_rv {m : Bool} : ev Φ (.rv m a) env st = (ev Φ a env st).bind fun x st => (asNew m (revD x st) st).nox := rfl
@[simp] theorem ev_call {pu : Bool} {f : Nat} : ev Φ (.call pu f es) env st = (evs Φ es env st).bind fun ds st => callD Φ pu f ds st := rfl
@[simp] theorem ev_callk {pu : Bool} {f : Nat} {ps : List Nat} : ev Φ (.callk pu f ps es) env st = (evs Φ es env st).bind fun ds st => match permD ps ds with
    | some ds => callD Φ pu f ds st
    | none => .bad := rfl
@[simp] theorem evs_nil : evs Φ [] env st = .ok [] st := rfl
@[simp] theorem evs_cons : evs Φ (a :: es) env st = (ev Φ a env st).bind fun d st => (evs Φ es env st).bind fun ds st => .ok (d :: ds) st := rfl
@[simp] theorem evO_none : evO Φ none env st = .ok none st := rfl
@[simp] theorem evO_some : evO Φ (some a) env st = (ev Φ a env st).bind fun d st => match d with
    | .p (.int i) => .ok (some i) st
    | _ => .bad := rfl
@[simp] theorem evAn_nil : evAn Φ [] env st = .ok (bz true) st := rfl
@[simp] theorem evAn_one : evAn Φ [a] env st = ev Φ a env st := rfl
@[simp] theorem evAn_two : evAn Φ (a :: b :: es) env st = (ev Φ a env st).bind fun x st => match truth x with
    | some true => evAn Φ (b :: es) env st
    | some false => .ok (bz false) st
    | none => .bad := rfl
@[simp] theorem evOr_one : evOr Φ [a] env st = ev Φ a env st := rfl
@[simp] theorem evOr_two : evOr Φ (a :: b :: es) env st = (ev Φ a env st).bind fun x st => match truth x with
    | some true => .ok (bz true) st
    | some false => evOr Φ (b :: es) env st
    | none => .bad := rfl
@[simp] theorem exB_nil : exB Φ [] env st = .ok (.nx, env) st := rfl
@[simp] theorem exB_cons : exB Φ (s :: ss) env st = (exS Φ s env st).bind fun r st => match r.1 with
    | .nx => exB Φ ss r.2 st
    | .bk => .ok (.bk, r.2) st
    | .ct => .ok (.ct, r.2) st
    | .rt d => .ok (.rt d, r.2) st := rfl
@[simp] theorem exS_set {i : Nat} : exS Φ (.set i a) env st = (ev Φ a env st).bind fun d st => Res.of st ((setE i d env).map fun env => (.nx, env)) := rfl
@[simp] theorem exS_par {is : List Nat} : exS Φ (.par is es) env st = (evs Φ es env st).bind fun ds st => Res.of st ((setAll is ds env).map fun env => (.nx, env)) := rfl
@[simp] theorem exS_ret : exS Φ (.ret a) env st = (ev Φ a env st).bind fun d st => .ok (.rt d, env) st := rfl
@[simp] theorem exS_ex : exS Φ (.ex a) env st = (ev Φ a env st).bind fun _ st => .ok (.nx, env) st := rfl
@[simp] theorem exS_iff {t f : List S} : exS Φ (.iff a t f) env st = (ev Φ a env st).bind fun k st => match truth k with
    | some true => exB Φ t env st
    | some false => exB Φ f env st
    | none => .bad := rfl
@[simp] theorem exS_unp {is : List Nat} : exS Φ (.unp is a) env st = (ev Φ a env st).bind fun d st => match d with
    | .p (.tuple ds) => Res.of st ((setAll is (ds.map .p) env).map fun env => (.nx, env))
    | _ => .bad := rfl
@[simp] theorem exS_setix : exS Φ (.setix a b c) env st = (ev Φ c env st).bind fun d st => (ev Φ a env st).bind fun x st => (ev Φ b env st).bind fun y st => match setIx x y d st with
    | some st => .ok (.nx, env) st
    | none => .bad := rfl
@[simp] theorem exS_pass : exS Φ .pass env st = .ok (.nx, env) st := rfl
@[simp] theorem exS_brk : exS Φ .brk env st = .ok (.bk, env) st := rfl
@[simp] theorem exS_cont : exS Φ .cont env st = .ok (.ct, env) st := rfl
@[simp] theorem exS_for {tg : Tg} {k : Nat} {its : List E} {body : List S} : exS Φ (.for_ tg k its body) env st = (evs Φ its env st).bind fun ds st => match walkOf k ds st with
    | some xs => forM' (fun st1 => still ds st st1) (fun x env1 st1 => match bindT tg x env1 with
      | some env2 => exB Φ body env2 st1
      | none => .bad) xs env st
    | none => .bad := rfl
end
@[simp] theorem boolsOf_mapf {α : Type} (f : α → Bool) (xs : List α) : boolsOf (xs.map fun y => .bool (f y)) = some (xs.map f) := by
  induction xs with
  | nil => rfl
  | cons b bs ih => simp [boolsOf, ih]
/-- no tests -/
theorem ev_compS0 {Φ : Calls} {env : Sl} {st : Store} {elt : E} {tg : Tg} {its : List E} {d : D} {xs : List PyData} {g : PyData → PyData} (h1 : evs Φ its env st = .ok [d] st) (h2 : d = .p (.tuple xs) ∨ d = .p (.list xs))
    (h4 : ∀ x ∈ xs, ∃ e, bindT tg (.one (.p x)) (wipeE env tg.slots) = some e ∧ ev Φ elt e st = .ok (.p (g x)) st) (hl : xs.length ≤ sizeLine) :
    ev Φ (.comp false elt tg 0 its []) env st = .ok (.p (.list (xs.map g))) st := by
  rw [ev_compS (c := fun _ => true) (g := g) h1 h2 (fun x hx => by obtain ⟨e, q1, q2⟩ := h4 x hx; exact ⟨e, q1, rfl, fun _ => q2⟩) hl, List.filter_eq_self.mpr fun _ _ => rfl]
theorem ev_comp0 {Φ : Calls} {env : Sl} {st : Store} {elt : E} {tg : Tg} {k : Nat} {its : List E} {ds : List D} {items : List It} {g : It → PyData} (h1 : evs Φ its env st = .ok ds st) (h2 : walkOf k ds st = some items) (h3 : still ds st st = true)
    (h4 : ∀ x ∈ items, ∃ e, bindT tg x (wipeE env tg.slots) = some e ∧ ev Φ elt e st = .ok (.p (g x)) st) (hl : items.length ≤ sizeLine) :
    ev Φ (.comp false elt tg k its []) env st = .ok (.p (.list (items.map g))) st := by
  rw [ev_comp (c := fun _ => true) (g := g) h1 h2 h3 (fun x hx => by obtain ⟨e, q1, q2⟩ := h4 x hx; exact ⟨e, q1, rfl, fun _ => q2⟩) hl, List.filter_eq_self.mpr fun _ _ => rfl]
/-- a pure call, in the middle of things -/
theorem callD_pure {F : List FDef} {n f : Nat} {xs : List PyData} {v : PyData} {ds : List D} {st : Store} (h : Gives F n f xs v) (hd : ds = xs.map .p) : callD (callF F n) true f ds st = .ok (.p v) st := by
  subst hd
  exact h.run st
inductive All2 {α β : Type} (R : α → β → Prop) : List α → List β → Prop
  | nil : All2 R [] []
  | cons {a : α} {b : β} {as : List α} {bs : List β} (h : R a b) (t : All2 R as bs) : All2 R (a :: as) (b :: bs)
/-- a comprehension's turn -/
def compF (Φ : Calls) (elt : E) (tg : Tg) (ifs : List E) (env : Sl) : It → Store → Res (Option D) := fun x st1 => match bindT tg x (wipeE env tg.slots) with
  | some env' => (evAn Φ ifs env' st1).bind fun c st1 => match truth c with
    | some true => (ev Φ elt env' st1).bind fun d st1 => .ok (some d) st1
    | some false => .ok none st1
    | none => .bad
  | none => .bad
theorem ev_compF {Φ : Calls} {env : Sl} {st : Store} {elt : E} {tg : Tg} {k : Nat} {its ifs : List E} {ds : List D} {items : List It} {m : Bool} (h1 : evs Φ its env st = .ok ds st) (h2 : walkOf k ds st = some items) :
    ev Φ (.comp m elt tg k its ifs) env st = ((compM (fun st1 => still ds st st1) (compF Φ elt tg ifs env) items st).bind fun ds st => newL m ds st).nox := by
  have h0 : ev Φ (.comp m elt tg k its ifs) env st = (evs Φ its env st).bind fun ds st => match walkOf k ds st with
    | some xs => ((compM (fun st1 => still ds st st1) (compF Φ elt tg ifs env) xs st).bind fun ds st => newL m ds st).nox
    | none => .bad := rfl
  rw [h0, h1]
  simp only [Res.bind_ok, h2]
theorem compF_at {Φ : Calls} {env e : Sl} {st : Store} {elt : E} {tg : Tg} {ifs : List E} {x : It} (h : bindT tg x (wipeE env tg.slots) = some e) : compF Φ elt tg ifs env x st = (evAn Φ ifs e st).bind fun c st1 => match truth c with
    | some true => (ev Φ elt e st1).bind fun d st1 => .ok (some d) st1
    | some false => .ok none st1
    | none => .bad := by
  unfold compF
  rw [h]
/-- a comprehension, item by item -/
theorem ev_compL {Φ : Calls} {env : Sl} {st : Store} {elt : E} {tg : Tg} {k : Nat} {its ifs : List E} {ds : List D} {items : List It} {rs : List (Option PyData)} (h1 : evs Φ its env st = .ok ds st) (h2 : walkOf k ds st = some items) (h3 : still ds st st = true)
    (h4 : All2 (fun x r => ∃ e, bindT tg x (wipeE env tg.slots) = some e ∧ evAn Φ ifs e st = .ok (bz r.isSome) st ∧ ∀ v, r = some v → ev Φ elt e st = .ok (.p v) st) items rs) (hl : items.length ≤ sizeLine) :
    ev Φ (.comp false elt tg k its ifs) env st = .ok (.p (.list (rs.filterMap id))) st := by
  rw [ev_compF h1 h2]
  have key : ∀ {items : List It} {rs : List (Option PyData)}, All2 (fun x r => ∃ e, bindT tg x (wipeE env tg.slots) = some e ∧ evAn Φ ifs e st = .ok (bz r.isSome) st ∧ ∀ v, r = some v → ev Φ elt e st = .ok (.p v) st) items rs →
      compM (fun st1 => still ds st st1) (compF Φ elt tg ifs env) items st = .ok ((rs.filterMap id).map .p) st ∧ (rs.filterMap id).length ≤ items.length := by
    intro items rs h
    induction h with
    | nil =>
      refine ⟨?_, Nat.le_refl _⟩
      unfold compM
      rw [if_pos h3]
      rfl
    | @cons x r xs rs hh t ih =>
      obtain ⟨e, q1, q2, q3⟩ := hh
      obtain ⟨i1, i2⟩ := ih
      unfold compM
      rw [if_pos h3, compF_at q1]
      simp only [q2, Res.bind_ok, truth_bz]
      cases r with
      | none =>
        simp only [Option.isSome_none, Res.bind_ok, i1]
        exact ⟨rfl, by simpa using Nat.le_succ_of_le i2⟩
      | some v =>
        simp only [Option.isSome_some, q3 v rfl, Res.bind_ok, i1]
        exact ⟨rfl, by simpa using i2⟩
  obtain ⟨k1, k2⟩ := key h4
  rw [k1]
  simp only [Res.bind_ok]
  unfold newL
  rw [if_neg (by simp; omega)]
  show (Res.of st ((allP ((rs.filterMap id).map D.p)).map fun xs => D.p (.list xs))).nox = _
  rw [allP_map]
  rfl
/-! ### places -/
theorem ixOf_nat (n i : Nat) : ixOf n (i : Int) = if i < n then some i else none := by
  unfold ixOf
  rw [if_pos (Int.natCast_nonneg i)]
  by_cases h : i < n
  · rw [if_pos (by omega), if_pos h]
    simp
  · rw [if_neg (by omega), if_neg h]
theorem bind_ix {α : Type} (xs : List α) (i : Nat) : ((ixOf xs.length (i : Int)).bind fun j => xs[j]?) = xs[i]? := by
  rw [ixOf_nat]
  by_cases h : i < xs.length
  · rw [if_pos h]; rfl
  · rw [if_neg h, List.getElem?_eq_none (by omega)]; rfl
theorem getIx_tup {xs : List PyData} {i : Nat} {st : Store} : getIx (.p (.tuple xs)) (.p (.int (i : Int))) st = xs[i]?.map .p := by
  show ((ixOf xs.length (i : Int)).bind fun j => xs[j]?).map D.p = _
  rw [bind_ix]
theorem getIx_lst {xs : List PyData} {i : Nat} {st : Store} : getIx (.p (.list xs)) (.p (.int (i : Int))) st = xs[i]?.map .p := by
  show ((ixOf xs.length (i : Int)).bind fun j => xs[j]?).map D.p = _
  rw [bind_ix]
@[simp] theorem getIx_0 {x : PyData} {xs : List PyData} {st : Store} : getIx (.p (.tuple (x :: xs))) (.p (.int 0)) st = some (.p x) := getIx_tup (i := 0)
@[simp] theorem getIx_1 {x y : PyData} {xs : List PyData} {st : Store} : getIx (.p (.tuple (x :: y :: xs))) (.p (.int 1)) st = some (.p y) := getIx_tup (i := 1)
@[simp] theorem getIx_l0 {x : PyData} {xs : List PyData} {st : Store} : getIx (.p (.list (x :: xs))) (.p (.int 0)) st = some (.p x) := getIx_lst (i := 0)
@[simp] theorem getIx_l1 {x y : PyData} {xs : List PyData} {st : Store} : getIx (.p (.list (x :: y :: xs))) (.p (.int 1)) st = some (.p y) := getIx_lst (i := 1)
theorem ixOf_last (n : Nat) (h : 0 < n) : ixOf n (-1) = some (n - 1) := by
  unfold ixOf
  rw [if_neg (by decide), if_pos (by omega)]
  congr 1
  omega
theorem getIx_last {xs : List PyData} {x : PyData} {st : Store} : getIx (.p (.tuple (xs ++ [x]))) (.p (.int (-1))) st = some (.p x) := by
  show ((ixOf (xs ++ [x]).length (-1)).bind fun j => (xs ++ [x])[j]?).map D.p = _
  rw [ixOf_last _ (by simp)]
  simp
@[simp] theorem op2_ix {x y : D} {st : Store} : op2 .ix x y st = Res.of st (getIx x y st) := rfl
@[simp] theorem pre_ix {x : D} {st : Store} : pre .ix x st = true := rfl
theorem indx_str {states : List Str} {x : Str} {m : Nat} {st : Store} (hn : states.Nodup) (h : states[m]? = some x) : op2 .indx (.p (.tuple (states.map .str))) (.p (.str x)) st = .ok (.p (.int m)) st := by
  show (if (inP (.str x) (states.map .str)).isSome then Res.of st ((Dn.idxOf (.str x) (states.map .str)).map fun (j : Nat) => D.p (.int (j : Int))) else .bad) = _
  rw [inP_str, idxOf_str x hn h]
  rfl
@[simp] theorem wipeE_nil {env : Sl} : wipeE env [] = env := rfl
@[simp] theorem wipeE_cons {env : Sl} {v : Nat} {vs : List Nat} : wipeE env (v :: vs) = (wipeE env vs).set v none := rfl
@[simp] theorem slots_one {i : Nat} : (Tg.one i).slots = [i] := rfl
@[simp] theorem slots_many {is : List Nat} : (Tg.many is).slots = is := rfl
theorem le_line {n : Nat} (h : n ≤ 1000000) : n ≤ sizeLine := by rw [sizeLine_eq]; omega
@[simp] theorem listP_list {ds : List PyData} {st : Store} : listP (.p (.list ds)) st = some ds := rfl
@[simp] theorem cut_1 {α : Type} {xs : List α} : cut xs (some 1) none = xs.drop 1 := by
  unfold cut clip
  simp only [show ¬ ((1 : Int) < 0) by decide, if_false]
  cases xs with
  | nil => rfl
  | cons x xs =>
    have : min (1 : Int).toNat (x :: xs).length = 1 := by simp
    rw [this]
    exact List.take_of_length_le (by simp)
@[simp] theorem cutD_tup {ds : List PyData} {lo hi : Option Int} {st : Store} : cutD (.p (.tuple ds)) lo hi st = some (.p (.tuple (cut ds lo hi))) := rfl
@[simp] theorem cutD_list {ds : List PyData} {lo hi : Option Int} {st : Store} : cutD (.p (.list ds)) lo hi st = some (.p (.list (cut ds lo hi))) := rfl
@[simp] theorem asNew_tup {ds : List PyData} {st : Store} : asNew false (some (.p (.tuple ds))) st = .ok (.p (.tuple ds)) st := rfl
@[simp] theorem allP_mapc {α : Type} (f : α → PyData) (l : List α) : allP (l.map (D.p ∘ f)) = some (l.map f) := by
  have := allP_map (l.map f)
  rwa [List.map_map] at this
theorem allP_app : ∀ {xs ys : List D} {a b : List PyData}, allP xs = some a → allP ys = some b → allP (xs ++ ys) = some (a ++ b)
  | [], ys, a, b, h, h2 => by cases h; exact h2
  | .p d :: xs, ys, a, b, h, h2 => by
    simp only [allP, Option.map_eq_some_iff] at h
    obtain ⟨l, h1, rfl⟩ := h
    simp [allP, allP_app h1 h2]
  | .r _ :: xs, ys, a, b, h, h2 => by cases h
@[simp] theorem allP_mapc2 {α β : Type} (f : α → PyData) (g : β → PyData) (l : List α) (m : List β) : allP (l.map (D.p ∘ f) ++ m.map (D.p ∘ g)) = some (l.map f ++ m.map g) := allP_app (allP_mapc f l) (allP_mapc g m)
theorem getIx_tsucc {xs : List PyData} {i : Nat} {st : Store} : getIx (.p (.tuple xs)) (.p (.int ((i : Int) + 1))) st = xs[i + 1]?.map .p := by
  have := getIx_tup (xs := xs) (i := i + 1) (st := st)
  simpa using this
theorem rangeI_cons {a c : Int} {n : Nat} {x : It} {xs : List It} (h : x :: xs = rangeI a c n) : ∃ m, n = m + 1 ∧ x = .one (.p (.int a)) ∧ xs = rangeI (a + c) c m := by
  cases n with
  | zero => cases h
  | succ m =>
    simp only [rangeI, List.cons.injEq] at h
    exact ⟨m, rfl, h.1, h.2⟩
theorem rangeI_nil {a c : Int} {n : Nat} (h : [] = rangeI a c n) : n = 0 := by
  cases n with
  | zero => rfl
  | succ m => cases h
theorem idxOf_nodup {α : Type} [BEq α] [LawfulBEq α] {l : List α} {i : Nat} {x : α} (hn : l.Nodup) (h : l[i]? = some x) : l.idxOf x = i := by
  have hm := List.mem_of_getElem? h
  have h1 : l[l.idxOf x]? = some x := by
    rw [List.getElem?_eq_getElem (List.idxOf_lt_length_of_mem hm)]
    simp
  have hi := (List.getElem?_eq_some_iff.mp h).1
  exact (List.getElem?_inj (List.idxOf_lt_length_of_mem hm) hn).mp (h1.trans h.symm)
@[simp] theorem still_p {d : PyData} {st st' : Store} : still [.p d] st st' = true := rfl
theorem walk_list {xs : List PyData} {st : Store} : walkOf 0 [.p (.list xs)] st = some (xs.map fun x => .one (.p x)) := by
  simp [walkOf, seqD]
theorem walk_tup {xs : List PyData} {st : Store} : walkOf 0 [.p (.tuple xs)] st = some (xs.map fun x => .one (.p x)) := by
  simp [walkOf, seqD]
theorem near_of {i : Int} (h : -1000000000 ≤ i) (h2 : i ≤ 1000000000) : near i = true := by
  unfold near
  rw [Bool.and_eq_true, decide_eq_true_eq, decide_eq_true_eq]
  exact ⟨by omega, by omega⟩
theorem walk_range {n : Int} {st : Store} (h : n ≤ 1000000000) (h0 : 0 ≤ n) : walkOf 1 [.p (.int n)] st = some (rangeI 0 1 n.toNat) := by
  show (if near n then some (rangeI 0 1 n.toNat) else none) = _
  rw [if_pos (near_of (by omega) h)]
/-! ### two-place operations -/
section
variable {st : Store} {i j : Int} {a b : PyData} {x y : D} {xs ys : List PyData} {u v : Str} {k : Nat}
@[simp] theorem op2_add_i : op2 .add (.p (.int i)) (.p (.int j)) st = .ok (.p (.int (i + j))) st := rfl
@[simp] theorem op2_add_s : op2 .add (.p (.str u)) (.p (.str v)) st = if u.length + v.length ≤ sizeLine then .ok (.p (.str (u ++ v))) st else .bad := rfl
@[simp] theorem op2_add_t : op2 .add (.p (.tuple xs)) (.p (.tuple ys)) st = if xs.length + ys.length ≤ sizeLine then .ok (.p (.tuple (xs ++ ys))) st else .bad := rfl
@[simp] theorem op2_sub_i : op2 .sub (.p (.int i)) (.p (.int j)) st = .ok (.p (.int (i - j))) st := rfl
@[simp] theorem op2_mul_i : op2 .mul (.p (.int i)) (.p (.int j)) st = if mulOk i j then .ok (.p (.int (i * j))) st else .bad := rfl
@[simp] theorem op2_mul_t : op2 .mul (.p (.tuple xs)) (.p (.int i)) st = if repOk xs i then .ok (.p (.tuple (List.replicate i.toNat xs).flatten)) st else .bad := rfl
@[simp] theorem op2_mod_i : op2 .mod (.p (.int i)) (.p (.int j)) st = if 0 < j then .ok (.p (.int (i % j))) st else .bad := rfl
@[simp] theorem op2_eq_p : op2 .eq (.p a) (.p b) st = Res.of st ((eqD a b).map bz) := rfl
@[simp] theorem op2_ne_p : op2 .ne (.p a) (.p b) st = Res.of st ((eqD a b).map fun k => bz (!k)) := rfl
@[simp] theorem op2_lt_i : op2 .lt (.p (.int i)) (.p (.int j)) st = .ok (bz (decide (i < j))) st := rfl
@[simp] theorem op2_le_i : op2 .le (.p (.int i)) (.p (.int j)) st = .ok (bz (decide (i ≤ j))) st := rfl
@[simp] theorem op2_gt_i : op2 .gt (.p (.int i)) (.p (.int j)) st = .ok (bz (decide (j < i))) st := rfl
@[simp] theorem op2_ge_i : op2 .ge (.p (.int i)) (.p (.int j)) st = .ok (bz (decide (j ≤ i))) st := rfl
@[simp] theorem op2_inn : op2 .inn x y st = Res.of st ((inD x y st).map bz) := rfl
@[simp] theorem op2_nin : op2 .nin x y st = Res.of st ((inD x y st).map fun k => bz (!k)) := rfl
@[simp] theorem op2_app : op2 .app (.r k) y st = (match st[k]? with
    | some (.lst ds) => if ds.length < sizeLine then .ok (.p .none) (st.set k (.lst (ds ++ [y]))) else .bad
    | _ => .bad) := rfl
@[simp] theorem op2_ext : op2 .ext (.r k) y st = (match st[k]? with
    | some (.lst ds) => match listP y st with
      | some es => if ds.length + es.length ≤ sizeLine then .ok (.p .none) (st.set k (.lst (ds ++ es.map .p))) else .bad
      | none => .bad
    | _ => .bad) := rfl
end
@[simp] theorem eqD_bool (a b : Bool) : eqD (.bool a) (.bool b) = some (a == b) := by
  unfold eqD
  rw [if_pos (by simp [PyData.depth])]
  simp [PyData.eqv]
/-- a loop's turn -/
def forF (Φ : Calls) (tg : Tg) (body : List S) : It → Sl → Store → SR := fun x env1 st1 => match bindT tg x env1 with
  | some env2 => exB Φ body env2 st1
  | none => .bad
theorem forF_at {Φ : Calls} {tg : Tg} {body : List S} {x : It} {env e : Sl} {st : Store} (h : bindT tg x env = some e) : forF Φ tg body x env st = exB Φ body e st := by
  unfold forF
  rw [h]
/-- a for statement, what it walks known -/
theorem exS_forE {Φ : Calls} {tg : Tg} {k : Nat} {its : List E} {body : List S} {env : Sl} {st st1 : Store} {ds : List D} {items : List It} (h1 : evs Φ its env st = .ok ds st1) (h2 : walkOf k ds st1 = some items) :
    exS Φ (.for_ tg k its body) env st = forM' (fun st2 => still ds st1 st2) (forF Φ tg body) items env st1 := by
  have h0 : exS Φ (.for_ tg k its body) env st = (evs Φ its env st).bind fun ds st => match walkOf k ds st with
    | some xs => forM' (fun st2 => still ds st st2) (forF Φ tg body) xs env st
    | none => .bad := rfl
  rw [h0, h1]
  simp only [Res.bind_ok, h2]
theorem wp_iffB {Φ : Calls} {env : Sl} {st : Store} {c : E} {t f : List S} {QS : Flow × Sl → Store → Prop} (b : Bool) (h : ev Φ c env st = .ok (.p (.bool b)) st) : wpR (exS Φ (.iff c t f) env st) QS = wpR (exB Φ (if b then t else f) env st) QS := by
  rw [wp_iff, h]
  apply propext
  constructor
  · rintro ⟨b', h1, h2⟩
    cases h1
    exact h2
  · exact fun h => ⟨b, rfl, h⟩
theorem walk_range2 {a b : Int} {st : Store} (h : -1000000000 ≤ a) (h2 : a ≤ 1000000000) (h3 : -1000000000 ≤ b) (h4 : b ≤ 1000000000) : walkOf 1 [.p (.int a), .p (.int b)] st = some (rangeI a 1 (b - a).toNat) := by
  show (if near a && near b then some (rangeI a 1 (b - a).toNat) else none) = _
  rw [near_of h h2, near_of h3 h4]
  rfl
end Dn
/-! Dn: plain laws: steps, one lemma each. -/
namespace Dn
open PySem
theorem get_set {st : Store} {k : Nat} {o o' : Ob} (h : st[k]? = some o') : (st.set k o)[k]? = some o := List.getElem?_set_self (List.getElem?_eq_some_iff.mp h).1
theorem get_set_ne {st : Store} {i k : Nat} {o : Ob} (h : i ≠ k) : (st.set i o)[k]? = st[k]? := List.getElem?_set_ne h
theorem wp_compI {Φ : Calls} {env : Sl} {st : Store} {elt : E} {tg : Tg} {k : Nat} {its ifs : List E} {ds : List D} {items : List It} (P : List It → List PyData → Store → Prop)
    (h1 : evs Φ its env st = .ok ds st) (h2 : walkOf k ds st = some items)
    (hstep : ∀ x xs acc st1, P (x :: xs) acc st1 → still ds st st1 = true ∧ wpR (compF Φ elt tg ifs env x st1) (fun o st2 => ∃ o' : Option PyData, o = o'.map .p ∧ P xs (acc ++ o'.toList) st2))
    (hend : ∀ acc st1, P [] acc st1 → still ds st st1 = true ∧ acc.length ≤ sizeLine) (h0 : P items [] st) :
    wpR (ev Φ (.comp false elt tg k its ifs) env st) (fun d st' => ∃ ys, d = .p (.list ys) ∧ P [] ys st') := by
  rw [ev_compF h1 h2, wpR_nox, wpR_bind]
  have := wp_comp (ok := fun st1 => still ds st st1) (f := compF Φ elt tg ifs env) (Q := fun dd st' => ∃ ys : List PyData, dd = ys.map .p ∧ P [] ys st') (fun its accD st1 => ∃ acc : List PyData, accD = acc.map .p ∧ P its acc st1) (by
    rintro x xs accD st1 ⟨acc, rfl, hp⟩
    obtain ⟨q1, q2⟩ := hstep x xs acc st1 hp
    refine ⟨q1, wpR_mono q2 ?_⟩
    rintro o st2 ⟨o', rfl, hp'⟩
    exact ⟨acc ++ o'.toList, by cases o' <;> simp, hp'⟩) (by
    rintro accD st1 ⟨acc, rfl, hp⟩
    exact ⟨(hend acc st1 hp).1, acc, rfl, hp⟩) items [] st ⟨[], rfl, h0⟩
  refine wpR_mono this ?_
  rintro dd st' ⟨ys, e, hp⟩
  rw [List.nil_append] at e
  subst e
  have hl := (hend ys st' hp).2
  unfold newL
  rw [if_neg (Nat.not_lt.mpr (by rw [List.length_map]; exact hl)), allP_map]
  exact ⟨ys, rfl, hp⟩
theorem get_app {st o : Store} {k : Nat} {x : Ob} (h : st[k]? = some x) : (st ++ o)[k]? = some x := by
  rw [List.getElem?_append_left (List.getElem?_eq_some_iff.mp h).1, h]
theorem newT {ds : List D} {st : Store} (h : ds.length ≤ 1000000) : newL true ds st = .ok (.r st.length) (st ++ [.lst ds]) := by
  unfold newL
  rw [if_neg (Nat.not_lt.mpr (le_line h))]
  rfl
def pRep (I : Store → Prop) (N : Nat) (items : List It) (acc : List PyData) (st1 : Store) : Prop := ∃ (c : Int) (m : Nat), items = rangeI c 1 m ∧ acc.length + m = N ∧ I st1
theorem rep_ok {Φ : Calls} {env : Sl} {st : Store} {elt cnt : E} {v N : Nat} (I : Store → Prop) (hv : v < env.length) (hN : N ≤ 1000) (h : I st) (hcnt : evs Φ [cnt] env st = .ok [.p (.int N)] st)
    (he : ∀ c st1, I st1 → wpR (ev Φ elt (env.set v (some (.p (.int c)))) st1) (fun d st2 => ∃ y, d = .p y ∧ I st2)) :
    wpR (ev Φ (.comp false elt (.one v) 1 [cnt] []) env st) (fun d st' => ∃ ys : List PyData, d = .p (.list ys) ∧ ys.length = N ∧ I st') := by
  refine wpR_mono (wp_compI (pRep I N) hcnt (items := rangeI 0 1 N) (by rw [walk_range (by omega) (by omega), Int.toNat_natCast]) ?_ ?_ ⟨0, N, rfl, by simp, h⟩) ?_
  · rintro x items acc st1 ⟨c, m, e1, e2, e3⟩
    obtain ⟨m, rfl, rfl, rfl⟩ := rangeI_cons e1
    refine ⟨rfl, ?_⟩
    have hb : bindT (.one v) (.one (.p (.int c))) (wipeE env (Tg.one v).slots) = some (env.set v (some (.p (.int c)))) := by
      simp [bindT, setAll, wipeE, Tg.slots, setE, hv]
    unfold compF
    simp only [hb, evAn_nil, Res.bind_ok, truth_bz, wpR_bind]
    refine wpR_mono (he c st1 e3) ?_
    rintro d st2 ⟨y, rfl, h2⟩
    exact ⟨some y, rfl, c + 1, m, rfl, by simp; omega, h2⟩
  · rintro acc st1 ⟨c, m, e1, e2, e3⟩
    exact ⟨rfl, le_line (by omega)⟩
  · rintro d st1 ⟨ys, rfl, c, m, e1, e2, e3⟩
    have := rangeI_nil e1
    exact ⟨ys, rfl, by omega, e3⟩
theorem comp_shift {Φ : Calls} {m : Bool} {elt : E} {tg : Tg} {k : Nat} {its its' ifs : List E} {env : Sl} {st st1 : Store} {ds : List D} (h1 : evs Φ its env st = .ok ds st1) (h2 : evs Φ its' env st1 = .ok ds st1) :
    ev Φ (.comp m elt tg k its ifs) env st = ev Φ (.comp m elt tg k its' ifs) env st1 := by
  show (evs Φ its env st).bind _ = (evs Φ its' env st1).bind _
  rw [h1, h2]
theorem setE_at {i : Nat} {d : D} {env : Sl} (h : i < env.length) : setE i d env = some (env.set i (some d)) := if_pos h
theorem cut_len {α : Type} (xs : List α) (lo hi : Option Int) : (cut xs lo hi).length ≤ xs.length := by
  unfold cut
  rw [List.length_take, List.length_drop]
  omega
theorem cut_mem {α : Type} {xs : List α} {lo hi : Option Int} {x : α} (h : x ∈ cut xs lo hi) : x ∈ xs := by
  unfold cut at h
  exact List.mem_of_mem_drop (List.mem_of_mem_take h)
theorem add_t {xs ys : List PyData} {st : Store} (h : xs.length + ys.length ≤ 1000) : op2 .add (.p (.tuple xs)) (.p (.tuple ys)) st = .ok (.p (.tuple (xs ++ ys))) st := by
  rw [op2_add_t, if_pos (le_line (by omega))]
theorem len_t {xs : List PyData} (h : xs.length ≤ 1000) : (if xs.length ≤ sizeLine then some (D.p (.tuple xs)) else none) = some (.p (.tuple xs)) := if_pos (le_line (by omega))
theorem wp_iffS {Φ : Calls} {env : Sl} {st st1 : Store} {c : E} {t f : List S} {QS : Dn.Flow × Sl → Store → Prop} (b : Bool) (h : ev Φ c env st = .ok (.p (.bool b)) st1) : wpR (exS Φ (.iff c t f) env st) QS = wpR (exB Φ (if b then t else f) env st1) QS := by
  rw [wp_iff, h]
  apply propext
  constructor
  · rintro ⟨b', h1, h2⟩
    cases h1
    exact h2
  · exact fun h => ⟨b, rfl, h⟩
theorem mem_rangeI : ∀ {n : Nat} {a : Int} {it : It}, it ∈ rangeI a 1 n → ∃ i : Int, it = .one (.p (.int i)) ∧ a ≤ i ∧ i < a + n
  | 0, a, it, h => by cases h
  | n + 1, a, it, h => by
    simp only [rangeI, List.mem_cons] at h
    rcases h with rfl | h
    · exact ⟨a, rfl, by omega, by omega⟩
    · obtain ⟨i, h1, h2, h3⟩ := mem_rangeI h
      exact ⟨i, h1, by omega, by omega⟩
theorem rangeI_len' (c : Int) : ∀ (n : Nat) (a : Int), (rangeI a c n).length = n
  | 0, _ => rfl
  | n + 1, a => by simp [rangeI, rangeI_len' c n]
theorem mem_rangeI' : ∀ {n : Nat} {a : Nat} {it : It}, it ∈ rangeI (a : Int) 1 n → ∃ i : Nat, it = .one (.p (.int (i : Int))) ∧ a ≤ i ∧ i < a + n
  | 0, a, it, h => by cases h
  | n + 1, a, it, h => by
    simp only [rangeI, List.mem_cons] at h
    rcases h with rfl | h
    · exact ⟨a, rfl, by omega, by omega⟩
    · rw [show ((a : Int) + 1) = ((a + 1 : Nat) : Int) by simp] at h
      obtain ⟨i, h1, h2, h3⟩ := mem_rangeI' h
      exact ⟨i, h1, by omega, by omega⟩
theorem call_at {Φ : Calls} {pu : Bool} {f : Nat} {es : List E} {env : Sl} {st st1 : Store} {ds : List D} {r : Res D} (h : evs Φ es env st = .ok ds st1) (hc : callD Φ pu f ds st1 = r) : ev Φ (.call pu f es) env st = r := by
  rw [ev_call, h, Res.bind_ok, hc]
theorem callk_at {Φ : Calls} {pu : Bool} {f : Nat} {ps : List Nat} {es : List E} {env : Sl} {st st1 : Store} {ds ds' : List D} {r : Res D} (h : evs Φ es env st = .ok ds st1) (hp : permD ps ds = some ds') (hc : callD Φ pu f ds' st1 = r) : ev Φ (.callk pu f ps es) env st = r := by
  rw [ev_callk, h, Res.bind_ok, hp]
  exact hc
theorem set_at {Φ : Calls} {i : Nat} {a : E} {env : Sl} {st st1 : Store} {d : D} (h : ev Φ a env st = .ok d st1) (hi : i < env.length) : exS Φ (.set i a) env st = .ok (.nx, env.set i (some d)) st1 := by
  rw [exS_set, h, Res.bind_ok, setE_at hi]
  rfl
theorem par2_at {Φ : Calls} {i j : Nat} {a b : E} {env : Sl} {st st1 st2 : Store} {d e : D} (h : ev Φ a env st = .ok d st1) (h2 : ev Φ b env st1 = .ok e st2) (hi : i < env.length) (hj : j < env.length) : exS Φ (.par [i, j] [a, b]) env st = .ok (.nx, (env.set i (some d)).set j (some e)) st2 := by
  have hj' : j < (env.set i (some d)).length := by rw [List.length_set]; exact hj
  rw [exS_par, evs_cons, h, Res.bind_ok, evs_cons, h2, Res.bind_ok, evs_nil, Res.bind_ok, Res.bind_ok, Res.bind_ok]
  unfold setAll
  rw [if_pos hi]
  unfold setAll
  rw [if_pos hj']
  rfl
theorem evs1_at {Φ : Calls} {a : E} {env : Sl} {st st1 : Store} {d : D} (h : ev Φ a env st = .ok d st1) : evs Φ [a] env st = .ok [d] st1 := by
  rw [evs_cons, h, Res.bind_ok, evs_nil, Res.bind_ok]
theorem evs_at {Φ : Calls} {a : E} {es : List E} {env : Sl} {st st1 st2 : Store} {d : D} {ds : List D} (h : ev Φ a env st = .ok d st1) (h2 : evs Φ es env st1 = .ok ds st2) : evs Φ (a :: es) env st = .ok (d :: ds) st2 := by
  rw [evs_cons, h, Res.bind_ok, h2, Res.bind_ok]
theorem var_at {Φ : Calls} {i : Nat} {env : Sl} {st : Store} {d : D} (h : env[i]? = some (some d)) : ev Φ (.var i) env st = .ok d st := by
  rw [ev_var, h]
theorem tup_at {Φ : Calls} {es : List E} {env : Sl} {st st1 : Store} {xs : List PyData} (h : evs Φ es env st = .ok (xs.map .p) st1) (hl : xs.length ≤ 1000) : ev Φ (.tup es) env st = .ok (.p (.tuple xs)) st1 := by
  rw [ev_tup, h, Res.bind_ok, allP_map, Option.bind_some, len_t hl]
  rfl
theorem ix_at {Φ : Calls} {a b : E} {env : Sl} {st st1 st2 : Store} {x y d : D} (h : ev Φ a env st = .ok x st1) (h2 : ev Φ b env st1 = .ok y st2) (hg : getIx x y st2 = some d) : ev Φ (.o2 .ix a b) env st = .ok d st2 := by
  rw [ev_o2, h, Res.bind_ok, pre_ix, if_pos rfl, h2, Res.bind_ok, op2_ix, hg]
  rfl
theorem len_at {Φ : Calls} {a : E} {env : Sl} {st st1 : Store} {xs : List PyData} {k : Int} (h : ev Φ a env st = .ok (.p (.tuple xs)) st1) (hk : (xs.length : Int) = k) : ev Φ (.o1 .len a) env st = .ok (.p (.int k)) st1 := by
  subst hk
  rw [ev_o1, h, Res.bind_ok]
  rfl
theorem lenL_at {Φ : Calls} {a : E} {env : Sl} {st st1 : Store} {xs : List PyData} {k : Int} (h : ev Φ a env st = .ok (.p (.list xs)) st1) (hk : (xs.length : Int) = k) : ev Φ (.o1 .len a) env st = .ok (.p (.int k)) st1 := by
  subst hk
  rw [ev_o1, h, Res.bind_ok]
  rfl
theorem sub_at {Φ : Calls} {a b : E} {env : Sl} {st st1 st2 : Store} {x y : Int} (h : ev Φ a env st = .ok (.p (.int x)) st1) (h2 : ev Φ b env st1 = .ok (.p (.int y)) st2) : ev Φ (.o2 .sub a b) env st = .ok (.p (.int (x - y))) st2 := by
  rw [ev_o2, h, Res.bind_ok]
  show (if true = true then _ else _) = _
  rw [if_pos rfl, h2, Res.bind_ok, op2_sub_i]
  rfl
theorem add_at {Φ : Calls} {a b : E} {env : Sl} {st st1 st2 : Store} {x y : Int} (h : ev Φ a env st = .ok (.p (.int x)) st1) (h2 : ev Φ b env st1 = .ok (.p (.int y)) st2) : ev Φ (.o2 .add a b) env st = .ok (.p (.int (x + y))) st2 := by
  rw [ev_o2, h, Res.bind_ok]
  show (if true = true then _ else _) = _
  rw [if_pos rfl, h2, Res.bind_ok, op2_add_i]
  rfl
theorem addT_at {Φ : Calls} {a b : E} {env : Sl} {st st1 st2 : Store} {x y : List PyData} (h : ev Φ a env st = .ok (.p (.tuple x)) st1) (h2 : ev Φ b env st1 = .ok (.p (.tuple y)) st2) (hl : x.length + y.length ≤ 1000) : ev Φ (.o2 .add a b) env st = .ok (.p (.tuple (x ++ y))) st2 := by
  rw [ev_o2, h, Res.bind_ok]
  show (if true = true then _ else _) = _
  rw [if_pos rfl, h2, Res.bind_ok, add_t hl]
  rfl
theorem eqI_at {Φ : Calls} {a b : E} {env : Sl} {st st1 st2 : Store} {x y : Int} (h : ev Φ a env st = .ok (.p (.int x)) st1) (h2 : ev Φ b env st1 = .ok (.p (.int y)) st2) : ev Φ (.o2 .eq a b) env st = .ok (.p (.bool (decide (x = y)))) st2 := by
  rw [ev_o2, h, Res.bind_ok]
  show (if true = true then _ else _) = _
  rw [if_pos rfl, h2, Res.bind_ok, op2_eq_p, eqD_int]
  rfl
theorem eqS_at {Φ : Calls} {a b : E} {env : Sl} {st st1 st2 : Store} {x y : Str} (h : ev Φ a env st = .ok (.p (.str x)) st1) (h2 : ev Φ b env st1 = .ok (.p (.str y)) st2) : ev Φ (.o2 .eq a b) env st = .ok (.p (.bool (decide (x = y)))) st2 := by
  rw [ev_o2, h, Res.bind_ok]
  show (if true = true then _ else _) = _
  rw [if_pos rfl, h2, Res.bind_ok, op2_eq_p, eqD_str]
  rfl
theorem gtI_at {Φ : Calls} {a b : E} {env : Sl} {st st1 st2 : Store} {x y : Int} (h : ev Φ a env st = .ok (.p (.int x)) st1) (h2 : ev Φ b env st1 = .ok (.p (.int y)) st2) : ev Φ (.o2 .gt a b) env st = .ok (.p (.bool (decide (y < x)))) st2 := by
  rw [ev_o2, h, Res.bind_ok]
  show (if true = true then _ else _) = _
  rw [if_pos rfl, h2, Res.bind_ok, op2_gt_i]
  rfl
theorem or2_at {Φ : Calls} {a b : E} {env : Sl} {st st1 st2 : Store} {x y : Bool} (h : ev Φ a env st = .ok (.p (.bool x)) st1) (h2 : x = false → ev Φ b env st1 = .ok (.p (.bool y)) st2) (h3 : x = true → y = true ∧ st2 = st1) : ev Φ (.orr [a, b]) env st = .ok (.p (.bool y)) st2 := by
  rw [ev_orr, evOr_two, h, Res.bind_ok]
  cases x with
  | true =>
    obtain ⟨rfl, rfl⟩ := h3 rfl
    rfl
  | false => exact h2 rfl
theorem nt_at {Φ : Calls} {a : E} {env : Sl} {st st1 : Store} {x : Bool} (h : ev Φ a env st = .ok (.p (.bool x)) st1) : ev Φ (.o1 .nt a) env st = .ok (.p (.bool (!x))) st1 := by
  rw [ev_o1, h, Res.bind_ok]
  rfl
theorem appT_at {Φ : Calls} {x k : Nat} {e : E} {env : Sl} {st st1 : Store} {ds ds0 : List D} {y : D} (hx : env[x]? = some (some (.r k))) (h0 : st[k]? = some (.lst ds0)) (he : ev Φ e env st = .ok y st1) (h1 : st1[k]? = some (.lst ds)) (hl : ds.length ≤ 100000) :
    exS Φ (.ex (.o2 .app (.var x) e)) env st = .ok (.nx, env) (st1.set k (.lst (ds ++ [y]))) := by
  have hp : pre .app (.r k) st = true := by simp [pre, isLst, h0]
  have happ : op2 .app (.r k) y st1 = .ok (.p .none) (st1.set k (.lst (ds ++ [y]))) := by
    rw [op2_app]
    simp only [h1]
    exact if_pos (Nat.lt_of_lt_of_le (Nat.lt_succ_self _) (le_line (by omega)))
  rw [exS_ex, ev_o2, var_at hx, Res.bind_ok, hp, if_pos rfl, he, Res.bind_ok, happ]
  rfl
theorem getIx_pick {xs : List PyData} {v : Nat} {st : Store} (h : v < xs.length) : getIx (.p (.tuple xs)) (.p (.int (v : Int))) st = some (.p xs[v]) := by
  rw [getIx_tup, List.getElem?_eq_getElem h]
  rfl
theorem getIx_pickL {xs : List PyData} {v : Nat} {st : Store} (h : v < xs.length) : getIx (.p (.list xs)) (.p (.int (v : Int))) st = some (.p xs[v]) := by
  rw [getIx_lst, List.getElem?_eq_getElem h]
  rfl
theorem par3_at {Φ : Calls} {i j k : Nat} {a b c : E} {env : Sl} {st st1 st2 st3 : Store} {d e f : D} (h : ev Φ a env st = .ok d st1) (h2 : ev Φ b env st1 = .ok e st2) (h3 : ev Φ c env st2 = .ok f st3) (hi : i < env.length) (hj : j < env.length) (hk : k < env.length) : exS Φ (.par [i, j, k] [a, b, c]) env st = .ok (.nx, ((env.set i (some d)).set j (some e)).set k (some f)) st3 := by
  have hj' : j < (env.set i (some d)).length := by rw [List.length_set]; exact hj
  have hk' : k < ((env.set i (some d)).set j (some e)).length := by rw [List.length_set, List.length_set]; exact hk
  rw [exS_par, evs_at h (evs_at h2 (evs1_at h3)), Res.bind_ok]
  unfold setAll
  rw [if_pos hi]
  unfold setAll
  rw [if_pos hj']
  unfold setAll
  rw [if_pos hk']
  rfl
theorem lst_at {Φ : Calls} {es : List E} {env : Sl} {st st1 : Store} {ds : List D} (h : evs Φ es env st = .ok ds st1) (hl : ds.length ≤ 1000) : ev Φ (.lst true es) env st = .ok (.r st1.length) (st1 ++ [.lst ds]) := by
  rw [ev_lst, h, Res.bind_ok, newT (by omega)]
theorem cut_map {α β : Type} (f : α → β) (xs : List α) (lo hi : Option Int) : cut (xs.map f) lo hi = (cut xs lo hi).map f := by
  unfold cut
  rw [List.length_map, List.map_take, List.map_drop]
theorem cut_at {α : Type} {xs : List α} {a : Nat} (h : a < xs.length) : (cut xs none (some (a : Int))).length + 1 + (cut xs (some ((a : Int) + 1)) none).length = xs.length := by
  have e1 : clip xs.length xs.length (some (a : Int)) = a := by
    show (if (a : Int) < 0 then ((a : Int) + xs.length).toNat else min (a : Int).toNat xs.length) = a
    rw [if_neg (by omega)]
    omega
  have e2 : clip xs.length 0 (some ((a : Int) + 1)) = a + 1 := by
    show (if (a : Int) + 1 < 0 then ((a : Int) + 1 + xs.length).toNat else min ((a : Int) + 1).toNat xs.length) = a + 1
    rw [if_neg (by omega)]
    omega
  have e3 : clip xs.length 0 none = 0 := rfl
  have e4 : clip xs.length xs.length none = xs.length := rfl
  unfold cut
  rw [e1, e2, e3, e4]
  simp
  omega
theorem repOk_one {x : PyData} {k : Nat} (h : k ≤ 1000) : repOk [x] (k : Int) = true := by
  unfold repOk
  simp
  omega
theorem rep_one {α : Type} (x : α) : ∀ k : Nat, (List.replicate k [x]).flatten = List.replicate k x
  | 0 => rfl
  | k + 1 => by
    rw [List.replicate_succ, List.flatten_cons, rep_one x k]
    rfl
theorem slT_at {Φ : Calls} {a : E} {lo hi : Option E} {env : Sl} {st st1 st2 st3 : Store} {xs : List PyData} {l h : Option Int} (ha : ev Φ a env st = .ok (.p (.tuple xs)) st1) (hl : evO Φ lo env st1 = .ok l st2) (hh : evO Φ hi env st2 = .ok h st3) : ev Φ (.sl false a lo hi) env st = .ok (.p (.tuple (cut xs l h))) st3 := by
  rw [ev_sl, ha, Res.bind_ok, hl, Res.bind_ok, hh, Res.bind_ok, cutD_tup]
  rfl
theorem evO_at {Φ : Calls} {a : E} {env : Sl} {st st1 : Store} {i : Int} (h : ev Φ a env st = .ok (.p (.int i)) st1) : evO Φ (some a) env st = .ok (some i) st1 := by
  rw [evO_some, h]
  rfl
theorem ite_at {Φ : Calls} {c a b : E} {env : Sl} {st st1 st2 : Store} {x : Bool} {d : D} (h : ev Φ c env st = .ok (.p (.bool x)) st1) (ha : x = true → ev Φ a env st1 = .ok d st2) (hb : x = false → ev Φ b env st1 = .ok d st2) : ev Φ (.ite c a b) env st = .ok d st2 := by
  rw [ev_ite, h, Res.bind_ok]
  cases x with
  | true => exact ha rfl
  | false => exact hb rfl
theorem an2_at {Φ : Calls} {a b : E} {env : Sl} {st st1 st2 : Store} {x y : Bool} (h : ev Φ a env st = .ok (.p (.bool x)) st1) (h2 : x = true → ev Φ b env st1 = .ok (.p (.bool y)) st2) (h3 : x = false → y = false ∧ st2 = st1) : ev Φ (.an [a, b]) env st = .ok (.p (.bool y)) st2 := by
  rw [ev_an, evAn_two, h, Res.bind_ok]
  cases x with
  | true => exact h2 rfl
  | false =>
    obtain ⟨rfl, rfl⟩ := h3 rfl
    rfl
theorem unp3_at {Φ : Calls} {i j k : Nat} {a : E} {env : Sl} {st st1 : Store} {x y z : PyData} (h : ev Φ a env st = .ok (.p (.tuple [x, y, z])) st1) (hi : i < env.length) (hj : j < env.length) (hk : k < env.length) : exS Φ (.unp [i, j, k] a) env st = .ok (.nx, ((env.set i (some (.p x))).set j (some (.p y))).set k (some (.p z))) st1 := by
  have hj' : j < (env.set i (some (D.p x))).length := by rw [List.length_set]; exact hj
  have hk' : k < ((env.set i (some (D.p x))).set j (some (D.p y))).length := by rw [List.length_set, List.length_set]; exact hk
  rw [exS_unp, h, Res.bind_ok]
  show Res.of st1 ((setAll [i, j, k] [D.p x, D.p y, D.p z] env).map fun env => (Flow.nx, env)) = _
  unfold setAll
  rw [if_pos hi]
  unfold setAll
  rw [if_pos hj']
  unfold setAll
  rw [if_pos hk']
  rfl
theorem getIx_row {k v : Nat} {ds : List PyData} {st : Store} (h : st[k]? = some (.lst (ds.map .p))) (hv : v < ds.length) : getIx (.r k) (.p (.int (v : Int))) st = some (.p ds[v]) := by
  unfold getIx
  simp only [h]
  rw [bind_ix, List.getElem?_map, List.getElem?_eq_getElem hv]
  rfl
theorem tupP_at {Φ : Calls} {a : E} {env : Sl} {st st1 : Store} {xs : List PyData} (h : ev Φ a env st = .ok (.p (.list xs)) st1) : ev Φ (.o1 .tup a) env st = .ok (.p (.tuple xs)) st1 := by
  rw [ev_o1, h, Res.bind_ok]
  rfl
theorem cut_first {α : Type} {x : α} {xs : List α} : cut (x :: xs) none (some 1) = [x] := by
  have e1 : clip (x :: xs).length (x :: xs).length (some 1) = 1 := by
    show (if (1 : Int) < 0 then ((1 : Int) + (x :: xs).length).toNat else min (1 : Int).toNat (x :: xs).length) = 1
    rw [if_neg (by omega)]
    simp
  have e3 : clip (x :: xs).length 0 none = 0 := rfl
  unfold cut
  rw [e1, e3]
  rfl
theorem cut_mid {α : Type} {xs : List α} {a u : Nat} (h : a + 2 ≤ xs.length) : 2 ≤ (cut xs (some (a : Int)) (some ((a : Int) + 2 + (u : Int)))).length := by
  have e1 : clip xs.length 0 (some (a : Int)) = a := by
    show (if (a : Int) < 0 then ((a : Int) + xs.length).toNat else min (a : Int).toNat xs.length) = a
    rw [if_neg (by omega)]
    omega
  have e2 : clip xs.length xs.length (some ((a : Int) + 2 + (u : Int))) = min (a + 2 + u) xs.length := by
    show (if (a : Int) + 2 + (u : Int) < 0 then ((a : Int) + 2 + (u : Int) + xs.length).toNat else min ((a : Int) + 2 + (u : Int)).toNat xs.length) = _
    rw [if_neg (by omega)]
    congr 1
  unfold cut
  rw [e1, e2]
  simp
  omega
theorem lstF_at {Φ : Calls} {es : List E} {env : Sl} {st st1 : Store} {xs : List PyData} (h : evs Φ es env st = .ok (xs.map .p) st1) (hl : xs.length ≤ 1000) : ev Φ (.lst false es) env st = .ok (.p (.list xs)) st1 := by
  rw [ev_lst, h, Res.bind_ok]
  unfold newL
  rw [if_neg (Nat.not_lt.mpr (le_line (by rw [List.length_map]; omega))), allP_map]
  rfl
theorem unp4_at {Φ : Calls} {i j k m : Nat} {a : E} {env : Sl} {st st1 : Store} {x y z w : PyData} (h : ev Φ a env st = .ok (.p (.tuple [x, y, z, w])) st1) (hi : i < env.length) (hj : j < env.length) (hk : k < env.length) (hm : m < env.length) : exS Φ (.unp [i, j, k, m] a) env st = .ok (.nx, (((env.set i (some (.p x))).set j (some (.p y))).set k (some (.p z))).set m (some (.p w))) st1 := by
  rw [exS_unp, h, Res.bind_ok]
  show Res.of st1 ((setAll [i, j, k, m] [D.p x, D.p y, D.p z, D.p w] env).map fun env => (Flow.nx, env)) = _
  unfold setAll
  rw [if_pos hi]
  unfold setAll
  rw [if_pos (by rw [List.length_set]; exact hj)]
  unfold setAll
  rw [if_pos (by rw [List.length_set, List.length_set]; exact hk)]
  unfold setAll
  rw [if_pos (by rw [List.length_set, List.length_set, List.length_set]; exact hm)]
  rfl
theorem neg1 {Φ : Calls} {env : Sl} {st : Store} : ev Φ (.o1 .neg (.c (.int 1))) env st = .ok (.p (.int (-1))) st := rfl
theorem or3_at {Φ : Calls} {a b c : E} {env : Sl} {st st1 st2 st3 : Store} (h : ev Φ a env st = .ok (.p (.bool false)) st1) (h2 : ev Φ b env st1 = .ok (.p (.bool false)) st2) (h3 : ev Φ c env st2 = .ok (.p (.bool false)) st3) : ev Φ (.orr [a, b, c]) env st = .ok (.p (.bool false)) st3 := by
  rw [ev_orr, evOr_two, h, Res.bind_ok]
  show evOr Φ [b, c] env st1 = _
  rw [evOr_two, h2, Res.bind_ok]
  exact h3
end Dn
/-! Dn: plain laws: rules that a tactic can go through by itself. -/
namespace Dn
open PySem
section
variable {Φ : Calls} {env env' : Sl} {st st1 st2 st3 st4 : Store} {QS : Flow × Sl → Store → Prop} {a b c : E} {es : List E} {ss t f : List S} {x y z d : D} {ds : List D}
/-! ### statements -/
theorem st_set {i : Nat} (h : ev Φ a env st = .ok d st1) (hi : Nat.ble (i + 1) env.length = true) (q : wpR (exB Φ ss (env.set i (some d)) st1) QS) : wpR (exB Φ (.set i a :: ss) env st) QS := by
  rw [wp_cons, exS_set, h, Res.bind_ok, setE_at (Nat.le_of_ble_eq_true hi)]
  exact q
theorem st_par {is : List Nat} (h : evs Φ es env st = .ok ds st1) (hi : setAll is ds env = some env') (q : wpR (exB Φ ss env' st1) QS) : wpR (exB Φ (.par is es :: ss) env st) QS := by
  rw [wp_cons, exS_par, h, Res.bind_ok, hi]
  exact q
theorem st_par2 {i j : Nat} {d e : D} (h : ev Φ a env st = .ok d st1) (h2 : ev Φ b env st1 = .ok e st2) (hi : Nat.ble (i + 1) env.length = true) (hj : Nat.ble (j + 1) env.length = true) (q : wpR (exB Φ ss ((env.set i (some d)).set j (some e)) st2) QS) : wpR (exB Φ (.par [i, j] [a, b] :: ss) env st) QS := by
  rw [wp_cons, par2_at h h2 (Nat.le_of_ble_eq_true hi) (Nat.le_of_ble_eq_true hj)]
  exact q
theorem st_par3 {i j k : Nat} {d e g : D} (h : ev Φ a env st = .ok d st1) (h2 : ev Φ b env st1 = .ok e st2) (h3 : ev Φ c env st2 = .ok g st3) (hi : Nat.ble (i + 1) env.length = true) (hj : Nat.ble (j + 1) env.length = true) (hk : Nat.ble (k + 1) env.length = true) (q : wpR (exB Φ ss (((env.set i (some d)).set j (some e)).set k (some g)) st3) QS) : wpR (exB Φ (.par [i, j, k] [a, b, c] :: ss) env st) QS := by
  rw [wp_cons, par3_at h h2 h3 (Nat.le_of_ble_eq_true hi) (Nat.le_of_ble_eq_true hj) (Nat.le_of_ble_eq_true hk)]
  exact q
theorem unpS {is : List Nat} {xs : List PyData} (h : ev Φ a env st = .ok (.p (.tuple xs)) st1) (hi : setAll is (xs.map .p) env = some env') : exS Φ (.unp is a) env st = .ok (.nx, env') st1 := by
  rw [exS_unp, h, Res.bind_ok]
  show Res.of st1 ((setAll is (xs.map D.p) env).map fun env => (Flow.nx, env)) = _
  rw [hi]
  rfl
theorem st_unp2 {i j : Nat} {u v : PyData} (h : ev Φ a env st = .ok (.p (.tuple [u, v])) st1) (hi : Nat.ble (i + 1) env.length = true) (hj : Nat.ble (j + 1) env.length = true) (q : wpR (exB Φ ss ((env.set i (some (.p u))).set j (some (.p v))) st1) QS) : wpR (exB Φ (.unp [i, j] a :: ss) env st) QS := by
  have hi' : i < env.length := Nat.le_of_ble_eq_true hi
  have hj' : j < env.length := Nat.le_of_ble_eq_true hj
  rw [wp_cons, unpS h (env' := (env.set i (some (.p u))).set j (some (.p v)))]
  · exact q
  · show setAll [i, j] [D.p u, D.p v] env = _
    unfold setAll
    rw [if_pos hi']
    unfold setAll
    rw [if_pos (by rw [List.length_set]; exact hj')]
    rfl
theorem st_unp3 {i j k : Nat} {u v w : PyData} (h : ev Φ a env st = .ok (.p (.tuple [u, v, w])) st1) (hi : Nat.ble (i + 1) env.length = true) (hj : Nat.ble (j + 1) env.length = true) (hk : Nat.ble (k + 1) env.length = true) (q : wpR (exB Φ ss (((env.set i (some (.p u))).set j (some (.p v))).set k (some (.p w))) st1) QS) : wpR (exB Φ (.unp [i, j, k] a :: ss) env st) QS := by
  rw [wp_cons, unp3_at h (Nat.le_of_ble_eq_true hi) (Nat.le_of_ble_eq_true hj) (Nat.le_of_ble_eq_true hk)]
  exact q
theorem st_unp4 {i j k m : Nat} {u v w o : PyData} (h : ev Φ a env st = .ok (.p (.tuple [u, v, w, o])) st1) (hi : Nat.ble (i + 1) env.length = true) (hj : Nat.ble (j + 1) env.length = true) (hk : Nat.ble (k + 1) env.length = true) (hm : Nat.ble (m + 1) env.length = true) (q : wpR (exB Φ ss ((((env.set i (some (.p u))).set j (some (.p v))).set k (some (.p w))).set m (some (.p o))) st1) QS) : wpR (exB Φ (.unp [i, j, k, m] a :: ss) env st) QS := by
  rw [wp_cons, unp4_at h (Nat.le_of_ble_eq_true hi) (Nat.le_of_ble_eq_true hj) (Nat.le_of_ble_eq_true hk) (Nat.le_of_ble_eq_true hm)]
  exact q
theorem st_unp5 {i j k m o : Nat} {u v w u2 v2 : PyData} (h : ev Φ a env st = .ok (.p (.tuple [u, v, w, u2, v2])) st1) (hi : setAll [i, j, k, m, o] [.p u, .p v, .p w, .p u2, .p v2] env = some env') (q : wpR (exB Φ ss env' st1) QS) : wpR (exB Φ (.unp [i, j, k, m, o] a :: ss) env st) QS := by
  rw [wp_cons, unpS h hi]
  exact q
theorem st_ex (h : ev Φ a env st = .ok d st1) (q : wpR (exB Φ ss env st1) QS) : wpR (exB Φ (.ex a :: ss) env st) QS := by
  rw [wp_cons, exS_ex, h]
  exact q
theorem st_ret (h : ev Φ a env st = .ok d st1) (q : QS (.rt d, env) st1) : wpR (exB Φ (.ret a :: ss) env st) QS := by
  rw [wp_cons, exS_ret, h]
  exact q
theorem st_retN (q : QS (.rt (.p .none), env) st) : wpR (exB Φ (.retN :: ss) env st) QS := by
  rw [wp_cons]
  exact q
theorem st_pass (q : wpR (exB Φ ss env st) QS) : wpR (exB Φ (.pass :: ss) env st) QS := by
  rw [wp_cons]
  exact q
theorem st_brk (q : QS (.bk, env) st) : wpR (exB Φ (.brk :: ss) env st) QS := by
  rw [wp_cons]
  exact q
theorem st_cont (q : QS (.ct, env) st) : wpR (exB Φ (.cont :: ss) env st) QS := by
  rw [wp_cons]
  exact q
theorem st_setix (h : ev Φ c env st = .ok d st1) (h2 : ev Φ a env st1 = .ok x st2) (h3 : ev Φ b env st2 = .ok y st3) (h4 : setIx x y d st3 = some st4) (q : wpR (exB Φ ss env st4) QS) : wpR (exB Φ (.setix a b c :: ss) env st) QS := by
  rw [wp_cons, exS_setix, h, Res.bind_ok, h2, Res.bind_ok, h3, Res.bind_ok, h4]
  exact q
theorem st_aug {i : Nat} {o : O2} (hx : env[i]? = some (some x)) (h : ev Φ a env st = .ok y st1) (ho : opA o x y st1 = .ok d st2) (hi : Nat.ble (i + 1) env.length = true) (q : wpR (exB Φ ss (env.set i (some d)) st2) QS) : wpR (exB Φ (.aug i o a :: ss) env st) QS := by
  rw [wp_cons]
  have h0 : exS Φ (.aug i o a) env st = (match env[i]? with
    | some (some x) => (ev Φ a env st).bind fun y st => (opA o x y st).nox.bind fun d st => Res.of st ((setE i d env).map fun env => (.nx, env))
    | _ => .bad) := rfl
  rw [h0, hx]
  simp only [h, Res.bind_ok, ho, Res.nox_ok, setE_at (Nat.le_of_ble_eq_true hi)]
  exact q
theorem st_augix {o : O2} {e : E} {old z : D} (h : ev Φ a env st = .ok x st1) (h2 : ev Φ b env st1 = .ok y st2) (h3 : getM x y st2 = some old) (h4 : ev Φ e env st2 = .ok z st3) (ho : opA o old z st3 = .ok d st3) (h5 : setIx x y d st3 = some st4) (q : wpR (exB Φ ss env st4) QS) : wpR (exB Φ (.augix a b o e :: ss) env st) QS := by
  rw [wp_cons]
  have h0 : exS Φ (.augix a b o e) env st = (ev Φ a env st).bind fun x st => (ev Φ b env st).bind fun y st => match getM x y st with
    | some old => (ev Φ e env st).bind fun z st => (opA o old z st).nox.bind fun d st => (match setIx x y d st with
      | some st => .ok (.nx, env) st
      | none => .bad)
    | none => .bad := rfl
  rw [h0, h, Res.bind_ok, h2, Res.bind_ok, h3]
  simp only [h4, Res.bind_ok, ho, Res.nox_ok, h5]
  exact q
theorem st_iff {k : Bool} (h : ev Φ c env st = .ok (.p (.bool k)) st1) (q1 : k = true → wpR (exB Φ t env st1) (goOn Φ ss QS)) (q2 : k = false → wpR (exB Φ f env st1) (goOn Φ ss QS)) : wpR (exB Φ (.iff c t f :: ss) env st) QS := by
  rw [wp_cons, wp_iffS k h]
  cases k with
  | true => exact q1 rfl
  | false => exact q2 rfl
theorem st_iffF {k : Bool} (h : ev Φ c env st = .ok (.p (.bool k)) st1) (hk : k = false) (q : wpR (exB Φ ss env st1) QS) : wpR (exB Φ (.iff c t [] :: ss) env st) QS := by
  subst hk
  rw [wp_cons, wp_iffS false h]
  exact q
theorem st_iffE {k : Bool} (h : ev Φ c env st = .ok (.p (.bool k)) st1) (hk : k = false) (q : wpR (exB Φ f env st1) (goOn Φ ss QS)) : wpR (exB Φ (.iff c t f :: ss) env st) QS := by
  subst hk
  rw [wp_cons, wp_iffS false h]
  exact q
theorem st_iffT {k : Bool} (h : ev Φ c env st = .ok (.p (.bool k)) st1) (hk : k = true) (q : wpR (exB Φ t env st1) (goOn Φ ss QS)) : wpR (exB Φ (.iff c t f :: ss) env st) QS := by
  subst hk
  rw [wp_cons, wp_iffS true h]
  exact q
theorem st_nil (q : QS (.nx, env) st) : wpR (exB Φ [] env st) QS := q
theorem st_go (q : wpR (exB Φ ss env st) QS) : goOn Φ ss QS (.nx, env) st := q
theorem st_for {tg : Tg} {k : Nat} {its : List E} {items : List It} (h1 : evs Φ its env st = .ok ds st1) (h2 : walkOf k ds st1 = some items) (q : wpR (forM' (fun st2 => still ds st1 st2) (forF Φ tg t) items env st1) (goOn Φ ss QS)) : wpR (exB Φ (.for_ tg k its t :: ss) env st) QS := by
  rw [wp_cons, exS_forE h1 h2]
  exact q
/-! ### expressions -/
theorem o1_at {o : O1} (h : ev Φ a env st = .ok x st1) (ho : op1 o x st1 = .ok d st2) : ev Φ (.o1 o a) env st = .ok d st2 := by
  rw [ev_o1, h, Res.bind_ok, ho]
  rfl
theorem o2_at {o : O2} (h : ev Φ a env st = .ok x st1) (hp : pre o x st1 = true) (h2 : ev Φ b env st1 = .ok y st2) (ho : op2 o x y st2 = .ok d st3) : ev Φ (.o2 o a b) env st = .ok d st3 := by
  rw [ev_o2, h, Res.bind_ok, hp, if_pos rfl, h2, Res.bind_ok, ho]
  rfl
theorem o3_at {o : O3} (h : ev Φ a env st = .ok x st1) (hp : isLst x st1 = true) (h2 : ev Φ b env st1 = .ok y st2) (h3 : ev Φ c env st2 = .ok z st3) (ho : op3 o x y z st3 = .ok d st4) : ev Φ (.o3 o a b c) env st = .ok d st4 := by
  rw [ev_o3, h, Res.bind_ok, hp, if_pos rfl, h2, Res.bind_ok, h3, Res.bind_ok, ho]
  rfl
theorem ev_gE {n : Str} {d : PyData} : ev Φ (.g n d) env st = .ok (.p d) st := rfl
theorem an_at (h : evAn Φ es env st = .ok d st1) : ev Φ (.an es) env st = .ok d st1 := h
theorem orr_at (h : evOr Φ es env st = .ok d st1) : ev Φ (.orr es) env st = .ok d st1 := h
theorem an1 (h : ev Φ a env st = .ok d st1) : evAn Φ [a] env st = .ok d st1 := h
theorem or1 (h : ev Φ a env st = .ok d st1) : evOr Φ [a] env st = .ok d st1 := h
theorem anC {k m : Bool} (h : ev Φ a env st = .ok (.p (.bool k)) st1) (h2 : k = true → evAn Φ (b :: es) env st1 = .ok (.p (.bool m)) st1) : evAn Φ (a :: b :: es) env st = .ok (.p (.bool (k && m))) st1 := by
  rw [evAn_two, h, Res.bind_ok]
  cases k with
  | true => exact h2 rfl
  | false => rfl
theorem orC {k m : Bool} (h : ev Φ a env st = .ok (.p (.bool k)) st1) (h2 : k = false → evOr Φ (b :: es) env st1 = .ok (.p (.bool m)) st1) : evOr Φ (a :: b :: es) env st = .ok (.p (.bool (k || m))) st1 := by
  rw [evOr_two, h, Res.bind_ok]
  cases k with
  | true => rfl
  | false => exact h2 rfl
theorem ite_v {k : Bool} {u v : PyData} (h : ev Φ c env st = .ok (.p (.bool k)) st1) (ha : k = true → ev Φ a env st1 = .ok (.p u) st1) (hb : k = false → ev Φ b env st1 = .ok (.p v) st1) : ev Φ (.ite c a b) env st = .ok (.p (if k then u else v)) st1 := by
  rw [ev_ite, h, Res.bind_ok]
  cases k with
  | true => exact ha rfl
  | false => exact hb rfl
theorem ite_t {k : Bool} (h : ev Φ c env st = .ok (.p (.bool k)) st1) (hk : k = true) (ha : ev Φ a env st1 = .ok d st2) : ev Φ (.ite c a b) env st = .ok d st2 := by
  subst hk
  rw [ev_ite, h, Res.bind_ok]
  exact ha
theorem ite_f {k : Bool} (h : ev Φ c env st = .ok (.p (.bool k)) st1) (hk : k = false) (ha : ev Φ b env st1 = .ok d st2) : ev Φ (.ite c a b) env st = .ok d st2 := by
  subst hk
  rw [ev_ite, h, Res.bind_ok]
  exact ha
theorem chain_v {o o' : O2} {k m : Bool} (h : ev Φ a env st = .ok x st1) (h2 : ev Φ b env st1 = .ok y st2) (ho : op2 o x y st2 = .ok (.p (.bool k)) st2) (h3 : k = true → ev Φ c env st2 = .ok z st2) (ho' : op2 o' y z st2 = .ok (.p (.bool m)) st2) : ev Φ (.chain o o' a b c) env st = .ok (.p (.bool (k && m))) st2 := by
  have h0 : ev Φ (.chain o o' a b c) env st = (ev Φ a env st).bind fun x st => (ev Φ b env st).bind fun y st => (op2 o x y st).nox.bind fun k st => match truth k with
    | some true => (ev Φ c env st).bind fun z st => (op2 o' y z st).nox
    | some false => .ok (bz false) st
    | none => .bad := rfl
  rw [h0, h, Res.bind_ok, h2, Res.bind_ok, ho, Res.nox_ok, Res.bind_ok]
  cases k with
  | true =>
    simp only [truth_b, h3 rfl, Res.bind_ok, ho']
    rfl
  | false => rfl
theorem tupE {xs : List PyData} (h : evs Φ es env st = .ok ds st1) (hp : allP ds = some xs) (hl : xs.length ≤ 1000) : ev Φ (.tup es) env st = .ok (.p (.tuple xs)) st1 := by
  rw [ev_tup, h, Res.bind_ok, hp, Option.bind_some, len_t hl]
  rfl
theorem lstE {xs : List PyData} (h : evs Φ es env st = .ok ds st1) (hp : allP ds = some xs) (hd : ds.length ≤ 1000) : ev Φ (.lst false es) env st = .ok (.p (.list xs)) st1 := by
  rw [ev_lst, h, Res.bind_ok]
  unfold newL
  rw [if_neg (Nat.not_lt.mpr (le_line (by omega))), hp]
  rfl
theorem dicE {kvs : List (PyData × D)} (h : evs Φ es env st = .ok ds st1) (hl : Nat.ble ds.length 30 = true) (hd : dicOf ds [] = some kvs) : ev Φ (.dic es) env st = .ok (.r st1.length) (st1 ++ [.dic kvs]) := by
  have h0 : ev Φ (.dic es) env st = ((evs Φ es env st).bind fun ds st => if ds.length ≤ 30 then (match dicOf ds [] with
    | some kvs => alloc (.dic kvs) st
    | none => .bad) else .bad).nox := rfl
  rw [h0, h, Res.bind_ok, if_pos (Nat.le_of_ble_eq_true hl), hd]
  rfl
theorem slE {m : Bool} {lo hi : Option E} {l r : Option Int} (ha : ev Φ a env st = .ok x st1) (hl : evO Φ lo env st1 = .ok l st2) (hh : evO Φ hi env st2 = .ok r st3) (hc : asNew m (cutD x l r st3) st3 = .ok d st4) : ev Φ (.sl m a lo hi) env st = .ok d st4 := by
  rw [ev_sl, ha, Res.bind_ok, hl, Res.bind_ok, hh, Res.bind_ok, hc]
  rfl
theorem rvE {m : Bool} (ha : ev Φ a env st = .ok x st1) (hc : asNew m (revD x st1) st1 = .ok d st2) : ev Φ (.rv m a) env st = .ok d st2 := by
  rw [ev_rv, ha, Res.bind_ok, hc]
  rfl
theorem evO_n : evO Φ none env st = .ok none st := rfl
theorem callE {pu : Bool} {k : Nat} (h : evs Φ es env st = .ok ds st1) (hc : callD Φ pu k ds st1 = .ok d st2) : ev Φ (.call pu k es) env st = .ok d st2 := call_at h hc
theorem callkE {pu : Bool} {k : Nat} {ps : List Nat} {ds' : List D} (h : evs Φ es env st = .ok ds st1) (hp : permD ps ds = some ds') (hc : callD Φ pu k ds' st1 = .ok d st2) : ev Φ (.callk pu k ps es) env st = .ok d st2 := callk_at h hp hc
theorem allP_eq : ∀ {ds : List D} {xs : List PyData}, allP ds = some xs → ds = xs.map .p
  | [], xs, h => by cases h; rfl
  | .r k :: ds, xs, h => by cases h
  | .p d :: ds, xs, h => by
    simp only [allP, Option.map_eq_some_iff] at h
    obtain ⟨l, h1, rfl⟩ := h
    rw [allP_eq h1]
    rfl
theorem callD_g {F : List FDef} {n k : Nat} {xs : List PyData} {v : PyData} (hp : allP ds = some xs) (h : Gives F n k xs v) : callD (callF F n) true k ds st = .ok (.p v) st := callD_pure h (allP_eq hp)
/-- a call that makes nothing that stays -/
theorem callD_f {k : Nat} (h : Φ k ds st = .ok d st1) (hl : st1.length = st.length) : callD Φ false k ds st = .ok d st1 := by
  have h0 : callD Φ false k ds st = trimR st.length (Φ k ds st) := rfl
  rw [h0, h]
  cases d with
  | r i => rfl
  | p d =>
    have e : st1.take st.length = st1 := List.take_of_length_le (by omega)
    show Res.ok (D.p d) (if (st1.take st.length).all (obLt st.length) = true then st1.take st.length else st1) = _
    rw [e, ite_self]
theorem callD_r {k i : Nat} (h : Φ k ds st = .ok (.r i) st1) : callD Φ false k ds st = .ok (.r i) st1 := by
  have h0 : callD Φ false k ds st = trimR st.length (Φ k ds st) := rfl
  rw [h0, h] <;> rfl
/-- .. what it made is forgotten -/
theorem callD_t {k : Nat} {x : PyData} (h : Φ k ds st = .ok (.p x) st1) (hc : (st1.take st.length).all (obLt st.length) = true) : callD Φ false k ds st = .ok (.p x) (st1.take st.length) := by
  have h0 : callD Φ false k ds st = trimR st.length (Φ k ds st) := rfl
  rw [h0, h]
  show Res.ok (D.p x) (if (st1.take st.length).all (obLt st.length) = true then st1.take st.length else st1) = _
  rw [if_pos hc]
theorem ev_to {d' : D} (h : ev Φ a env st = .ok d st1) (e : d = d') : ev Φ a env st = .ok d' st1 := e ▸ h
end
/-! ### operations, by what they meet -/
section
variable {st : Store} {i j : Int} {n k m : Nat} {a b : PyData} {x y : D} {xs ys : List PyData} {u v : Str} {p q : Bool} {ds es : List D}
theorem q_nt : op1 .nt (.p (.bool p)) st = .ok (.p (.bool (!p))) st := rfl
theorem q_neg : op1 .neg (.p (.int i)) st = .ok (.p (.int (-i))) st := rfl
theorem q_lenT : op1 .len (.p (.tuple xs)) st = .ok (.p (.int (xs.length : Int))) st := rfl
theorem q_lenL : op1 .len (.p (.list xs)) st = .ok (.p (.int (xs.length : Int))) st := rfl
theorem q_lenR (h : st[k]? = some (.lst ds)) : op1 .len (.r k) st = .ok (.p (.int (ds.length : Int))) st := by
  unfold op1
  simp only [h]
theorem q_abs : op1 .abs (.p (.int i)) st = .ok (.p (.int (if i < 0 then -i else i))) st := rfl
theorem q_intI : op1 .int (.p (.int i)) st = .ok (.p (.int i)) st := rfl
theorem q_intB : op1 .int (.p (.bool p)) st = .ok (.p (.int (if p then 1 else 0))) st := rfl
theorem q_tupT : op1 .tup (.p (.tuple xs)) st = .ok (.p (.tuple xs)) st := rfl
theorem q_tupL : op1 .tup (.p (.list xs)) st = .ok (.p (.tuple xs)) st := rfl
theorem q_tupR (h : st[k]? = some (.lst ds)) (hp : allP ds = some xs) : op1 .tup (.r k) st = .ok (.p (.tuple xs)) st := by
  have : listP (.r k) st = some xs := by
    unfold listP
    simp only [h, hp]
  show Res.of st ((listP (.r k) st).map fun ds => D.p (.tuple ds)) = _
  rw [this]
  rfl
theorem q_isN : op1 .isN (.p .none) st = .ok (.p (.bool true)) st := rfl
theorem q_isin {t : Ty} {ts : List Ty} (h : tyOf x st = some t) : op1 (.isin ts) x st = .ok (.p (.bool (ts.any fun u => isTy t u))) st := by
  show Res.of st ((tyOf x st).map fun t => D.p (.bool (ts.any fun u => isTy t u))) = _
  rw [h]
  rfl
theorem q_all {bs : List Bool} (h : boolsOf xs = some bs) : op1 .all (.p (.list xs)) st = .ok (.p (.bool (bs.all id))) st := by
  show Res.of st (((some xs).bind boolsOf).map fun bs => D.p (.bool (bs.all id))) = _
  rw [Option.bind_some, h]
  rfl
theorem q_any {bs : List Bool} (h : boolsOf xs = some bs) : op1 .any (.p (.list xs)) st = .ok (.p (.bool (bs.any id))) st := by
  show Res.of st (((some xs).bind boolsOf).map fun bs => D.p (.bool (bs.any id))) = _
  rw [Option.bind_some, h]
  rfl
theorem q_sum {ns : List Int} (h : intsOf xs = some ns) : op1 .sum (.p (.list xs)) st = .ok (.p (.int ns.sum)) st := by
  show Res.of st (((some xs).bind intsOf).map fun bs => D.p (.int bs.sum)) = _
  rw [Option.bind_some, h]
  rfl
theorem q_tupr (hn : n ≤ 1000000) : op1 .tupr (.p (.int (n : Int))) st = .ok (.p (.tuple ((List.range n).map fun (i : Nat) => PyData.int (i : Int)))) st := by
  show (if 0 ≤ (n : Int) ∧ (n : Int) ≤ 1000000 then _ else _) = _
  rw [if_pos ⟨by omega, by omega⟩, Int.toNat_natCast]
theorem q_frz (h : st[k]? = some (.lst ds)) (hp : allP ds = some xs) : op1 .frz (.r k) st = .ok (.p (.list xs)) (st.set k .gone) := by
  have : listP (.r k) st = some xs := by
    unfold listP
    simp only [h, hp]
  show (match listP (.r k) st with
      | some ds => Res.ok (D.p (.list ds)) (st.set k .gone)
      | none => .bad) = _
  rw [this]
theorem q_popR (h : st[k]? = some (.lst (ds ++ [x]))) : op1 .pop (.r k) st = .ok x (st.set k (.lst ds)) := by
  unfold op1
  simp only [h]
  simp
theorem q_mod (h : 0 < j) : op2 .mod (.p (.int i)) (.p (.int j)) st = .ok (.p (.int (i % j))) st := by rw [op2_mod_i, if_pos h]
theorem q_fdv (h : 0 < j ∧ j < 1073741824) : op2 .fdv (.p (.int i)) (.p (.int j)) st = .ok (.p (.int (i / j))) st := if_pos h
theorem q_mul (h : mulOk i j = true) : op2 .mul (.p (.int i)) (.p (.int j)) st = .ok (.p (.int (i * j))) st := by rw [op2_mul_i, if_pos h]
theorem mulOk_R (h : Nat.blt j.natAbs 18446744073709551616 = true) : mulOk i j = true := by
  unfold mulOk
  rw [decide_eq_true (Nat.lt_of_lt_of_le (Nat.le_of_ble_eq_true h) (Nat.le_refl _)), Bool.or_true]
theorem mulOk_L (h : Nat.blt i.natAbs 18446744073709551616 = true) : mulOk i j = true := by
  unfold mulOk
  rw [decide_eq_true (Nat.lt_of_lt_of_le (Nat.le_of_ble_eq_true h) (Nat.le_refl _)), Bool.true_or]
theorem q_mulT1 {z : PyData} (h : k ≤ 1000) : op2 .mul (.p (.tuple [z])) (.p (.int (k : Int))) st = .ok (.p (.tuple (List.replicate k z))) st := by
  rw [op2_mul_t, if_pos (repOk_one h), Int.toNat_natCast, rep_one]
theorem q_addT (h : xs.length + ys.length ≤ 1000) : op2 .add (.p (.tuple xs)) (.p (.tuple ys)) st = .ok (.p (.tuple (xs ++ ys))) st := add_t h
theorem q_addL (h : xs.length + ys.length ≤ 100000) : op2 .add (.p (.list xs)) (.p (.list ys)) st = .ok (.p (.list (xs ++ ys))) st := by
  show Res.of st ((some xs).bind fun a => (some ys).bind fun b => if a.length + b.length ≤ sizeLine then some (D.p (.list (a ++ b))) else none) = _
  rw [Option.bind_some, Option.bind_some, if_pos (le_line (by omega))]
  rfl
theorem q_addRL (hk : st[k]? = some (.lst ds)) (hp : allP ds = some xs) (h : xs.length + ys.length ≤ 100000) : op2 .add (.r k) (.p (.list ys)) st = .ok (.p (.list (xs ++ ys))) st := by
  have e : listP (.r k) st = some xs := by
    unfold listP
    simp only [hk, hp]
  show Res.of st ((listP (.r k) st).bind fun a => (some ys).bind fun b => if a.length + b.length ≤ sizeLine then some (D.p (.list (a ++ b))) else none) = _
  rw [e, Option.bind_some, Option.bind_some, if_pos (le_line (by omega))]
  rfl
theorem q_addS (h : u.length + v.length ≤ 1000000) : op2 .add (.p (.str u)) (.p (.str v)) st = .ok (.p (.str (u ++ v))) st := by rw [op2_add_s, if_pos (le_line (by omega))]
theorem q_eqI : op2 .eq (.p (.int i)) (.p (.int j)) st = .ok (.p (.bool (decide (i = j)))) st := by rw [op2_eq_p, eqD_int]; rfl
theorem q_eqS : op2 .eq (.p (.str u)) (.p (.str v)) st = .ok (.p (.bool (decide (u = v)))) st := by rw [op2_eq_p, eqD_str]; rfl
theorem q_eqB : op2 .eq (.p (.bool p)) (.p (.bool q)) st = .ok (.p (.bool (p == q))) st := by rw [op2_eq_p, eqD_bool]; rfl
theorem q_neI : op2 .ne (.p (.int i)) (.p (.int j)) st = .ok (.p (.bool (!decide (i = j)))) st := by rw [op2_ne_p, eqD_int]; rfl
theorem q_neS : op2 .ne (.p (.str u)) (.p (.str v)) st = .ok (.p (.bool (!decide (u = v)))) st := by rw [op2_ne_p, eqD_str]; rfl
theorem q_neB : op2 .ne (.p (.bool p)) (.p (.bool q)) st = .ok (.p (.bool (!(p == q)))) st := by rw [op2_ne_p, eqD_bool]; rfl
theorem q_ltI : op2 .lt (.p (.int i)) (.p (.int j)) st = .ok (.p (.bool (decide (i < j)))) st := rfl
theorem q_leI : op2 .le (.p (.int i)) (.p (.int j)) st = .ok (.p (.bool (decide (i ≤ j)))) st := rfl
theorem q_gtI : op2 .gt (.p (.int i)) (.p (.int j)) st = .ok (.p (.bool (decide (j < i)))) st := rfl
theorem q_geI : op2 .ge (.p (.int i)) (.p (.int j)) st = .ok (.p (.bool (decide (j ≤ i)))) st := rfl
theorem q_inTS {ws : List Str} : op2 .inn (.p (.str u)) (.p (.tuple (ws.map .str))) st = .ok (.p (.bool (decide (u ∈ ws)))) st := by
  rw [op2_inn]
  show Res.of st ((inP (.str u) (ws.map .str)).map bz) = _
  rw [inP_str]
  rfl
theorem q_inLS {ws : List Str} : op2 .inn (.p (.str u)) (.p (.list (ws.map .str))) st = .ok (.p (.bool (decide (u ∈ ws)))) st := by
  rw [op2_inn]
  show Res.of st ((inP (.str u) (ws.map .str)).map bz) = _
  rw [inP_str]
  rfl
theorem q_ninTS {ws : List Str} : op2 .nin (.p (.str u)) (.p (.tuple (ws.map .str))) st = .ok (.p (.bool (!decide (u ∈ ws)))) st := by
  rw [op2_nin]
  show Res.of st ((inP (.str u) (ws.map .str)).map fun k => bz (!k)) = _
  rw [inP_str]
  rfl
theorem q_ninLS {ws : List Str} : op2 .nin (.p (.str u)) (.p (.list (ws.map .str))) st = .ok (.p (.bool (!decide (u ∈ ws)))) st := by
  rw [op2_nin]
  show Res.of st ((inP (.str u) (ws.map .str)).map fun k => bz (!k)) = _
  rw [inP_str]
  rfl
theorem q_inTI {ws : List Int} : op2 .inn (.p (.int i)) (.p (.tuple (ws.map .int))) st = .ok (.p (.bool (decide (i ∈ ws)))) st := by
  rw [op2_inn]
  show Res.of st ((inP (.int i) (ws.map .int)).map bz) = _
  rw [inP_int]
  rfl
theorem q_inLI {ws : List Int} : op2 .inn (.p (.int i)) (.p (.list (ws.map .int))) st = .ok (.p (.bool (decide (i ∈ ws)))) st := by
  rw [op2_inn]
  show Res.of st ((inP (.int i) (ws.map .int)).map bz) = _
  rw [inP_int]
  rfl
theorem q_ix (h : getIx x y st = some (.p a)) : op2 .ix x y st = .ok (.p a) st := by rw [op2_ix, h]; rfl
theorem q_ixD {d : D} (h : getIx x y st = some d) : op2 .ix x y st = .ok d st := by rw [op2_ix, h]; rfl
theorem q_indxT {w : List Str} (hn : w.Nodup) (h : w[m]? = some u) : op2 .indx (.p (.tuple (w.map .str))) (.p (.str u)) st = .ok (.p (.int (m : Int))) st := indx_str hn h
theorem q_app (h : st[k]? = some (.lst ds)) (hl : ds.length ≤ 100000) : op2 .app (.r k) y st = .ok (.p .none) (st.set k (.lst (ds ++ [y]))) := by
  rw [op2_app]
  simp only [h]
  exact if_pos (Nat.lt_of_lt_of_le (Nat.lt_succ_self _) (le_line (by omega)))
theorem q_ext (h : st[k]? = some (.lst ds)) (hy : listP y st = some ys) (hl : ds.length + ys.length ≤ 100000) : op2 .ext (.r k) y st = .ok (.p .none) (st.set k (.lst (ds ++ ys.map .p))) := by
  rw [op2_ext]
  simp only [h, hy]
  exact if_pos (le_line (by omega))
theorem q_mx : op2 .mx2 (.p (.int i)) (.p (.int j)) st = .ok (.p (.int (if j > i then j else i))) st := rfl
theorem q_mn : op2 .mn2 (.p (.int i)) (.p (.int j)) st = .ok (.p (.int (if j < i then j else i))) st := rfl
theorem isLst_of (h : st[k]? = some (.lst ds)) : isLst (.r k) st = true := by simp [isLst, h]
theorem pre_app (h : st[k]? = some (.lst ds)) : pre .app (.r k) st = true := isLst_of h
theorem pre_ext (h : st[k]? = some (.lst ds)) : pre .ext (.r k) st = true := isLst_of h
theorem pre_popi (h : st[k]? = some (.lst ds)) : pre .popi (.r k) st = true := isLst_of h
/-! places -/
theorem ixT (h : xs[n]? = some a) : getIx (.p (.tuple xs)) (.p (.int (n : Int))) st = some (.p a) := by rw [getIx_tup, h]; rfl
theorem ixL (h : xs[n]? = some a) : getIx (.p (.list xs)) (.p (.int (n : Int))) st = some (.p a) := by rw [getIx_lst, h]; rfl
theorem ixR {d : D} (hk : st[k]? = some (.lst ds)) (h : ds[n]? = some d) : getIx (.r k) (.p (.int (n : Int))) st = some d := by
  unfold getIx
  simp only [hk]
  rw [bind_ix, h]
theorem ixTm {α : Type} {f : α → PyData} {l : List α} (h : n < l.length) : getIx (.p (.tuple (l.map f))) (.p (.int (n : Int))) st = some (.p (f l[n])) := by
  rw [getIx_tup, List.getElem?_map, List.getElem?_eq_getElem h]; rfl
theorem ixLm {α : Type} {f : α → PyData} {l : List α} (h : n < l.length) : getIx (.p (.list (l.map f))) (.p (.int (n : Int))) st = some (.p (f l[n])) := by
  rw [getIx_lst, List.getElem?_map, List.getElem?_eq_getElem h]; rfl
end
/-! ### what is walked, and comprehensions, by native lists -/
theorem walk_rangeN {n : Nat} {st : Store} (h : n ≤ 1000000) : walkOf 1 [.p (.int (n : Int))] st = some ((List.range n).map fun (i : Nat) => It.one (.p (.int (i : Int)))) := by
  rw [walk_range (by omega) (by omega), Int.toNat_natCast]
  congr 1
  rw [List.range_eq_range']
  have : ∀ (m : Nat) (c : Nat), rangeI (c : Int) 1 m = (List.range' c m).map fun (i : Nat) => It.one (.p (.int (i : Int))) := by
    intro m
    induction m with
    | zero => intro c; rfl
    | succ m ih =>
      intro c
      rw [List.range'_succ, List.map_cons, rangeI]
      congr 1
      exact_mod_cast ih (c + 1)
  exact this n 0
theorem walk_tupN {α : Type} {f : α → PyData} {l : List α} {st : Store} : walkOf 0 [.p (.tuple (l.map f))] st = some (l.map fun x => It.one (.p (f x))) := by
  rw [walk_tup, List.map_map]; rfl
theorem walk_listN {α : Type} {f : α → PyData} {l : List α} {st : Store} : walkOf 0 [.p (.list (l.map f))] st = some (l.map fun x => It.one (.p (f x))) := by
  rw [walk_list, List.map_map]; rfl
theorem enumI_map {α : Type} {f : α → PyData} : ∀ (l : List α) (n : Nat), enumI n ((l.map f).map D.p) = (l.zipIdx n).map fun x => It.two (.p (.int ((x.2 : Nat) : Int))) (.p (f x.1))
  | [], n => rfl
  | x :: l, n => by
    simp only [List.map_cons, List.zipIdx_cons, enumI]
    rw [enumI_map l (n + 1)]
theorem walk_enumT {α : Type} {f : α → PyData} {l : List α} {st : Store} : walkOf 2 [.p (.tuple (l.map f))] st = some (l.zipIdx.map fun x => It.two (.p (.int ((x.2 : Nat) : Int))) (.p (f x.1))) := by
  show (seqD (.p (.tuple (l.map f))) st).map (enumI 0) = _
  show some (enumI 0 ((l.map f).map D.p)) = _
  rw [enumI_map]
theorem walk_enumL {α : Type} {f : α → PyData} {l : List α} {st : Store} : walkOf 2 [.p (.list (l.map f))] st = some (l.zipIdx.map fun x => It.two (.p (.int ((x.2 : Nat) : Int))) (.p (f x.1))) := by
  show some (enumI 0 ((l.map f).map D.p)) = _
  rw [enumI_map]
theorem zipI_map {α β : Type} {f : α → PyData} {g : β → PyData} : ∀ (l : List α) (m : List β), zipI ((l.map f).map D.p) ((m.map g).map D.p) = (l.zip m).map fun x => It.two (.p (f x.1)) (.p (g x.2))
  | [], m => by cases m <;> rfl
  | x :: l, [] => rfl
  | x :: l, y :: m => by
    simp only [List.map_cons, List.zip_cons_cons, zipI]
    rw [zipI_map l m]
theorem walk_zipT {α β : Type} {f : α → PyData} {g : β → PyData} {l : List α} {m : List β} {st : Store} : walkOf 3 [.p (.tuple (l.map f)), .p (.tuple (m.map g))] st = some ((l.zip m).map fun x => It.two (.p (f x.1)) (.p (g x.2))) := by
  show some (zipI ((l.map f).map D.p) ((m.map g).map D.p)) = _
  rw [zipI_map]
/-- a comprehension over native things -/
theorem compN {α : Type} {Φ : Calls} {env : Sl} {st st1 : Store} {elt : E} {tg : Tg} {k : Nat} {its ifs : List E} {ds : List D} {xs : List α} {f : α → It} (c : α → Bool) (g : α → PyData) (h1 : evs Φ its env st = .ok ds st1) (h2 : walkOf k ds st1 = some (xs.map f)) (h3 : still ds st1 st1 = true)
    (h4 : ∀ x ∈ xs, ∃ e, bindT tg (f x) (wipeE env tg.slots) = some e ∧ evAn Φ ifs e st1 = .ok (.p (.bool (c x))) st1 ∧ (c x = true → ev Φ elt e st1 = .ok (.p (g x)) st1)) (hl : xs.length ≤ 1000000) :
    ev Φ (.comp false elt tg k its ifs) env st = .ok (.p (.list ((xs.filter c).map g))) st1 := by
  have h0 : ev Φ (.comp false elt tg k its ifs) env st = (evs Φ its env st).bind fun ds st => match walkOf k ds st with
    | some xs => ((compM (fun st1 => still ds st st1) (compF Φ elt tg ifs env) xs st).bind fun ds st => newL false ds st).nox
    | none => .bad := rfl
  rw [h0, h1, Res.bind_ok, h2]
  have key : ∀ {l : List α}, (∀ x ∈ l, ∃ e, bindT tg (f x) (wipeE env tg.slots) = some e ∧ evAn Φ ifs e st1 = .ok (.p (.bool (c x))) st1 ∧ (c x = true → ev Φ elt e st1 = .ok (.p (g x)) st1)) →
      compM (fun st2 => still ds st1 st2) (compF Φ elt tg ifs env) (l.map f) st1 = .ok (((l.filter c).map g).map .p) st1 := by
    intro l
    induction l with
    | nil =>
      intro _
      rw [List.map_nil]
      unfold compM
      rw [if_pos h3]
      rfl
    | cons x l ih =>
      intro h
      obtain ⟨e, q1, q2, q3⟩ := h x (by simp)
      rw [List.map_cons]
      unfold compM
      rw [if_pos h3, compF_at q1]
      simp only [q2, Res.bind_ok, truth_b]
      cases hc : c x with
      | false =>
        simp only [Res.bind_ok, ih fun y hy => h y (by simp [hy])]
        rw [List.filter_cons_of_neg (by rw [hc]; decide)]
      | true =>
        simp only [q3 hc, Res.bind_ok, ih fun y hy => h y (by simp [hy])]
        rw [List.filter_cons_of_pos hc]
        rfl
  simp only [key h4, Res.bind_ok]
  unfold newL
  rw [if_neg, allP_map]
  · rfl
  · have := List.length_filter_le c xs
    rw [List.length_map, List.length_map]
    exact Nat.not_lt.mpr (le_line (by omega))
theorem compN0 {α : Type} {Φ : Calls} {env : Sl} {st st1 : Store} {elt : E} {tg : Tg} {k : Nat} {its : List E} {ds : List D} {xs : List α} {f : α → It} (g : α → PyData) (h1 : evs Φ its env st = .ok ds st1) (h2 : walkOf k ds st1 = some (xs.map f)) (h3 : still ds st1 st1 = true)
    (h4 : ∀ x ∈ xs, ∃ e, bindT tg (f x) (wipeE env tg.slots) = some e ∧ ev Φ elt e st1 = .ok (.p (g x)) st1) (hl : xs.length ≤ 1000000) :
    ev Φ (.comp false elt tg k its []) env st = .ok (.p (.list (xs.map g))) st1 := by
  rw [compN (fun _ => true) g h1 h2 h3 (fun x hx => by obtain ⟨e, q1, q2⟩ := h4 x hx; exact ⟨e, q1, rfl, fun _ => q2⟩) hl, List.filter_eq_self.mpr fun _ _ => rfl]
/-- what is wished of a turn -/
def lpQ (I : Sl → Store → Prop) (QS : Flow × Sl → Store → Prop) (r : Flow × Sl) (st : Store) : Prop := match r.1 with
  | .nx => I r.2 st
  | .ct => I r.2 st
  | .bk => QS (.nx, r.2) st
  | .rt d => QS (.rt d, r.2) st
@[simp] theorem lpQ_nx {I : Sl → Store → Prop} {QS : Flow × Sl → Store → Prop} {env : Sl} {st : Store} : lpQ I QS (.nx, env) st = I env st := rfl
@[simp] theorem lpQ_ct {I : Sl → Store → Prop} {QS : Flow × Sl → Store → Prop} {env : Sl} {st : Store} : lpQ I QS (.ct, env) st = I env st := rfl
@[simp] theorem lpQ_bk {I : Sl → Store → Prop} {QS : Flow × Sl → Store → Prop} {env : Sl} {st : Store} : lpQ I QS (.bk, env) st = QS (.nx, env) st := rfl
@[simp] theorem lpQ_rt {I : Sl → Store → Prop} {QS : Flow × Sl → Store → Prop} {env : Sl} {st : Store} {d : D} : lpQ I QS (.rt d, env) st = QS (.rt d, env) st := rfl
/-- a loop over native things; the invariant by what is still to come -/
theorem forN {α : Type} {Φ : Calls} {tg : Tg} {body : List S} {ok : Store → Bool} {f : α → It} {QS : Flow × Sl → Store → Prop} (P : List α → Sl → Store → Prop)
    (h : ∀ x xs env st, P (x :: xs) env st → ok st = true ∧ ∃ e, bindT tg (f x) env = some e ∧ wpR (exB Φ body e st) (lpQ (P xs) QS)) (hd : ∀ env st, P [] env st → ok st = true ∧ QS (.nx, env) st) {xs : List α} {env : Sl} {st : Store} (h0 : P xs env st) :
    wpR (forM' ok (forF Φ tg body) (xs.map f) env st) QS := by
  refine wp_for (fun items env st => ∃ xs : List α, items = xs.map f ∧ P xs env st) ?_ ?_ _ _ _ ⟨xs, rfl, h0⟩
  · rintro it items env st ⟨xs, e, p⟩
    cases xs with
    | nil => cases e
    | cons x xs =>
      simp only [List.map_cons, List.cons.injEq] at e
      obtain ⟨rfl, rfl⟩ := e
      obtain ⟨k1, e, k2, k3⟩ := h x xs env st p
      refine ⟨k1, ?_⟩
      rw [forF_at k2]
      refine wpR_mono k3 ?_
      rintro ⟨fl, e⟩ st1 q
      cases fl with
      | nx => exact ⟨xs, rfl, q⟩
      | ct => exact ⟨xs, rfl, q⟩
      | bk => exact q
      | rt d => exact q
  · rintro env st ⟨xs, e, p⟩
    cases xs with
    | nil => exact hd env st p
    | cons x xs => cases e
/-- a comprehension that draws: each item gives something that is G, and I stays -/
theorem compD {α : Type} {Φ : Calls} {env : Sl} {st st0 : Store} {elt : E} {tg : Tg} {k : Nat} {its ifs : List E} {ds : List D} {xs : List α} {f : α → It} (I : Store → Prop) (G : PyData → Prop)
    (h1 : evs Φ its env st0 = .ok ds st) (h2 : walkOf k ds st = some (xs.map f)) (h3 : ∀ st1, I st1 → still ds st st1 = true) (h : I st)
    (he : ∀ x ∈ xs, ∀ st1, I st1 → ∃ e, bindT tg (f x) (wipeE env tg.slots) = some e ∧ wpR (evAn Φ ifs e st1) (fun d st2 => ∃ b, d = .p (.bool b) ∧ I st2 ∧ (b = true → wpR (ev Φ elt e st2) (fun d st3 => ∃ y, d = .p y ∧ G y ∧ I st3)))) (hl : xs.length ≤ 1000000) :
    wpR (ev Φ (.comp false elt tg k its ifs) env st0) (fun d st' => ∃ ys : List PyData, d = .p (.list ys) ∧ ys.length ≤ xs.length ∧ (∀ y ∈ ys, G y) ∧ I st') := by
  have h0 : ev Φ (.comp false elt tg k its ifs) env st0 = (evs Φ its env st0).bind fun ds st => match walkOf k ds st with
    | some xs => ((compM (fun st1 => still ds st st1) (compF Φ elt tg ifs env) xs st).bind fun ds st => newL false ds st).nox
    | none => .bad := rfl
  rw [h0, h1, Res.bind_ok, h2]
  show wpR (Res.nox _) _
  rw [wpR_nox, wpR_bind]
  have key : ∀ (l : List α), (∀ x ∈ l, x ∈ xs) → ∀ st1, I st1 → wpR (compM (fun st2 => still ds st st2) (compF Φ elt tg ifs env) (l.map f) st1) (fun dd st' => ∃ ys : List PyData, dd = ys.map .p ∧ ys.length ≤ l.length ∧ (∀ y ∈ ys, G y) ∧ I st') := by
    intro l
    induction l with
    | nil =>
      intro _ st1 hi
      rw [List.map_nil]
      unfold compM
      rw [if_pos (h3 st1 hi)]
      exact ⟨[], rfl, Nat.le_refl _, by simp, hi⟩
    | cons x l ih =>
      intro hm st1 hi
      obtain ⟨e, q1, q2⟩ := he x (hm x (by simp)) st1 hi
      rw [List.map_cons]
      unfold compM
      rw [if_pos (h3 st1 hi), compF_at q1, wpR_bind, wpR_bind]
      refine wpR_mono q2 ?_
      rintro d st2 ⟨b, rfl, hi2, q3⟩
      cases b with
      | false =>
        simp only [truth_b, wpR_ok, wpR_bind]
        refine wpR_mono (ih (fun y hy => hm y (by simp [hy])) st2 hi2) ?_
        rintro dd st3 ⟨ys, rfl, k1, k2, k3⟩
        exact ⟨ys, rfl, Nat.le_succ_of_le k1, k2, k3⟩
      | true =>
        simp only [truth_b, wpR_bind]
        refine wpR_mono (q3 rfl) ?_
        rintro d st3 ⟨y, rfl, gy, hi3⟩
        simp only [wpR_ok]
        refine wpR_mono (ih (fun y hy => hm y (by simp [hy])) st3 hi3) ?_
        rintro dd st4 ⟨ys, rfl, k1, k2, k3⟩
        refine ⟨y :: ys, rfl, Nat.succ_le_succ k1, fun z hz => ?_, k3⟩
        rcases List.mem_cons.mp hz with rfl | hz
        · exact gy
        · exact k2 z hz
  refine wpR_mono (key xs (fun _ h => h) st h) ?_
  rintro dd st' ⟨ys, rfl, k1, k2, k3⟩
  unfold newL
  rw [if_neg (Nat.not_lt.mpr (le_line (by rw [List.length_map]; omega))), allP_map]
  exact ⟨ys, rfl, k1, k2, k3⟩
theorem compD0 {α : Type} {Φ : Calls} {env : Sl} {st st0 : Store} {elt : E} {tg : Tg} {k : Nat} {its : List E} {ds : List D} {xs : List α} {f : α → It} (I : Store → Prop) (G : PyData → Prop)
    (h1 : evs Φ its env st0 = .ok ds st) (h2 : walkOf k ds st = some (xs.map f)) (h3 : ∀ st1, I st1 → still ds st st1 = true) (h : I st)
    (he : ∀ x ∈ xs, ∀ st1, I st1 → ∃ e, bindT tg (f x) (wipeE env tg.slots) = some e ∧ wpR (ev Φ elt e st1) (fun d st3 => ∃ y, d = .p y ∧ G y ∧ I st3)) (hl : xs.length ≤ 1000000) :
    wpR (ev Φ (.comp false elt tg k its []) env st0) (fun d st' => ∃ ys : List PyData, d = .p (.list ys) ∧ ys.length = xs.length ∧ (∀ y ∈ ys, G y) ∧ I st') := by
  have h0 : ev Φ (.comp false elt tg k its []) env st0 = (evs Φ its env st0).bind fun ds st => match walkOf k ds st with
    | some xs => ((compM (fun st1 => still ds st st1) (compF Φ elt tg [] env) xs st).bind fun ds st => newL false ds st).nox
    | none => .bad := rfl
  rw [h0, h1, Res.bind_ok, h2]
  show wpR (Res.nox _) _
  rw [wpR_nox, wpR_bind]
  have key : ∀ (l : List α), (∀ x ∈ l, x ∈ xs) → ∀ st1, I st1 → wpR (compM (fun st2 => still ds st st2) (compF Φ elt tg [] env) (l.map f) st1) (fun dd st' => ∃ ys : List PyData, dd = ys.map .p ∧ ys.length = l.length ∧ (∀ y ∈ ys, G y) ∧ I st') := by
    intro l
    induction l with
    | nil =>
      intro _ st1 hi
      rw [List.map_nil]
      unfold compM
      rw [if_pos (h3 st1 hi)]
      exact ⟨[], rfl, rfl, by simp, hi⟩
    | cons x l ih =>
      intro hm st1 hi
      obtain ⟨e, q1, q2⟩ := he x (hm x (by simp)) st1 hi
      rw [List.map_cons]
      unfold compM
      rw [if_pos (h3 st1 hi), compF_at q1, wpR_bind, wpR_bind]
      simp only [evAn_nil, wpR_ok, truth_bz, wpR_bind]
      refine wpR_mono q2 ?_
      rintro d st3 ⟨y, rfl, gy, hi3⟩
      refine wpR_mono (ih (fun y hy => hm y (by simp [hy])) st3 hi3) ?_
      rintro dd st4 ⟨ys, rfl, k1, k2, k3⟩
      refine ⟨y :: ys, rfl, congrArg (· + 1) k1, fun z hz => ?_, k3⟩
      rcases List.mem_cons.mp hz with rfl | hz
      · exact gy
      · exact k2 z hz
  refine wpR_mono (key xs (fun _ h => h) st h) ?_
  rintro dd st' ⟨ys, rfl, k1, k2, k3⟩
  unfold newL
  rw [if_neg (Nat.not_lt.mpr (le_line (by rw [List.length_map]; omega))), allP_map]
  exact ⟨ys, rfl, k1, k2, k3⟩
/-- things that are all encodings -/
theorem enc_of {α : Type} {f : α → PyData} {P : α → Prop} : ∀ {ys : List PyData}, (∀ y ∈ ys, ∃ a, y = f a ∧ P a) → ∃ xs : List α, ys = xs.map f ∧ ∀ a ∈ xs, P a
  | [], _ => ⟨[], rfl, by simp⟩
  | y :: ys, h => by
    obtain ⟨a, rfl, ha⟩ := h y (by simp)
    obtain ⟨xs, rfl, hx⟩ := enc_of (ys := ys) fun y hy => h y (by simp [hy])
    exact ⟨a :: xs, rfl, fun b hb => by
      rcases List.mem_cons.mp hb with rfl | hb
      · exact ha
      · exact hx b hb⟩
theorem setDic {k : Nat} {kvs : List (PyData × D)} {key : PyData} {v : D} {st : Store} (hk : st[k]? = some (.dic kvs)) (hl : Nat.ble kvs.length 1000 = true) (hko : keyOk key = true) : setIx (.r k) (.p key) v st = some (st.set k (.dic (dPut kvs key v))) := by
  unfold setIx
  simp only [hk]
  exact if_pos (Bool.and_eq_true_iff.mpr ⟨hko, decide_eq_true (Nat.lt_of_le_of_lt (Nat.le_of_ble_eq_true hl) (Nat.lt_of_lt_of_le (by decide : 1000 < 100000) (le_line (by decide))))⟩)
theorem q_pop0 {x : D} {ds : List D} {st : Store} {k : Nat} (h : st[k]? = some (.lst (x :: ds))) : op2 .popi (.r k) (.p (.int 0)) st = .ok x (st.set k (.lst ds)) := by
  show (match st[k]? with
      | some (.lst ds) => (match ixOf ds.length 0 with
        | some j => (match ds[j]? with
          | some d => Res.ok d (st.set k (.lst (ds.eraseIdx j)))
          | none => .bad)
        | none => .bad)
      | _ => .bad) = _
  rw [h]
  have : ixOf (x :: ds).length 0 = some 0 := by
    have := ixOf_nat (x :: ds).length 0
    rw [if_pos (by simp)] at this
    exact this
  simp only [this]
  rfl
theorem q_ins0 {x : D} {ds : List D} {st : Store} {k : Nat} (h : st[k]? = some (.lst ds)) (hl : ds.length ≤ 100000) : op3 .ins (.r k) (.p (.int 0)) x st = .ok (.p .none) (st.set k (.lst (x :: ds))) := by
  show (match st[k]? with
      | some (.lst ds) => if (0 : Int) = 0 ∧ ds.length < sizeLine then Res.ok (D.p .none) (st.set k (.lst (x :: ds))) else .bad
      | _ => .bad) = _
  rw [h]
  exact if_pos ⟨rfl, Nat.lt_of_lt_of_le (Nat.lt_succ_self _) (le_line (by omega))⟩
theorem q_slT {xs : List PyData} {lo hi : Option Int} {st : Store} : asNew false (cutD (.p (.tuple xs)) lo hi st) st = .ok (.p (.tuple (cut xs lo hi))) st := rfl
theorem q_slL {xs : List PyData} {lo hi : Option Int} {st : Store} (h : xs.length ≤ 1000000) : asNew false (cutD (.p (.list xs)) lo hi st) st = .ok (.p (.list (cut xs lo hi))) st := by
  show newL false ((cut xs lo hi).map .p) st = _
  unfold newL
  rw [if_neg (Nat.not_lt.mpr (le_line (by rw [List.length_map]; have := cut_len xs lo hi; omega))), allP_map]
  rfl
theorem cut_upto {α : Type} (xs : List α) (c : Nat) : cut xs none (some (c : Int)) = xs.take c := by
  have e1 : clip xs.length xs.length (some (c : Int)) = min c xs.length := by
    show (if (c : Int) < 0 then ((c : Int) + xs.length).toNat else min (c : Int).toNat xs.length) = _
    rw [if_neg (by omega)] <;> rfl
  have e2 : clip xs.length 0 none = 0 := rfl
  unfold cut
  rw [e1, e2, List.drop_zero, Nat.sub_zero]
  by_cases h : c ≤ xs.length
  · rw [Nat.min_eq_left h]
  · rw [Nat.min_eq_right (by omega), List.take_of_length_le (Nat.le_refl _), List.take_of_length_le (by omega)]
theorem cut_from {α : Type} (xs : List α) (c : Nat) : cut xs (some (c : Int)) none = xs.drop c := by
  have e1 : clip xs.length 0 (some (c : Int)) = min c xs.length := by
    show (if (c : Int) < 0 then ((c : Int) + xs.length).toNat else min (c : Int).toNat xs.length) = _
    rw [if_neg (by omega)] <;> rfl
  have e2 : clip xs.length xs.length none = xs.length := rfl
  unfold cut
  rw [e1, e2]
  by_cases h : c ≤ xs.length
  · rw [Nat.min_eq_left h, List.take_of_length_le (by rw [List.length_drop]; omega)]
  · rw [Nat.min_eq_right (by omega), Nat.sub_self, List.drop_of_length_le (by omega), List.drop_of_length_le (by omega)]
    rfl
theorem shl_ev (k : Int) (h : 0 ≤ k ∧ k ≤ 1000000) : ∃ K : Int, 0 < K ∧ ∀ (Φ : Calls) (env : Sl) (st : Store), ev Φ (.o2 .shl (.c (.int 1)) (.c (.int k))) env st = .ok (.p (.int K)) st :=
  ⟨1 * ((2 ^ k.toNat : Nat) : Int), by
    rw [Int.one_mul]
    exact Int.natCast_pos.mpr (Nat.pow_pos (by decide)), fun Φ env st => by
    rw [ev_o2, ev_c, Res.bind_ok]
    show (if true = true then _ else _) = _
    rw [if_pos rfl, ev_c, Res.bind_ok]
    have : op2 .shl (.p (.int 1)) (.p (.int k)) st = .ok (.p (.int (1 * ((2 ^ k.toNat : Nat) : Int)))) st := by
      unfold op2
      exact if_pos ⟨h.1, h.2, by decide⟩
    rw [this]
    rfl⟩
theorem pow_ev (a b : Int) (h : 0 ≤ b ∧ b ≤ 1000000) (ha : a.natAbs ≤ 1000000) : ∃ K : Int, K = a ^ b.toNat ∧ ∀ (Φ : Calls) (env : Sl) (st : Store), ev Φ (.o2 .pow (.c (.int a)) (.c (.int b))) env st = .ok (.p (.int K)) st :=
  ⟨a ^ b.toNat, rfl, fun Φ env st => by
    rw [ev_o2, ev_c, Res.bind_ok]
    show (if true = true then _ else _) = _
    rw [if_pos rfl, ev_c, Res.bind_ok]
    have : op2 .pow (.p (.int a)) (.p (.int b)) st = .ok (.p (.int (a ^ b.toNat))) st := by
      unfold op2
      exact if_pos ⟨h.1, h.2, by omega⟩
    rw [this]
    rfl⟩
theorem q_indxM {w : List Str} {u : Str} {m : Nat} {st : Store} (hn : w.Nodup) (h : w[m]? = some u) : op2 .indx (.p (.tuple (w.map .str))) (.p (.str u)) st = .ok (.p (.int (m : Int))) st := indx_str hn h
/-! ### a changing list that is walked; things taken out of it -/
theorem walk_refN {α : Type} {f : α → D} {l : List α} {st : Store} {k : Nat} (h : st[k]? = some (.lst (l.map f))) : walkOf 0 [.r k] st = some (l.map fun x => It.one (f x)) := by
  show (seqD (.r k) st).map (·.map It.one) = _
  have : seqD (.r k) st = some (l.map f) := by
    unfold seqD
    simp only [h]
  rw [this]
  simp
theorem still_ref {k : Nat} {st st' : Store} {ds : List D} (h : st[k]? = some (.lst ds)) (h' : st'[k]? = some (.lst ds)) : still [.r k] st st' = true := by
  unfold still
  simp only [List.all_cons, List.all_nil, Bool.and_true, h, h']
  exact sameD_rfl ds
theorem allP_fun {α : Type} (f : α → PyData) (l : List α) : allP (l.map fun x => D.p (f x)) = some (l.map f) := allP_mapc f l
theorem eraseIdx_mapD {α β : Type} {f : α → β} : ∀ (l : List α) (i : Nat), (l.map f).eraseIdx i = (l.eraseIdx i).map f
  | [], _ => rfl
  | x :: l, 0 => rfl
  | x :: l, i + 1 => by
    rw [List.map_cons, List.eraseIdx_cons_succ, List.eraseIdx_cons_succ, List.map_cons, eraseIdx_mapD l i]
theorem q_popiM {α : Type} {f : α → D} {l : List α} {st : Store} {k i : Nat} (h : st[k]? = some (.lst (l.map f))) (hi : i < l.length) : op2 .popi (.r k) (.p (.int (i : Int))) st = .ok (f l[i]) (st.set k (.lst ((l.eraseIdx i).map f))) := by
  show (match st[k]? with
      | some (.lst ds) => (match ixOf ds.length (i : Int) with
        | some j => (match ds[j]? with
          | some d => Res.ok d (st.set k (.lst (ds.eraseIdx j)))
          | none => .bad)
        | none => .bad)
      | _ => .bad) = _
  rw [h]
  have e1 : ixOf (l.map f).length (i : Int) = some i := by rw [ixOf_nat, if_pos (by rw [List.length_map]; exact hi)]
  have e2 : (l.map f)[i]? = some (f l[i]) := by rw [List.getElem?_map, List.getElem?_eq_getElem hi]; rfl
  simp only [e1, e2]
  rw [eraseIdx_mapD]
theorem ixRm {α : Type} {f : α → D} {l : List α} {st : Store} {k i : Nat} (h : st[k]? = some (.lst (l.map f))) (hi : i < l.length) : getIx (.r k) (.p (.int (i : Int))) st = some (f l[i]) :=
  ixR h (by rw [List.getElem?_map, List.getElem?_eq_getElem hi]; rfl)
theorem q_mulL {xs : List PyData} {k : Int} {st : Store} (h : -1000 ≤ k ∧ k ≤ 1000) (hl : xs.length ≤ 1000) : op2 .mul (.p (.list xs)) (.p (.int k)) st = .ok (.p (.list (List.replicate k.toNat xs).flatten)) st := by
  show (if decide (-1000 ≤ k) && decide (k ≤ 1000) && decide (xs.length ≤ 1000) then Res.ok (D.p (.list (List.replicate k.toNat xs).flatten)) st else .bad) = _
  rw [decide_eq_true h.1, decide_eq_true h.2, decide_eq_true hl]
  rfl
/-! ### sorted by a name that none shares -/
theorem ltL_irr : ∀ a : List Nat, ¬ a < a := fun a => List.lt_irrefl a
theorem strLt_irr (a : Str) : strLt a a = false := decide_eq_false (List.lt_irrefl _)
theorem strLt_tr {a b c : Str} (h : strLt a b = true) (h2 : strLt b c = true) : strLt a c = true := by
  unfold strLt at *
  rw [decide_eq_true_eq] at *
  exact List.lt_trans h h2
theorem strLt_tot {a b : Str} (h : a ≠ b) : strLt a b = true ∨ strLt b a = true := by
  unfold strLt
  rw [decide_eq_true_eq, decide_eq_true_eq]
  rcases Std.lt_trichotomy a.cps.toList b.cps.toList with z | z | z
  · exact .inl z
  · refine absurd ?_ h
    cases a; cases b
    congr 1
    exact Array.toList_inj.mp z
  · exact .inr z
theorem strLt_asym {a b : Str} (h : strLt a b = true) : strLt b a = false := by
  cases e : strLt b a with
  | false => rfl
  | true => have := strLt_tr h e; rw [strLt_irr] at this; cases this
section
variable {α : Type} {f : α → PyData} {key : α → Str} {tl : α → List PyData}
theorem lt_named (hf : ∀ a, f a = .tuple (.str (key a) :: tl a)) {a b : α} (h : key a ≠ key b) : ltIt (itemsP (f a)) (itemsP (f b)) = some (strLt (key a) (key b)) := by
  rw [hf, hf]
  show (if key a = key b then _ else _) = _
  rw [if_neg h]
theorem ltIt_self : ∀ xs : List PyData, (ltIt xs xs == some true) = false
  | [] => rfl
  | x :: xs => by
    cases x with
    | int i =>
      show ((if i = i then ltIt xs xs else some (decide (i < i))) == some true) = false
      rw [if_pos rfl]
      exact ltIt_self xs
    | str u =>
      show ((if u = u then ltIt xs xs else some (strLt u u)) == some true) = false
      rw [if_pos rfl]
      exact ltIt_self xs
    | _ => rfl
theorem count_lt {p q : α → Bool} : ∀ {l : List α}, (∀ z ∈ l, p z = true → q z = true) → ∀ {a : α}, a ∈ l → p a = false → q a = true → (l.filter p).length < (l.filter q).length
  | x :: l, h, a, ha, hp, hq => by
    have hle : ∀ {m : List α}, (∀ z ∈ m, p z = true → q z = true) → (m.filter p).length ≤ (m.filter q).length := by
      intro m
      induction m with
      | nil => intro _; exact Nat.le_refl _
      | cons y m ih =>
        intro h
        have ih := ih fun z hz => h z (by simp [hz])
        cases e : p y with
        | true =>
          rw [List.filter_cons_of_pos e, List.filter_cons_of_pos (h y (by simp) e)]
          exact Nat.succ_le_succ ih
        | false =>
          rw [List.filter_cons_of_neg (by rw [e]; decide)]
          cases e2 : q y with
          | true => rw [List.filter_cons_of_pos e2]; exact Nat.le_succ_of_le ih
          | false => rw [List.filter_cons_of_neg (by rw [e2]; decide)]; exact ih
    have htl := fun z hz => h z (List.mem_cons_of_mem _ hz)
    rcases List.mem_cons.mp ha with e | hm
    · subst e
      rw [List.filter_cons_of_neg (by rw [hp]; decide), List.filter_cons_of_pos hq]
      exact Nat.lt_succ_of_le (hle htl)
    · have ih := count_lt (l := l) htl hm hp hq
      cases e : p x with
      | true =>
        rw [List.filter_cons_of_pos e, List.filter_cons_of_pos (h x (by simp) e)]
        exact Nat.succ_lt_succ ih
      | false =>
        rw [List.filter_cons_of_neg (by rw [e]; decide)]
        cases e2 : q x with
        | true => rw [List.filter_cons_of_pos e2]; exact Nat.lt_succ_of_lt ih
        | false => rw [List.filter_cons_of_neg (by rw [e2]; decide)]; exact ih
theorem key_inj {l : List α} (hn : (l.map key).Nodup) {x y : α} (hx : x ∈ l) (hy : y ∈ l) (e : key x = key y) : x = y := by
  obtain ⟨i, hi, rfl⟩ := List.getElem_of_mem hx
  obtain ⟨j, hj, rfl⟩ := List.getElem_of_mem hy
  have : i = j := (List.getElem?_inj (i := i) (j := j) (by simpa using hi) hn).mp (by rw [List.getElem?_map, List.getElem?_map, List.getElem?_eq_getElem hi, List.getElem?_eq_getElem hj]; simp [e])
  subst this
  rfl
theorem rk_count (hf : ∀ a, f a = .tuple (.str (key a) :: tl a)) {l : List α} (hn : (l.map key).Nodup) {d : α} (hd : d ∈ l) : rkT (l.map f) (f d) = (l.filter fun z => strLt (key z) (key d)).length := by
  unfold rkT
  rw [List.filter_map, List.length_map]
  congr 1
  refine List.filter_congr fun z hz => ?_
  show (ltIt (itemsP (f z)) (itemsP (f d)) == some true) = _
  by_cases e : key z = key d
  · have := key_inj hn hz hd e
    subst this
    rw [ltIt_self, strLt_irr]
  · rw [lt_named hf e]
    cases strLt (key z) (key d) <;> rfl
/-- among things with names of their own the rank goes with the name -/
theorem rk_named (hf : ∀ a, f a = .tuple (.str (key a) :: tl a)) {l : List α} (hn : (l.map key).Nodup) {a b : α} (ha : a ∈ l) (hb : b ∈ l) (h : strLt (key a) (key b) = true) : rkT (l.map f) (f a) < rkT (l.map f) (f b) := by
  rw [rk_count hf hn ha, rk_count hf hn hb]
  exact count_lt (fun z _ hz => strLt_tr hz h) ha (strLt_irr _) h
theorem insL_map {β : Type} {g : α → β} {le : α → α → Bool} {le' : β → β → Bool} (x : α) : ∀ (l : List α), (∀ y ∈ l, le' (g x) (g y) = le x y) → insL le' (g x) (l.map g) = (insL le x l).map g
  | [], _ => rfl
  | y :: l, h => by
    unfold insL
    rw [List.map_cons]
    show (if le' (g x) (g y) then _ else _) = _
    rw [h y (by simp)]
    cases le x y with
    | true => rfl
    | false =>
      show g y :: insL le' (g x) (l.map g) = _
      rw [insL_map x l fun z hz => h z (by simp [hz])]
      rfl
theorem insL_mem {le : α → α → Bool} {x z : α} : ∀ {l : List α}, z ∈ insL le x l → z = x ∨ z ∈ l
  | [], h => by
    unfold insL at h
    exact .inl (List.mem_singleton.mp h)
  | y :: l, h => by
    unfold insL at h
    cases e : le x y with
    | true =>
      rw [e] at h
      exact List.mem_cons.mp h
    | false =>
      rw [e] at h
      rcases List.mem_cons.mp h with q | q
      · exact .inr (by rw [q]; exact List.mem_cons_self)
      · exact (insL_mem q).imp id (List.mem_cons_of_mem _)
theorem srtL_mem {le : α → α → Bool} {z : α} : ∀ {l : List α}, z ∈ srtL le l → z ∈ l
  | x :: l, h => by
    rcases insL_mem (show z ∈ insL le x (srtL le l) from h) with q | q
    · rw [q]; exact List.mem_cons_self
    · exact List.mem_cons_of_mem _ (srtL_mem q)
theorem srtL_map {β : Type} {g : α → β} {le : α → α → Bool} {le' : β → β → Bool} : ∀ (l : List α), (∀ x ∈ l, ∀ y ∈ l, le' (g x) (g y) = le x y) → srtL le' (l.map g) = (srtL le l).map g
  | [], _ => rfl
  | x :: l, h => by
    show insL le' (g x) (srtL le' (l.map g)) = (insL le x (srtL le l)).map g
    rw [srtL_map l fun a ha b hb => h a (List.mem_cons_of_mem _ ha) b (List.mem_cons_of_mem _ hb)]
    exact insL_map x _ fun y hy => h x (by simp) y (List.mem_cons_of_mem _ (srtL_mem hy))
theorem le_named (hf : ∀ a, f a = .tuple (.str (key a) :: tl a)) {l : List α} (hn : (l.map key).Nodup) {a b : α} (ha : a ∈ l) (hb : b ∈ l) : leT (l.map f) (f a) (f b) = strLe (key a) (key b) := by
  unfold leT strLe
  by_cases e : key a = key b
  · have := key_inj hn ha hb e
    subst this
    rw [strLt_irr, decide_eq_true (Nat.le_refl _)]
    rfl
  · rcases strLt_tot e with z | z
    · have := rk_named hf hn ha hb z
      rw [strLt_asym z, decide_eq_true (by omega)]
      rfl
    · have := rk_named hf hn hb ha z
      rw [z, decide_eq_false (by omega)]
      rfl
theorem two_named (hf : ∀ a, f a = .tuple (.str (key a) :: tl a)) {l : List α} (hn : (l.map key).Nodup) : ∀ {m : List α}, (∀ a ∈ m, a ∈ l) → (m.map key).Nodup → twoByTwo (rkOk (l.map f)) (m.map f) = true
  | [], _, _ => rfl
  | a :: m, hm, hk => by
    rw [List.map_cons, List.nodup_cons] at hk
    simp only [List.map_cons, twoByTwo, Bool.and_eq_true, List.all_eq_true]
    refine ⟨fun x hx => ?_, two_named hf hn (fun b hb => hm b (List.mem_cons_of_mem _ hb)) hk.2⟩
    obtain ⟨b, hb, rfl⟩ := List.mem_map.mp hx
    have ne : key a ≠ key b := fun e => hk.1 (by rw [e]; exact List.mem_map_of_mem hb)
    have ma := hm a List.mem_cons_self
    have mb := hm b (List.mem_cons_of_mem _ hb)
    unfold rkOk
    rw [lt_named hf ne, lt_named hf (Ne.symm ne)]
    rcases strLt_tot ne with z | z
    · have r := rk_named hf hn ma mb z
      rw [strLt_asym z, z, decide_eq_true r, decide_eq_false (show ¬ rkT (l.map f) (f b) < rkT (l.map f) (f a) by omega), decide_eq_true (show rkT (l.map f) (f a) ≠ rkT (l.map f) (f b) by omega)]
      simp
    · have r := rk_named hf hn mb ma z
      rw [strLt_asym z, z, decide_eq_true r, decide_eq_false (show ¬ rkT (l.map f) (f a) < rkT (l.map f) (f b) by omega), decide_eq_true (show rkT (l.map f) (f a) ≠ rkT (l.map f) (f b) by omega)]
      simp
theorem srt_named (hf : ∀ a, f a = .tuple (.str (key a) :: tl a)) {l : List α} (hn : (l.map key).Nodup) (h64 : l.length < 64) {d : D} {st : Store} (hd : listP d st = some (l.map f)) : op1 .srt d st = .ok (.p (.list ((srtL (fun a b => strLe (key a) (key b)) l).map f))) st := by
  have h0 : op1 .srt d st = (match listP d st with
    | some ds => (match intsOf ds with
      | some ns => if ns.length < 64 then .ok (.p (.list ((srtL (fun a b => decide (a ≤ b)) ns).map .int))) st else .bad
      | none => (match strsOf ds with
        | some xs => if xs.length < 64 then .ok (.p (.list ((srtL strLe xs).map .str))) st else .bad
        | none => if srtOk ds then .ok (.p (.list (srtL (leT ds) ds))) st else if srtD ds then .ok (.p (.list (ds.mergeSort leD))) st else .bad))
    | none => .bad) := rfl
  rw [h0, hd]
  cases l with
  | nil => rfl
  | cons a l =>
    have e1 : intsOf ((a :: l).map f) = none := by rw [List.map_cons, hf]; rfl
    have e2 : strsOf ((a :: l).map f) = none := by rw [List.map_cons, hf]; rfl
    have e3 : srtOk ((a :: l).map f) = true := by
      unfold srtOk
      rw [decide_eq_true (by rw [List.length_map]; exact h64), two_named hf hn (fun _ h => h) hn]
      have : ((a :: l).map f).all headS = true := by
        rw [List.all_eq_true]
        intro x hx
        obtain ⟨b, _, rfl⟩ := List.mem_map.mp hx
        rw [hf]
        rfl
      rw [this]
      rfl
    simp only [e1, e2, e3, if_true]
    rw [srtL_map (g := f) (le := fun a b => strLe (key a) (key b)) (a :: l) fun x hx y hy => le_named hf hn hx hy]
end
theorem q_slR {k : Nat} {ds : List D} {xs : List PyData} {lo hi : Option Int} {st : Store} (hk : st[k]? = some (.lst ds)) (hp : allP ds = some xs) (hl : xs.length ≤ 1000000) : asNew false (cutD (.r k) lo hi st) st = .ok (.p (.list (cut xs lo hi))) st := by
  have e : listP (.r k) st = some xs := by
    unfold listP
    simp only [hk, hp]
  have e2 : cutD (.r k) lo hi st = some (.p (.list (cut xs lo hi))) := by
    show (listP (.r k) st).map _ = _
    rw [e] <;> rfl
  rw [e2]
  show newL false ((cut xs lo hi).map .p) st = _
  unfold newL
  rw [if_neg (Nat.not_lt.mpr (le_line (by rw [List.length_map]; have := cut_len xs lo hi; omega))), allP_map]
  rfl
/-- sorted lists of lists -/
theorem srt_lists {xs : List (List PyData)} {d : D} {st : Store} (hne : xs ≠ []) (hd : listP d st = some (xs.map .list)) (h : srtD (xs.map .list) = true) : op1 .srt d st = .ok (.p (.list ((xs.map PyData.list).mergeSort leD))) st := by
  have h0 : op1 .srt d st = (match listP d st with
    | some ds => (match intsOf ds with
      | some ns => if ns.length < 64 then .ok (.p (.list ((srtL (fun a b => decide (a ≤ b)) ns).map .int))) st else .bad
      | none => (match strsOf ds with
        | some xs => if xs.length < 64 then .ok (.p (.list ((srtL strLe xs).map .str))) st else .bad
        | none => if srtOk ds then .ok (.p (.list (srtL (leT ds) ds))) st else if srtD ds then .ok (.p (.list (ds.mergeSort leD))) st else .bad))
    | none => .bad) := rfl
  rw [h0, hd]
  cases xs with
  | nil => exact absurd rfl hne
  | cons x xs =>
    have e1 : intsOf ((x :: xs).map PyData.list) = none := rfl
    have e2 : strsOf ((x :: xs).map PyData.list) = none := rfl
    have e3 : srtOk ((x :: xs).map PyData.list) = false := by
      unfold srtOk
      have a1 : ((x :: xs).map PyData.list).all headS = false := rfl
      have a2 : ((x :: xs).map PyData.list).all headI = false := rfl
      rw [a1, a2]
      simp
    simp only [e1, e2, e3, h, if_true]
    rfl
end Dn
namespace Lw
open PySem Dn
def b_is_name : List S := [.iff (.orr [.o1 .nt (.o1 (.isin [.str]) (.var 0)), .o1 .nt (.chain .le .le (.c (.int 1)) (.o1 .len (.var 0)) (.c (.int 8))), .o2 .inn (.var 0) (.g "KEPT" (.tuple [(.str "wall"), (.str "state"), (.str "first"), (.str "inner"), (.str "last"), (.str "rule"), (.str "never"), (.str "may"), (.str "begin"), (.str "none")]))]) [.ret (.c (.bool false))] [],
    .ret (.an [.o2 .inn (.o2 .ix (.var 0) (.c (.int 0))) (.g "SMALL" (.str "abcdefghijklmnopqrstuvwxyz")), .o1 .all (.comp false (.o2 .inn (.var 1) (.o2 .add (.g "SMALL" (.str "abcdefghijklmnopqrstuvwxyz")) (.g "FIGURES" (.str "0123456789")))) (.one 1) 0 [.var 0] [])])]
def b_is_names : List S := [.iff (.orr [.o1 .nt (.o1 (.isin [.tuple]) (.var 0)), .o1 .nt (.o1 .all (.comp false (.call true 0 [.var 3]) (.one 3) 0 [.var 0] []))]) [.ret (.c (.bool false))] [],
    .ret (.o1 .all (.comp false (.o2 .lt (.var 1) (.var 2)) (.many [1, 2]) 3 [.var 0, .sl false (.var 0) (.some (.c (.int 1))) .none] []))]
def b_rank_of : List S := [.ret (.o2 .indx (.o2 .ix (.var 0) (.c (.int 0))) (.var 1))]
def b_are_rising : List S := [.ret (.o1 .all (.comp false (.o2 .lt (.var 1) (.var 2)) (.many [1, 2]) 3 [.var 0, .sl false (.var 0) (.some (.c (.int 1))) .none] []))]
def b_is_set : List S := [.iff (.orr [.o1 .nt (.o1 (.isin [.tuple]) (.var 1)), .o1 .nt (.o1 .all (.comp false (.an [.o1 (.isin [.str]) (.var 2), .o2 .inn (.var 2) (.var 0)]) (.one 2) 0 [.var 1] []))]) [.ret (.c (.bool false))] [],
    .ret (.call true 3 [.comp false (.o2 .indx (.var 0) (.var 2)) (.one 2) 0 [.var 1] []])]
def b_is_states : List S := [.ret (.an [.call true 4 [.o2 .ix (.var 0) (.c (.int 0)), .var 1], .o2 .gt (.o1 .len (.var 1)) (.c (.int 0))])]
def b__law_reed : List S := [.set 1 (.lst true [.lst true [], .c (.int 50003), .c (.int 0), .dic []]),
    .for_ (.one 2) 0 [.sl false (.var 0) .none (.some (.c (.int 53)))] [.set 3 (.o2 .mod (.o1 .int (.o1 .abs (.o1 .int (.var 2)))) (.o2 .shl (.c (.int 1)) (.c (.int 2000)))),
    .setix (.var 1) (.c (.int 1)) (.o2 .mod (.o1 .int (.o2 .add (.o2 .add (.o2 .mul (.o2 .ix (.var 1) (.c (.int 1))) (.c (.int 48271))) (.o2 .mod (.var 3) (.c (.int 1000003)))) (.c (.int 9)))) (.c (.int 2147483647))),
    .set 4 (.c (.int 0)),
    .whl (.an [.o2 .ge (.var 3) (.o2 .pow (.c (.int 10)) (.c (.int 14))), .o2 .lt (.var 4) (.c (.int 180))]) [.ex (.o2 .app (.o2 .ix (.var 1) (.c (.int 0))) (.o2 .mod (.o1 .int (.var 3)) (.c (.int 1039)))),
    .set 3 (.o2 .fdv (.var 3) (.c (.int 1039))),
    .aug 4 .add (.c (.int 1))]],
    .ex (.o1 .rev (.o2 .ix (.var 1) (.c (.int 0)))),
    .ret (.var 1)]
def b__law_stem : List S := [.iff (.o2 .gt (.o1 .len (.o2 .ix (.var 0) (.c (.int 0)))) (.c (.int 0))) [.ret (.o1 .pop (.o2 .ix (.var 0) (.c (.int 0))))] [],
    .augix (.var 0) (.c (.int 2)) .add (.c (.int 1)),
    .setix (.var 0) (.c (.int 1)) (.o2 .mod (.o1 .int (.o2 .add (.o2 .add (.o2 .mul (.o2 .ix (.var 0) (.c (.int 1))) (.c (.int 39373))) (.o2 .mul (.o2 .ix (.var 0) (.c (.int 2))) (.c (.int 7004)))) (.c (.int 8)))) (.c (.int 2147483647))),
    .ret (.o1 .int (.o2 .fdv (.o2 .ix (.var 0) (.c (.int 1))) (.c (.int 53))))]
def b__law_pull : List S := [.iff (.o2 .nin (.var 1) (.o2 .ix (.var 0) (.c (.int 3)))) [.setix (.o2 .ix (.var 0) (.c (.int 3))) (.var 1) (.tup [.o2 .mod (.o1 .int (.call false 7 [.var 0])) (.c (.int 10)), .o2 .mod (.o1 .int (.call false 7 [.var 0])) (.c (.int 305))])] [],
    .unp [3, 4] (.o2 .ix (.o2 .ix (.var 0) (.c (.int 3))) (.var 1)),
    .iff (.o2 .eq (.var 3) (.c (.int 3))) [.ret (.c (.int 0))] [],
    .iff (.o2 .eq (.var 3) (.c (.int 6))) [.ret (.o2 .sub (.var 2) (.c (.int 1)))] [],
    .ret (.o2 .mod (.o1 .int (.ite (.o2 .eq (.var 3) (.c (.int 7))) (.var 4) (.call false 7 [.var 0]))) (.var 2))]
def b__law_is : List S := [.set 2 (.lst true [.tup [.var 0, .var 1]]),
    .whl (.o2 .gt (.o1 .len (.var 2)) (.c (.int 0))) [.unp [3, 4] (.o1 .pop (.var 2)),
    .iff (.o1 (.isin [.tuple, .list]) (.var 4)) [.iff (.orr [.o2 .ne (.o1 (.isin [.list]) (.var 3)) (.o1 (.isin [.list]) (.var 4)), .o1 .nt (.o1 (.isin [.tuple, .list]) (.var 3)), .o2 .ne (.o1 .len (.var 3)) (.o1 .len (.var 4))]) [.ret (.c (.bool false))] [],
    .ex (.o2 .ext (.var 2) (.comp false (.tup [.o2 .ix (.var 3) (.var 5), .o2 .ix (.var 4) (.var 5)]) (.one 5) 1 [.o1 .len (.var 4)] []))] [.iff (.o1 .isN (.var 4)) [.iff (.o1 .niN (.var 3)) [.ret (.c (.bool false))] []] [.iff (.o1 (.isin [.str]) (.var 4)) [.iff (.orr [.o1 .nt (.o1 (.isin [.str]) (.var 3)), .o2 .ne (.var 3) (.var 4)]) [.ret (.c (.bool false))] []] [.iff (.orr [.o2 .ne (.o1 (.isin [.bool]) (.var 3)) (.o1 (.isin [.bool]) (.var 4)), .o1 .nt (.o1 (.isin [.int]) (.var 3)), .o2 .ne (.var 3) (.var 4)]) [.ret (.c (.bool false))] []]]]],
    .ret (.c (.bool true))]
def b__law_name_due : List S := [.set 1 (.tup [.c (.str "wall"), .c (.str "state"), .c (.str "first"), .c (.str "inner"), .c (.str "last"), .c (.str "rule"), .c (.str "never"), .c (.str "may"), .c (.str "begin"), .c (.str "none")]),
    .iff (.orr [.o1 .nt (.o1 (.isin [.str]) (.var 0)), .o1 .nt (.chain .le .le (.c (.int 1)) (.o1 .len (.var 0)) (.c (.int 8))), .o2 .inn (.var 0) (.var 1), .o2 .nin (.o2 .ix (.var 0) (.c (.int 0))) (.c (.str "abcdefghijklmnopqrstuvwxyz"))]) [.ret (.c (.bool false))] [],
    .ret (.o2 .eq (.o1 .len (.comp false (.var 2) (.one 2) 0 [.var 0] [.o2 .nin (.var 2) (.c (.str "abcdefghijklmnopqrstuvwxyz0123456789"))])) (.c (.int 0)))]
def b__law_names_due : List S := [.iff (.orr [.o1 .nt (.o1 (.isin [.tuple]) (.var 0)), .o2 .gt (.o1 .len (.comp false (.c (.int 1)) (.one 2) 0 [.var 0] [.o1 .nt (.call true 10 [.var 2])])) (.c (.int 0))]) [.ret (.c (.bool false))] [],
    .ret (.o2 .eq (.o1 .len (.comp false (.var 1) (.one 1) 1 [.c (.int 1), .o1 .len (.var 0)] [.o1 .nt (.o2 .lt (.o2 .ix (.var 0) (.o2 .sub (.var 1) (.c (.int 1)))) (.o2 .ix (.var 0) (.var 1)))])) (.c (.int 0)))]
def b__law_states_due : List S := [.iff (.orr [.o1 .nt (.o1 (.isin [.tuple]) (.var 1)), .o2 .eq (.o1 .len (.var 1)) (.c (.int 0)), .o2 .gt (.o1 .len (.comp false (.c (.int 1)) (.one 3) 0 [.var 1] [.orr [.o1 .nt (.o1 (.isin [.str]) (.var 3)), .o2 .nin (.var 3) (.var 0)]])) (.c (.int 0))]) [.ret (.c (.bool false))] [],
    .set 2 (.comp false (.o2 .indx (.var 0) (.var 3)) (.one 3) 0 [.var 1] []),
    .ret (.o2 .eq (.o1 .len (.comp false (.var 4) (.one 4) 1 [.c (.int 1), .o1 .len (.var 2)] [.o1 .nt (.o2 .lt (.o2 .ix (.var 2) (.o2 .sub (.var 4) (.c (.int 1)))) (.o2 .ix (.var 2) (.var 4)))])) (.c (.int 0)))]
def b__law_word : List S := [.set 1 (.tup [.c (.str "wall"), .c (.str "state"), .c (.str "first"), .c (.str "inner"), .c (.str "last"), .c (.str "rule"), .c (.str "never"), .c (.str "may"), .c (.str "begin"), .c (.str "none"), .c (.str "walls"), .c (.str "stat"), .c (.str "beginn"), .c (.str "rules"), .c (.str "noned"), .c (.str "Wall")]),
    .set 2 (.call false 8 [.var 0, .c (.str "kind"), .c (.int 8)]),
    .iff (.o2 .eq (.var 2) (.c (.int 0))) [.ret (.o2 .ix (.var 1) (.call false 8 [.var 0, .c (.str "word"), .o1 .len (.var 1)]))] [],
    .set 3 (.c (.str "abyz0189kmq")),
    .set 4 (.o2 .ix (.var 3) (.call false 8 [.var 0, .c (.str "first"), .c (.int 4)])),
    .for_ (.one 5) 1 [.call false 8 [.var 0, .c (.str "long"), .c (.int 9)]] [.set 4 (.o2 .add (.var 4) (.o2 .ix (.var 3) (.call false 8 [.var 0, .c (.str "sign"), .c (.int 11)])))],
    .iff (.o2 .eq (.var 2) (.c (.int 1))) [.set 6 (.call false 8 [.var 0, .c (.str "at"), .o2 .add (.o1 .len (.var 4)) (.c (.int 1))]),
    .set 4 (.o2 .add (.o2 .add (.sl false (.var 4) .none (.some (.var 6))) (.o2 .ix (.c (.str "A -_{@/")) (.call false 8 [.var 0, .c (.str "wrong"), .c (.int 7)]))) (.sl false (.var 4) (.some (.var 6)) .none))] [],
    .ret (.ite (.o2 .ne (.var 2) (.c (.int 2))) (.var 4) (.o2 .add (.c (.str "9")) (.sl false (.var 4) .none (.some (.c (.int 7))))))]
def b__law_book : List S := [.par [2, 3] [.lst true [], .lst true [.c (.str "ash"), .c (.str "b2"), .c (.str "cold"), .c (.str "dim"), .c (.str "x"), .c (.str "zz9"), .c (.str "lit")]],
    .for_ (.one 1) 1 [.o2 .ix (.tup [.c (.int 2), .c (.int 3), .c (.int 3), .c (.int 2), .c (.int 4)]) (.call false 8 [.var 0, .c (.str "states"), .c (.int 5)])] [.ex (.o2 .app (.var 2) (.o2 .popi (.var 3) (.call false 8 [.var 0, .c (.str "state"), .o1 .len (.var 3)])))],
    .ret (.tup [.o1 .tup (.var 2), .tup [.o1 .tup (.sl false (.var 2) .none (.some (.c (.int 1)))), .o1 .tup (.sl false (.var 2) (.some (.o1 .neg (.c (.int 1)))) .none), .o1 .tup (.sl false (.var 2) .none (.some (.c (.int 1))))], .tup []])]
def b__law_bents : List S := [.set 3 (.call false 8 [.var 0, .c (.str "spot"), .o1 .len (.var 1)]),
    .set 4 (.lst true [.var 1, .o1 (.lst false) (.var 1), .rv false (.var 1), .o2 .add (.var 1) (.sl false (.var 1) (.some (.o1 .neg (.c (.int 1)))) .none), .o2 .add (.var 1) (.tup [.c .none]), .tup [.var 1], .o2 .ix (.var 1) (.c (.int 0)), .c .none, .c (.bool true), .c (.int 0), .o2 .add (.o2 .add (.sl false (.var 1) .none (.some (.var 3))) (.sl false (.var 1) (.some (.o2 .add (.var 3) (.c (.int 1)))) .none)) (.tup [.var 2]), .o2 .add (.o2 .add (.sl false (.var 1) .none (.some (.var 3))) (.tup [.var 2])) (.sl false (.var 1) (.some (.var 3)) .none)]),
    .for_ (.one 5) 0 [.tup [.c .none, .c (.int 1), .c (.bool true), .c (.str ""), .c (.str "wall"), .var 2, .tup [.o2 .ix (.var 1) (.var 3)], .lst false [.o2 .ix (.var 1) (.var 3)], .o2 .add (.o2 .ix (.var 1) (.var 3)) (.c (.str " ")), .o1 .upper (.o2 .ix (.var 1) (.var 3)), .o2 .mul (.o2 .ix (.var 1) (.var 3)) (.c (.int 5))]] [.ex (.o2 .app (.var 4) (.o2 .add (.o2 .add (.sl false (.var 1) .none (.some (.var 3))) (.tup [.var 5])) (.sl false (.var 1) (.some (.o2 .add (.var 3) (.c (.int 1)))) .none)))],
    .ret (.comp false (.var 5) (.one 5) 0 [.var 4] [.o2 .ne (.var 5) (.tup [])])]
def b__law_hand : List S := [.set 0 (.tup [.call true 0 [.c (.str "lit")], .call true 0 [.c (.str "wall")], .call true 1 [.tup [.c (.str "a"), .c (.str "b")]], .call true 0 [.c (.str "a2345678")], .call true 0 [.c (.str "a23456789")], .call true 0 [.c (.str "9a")], .call true 0 [.c (.str "")], .call true 0 [.c (.str "aB")], .call true 1 [.tup [.c (.str "b"), .c (.str "a")]], .call true 1 [.tup [.c (.str "a"), .c (.str "a")]], .call true 1 [.lst false [.c (.str "a")]], .call true 1 [.c (.str "a")], .call true 1 [.tup [.c (.str "a"), .c (.str "first")]], .call true 0 [.tup [.c (.str "a")]], .call true 1 [.tup [.c (.str "a10"), .c (.str "a9"), .c (.str "b")]]]),
    .iff (.o1 .nt (.call true 9 [.var 0, .tup [.c (.bool true), .c (.bool false), .c (.bool true), .c (.bool true), .c (.bool false), .c (.bool false), .c (.bool false), .c (.bool false), .c (.bool false), .c (.bool false), .c (.bool false), .c (.bool false), .c (.bool false), .c (.bool false), .c (.bool true)]])) [.ret (.c (.bool false))] [],
    .set 1 (.tup [.tup [.c (.str "dry"), .c (.str "lit"), .c (.str "ash")], .tup [.tup [.c (.str "lit")], .tup [.c (.str "dry")], .tup [.c (.str "dry")]], .tup []]),
    .set 0 (.tup [.call true 5 [.var 1, .tup [.c (.str "lit"), .c (.str "dry")]], .call true 5 [.var 1, .tup [.c (.str "dry"), .c (.str "ash")]], .call true 5 [.var 1, .tup []], .call true 5 [.var 1, .tup [.c (.str "dry"), .c (.str "dry")]], .call true 5 [.var 1, .lst false [.c (.str "dry")]], .call true 5 [.var 1, .tup [.c (.str "dry"), .c (.str "wall")]], .call true 5 [.var 1, .tup [.c (.str "dry"), .c (.str "lit"), .c (.str "ash")]], .call true 2 [.var 1, .c (.str "ash")], .callk true 2 [1, 0] [.c (.str "dry"), .var 1]]),
    .ret (.call true 9 [.var 0, .tup [.c (.bool false), .c (.bool true), .c (.bool false), .c (.bool false), .c (.bool false), .c (.bool false), .c (.bool true), .c (.int 2), .c (.int 0)]])]
def b_law : List S := [.set 1 (.call false 6 [.var 0]),
    .iff (.o1 .nt (.call true 16 [])) [.ret (.c (.bool false))] [],
    .for_ (.one 2) 1 [.c (.int 9)] [.set 10 (.call false 13 [.var 1]),
    .for_ (.one 5) 0 [.tup [.var 10, .tup [.var 10], .lst false [.var 10], .o1 .upper (.var 10), .o2 .add (.var 10) (.c (.str " "))]] [.iff (.o1 .nt (.call true 9 [.call true 0 [.var 5], .call true 10 [.var 5]])) [.ret (.c (.bool false))] []]],
    .set 3 (.comp false (.call false 13 [.var 1]) (.one 2) 1 [.o2 .add (.c (.int 1)) (.call false 8 [.var 1, .c (.str "many"), .c (.int 5)])] []),
    .set 4 (.o2 .add (.o1 .tup (.o1 .sst (.comp false (.var 10) (.one 10) 0 [.var 3] [.call true 10 [.var 10]]))) (.tup [.c (.str "zzzzzzzz")])),
    .for_ (.one 5) 0 [.o2 .add (.call false 15 [.var 1, .var 4, .o2 .ix (.var 3) (.c (.int 0))]) (.lst false [.o1 .tup (.var 3), .o1 .tup (.o1 .srt (.var 3))])] [.iff (.o1 .nt (.call true 9 [.call true 1 [.var 5], .call true 11 [.var 5]])) [.ret (.c (.bool false))] []],
    .set 6 (.call false 14 [.var 1]),
    .set 7 (.o2 .ix (.var 6) (.c (.int 0))),
    .for_ (.one 8) 1 [.o1 .len (.var 7)] [.iff (.o1 .nt (.call true 9 [.tup [.call true 2 [.var 6, .o2 .ix (.var 7) (.var 8)], .call true 5 [.var 6, .sl false (.var 7) (.some (.var 8)) .none], .call true 5 [.var 6, .sl false (.var 7) .none (.some (.o2 .add (.var 8) (.c (.int 1))))]], .tup [.var 8, .c (.bool true), .c (.bool true)]])) [.ret (.c (.bool false))] []],
    .set 9 (.o1 .tup (.comp false (.var 11) (.one 11) 0 [.var 7] [.o2 .eq (.call false 8 [.var 1, .c (.str "in"), .c (.int 2)]) (.c (.int 0))])),
    .set 9 (.ite (.o2 .gt (.o1 .len (.var 9)) (.c (.int 0))) (.var 9) (.sl false (.var 7) .none (.some (.c (.int 1))))),
    .for_ (.one 5) 0 [.call false 15 [.var 1, .var 9, .o2 .ix (.var 7) (.call false 8 [.var 1, .c (.str "other"), .o1 .len (.var 7)])]] [.iff (.o1 .nt (.call true 9 [.call true 5 [.var 6, .var 5], .call true 12 [.var 7, .var 5]])) [.ret (.c (.bool false))] []],
    .ret (.c (.bool true))]
abbrev d_is_name : FDef := ⟨"is_name", ["thing", "sign"], 1, b_is_name⟩
abbrev d_is_names : FDef := ⟨"is_names", ["thing", "one", "other", "name"], 1, b_is_names⟩
abbrev d_rank_of : FDef := ⟨"rank_of", ["book", "state"], 2, b_rank_of⟩
abbrev d_are_rising : FDef := ⟨"are_rising", ["ranks", "one", "other"], 1, b_are_rising⟩
abbrev d_is_set : FDef := ⟨"is_set", ["states", "thing", "word"], 2, b_is_set⟩
abbrev d_is_states : FDef := ⟨"is_states", ["book", "thing"], 2, b_is_states⟩
abbrev d__law_reed : FDef := ⟨"_law_reed", ["script", "reed", "cell", "size", "lap"], 1, b__law_reed⟩
abbrev d__law_stem : FDef := ⟨"_law_stem", ["reed"], 1, b__law_stem⟩
abbrev d__law_pull : FDef := ⟨"_law_pull", ["reed", "place", "many", "way", "own"], 3, b__law_pull⟩
abbrev d__law_is : FDef := ⟨"_law_is", ["told", "due", "pairs", "one", "two", "at"], 2, b__law_is⟩
abbrev d__law_name_due : FDef := ⟨"_law_name_due", ["thing", "words", "sign"], 1, b__law_name_due⟩
abbrev d__law_names_due : FDef := ⟨"_law_names_due", ["thing", "at", "one"], 1, b__law_names_due⟩
abbrev d__law_states_due : FDef := ⟨"_law_states_due", ["states", "thing", "spots", "one", "at"], 2, b__law_states_due⟩
abbrev d__law_word : FDef := ⟨"_law_word", ["reed", "words", "kind", "signs", "told", "lap", "at"], 1, b__law_word⟩
abbrev d__law_book : FDef := ⟨"_law_book", ["reed", "lap", "some", "names"], 1, b__law_book⟩
abbrev d__law_bents : FDef := ⟨"_law_bents", ["reed", "thing", "others", "at", "told", "one"], 3, b__law_bents⟩
abbrev d__law_hand : FDef := ⟨"_law_hand", ["told", "book"], 0, b__law_hand⟩
abbrev d_law : FDef := ⟨"law", ["script", "reed", "lap", "words", "good", "thing", "book", "states", "at", "some", "word", "one"], 1, b_law⟩
def F : List FDef := [d_is_name, d_is_names, d_rank_of, d_are_rising, d_is_set, d_is_states, d__law_reed, d__law_stem, d__law_pull, d__law_is, d__law_name_due, d__law_names_due, d__law_states_due, d__law_word, d__law_book, d__law_bents, d__law_hand, d_law]
abbrev f_is_name : Nat := 0
abbrev f_is_names : Nat := 1
abbrev f_rank_of : Nat := 2
abbrev f_are_rising : Nat := 3
abbrev f_is_set : Nat := 4
abbrev f_is_states : Nat := 5
abbrev f__law_reed : Nat := 6
abbrev f__law_stem : Nat := 7
abbrev f__law_pull : Nat := 8
abbrev f__law_is : Nat := 9
abbrev f__law_name_due : Nat := 10
abbrev f__law_names_due : Nat := 11
abbrev f__law_states_due : Nat := 12
abbrev f__law_word : Nat := 13
abbrev f__law_book : Nat := 14
abbrev f__law_bents : Nat := 15
abbrev f__law_hand : Nat := 16
abbrev f_law : Nat := 17
end Lw
namespace Lw
open PySem Dn
/-! TAC -/
local macro_rules | `(tactic| array_mem_dec) => `(tactic| first
  | with_reducible assumption
  | with_reducible exact ev_c
  | with_reducible exact evs_nil
  | with_reducible exact evO_n
  | with_reducible exact ev_gE
  | (with_reducible apply var_at) <;> rfl
  | (with_reducible apply evs_at) <;> array_mem_dec
  | ((with_reducible apply o2_at); (· array_mem_dec); (· sizeOf_list_dec); (· array_mem_dec); (· sizeOf_list_dec))
  | ((with_reducible apply o1_at); (· array_mem_dec); (· sizeOf_list_dec))
  | ((with_reducible apply o3_at); (· array_mem_dec); (· sizeOf_list_dec); (· array_mem_dec); (· array_mem_dec); (· sizeOf_list_dec))
  | (with_reducible apply callE) <;> array_mem_dec
  | ((with_reducible apply callkE); (· array_mem_dec); (· rfl); (· array_mem_dec))
  | ((with_reducible apply tupE); (· array_mem_dec); (· sizeOf_list_dec); (· sizeOf_list_dec))
  | ((with_reducible apply lstE); (· array_mem_dec); (· sizeOf_list_dec); (· sizeOf_list_dec))
  | (with_reducible apply an_at) <;> array_mem_dec
  | (with_reducible apply orr_at) <;> array_mem_dec
  | (with_reducible apply an1) <;> array_mem_dec
  | (with_reducible apply or1) <;> array_mem_dec
  | (with_reducible apply anC) <;> (try intro _) <;> array_mem_dec
  | (with_reducible apply orC) <;> (try intro _) <;> array_mem_dec
  | (with_reducible apply ite_v) <;> (try intro _) <;> array_mem_dec
  | ((with_reducible apply chain_v); (· array_mem_dec); (· array_mem_dec); (· sizeOf_list_dec); (· intro _; array_mem_dec); (· sizeOf_list_dec))
  | ((with_reducible apply slE); (· array_mem_dec); (· array_mem_dec); (· array_mem_dec); (· sizeOf_list_dec))
  | ((with_reducible apply rvE); (· array_mem_dec); (· sizeOf_list_dec))
  | (with_reducible apply evO_at) <;> array_mem_dec
  | ((with_reducible apply lst_at); (· array_mem_dec); (· sizeOf_list_dec))
  | ((with_reducible apply dicE); (· array_mem_dec); (· rfl); (· rfl))
  | ((with_reducible apply callD_g); (· sizeOf_list_dec); (· with_reducible assumption)))
local macro_rules | `(tactic| sizeOf_list_dec) => `(tactic| first
  | with_reducible assumption
  | with_reducible rfl
  | with_reducible exact op2_add_i
  | with_reducible exact op2_sub_i
  | with_reducible exact q_ltI
  | with_reducible exact q_leI
  | with_reducible exact q_gtI
  | with_reducible exact q_geI
  | with_reducible exact q_eqI
  | with_reducible exact q_eqS
  | with_reducible exact q_neI
  | with_reducible exact q_neS
  | with_reducible exact q_eqB
  | with_reducible exact q_neB
  | with_reducible exact q_inTS
  | with_reducible exact q_inLS
  | with_reducible exact q_ninTS
  | with_reducible exact q_ninLS
  | with_reducible exact q_inTI
  | with_reducible exact q_inLI
  | with_reducible exact q_mx
  | with_reducible exact q_mn
  | with_reducible exact q_nt
  | with_reducible exact q_neg
  | with_reducible exact q_lenT
  | with_reducible exact q_lenL
  | with_reducible exact q_abs
  | with_reducible exact q_intI
  | with_reducible exact q_intB
  | with_reducible exact q_tupT
  | with_reducible exact q_tupL
  | with_reducible exact q_isN
  | (with_reducible apply q_lenR) <;> sizeOf_list_dec
  | (with_reducible apply q_ix) <;> sizeOf_list_dec
  | (with_reducible apply q_ixD) <;> sizeOf_list_dec
  | (with_reducible apply q_mod) <;> sizeOf_list_dec
  | (with_reducible apply q_fdv) <;> sizeOf_list_dec
  | (with_reducible apply q_mul) <;> first | exact mulOk_R rfl | exact mulOk_L rfl | sizeOf_list_dec
  | (with_reducible apply q_mulT1) <;> sizeOf_list_dec
  | (with_reducible apply q_addT) <;> sizeOf_list_dec
  | (with_reducible apply q_addL) <;> sizeOf_list_dec
  | (with_reducible apply q_addRL) <;> sizeOf_list_dec
  | (with_reducible apply q_addS) <;> sizeOf_list_dec
  | (with_reducible apply q_isin) <;> sizeOf_list_dec
  | (with_reducible apply q_all) <;> sizeOf_list_dec
  | (with_reducible apply q_any) <;> sizeOf_list_dec
  | (with_reducible apply q_sum) <;> sizeOf_list_dec
  | (with_reducible apply q_tupr) <;> sizeOf_list_dec
  | (with_reducible apply q_tupR) <;> sizeOf_list_dec
  | (with_reducible apply q_indxT) <;> sizeOf_list_dec
  | (with_reducible apply q_app) <;> sizeOf_list_dec
  | (with_reducible apply q_ext) <;> sizeOf_list_dec
  | (with_reducible apply q_frz) <;> sizeOf_list_dec
  | (with_reducible apply q_popR) <;> sizeOf_list_dec
  | (with_reducible apply q_pop0) <;> sizeOf_list_dec
  | with_reducible exact q_slT
  | (with_reducible apply q_slL) <;> sizeOf_list_dec
  | (with_reducible apply q_slR) <;> first | rfl | sizeOf_list_dec
  | (with_reducible apply q_ins0) <;> sizeOf_list_dec
  | (with_reducible apply q_popiM) <;> first | rfl | sizeOf_list_dec
  | with_reducible exact getIx_0
  | with_reducible exact getIx_1
  | (with_reducible apply ixTm) <;> sizeOf_list_dec
  | (with_reducible apply ixLm) <;> sizeOf_list_dec
  | (with_reducible apply ixT) <;> sizeOf_list_dec
  | (with_reducible apply ixL) <;> sizeOf_list_dec
  | (with_reducible apply ixRm) <;> first | rfl | sizeOf_list_dec
  | (with_reducible apply ixR) <;> sizeOf_list_dec
  | with_reducible exact boolsOf_map _
  | with_reducible exact intsOf_map _
  | with_reducible exact strsOf_map _
  | with_reducible exact allP_map _
  | with_reducible exact allP_mapc _ _
  | with_reducible exact allP_maps _
  | with_reducible exact allP_fun _ _
  | with_reducible exact boolsOf_mapf _ _
  | (with_reducible apply qStN) <;> sizeOf_list_dec
  | rfl
  | omega
  | (simp only [List.length_map, List.length_append, List.length_cons, List.length_nil, List.length_range]; omega)
  | decide)
local macro_rules | `(tactic| array_get_dec) => `(tactic| first
  | ((with_reducible apply st_set); (· array_mem_dec); (· rfl); (try dsimp only [List.set_cons_succ, List.set_cons_zero]))
  | ((with_reducible apply st_iffF); (· array_mem_dec); (· first | rfl | (simp; done) | (simp; omega)))
  | ((with_reducible apply st_par2); (· array_mem_dec); (· array_mem_dec); (· rfl); (· rfl); (try dsimp only [List.set_cons_succ, List.set_cons_zero]))
  | ((with_reducible apply st_par3); (· array_mem_dec); (· array_mem_dec); (· array_mem_dec); (· rfl); (· rfl); (· rfl); (try dsimp only [List.set_cons_succ, List.set_cons_zero]))
  | ((with_reducible apply st_unp2); (· array_mem_dec); (· rfl); (· rfl); (try dsimp only [List.set_cons_succ, List.set_cons_zero]))
  | ((with_reducible apply st_unp3); (· array_mem_dec); (· rfl); (· rfl); (· rfl); (try dsimp only [List.set_cons_succ, List.set_cons_zero]))
  | ((with_reducible apply st_unp4); (· array_mem_dec); (· rfl); (· rfl); (· rfl); (· rfl); (try dsimp only [List.set_cons_succ, List.set_cons_zero]))
  | ((with_reducible apply st_unp5); (· array_mem_dec); (· rfl); (try dsimp only [List.set_cons_succ, List.set_cons_zero]))
  | ((with_reducible apply st_aug); (· rfl); (· array_mem_dec); (· sizeOf_list_dec); (· rfl); (try dsimp only [List.set_cons_succ, List.set_cons_zero]))
  | ((with_reducible apply st_setix); (· array_mem_dec); (· array_mem_dec); (· array_mem_dec); (· sizeOf_list_dec))
  | ((with_reducible apply st_augix); (· array_mem_dec); (· array_mem_dec); (· sizeOf_list_dec); (· array_mem_dec); (· sizeOf_list_dec); (· sizeOf_list_dec))
  | ((with_reducible apply st_ex); (· array_mem_dec))
  | ((with_reducible apply st_ret); (· array_mem_dec))
  | with_reducible apply st_retN
  | with_reducible apply st_pass
  | with_reducible apply st_brk
  | with_reducible apply st_cont
  | with_reducible apply st_nil
  | with_reducible apply st_go)
/-! CAT -/
/-! ### plain things, and the law's own comparison -/
mutual
def pl : PyData → Bool
  | .none => true
  | .bool _ => true
  | .int _ => true
  | .str _ => true
  | .tuple ds => plA ds && decide (ds.length ≤ 1000)
  | _ => false
def plA : List PyData → Bool
  | [] => true
  | d :: ds => pl d && plA ds
end
mutual
def sz : PyData → Nat
  | .tuple ds => szA ds + 1
  | _ => 1
def szA : List PyData → Nat
  | [] => 0
  | d :: ds => sz d + szA ds
end
theorem szA_app : ∀ xs ys : List PyData, szA (xs ++ ys) = szA xs + szA ys
  | [], ys => by simp [szA]
  | x :: xs, ys => by
    simp only [List.cons_append, szA, szA_app xs ys]
    omega
theorem plA_app : ∀ xs ys : List PyData, plA (xs ++ ys) = (plA xs && plA ys)
  | [], ys => by simp [plA]
  | x :: xs, ys => by simp only [List.cons_append, plA, plA_app xs ys, Bool.and_assoc]
theorem plA_mem : ∀ {ds : List PyData}, plA ds = true → ∀ d ∈ ds, pl d = true
  | d :: ds, h, e, he => by
    simp only [plA, Bool.and_eq_true] at h
    rcases List.mem_cons.mp he with rfl | he
    · exact h.1
    · exact plA_mem h.2 e he
theorem szA_len : ∀ ds : List PyData, ds.length ≤ szA ds
  | [] => Nat.le_refl _
  | d :: ds => by
    have := szA_len ds
    have h1 : 1 ≤ sz d := by cases d <;> simp [sz]
    simp only [szA, List.length_cons]
    omega
theorem plA_map {α : Type} {f : α → PyData} : ∀ {xs : List α}, (∀ a ∈ xs, pl (f a) = true) → plA (xs.map f) = true
  | [], _ => rfl
  | a :: xs, h => by
    simp only [List.map_cons, plA, Bool.and_eq_true]
    exact ⟨h a (by simp), plA_map fun b hb => h b (by simp [hb])⟩
theorem szA_map {α : Type} {f : α → PyData} {k : Nat} : ∀ {xs : List α}, (∀ a ∈ xs, sz (f a) ≤ k) → szA (xs.map f) ≤ xs.length * k
  | [], _ => by simp [szA]
  | a :: xs, h => by
    have h1 := h a (by simp)
    have h2 := szA_map (xs := xs) fun b hb => h b (by simp [hb])
    simp only [List.map_cons, szA, List.length_cons, Nat.succ_mul]
    omega
def pp (x : PyData) : PyData := .tuple [x, x]
def kids : PyData → List PyData
  | .tuple ds => ds
  | _ => []
theorem sz_kids : ∀ {x : PyData}, pl x = true → sz x = szA (kids x) + 1
  | .none, _ => rfl
  | .bool _, _ => rfl
  | .int _, _ => rfl
  | .str _, _ => rfl
  | .tuple ds, _ => rfl
theorem pl_kids : ∀ {x : PyData}, pl x = true → plA (kids x) = true ∧ (kids x).length ≤ 1000
  | .none, _ => ⟨rfl, by simp [kids]⟩
  | .bool _, _ => ⟨rfl, by simp [kids]⟩
  | .int _, _ => ⟨rfl, by simp [kids]⟩
  | .str _, _ => ⟨rfl, by simp [kids]⟩
  | .tuple ds, h => by
    simp only [pl, Bool.and_eq_true, decide_eq_true_eq] at h
    exact h
theorem st_whl {Φ : Calls} {c : E} {body ss : List Dn.S} {QS : Dn.Flow × Sl → Store → Prop} (P : Nat → Sl → Store → Prop)
    (h : ∀ m env st, P m env st → ∃ k st1, ev Φ c env st = .ok (.p (.bool k)) st1 ∧ (k = false → goOn Φ ss QS (.nx, env) st1) ∧ (k = true → wpR (exB Φ body env st1) (lpQ (fun env st => ∃ m', m' < m ∧ P m' env st) (goOn Φ ss QS))))
    {m : Nat} {env : Sl} {st : Store} (h0 : P m env st) (hm : m < 1000000) : wpR (exB Φ (.whl c body :: ss) env st) QS := by
  rw [wp_cons]
  show wpR (whlM (fun env st => ev Φ c env st) (fun env st => exB Φ body env st) fuel env st) _
  have key : ∀ (n m : Nat) (env : Sl) (st : Store), m < n → P m env st → wpR (whlM (fun env st => ev Φ c env st) (fun env st => exB Φ body env st) n env st) (goOn Φ ss QS) := by
    intro n
    induction n with
    | zero => intro m env st hm; omega
    | succ n ih =>
      intro m env st hm hp
      obtain ⟨k, st1, e, q1, q2⟩ := h m env st hp
      show wpR (Res.bind (ev Φ c env st) _) _
      rw [e, Res.bind_ok]
      cases k with
      | false => exact q1 rfl
      | true =>
        show wpR (Res.bind (exB Φ body env st1) _) _
        rw [wpR_bind]
        refine wpR_mono (q2 rfl) ?_
        rintro ⟨f, env2⟩ st2 hq
        cases f with
        | nx =>
          obtain ⟨m', hm', hp'⟩ := hq
          exact ih m' env2 st2 (by omega) hp'
        | ct =>
          obtain ⟨m', hm', hp'⟩ := hq
          exact ih m' env2 st2 (by omega) hp'
        | bk => exact hq
        | rt d => exact hq
  exact key fuel m env st (by unfold fuel; omega) h0
def likeB : List Dn.S := [.unp [3, 4] (.o1 .pop (.var 2)),
    .iff (.o1 (.isin [.tuple, .list]) (.var 4)) [.iff (.orr [.o2 .ne (.o1 (.isin [.list]) (.var 3)) (.o1 (.isin [.list]) (.var 4)), .o1 .nt (.o1 (.isin [.tuple, .list]) (.var 3)), .o2 .ne (.o1 .len (.var 3)) (.o1 .len (.var 4))]) [.ret (.c (.bool false))] [],
    .ex (.o2 .ext (.var 2) (.comp false (.tup [.o2 .ix (.var 3) (.var 5), .o2 .ix (.var 4) (.var 5)]) (.one 5) 1 [.o1 .len (.var 4)] []))] [.iff (.o1 .isN (.var 4)) [.iff (.o1 .niN (.var 3)) [.ret (.c (.bool false))] []] [.iff (.o1 (.isin [.str]) (.var 4)) [.iff (.orr [.o1 .nt (.o1 (.isin [.str]) (.var 3)), .o2 .ne (.var 3) (.var 4)]) [.ret (.c (.bool false))] []] [.iff (.orr [.o2 .ne (.o1 (.isin [.bool]) (.var 3)) (.o1 (.isin [.bool]) (.var 4)), .o1 .nt (.o1 (.isin [.int]) (.var 3)), .o2 .ne (.var 3) (.var 4)]) [.ret (.c (.bool false))] []]]]]
abbrev kEnv (x0 : PyData) (z3 z4 : Option D) : Sl := [some (.p x0), some (.p x0), some (.r 0), z3, z4, none]
abbrev kSt (xs : List PyData) : Store := [.lst (xs.map fun x => .p (pp x))]
theorem isin2 {Φ : Calls} {env : Sl} {st : Store} {a : E} {d : D} {t : Ty} {ts : List Ty} (ha : ev Φ a env st = .ok d st) (h : tyOf d st = some t) : ev Φ (.o1 (.isin ts) a) env st = .ok (.p (.bool (ts.any fun u => isTy t u))) st := o1_at ha (q_isin h)
theorem like_turn {Φ : Calls} {x0 x : PyData} {xs : List PyData} {z3 z4 : Option D} {QS : Dn.Flow × Sl → Store → Prop} (hx : pl x = true) (hl : xs.length ≤ 50000) (hQ : QS (.nx, kEnv x0 (some (.p x)) (some (.p x))) (kSt (xs ++ kids x))) :
    wpR (exB Φ likeB (kEnv x0 z3 z4) (kSt (xs ++ [x]))) QS := by
  unfold likeB
  have hs : (kSt (xs ++ [x]))[0]? = some (.lst ((xs.map fun x => D.p (pp x)) ++ [D.p (.tuple [x, x])])) := by
    show some _ = _
    rw [List.map_append] <;> rfl
  refine st_unp2 (by array_mem_dec) rfl rfl ?_
  dsimp only [List.set_cons_succ, List.set_cons_zero]
  show wpR (exB Φ _ _ (kSt xs)) QS
  cases x with
  | none =>
    refine st_iffE (by array_mem_dec) (by rfl) ?_
    refine st_iffT (by array_mem_dec) (by rfl) ?_
    refine st_iffF (k := false) (by rfl) rfl ?_
    refine st_nil (st_go (st_nil (st_go (st_nil ?_))))
    simp only [kids, List.append_nil] at hQ
    exact hQ
  | bool b =>
    refine st_iffE (by array_mem_dec) (by rfl) ?_
    refine st_iffE (k := false) (by rfl) rfl ?_
    refine st_iffE (by array_mem_dec) (by rfl) ?_
    refine st_iffE (by array_mem_dec) (by simp [isTy]) ?_
    refine st_nil (st_go (st_nil (st_go (st_nil (st_go (st_nil (st_go (st_nil ?_))))))))
    simp only [kids, List.append_nil] at hQ
    exact hQ
  | int b =>
    refine st_iffE (by array_mem_dec) (by rfl) ?_
    refine st_iffE (k := false) (by rfl) rfl ?_
    refine st_iffE (by array_mem_dec) (by rfl) ?_
    refine st_iffE (by array_mem_dec) (by simp [isTy]) ?_
    refine st_nil (st_go (st_nil (st_go (st_nil (st_go (st_nil (st_go (st_nil ?_))))))))
    simp only [kids, List.append_nil] at hQ
    exact hQ
  | str b =>
    refine st_iffE (by array_mem_dec) (by rfl) ?_
    refine st_iffE (k := false) (by rfl) rfl ?_
    refine st_iffT (by array_mem_dec) (by rfl) ?_
    refine st_iffF (by array_mem_dec) (by simp [isTy]) ?_
    refine st_nil (st_go (st_nil (st_go (st_nil (st_go (st_nil ?_))))))
    simp only [kids, List.append_nil] at hQ
    exact hQ
  | tuple ds =>
    have h1000 := (pl_kids hx).2
    change ds.length ≤ 1000 at h1000
    have hc : ev Φ (.comp false (.tup [.o2 .ix (.var 3) (.var 5), .o2 .ix (.var 4) (.var 5)]) (.one 5) 1 [.o1 .len (.var 4)] []) (kEnv x0 (some (.p (.tuple ds))) (some (.p (.tuple ds)))) (kSt xs) = .ok (.p (.list (ds.map pp))) (kSt xs) := by
      refine ev_to (compN0 (xs := List.range ds.length) (fun k => pp (ds.getD k .none)) (by array_mem_dec) (walk_rangeN (by omega)) rfl (fun k hk => ⟨[some (.p x0), some (.p x0), some (.r 0), some (.p (.tuple ds)), some (.p (.tuple ds)), some (.p (.int (k : Int)))], rfl, ?_⟩) (by simp; omega)) ?_
      · have hk' := List.mem_range.mp hk
        have e : ds[k]? = some (ds.getD k .none) := by
          rw [List.getD_eq_getElem?_getD, List.getElem?_eq_getElem hk']; rfl
        exact ev_to (by array_mem_dec) (by rfl)
      · congr 2
        refine List.ext_getElem? fun k => ?_
        rw [List.getElem?_map, List.getElem?_map]
        by_cases hk : k < ds.length
        · rw [List.getElem?_range hk, List.getElem?_eq_getElem hk]
          simp [List.getD_eq_getElem?_getD, List.getElem?_eq_getElem hk]
        · rw [List.getElem?_eq_none (by simp; omega), List.getElem?_eq_none (by omega)]
          rfl
    have hs3 : (kSt xs)[0]? = some (.lst (xs.map fun x => D.p (pp x))) := rfl
    have hd : ((xs.map fun x => D.p (pp x)) ++ (ds.map pp).map D.p) = (xs ++ ds).map fun x => D.p (pp x) := by simp
    refine st_iffT (by array_mem_dec) (by rfl) ?_
    refine st_iffF (by array_mem_dec) (by simp [isTy]) ?_
    refine st_ex (by array_mem_dec) ?_
    rw [hd]
    exact st_nil (st_go (st_nil hQ))
  | _ => cases hx
theorem like_ok (n : Nat) {x : PyData} (hx : pl x = true) (hz : sz x ≤ 15000) : Gives F (n + 1) f__law_is [x, x] (.bool true) := by
  refine Gives.of ?_
  rw [wp_call (d := d__law_is) rfl ⟨rfl, by decide⟩]
  show wpR (exB (callF F n) b__law_is [some (.p x), some (.p x), none, none, none, none] []) _
  unfold b__law_is
  array_get_dec
  refine st_whl (fun m env st => ∃ (xs : List PyData) (z3 z4 : Option D), env = kEnv x z3 z4 ∧ st = kSt xs ∧ plA xs = true ∧ szA xs = m ∧ m ≤ 15000) ?_ (m := sz x) ⟨[x], none, none, rfl, rfl, by simp [plA, hx], by simp [szA], hz⟩ (by omega)
  rintro m env st ⟨xs, z3, z4, rfl, rfl, hp, hs, hs2⟩
  have hl := szA_len xs
  have e1 : ev (callF F n) (.o2 .gt (.o1 .len (.var 2)) (.c (.int 0))) (kEnv x z3 z4) (kSt xs) = .ok (.p (.bool (decide ((0 : Int) < (((xs.map fun x => D.p (pp x)).length : Nat) : Int))))) (kSt xs) := by array_mem_dec
  refine ⟨_, _, e1, fun hk => ?_, fun hk => ?_⟩
  · refine st_go (st_ret ev_c ?_)
    rfl
  · have hk := of_decide_eq_true hk
    rw [List.length_map] at hk
    rcases List.eq_nil_or_concat xs with rfl | ⟨ys, y, rfl⟩
    · simp at hk
    · rw [List.concat_eq_append] at hp hs ⊢
      rw [plA_app, Bool.and_eq_true] at hp
      have hy : pl y = true := by simpa [plA] using hp.2
      rw [szA_app] at hs
      have e1 : szA [y] = sz y := by simp [szA]
      have e2 := sz_kids hy
      have e3 := szA_len ys
      refine like_turn hy (by omega) ?_
      refine ⟨szA (ys ++ kids y), ?_, ys ++ kids y, _, _, rfl, rfl, ?_, rfl, ?_⟩
      · rw [szA_app]; omega
      · rw [plA_app, hp.1, (pl_kids hy).1]; rfl
      · rw [szA_app]; omega
end Lw
namespace Lw
open PySem Dn
/-! TAC -/
local macro_rules | `(tactic| array_mem_dec) => `(tactic| first
  | with_reducible assumption
  | with_reducible exact ev_c
  | with_reducible exact evs_nil
  | with_reducible exact evO_n
  | with_reducible exact ev_gE
  | (with_reducible apply var_at) <;> rfl
  | (with_reducible apply evs_at) <;> array_mem_dec
  | ((with_reducible apply o2_at); (· array_mem_dec); (· sizeOf_list_dec); (· array_mem_dec); (· sizeOf_list_dec))
  | ((with_reducible apply o1_at); (· array_mem_dec); (· sizeOf_list_dec))
  | ((with_reducible apply o3_at); (· array_mem_dec); (· sizeOf_list_dec); (· array_mem_dec); (· array_mem_dec); (· sizeOf_list_dec))
  | (with_reducible apply callE) <;> array_mem_dec
  | ((with_reducible apply callkE); (· array_mem_dec); (· rfl); (· array_mem_dec))
  | ((with_reducible apply tupE); (· array_mem_dec); (· sizeOf_list_dec); (· sizeOf_list_dec))
  | ((with_reducible apply lstE); (· array_mem_dec); (· sizeOf_list_dec); (· sizeOf_list_dec))
  | (with_reducible apply an_at) <;> array_mem_dec
  | (with_reducible apply orr_at) <;> array_mem_dec
  | (with_reducible apply an1) <;> array_mem_dec
  | (with_reducible apply or1) <;> array_mem_dec
  | (with_reducible apply anC) <;> (try intro _) <;> array_mem_dec
  | (with_reducible apply orC) <;> (try intro _) <;> array_mem_dec
  | (with_reducible apply ite_v) <;> (try intro _) <;> array_mem_dec
  | ((with_reducible apply chain_v); (· array_mem_dec); (· array_mem_dec); (· sizeOf_list_dec); (· intro _; array_mem_dec); (· sizeOf_list_dec))
  | ((with_reducible apply slE); (· array_mem_dec); (· array_mem_dec); (· array_mem_dec); (· sizeOf_list_dec))
  | ((with_reducible apply rvE); (· array_mem_dec); (· sizeOf_list_dec))
  | (with_reducible apply evO_at) <;> array_mem_dec
  | ((with_reducible apply lst_at); (· array_mem_dec); (· sizeOf_list_dec))
  | ((with_reducible apply dicE); (· array_mem_dec); (· rfl); (· rfl))
  | ((with_reducible apply callD_g); (· sizeOf_list_dec); (· with_reducible assumption)))
local macro_rules | `(tactic| sizeOf_list_dec) => `(tactic| first
  | with_reducible assumption
  | with_reducible rfl
  | with_reducible exact op2_add_i
  | with_reducible exact op2_sub_i
  | with_reducible exact q_ltI
  | with_reducible exact q_leI
  | with_reducible exact q_gtI
  | with_reducible exact q_geI
  | with_reducible exact q_eqI
  | with_reducible exact q_eqS
  | with_reducible exact q_neI
  | with_reducible exact q_neS
  | with_reducible exact q_eqB
  | with_reducible exact q_neB
  | with_reducible exact q_inTS
  | with_reducible exact q_inLS
  | with_reducible exact q_ninTS
  | with_reducible exact q_ninLS
  | with_reducible exact q_inTI
  | with_reducible exact q_inLI
  | with_reducible exact q_mx
  | with_reducible exact q_mn
  | with_reducible exact q_nt
  | with_reducible exact q_neg
  | with_reducible exact q_lenT
  | with_reducible exact q_lenL
  | with_reducible exact q_abs
  | with_reducible exact q_intI
  | with_reducible exact q_intB
  | with_reducible exact q_tupT
  | with_reducible exact q_tupL
  | with_reducible exact q_isN
  | (with_reducible apply q_lenR) <;> sizeOf_list_dec
  | (with_reducible apply q_ix) <;> sizeOf_list_dec
  | (with_reducible apply q_ixD) <;> sizeOf_list_dec
  | (with_reducible apply q_mod) <;> sizeOf_list_dec
  | (with_reducible apply q_fdv) <;> sizeOf_list_dec
  | (with_reducible apply q_mul) <;> first | exact mulOk_R rfl | exact mulOk_L rfl | sizeOf_list_dec
  | (with_reducible apply q_mulT1) <;> sizeOf_list_dec
  | (with_reducible apply q_addT) <;> sizeOf_list_dec
  | (with_reducible apply q_addL) <;> sizeOf_list_dec
  | (with_reducible apply q_addRL) <;> sizeOf_list_dec
  | (with_reducible apply q_addS) <;> sizeOf_list_dec
  | (with_reducible apply q_isin) <;> sizeOf_list_dec
  | (with_reducible apply q_all) <;> sizeOf_list_dec
  | (with_reducible apply q_any) <;> sizeOf_list_dec
  | (with_reducible apply q_sum) <;> sizeOf_list_dec
  | (with_reducible apply q_tupr) <;> sizeOf_list_dec
  | (with_reducible apply q_tupR) <;> sizeOf_list_dec
  | (with_reducible apply q_indxT) <;> sizeOf_list_dec
  | (with_reducible apply q_app) <;> sizeOf_list_dec
  | (with_reducible apply q_ext) <;> sizeOf_list_dec
  | (with_reducible apply q_frz) <;> sizeOf_list_dec
  | (with_reducible apply q_popR) <;> sizeOf_list_dec
  | (with_reducible apply q_pop0) <;> sizeOf_list_dec
  | with_reducible exact q_slT
  | (with_reducible apply q_slL) <;> sizeOf_list_dec
  | (with_reducible apply q_slR) <;> first | rfl | sizeOf_list_dec
  | (with_reducible apply q_ins0) <;> sizeOf_list_dec
  | (with_reducible apply q_popiM) <;> first | rfl | sizeOf_list_dec
  | with_reducible exact getIx_0
  | with_reducible exact getIx_1
  | (with_reducible apply ixTm) <;> sizeOf_list_dec
  | (with_reducible apply ixLm) <;> sizeOf_list_dec
  | (with_reducible apply ixT) <;> sizeOf_list_dec
  | (with_reducible apply ixL) <;> sizeOf_list_dec
  | (with_reducible apply ixRm) <;> first | rfl | sizeOf_list_dec
  | (with_reducible apply ixR) <;> sizeOf_list_dec
  | with_reducible exact boolsOf_map _
  | with_reducible exact intsOf_map _
  | with_reducible exact strsOf_map _
  | with_reducible exact allP_map _
  | with_reducible exact allP_mapc _ _
  | with_reducible exact allP_maps _
  | with_reducible exact allP_fun _ _
  | with_reducible exact boolsOf_mapf _ _
  | (with_reducible apply qStN) <;> sizeOf_list_dec
  | rfl
  | omega
  | (simp only [List.length_map, List.length_append, List.length_cons, List.length_nil, List.length_range]; omega)
  | decide)
local macro_rules | `(tactic| array_get_dec) => `(tactic| first
  | ((with_reducible apply st_set); (· array_mem_dec); (· rfl); (try dsimp only [List.set_cons_succ, List.set_cons_zero]))
  | ((with_reducible apply st_iffF); (· array_mem_dec); (· first | rfl | (simp; done) | (simp; omega)))
  | ((with_reducible apply st_par2); (· array_mem_dec); (· array_mem_dec); (· rfl); (· rfl); (try dsimp only [List.set_cons_succ, List.set_cons_zero]))
  | ((with_reducible apply st_par3); (· array_mem_dec); (· array_mem_dec); (· array_mem_dec); (· rfl); (· rfl); (· rfl); (try dsimp only [List.set_cons_succ, List.set_cons_zero]))
  | ((with_reducible apply st_unp2); (· array_mem_dec); (· rfl); (· rfl); (try dsimp only [List.set_cons_succ, List.set_cons_zero]))
  | ((with_reducible apply st_unp3); (· array_mem_dec); (· rfl); (· rfl); (· rfl); (try dsimp only [List.set_cons_succ, List.set_cons_zero]))
  | ((with_reducible apply st_unp4); (· array_mem_dec); (· rfl); (· rfl); (· rfl); (· rfl); (try dsimp only [List.set_cons_succ, List.set_cons_zero]))
  | ((with_reducible apply st_unp5); (· array_mem_dec); (· rfl); (try dsimp only [List.set_cons_succ, List.set_cons_zero]))
  | ((with_reducible apply st_aug); (· rfl); (· array_mem_dec); (· sizeOf_list_dec); (· rfl); (try dsimp only [List.set_cons_succ, List.set_cons_zero]))
  | ((with_reducible apply st_setix); (· array_mem_dec); (· array_mem_dec); (· array_mem_dec); (· sizeOf_list_dec))
  | ((with_reducible apply st_augix); (· array_mem_dec); (· array_mem_dec); (· sizeOf_list_dec); (· array_mem_dec); (· sizeOf_list_dec); (· sizeOf_list_dec))
  | ((with_reducible apply st_ex); (· array_mem_dec))
  | ((with_reducible apply st_ret); (· array_mem_dec))
  | with_reducible apply st_retN
  | with_reducible apply st_pass
  | with_reducible apply st_brk
  | with_reducible apply st_cont
  | with_reducible apply st_nil
  | with_reducible apply st_go)
/-! CAT -/
/-! ### the reed: figures, a number, how many were drawn, habits by places -/
def kvD (q : Str × Int × Int) : PyData × D := (.str q.1, .p (.tuple [.int q.2.1, .int q.2.2]))
theorem nodup_len {α : Type} [DecidableEq α] : ∀ {xs ys : List α}, xs.Nodup → (∀ x ∈ xs, x ∈ ys) → xs.length ≤ ys.length
  | [], _, _, _ => by simp
  | x :: xs, ys, hn, h => by
    have hx := h x (by simp)
    have hn' := List.nodup_cons.mp hn
    have := nodup_len (xs := xs) (ys := ys.erase x) hn'.2 (fun z hz => (List.mem_erase_of_ne (by rintro rfl; exact hn'.1 hz)).mpr (h z (by simp [hz])))
    rw [List.length_erase_of_mem hx] at this
    have : 0 < ys.length := List.length_pos_of_mem hx
    simp
    omega
theorem dg_none : ∀ {kvs : List (Str × Int × Int)} {p : Str}, p ∉ kvs.map (·.1) → dGet (kvs.map kvD) (.str p) = none
  | [], p, h => rfl
  | q :: r, p, h => by
    simp only [List.map_cons, List.mem_cons, not_or] at h
    have ih := dg_none h.2
    have : ¬ q.1 = p := fun e => h.1 e.symm
    unfold dGet at ih ⊢
    simp [kvD, keyEq, this] at ih ⊢
    exact ih
theorem dg_some : ∀ {kvs : List (Str × Int × Int)} {p : Str}, p ∈ kvs.map (·.1) → ∃ q ∈ kvs, q.1 = p ∧ dGet (kvs.map kvD) (.str p) = some (.p (.tuple [.int q.2.1, .int q.2.2]))
  | [], p, h => by cases h
  | q :: r, p, h => by
    by_cases e : q.1 = p
    · refine ⟨q, by simp, e, ?_⟩
      unfold dGet
      simp [kvD, keyEq, e]
    · obtain ⟨q', h1, h2, h3⟩ := dg_some (kvs := r) (p := p) (by
        rcases List.mem_cons.mp h with h | h
        · exact absurd h.symm e
        · exact h)
      refine ⟨q', by simp [h1], h2, ?_⟩
      unfold dGet at h3 ⊢
      simp [kvD, keyEq, e] at h3 ⊢
      exact h3
theorem dp_new {kvs : List (Str × Int × Int)} {p : Str} {a b : Int} (h : p ∉ kvs.map (·.1)) : dPut (kvs.map kvD) (.str p) (.p (.tuple [.int a, .int b])) = (kvs ++ [(p, a, b)]).map kvD := by
  unfold dPut
  rw [if_neg]
  · simp [kvD]
  · intro hh
    rw [List.any_map, List.any_eq_true] at hh
    obtain ⟨q, h1, h2⟩ := hh
    refine h (List.mem_map.mpr ⟨q, h1, ?_⟩)
    simpa [kvD, keyEq] using h2
def PL : List Str := ["kind", "word", "first", "long", "sign", "at", "wrong", "states", "state", "spot", "many", "in", "other"]
structure Hl where
  gs : List Int
  m : Int
  t : Int
  kv : List (Str × Int × Int)
abbrev hObs (q : Hl) : Ob := .lst [.r 0, .p (.int q.m), .p (.int q.t), .r 1]
abbrev H (q : Hl) (rest : Store) : Store := .lst (q.gs.map fun i => .p (.int i)) :: .dic (q.kv.map kvD) :: hObs q :: rest
structure Hl.ok (q : Hl) : Prop where
  gs : q.gs.length ≤ 10000
  nd : (q.kv.map (·.1)).Nodup
  pl : ∀ k ∈ q.kv.map (·.1), k ∈ PL
theorem put_t (q : Hl) (rest : Store) (x : Int) : setIx (.r 2) (.p (.int 2)) (.p (.int x)) (H q rest) = some (H { q with t := x } rest) := rfl
theorem put_m (q : Hl) (rest : Store) (x : Int) : setIx (.r 2) (.p (.int 1)) (.p (.int x)) (H q rest) = some (H { q with m := x } rest) := rfl
theorem nin_at {x y : D} {st : Store} {k : Bool} (h : inD x y st = some k) : op2 .nin x y st = .ok (.p (.bool (!k))) st := by
  have e : op2 .nin x y st = Res.of st ((inD x y st).map fun k => bz (!k)) := rfl
  rw [e, h]
  rfl
theorem inn_at {x y : D} {st : Store} {k : Bool} (h : inD x y st = some k) : op2 .inn x y st = .ok (.p (.bool k)) st := by
  have e : op2 .inn x y st = Res.of st ((inD x y st).map bz) := rfl
  rw [e, h]
  rfl
theorem stem_c (n : Nat) (q : Hl) (rest : Store) : ∃ (v : Int) (q' : Hl), callD (callF F (n + 1)) false 7 [.r 2] (H q rest) = .ok (.p (.int v)) (H q' rest) ∧ q'.kv = q.kv ∧ q'.gs.length ≤ q.gs.length := by
  suffices h : wpR (callF F (n + 1) f__law_stem [.r 2] (H q rest)) (fun d st => ∃ (v : Int) (q' : Hl), d = .p (.int v) ∧ st = H q' rest ∧ q'.kv = q.kv ∧ q'.gs.length ≤ q.gs.length) by
    obtain ⟨d, st, f, v, q', rfl, rfl, h1, h2⟩ := wpR_out h
    exact ⟨v, q', callD_f f (by simp), h1, h2⟩
  rw [wp_call (d := d__law_stem) rfl ⟨rfl, by decide⟩]
  show wpR (exB (callF F n) b__law_stem [some (.r 2)] (H q rest)) _
  unfold b__law_stem
  refine st_iff (by array_mem_dec) (fun h => ?_) (fun h => ?_)
  · have h := of_decide_eq_true h
    obtain ⟨gs, m, t, kv⟩ := q
    rcases List.eq_nil_or_concat gs with rfl | ⟨gs, g, rfl⟩
    · simp at h
    · rw [List.concat_eq_append]
      have hs : (H ⟨gs ++ [g], m, t, kv⟩ rest)[0]? = some (.lst ((gs.map fun i => D.p (.int i)) ++ [D.p (.int g)])) := by
        show some (Ob.lst ((gs ++ [g]).map fun i => D.p (.int i))) = _
        rw [List.map_append] <;> rfl
      array_get_dec
      exact ⟨g, ⟨gs, m, t, kv⟩, rfl, rfl, rfl, by simp⟩
  · refine st_nil (st_go ?_)
    have p1 := put_t q rest (q.t + 1)
    array_get_dec
    have p2 := put_m { q with t := q.t + 1 } rest ((q.m * 39373 + (q.t + 1) * 7004 + 8) % 2147483647)
    array_get_dec
    array_get_dec
    exact ⟨_, { q with t := q.t + 1, m := (q.m * 39373 + (q.t + 1) * 7004 + 8) % 2147483647 }, rfl, rfl, rfl, Nat.le_refl _⟩
theorem pull_ok (n : Nat) (q : Hl) (rest : Store) (place : Str) (many : Nat) (hq : q.ok) (hp : place ∈ PL) (hm1 : 1 ≤ many) (hm2 : many ≤ 100000) :
    wpR (callF F (n + 2) f__law_pull [.r 2, .p (.str place), .p (.int (many : Int))] (H q rest)) (fun d st' => ∃ (v : Nat) (q' : Hl), d = .p (.int (v : Int)) ∧ v < many ∧ st' = H q' rest ∧ q'.ok) := by
  rw [wp_call (d := d__law_pull) rfl ⟨rfl, by decide⟩]
  show wpR (exB (callF F (n + 1)) b__law_pull [some (.r 2), some (.p (.str place)), some (.p (.int (many : Int))), none, none] (H q rest)) _
  unfold b__law_pull
  have tail : ∀ (q : Hl) (w o : Int), q.ok → getIx (.r 1) (.p (.str place)) (H q rest) = some (.p (.tuple [.int w, .int o])) → wpR (exB (callF F (n + 1)) (b__law_pull.drop 1) [some (.r 2), some (.p (.str place)), some (.p (.int (many : Int))), none, none] (H q rest)) (endB fun d st' => ∃ (v : Nat) (q' : Hl), d = .p (.int (v : Int)) ∧ v < many ∧ st' = H q' rest ∧ q'.ok) := by
    intro q w o hq hg
    show wpR (exB _ (_ :: _ :: _ :: _ :: []) _ _) _
    have g3 : getIx (.r 2) (.p (.int 3)) (H q rest) = some (.r 1) := rfl
    array_get_dec
    refine st_iff (by array_mem_dec) (fun h => ?_) (fun h => ?_)
    · refine st_ret (by array_mem_dec) ?_
      exact ⟨0, q, rfl, by omega, rfl, hq⟩
    · refine st_nil (st_go ?_)
      refine st_iff (by array_mem_dec) (fun h => ?_) (fun h => ?_)
      · refine st_ret (by array_mem_dec) ?_
        exact ⟨many - 1, q, by congr 2; omega, by omega, rfl, hq⟩
      · refine st_nil (st_go ?_)
        have h0 : (0 : Int) < (many : Int) := by omega
        have fin : ∀ (x : Int) (q' : Hl), q'.ok → ev (callF F (n + 1)) (.ite (.o2 .eq (.var 3) (.c (.int 7))) (.var 4) (.call false 7 [.var 0])) [some (.r 2), some (.p (.str place)), some (.p (.int (many : Int))), some (.p (.int w)), some (.p (.int o))] (H q rest) = .ok (.p (.int x)) (H q' rest) → wpR (exB (callF F (n + 1)) [.ret (.o2 .mod (.o1 .int (.ite (.o2 .eq (.var 3) (.c (.int 7))) (.var 4) (.call false 7 [.var 0]))) (.var 2))] [some (.r 2), some (.p (.str place)), some (.p (.int (many : Int))), some (.p (.int w)), some (.p (.int o))] (H q rest)) (endB fun d st' => ∃ (v : Nat) (q' : Hl), d = .p (.int (v : Int)) ∧ v < many ∧ st' = H q' rest ∧ q'.ok) := by
          intro x q' hq' e
          obtain ⟨v, hv⟩ : ∃ v : Nat, x % (many : Int) = (v : Int) := Int.eq_ofNat_of_zero_le (Int.emod_nonneg _ (by omega))
          have hvm := Int.emod_lt_of_pos x h0
          array_get_dec
          rw [hv]
          exact ⟨v, q', rfl, by omega, rfl, hq'⟩
        by_cases h7 : w = 7
        · exact fin o q hq (ite_t (k := decide (w = 7)) (by array_mem_dec) (decide_eq_true h7) (by array_mem_dec))
        · obtain ⟨x, q', f1, k1, k2⟩ := stem_c n q rest
          refine fin x q' ⟨Nat.le_trans k2 hq.gs, by rw [k1]; exact hq.nd, by rw [k1]; exact hq.pl⟩ (ite_f (k := decide (w = 7)) (by array_mem_dec) (decide_eq_false h7) (by array_mem_dec))
  have g3 : getIx (.r 2) (.p (.int 3)) (H q rest) = some (.r 1) := rfl
  by_cases hk : place ∈ q.kv.map (·.1)
  · obtain ⟨z, hz, rfl, hg⟩ := dg_some hk
    have c1 : op2 .nin (.p (.str z.1)) (.r 1) (H q rest) = .ok (.p (.bool false)) (H q rest) := by
      have : inD (.p (.str z.1)) (.r 1) (H q rest) = some true := by
        show (if keyOk (.str z.1) = true then some (dGet (q.kv.map kvD) (.str z.1)).isSome else none) = _
        rw [hg]
        rfl
      exact nin_at this
    refine st_iffF (k := false) (by array_mem_dec) rfl ?_
    exact tail q _ _ hq hg
  · have hg := dg_none hk
    have c1 : op2 .nin (.p (.str place)) (.r 1) (H q rest) = .ok (.p (.bool true)) (H q rest) := by
      have : inD (.p (.str place)) (.r 1) (H q rest) = some false := by
        show (if keyOk (.str place) = true then some (dGet (q.kv.map kvD) (.str place)).isSome else none) = _
        rw [hg]
        rfl
      exact nin_at this
    refine st_iffT (k := true) (by array_mem_dec) rfl ?_
    obtain ⟨a, q1, f1, k1, k2⟩ := stem_c n q rest
    obtain ⟨b, q2, f2, k3, k4⟩ := stem_c n q1 rest
    have hk2 : place ∉ q2.kv.map (·.1) := by rw [k3, k1]; exact hk
    have g3' : getIx (.r 2) (.p (.int 3)) (H q2 rest) = some (.r 1) := rfl
    have hlen : q2.kv.length ≤ 13 := by
      have := nodup_len (xs := q2.kv.map (·.1)) (ys := PL) (by rw [k3, k1]; exact hq.nd) (by rw [k3, k1]; exact hq.pl)
      rw [List.length_map] at this
      exact this
    have ps : setIx (.r 1) (.p (.str place)) (.p (.tuple [.int (a % 10), .int (b % 305)])) (H q2 rest) = some (H { q2 with kv := q2.kv ++ [(place, a % 10, b % 305)] } rest) := by
      rw [setDic (k := 1) (st := H q2 rest) rfl (Nat.ble_eq.mpr (by rw [List.length_map]; omega)) rfl, dp_new hk2]
      rfl
    array_get_dec
    refine st_nil (st_go ?_)
    have hq3 : Hl.ok { q2 with kv := q2.kv ++ [(place, a % 10, b % 305)] } := by
      refine ⟨Nat.le_trans k4 (Nat.le_trans k2 hq.gs), ?_, ?_⟩
      · show ((q2.kv ++ [(place, a % 10, b % 305)]).map (·.1)).Nodup
        rw [List.map_append, List.nodup_append]
        refine ⟨by rw [k3, k1]; exact hq.nd, by simp, ?_⟩
        intro x hx y hy e
        simp at hy
        subst hy
        exact hk2 (e ▸ hx)
      · intro k hk'
        have hk' : k ∈ (q2.kv ++ [(place, a % 10, b % 305)]).map (·.1) := hk'
        rw [List.map_append, List.mem_append] at hk'
        rcases hk' with h | h
        · rw [k3, k1] at h; exact hq.pl k h
        · simp at h; rw [h]; exact hp
    obtain ⟨z, hz, hz1, hg2⟩ := dg_some (kvs := q2.kv ++ [(place, a % 10, b % 305)]) (p := place) (by simp)
    exact tail { q2 with kv := q2.kv ++ [(place, a % 10, b % 305)] } _ _ hq3 hg2
theorem pull_c (n : Nat) {q : Hl} (rest : Store) (place : Str) (m : Int) (hq : q.ok) (hp : place ∈ PL) (hm1 : 1 ≤ m) (hm2 : m ≤ 100000) :
    ∃ (v : Nat) (q' : Hl), callD (callF F (n + 2)) false 8 [.r 2, .p (.str place), .p (.int m)] (H q rest) = .ok (.p (.int (v : Int))) (H q' rest) ∧ (v : Int) < m ∧ q'.ok := by
  obtain ⟨many, rfl⟩ := Int.eq_ofNat_of_zero_le (show 0 ≤ m by omega)
  obtain ⟨d, st', f, v, q', rfl, hv, rfl, hq'⟩ := wpR_out (pull_ok n q rest place many hq hp (by omega) (by omega))
  exact ⟨v, q', callD_f f (by simp), by omega, hq'⟩
end Lw
namespace Lw
open PySem Dn
/-! TAC -/
local macro_rules | `(tactic| array_mem_dec) => `(tactic| first
  | with_reducible assumption
  | with_reducible exact ev_c
  | with_reducible exact evs_nil
  | with_reducible exact evO_n
  | with_reducible exact ev_gE
  | (with_reducible apply var_at) <;> rfl
  | (with_reducible apply evs_at) <;> array_mem_dec
  | ((with_reducible apply o2_at); (· array_mem_dec); (· sizeOf_list_dec); (· array_mem_dec); (· sizeOf_list_dec))
  | ((with_reducible apply o1_at); (· array_mem_dec); (· sizeOf_list_dec))
  | ((with_reducible apply o3_at); (· array_mem_dec); (· sizeOf_list_dec); (· array_mem_dec); (· array_mem_dec); (· sizeOf_list_dec))
  | (with_reducible apply callE) <;> array_mem_dec
  | ((with_reducible apply callkE); (· array_mem_dec); (· rfl); (· array_mem_dec))
  | ((with_reducible apply tupE); (· array_mem_dec); (· sizeOf_list_dec); (· sizeOf_list_dec))
  | ((with_reducible apply lstE); (· array_mem_dec); (· sizeOf_list_dec); (· sizeOf_list_dec))
  | (with_reducible apply an_at) <;> array_mem_dec
  | (with_reducible apply orr_at) <;> array_mem_dec
  | (with_reducible apply an1) <;> array_mem_dec
  | (with_reducible apply or1) <;> array_mem_dec
  | (with_reducible apply anC) <;> (try intro _) <;> array_mem_dec
  | (with_reducible apply orC) <;> (try intro _) <;> array_mem_dec
  | (with_reducible apply ite_v) <;> (try intro _) <;> array_mem_dec
  | ((with_reducible apply chain_v); (· array_mem_dec); (· array_mem_dec); (· sizeOf_list_dec); (· intro _; array_mem_dec); (· sizeOf_list_dec))
  | ((with_reducible apply slE); (· array_mem_dec); (· array_mem_dec); (· array_mem_dec); (· sizeOf_list_dec))
  | ((with_reducible apply rvE); (· array_mem_dec); (· sizeOf_list_dec))
  | (with_reducible apply evO_at) <;> array_mem_dec
  | ((with_reducible apply lst_at); (· array_mem_dec); (· sizeOf_list_dec))
  | ((with_reducible apply dicE); (· array_mem_dec); (· rfl); (· rfl))
  | ((with_reducible apply callD_g); (· sizeOf_list_dec); (· with_reducible assumption)))
local macro_rules | `(tactic| sizeOf_list_dec) => `(tactic| first
  | with_reducible assumption
  | with_reducible rfl
  | with_reducible exact op2_add_i
  | with_reducible exact op2_sub_i
  | with_reducible exact q_ltI
  | with_reducible exact q_leI
  | with_reducible exact q_gtI
  | with_reducible exact q_geI
  | with_reducible exact q_eqI
  | with_reducible exact q_eqS
  | with_reducible exact q_neI
  | with_reducible exact q_neS
  | with_reducible exact q_eqB
  | with_reducible exact q_neB
  | with_reducible exact q_inTS
  | with_reducible exact q_inLS
  | with_reducible exact q_ninTS
  | with_reducible exact q_ninLS
  | with_reducible exact q_inTI
  | with_reducible exact q_inLI
  | with_reducible exact q_mx
  | with_reducible exact q_mn
  | with_reducible exact q_nt
  | with_reducible exact q_neg
  | with_reducible exact q_lenT
  | with_reducible exact q_lenL
  | with_reducible exact q_abs
  | with_reducible exact q_intI
  | with_reducible exact q_intB
  | with_reducible exact q_tupT
  | with_reducible exact q_tupL
  | with_reducible exact q_isN
  | (with_reducible apply q_lenR) <;> sizeOf_list_dec
  | (with_reducible apply q_ix) <;> sizeOf_list_dec
  | (with_reducible apply q_ixD) <;> sizeOf_list_dec
  | (with_reducible apply q_mod) <;> sizeOf_list_dec
  | (with_reducible apply q_fdv) <;> sizeOf_list_dec
  | (with_reducible apply q_mul) <;> first | exact mulOk_R rfl | exact mulOk_L rfl | sizeOf_list_dec
  | (with_reducible apply q_mulT1) <;> sizeOf_list_dec
  | (with_reducible apply q_addT) <;> sizeOf_list_dec
  | (with_reducible apply q_addL) <;> sizeOf_list_dec
  | (with_reducible apply q_addRL) <;> sizeOf_list_dec
  | (with_reducible apply q_addS) <;> sizeOf_list_dec
  | (with_reducible apply q_isin) <;> sizeOf_list_dec
  | (with_reducible apply q_all) <;> sizeOf_list_dec
  | (with_reducible apply q_any) <;> sizeOf_list_dec
  | (with_reducible apply q_sum) <;> sizeOf_list_dec
  | (with_reducible apply q_tupr) <;> sizeOf_list_dec
  | (with_reducible apply q_tupR) <;> sizeOf_list_dec
  | (with_reducible apply q_indxT) <;> sizeOf_list_dec
  | (with_reducible apply q_app) <;> sizeOf_list_dec
  | (with_reducible apply q_ext) <;> sizeOf_list_dec
  | (with_reducible apply q_frz) <;> sizeOf_list_dec
  | (with_reducible apply q_popR) <;> sizeOf_list_dec
  | (with_reducible apply q_pop0) <;> sizeOf_list_dec
  | with_reducible exact q_slT
  | (with_reducible apply q_slL) <;> sizeOf_list_dec
  | (with_reducible apply q_slR) <;> first | rfl | sizeOf_list_dec
  | (with_reducible apply q_ins0) <;> sizeOf_list_dec
  | (with_reducible apply q_popiM) <;> first | rfl | sizeOf_list_dec
  | with_reducible exact getIx_0
  | with_reducible exact getIx_1
  | (with_reducible apply ixTm) <;> sizeOf_list_dec
  | (with_reducible apply ixLm) <;> sizeOf_list_dec
  | (with_reducible apply ixT) <;> sizeOf_list_dec
  | (with_reducible apply ixL) <;> sizeOf_list_dec
  | (with_reducible apply ixRm) <;> first | rfl | sizeOf_list_dec
  | (with_reducible apply ixR) <;> sizeOf_list_dec
  | with_reducible exact boolsOf_map _
  | with_reducible exact intsOf_map _
  | with_reducible exact strsOf_map _
  | with_reducible exact allP_map _
  | with_reducible exact allP_mapc _ _
  | with_reducible exact allP_maps _
  | with_reducible exact allP_fun _ _
  | with_reducible exact boolsOf_mapf _ _
  | (with_reducible apply qStN) <;> sizeOf_list_dec
  | rfl
  | omega
  | (simp only [List.length_map, List.length_append, List.length_cons, List.length_nil, List.length_range]; omega)
  | decide)
local macro_rules | `(tactic| array_get_dec) => `(tactic| first
  | ((with_reducible apply st_set); (· array_mem_dec); (· rfl); (try dsimp only [List.set_cons_succ, List.set_cons_zero]))
  | ((with_reducible apply st_iffF); (· array_mem_dec); (· first | rfl | (simp; done) | (simp; omega)))
  | ((with_reducible apply st_par2); (· array_mem_dec); (· array_mem_dec); (· rfl); (· rfl); (try dsimp only [List.set_cons_succ, List.set_cons_zero]))
  | ((with_reducible apply st_par3); (· array_mem_dec); (· array_mem_dec); (· array_mem_dec); (· rfl); (· rfl); (· rfl); (try dsimp only [List.set_cons_succ, List.set_cons_zero]))
  | ((with_reducible apply st_unp2); (· array_mem_dec); (· rfl); (· rfl); (try dsimp only [List.set_cons_succ, List.set_cons_zero]))
  | ((with_reducible apply st_unp3); (· array_mem_dec); (· rfl); (· rfl); (· rfl); (try dsimp only [List.set_cons_succ, List.set_cons_zero]))
  | ((with_reducible apply st_unp4); (· array_mem_dec); (· rfl); (· rfl); (· rfl); (· rfl); (try dsimp only [List.set_cons_succ, List.set_cons_zero]))
  | ((with_reducible apply st_unp5); (· array_mem_dec); (· rfl); (try dsimp only [List.set_cons_succ, List.set_cons_zero]))
  | ((with_reducible apply st_aug); (· rfl); (· array_mem_dec); (· sizeOf_list_dec); (· rfl); (try dsimp only [List.set_cons_succ, List.set_cons_zero]))
  | ((with_reducible apply st_setix); (· array_mem_dec); (· array_mem_dec); (· array_mem_dec); (· sizeOf_list_dec))
  | ((with_reducible apply st_augix); (· array_mem_dec); (· array_mem_dec); (· sizeOf_list_dec); (· array_mem_dec); (· sizeOf_list_dec); (· sizeOf_list_dec))
  | ((with_reducible apply st_ex); (· array_mem_dec))
  | ((with_reducible apply st_ret); (· array_mem_dec))
  | with_reducible apply st_retN
  | with_reducible apply st_pass
  | with_reducible apply st_brk
  | with_reducible apply st_cont
  | with_reducible apply st_nil
  | with_reducible apply st_go)
/-! CAT -/
theorem great_add (q : Hl) (rest : Store) (x : Int) : List.set (H q rest) 0 (.lst ((q.gs.map fun i => D.p (.int i)) ++ [D.p (.int x)])) = H { q with gs := q.gs ++ [x] } rest := by
  show Ob.lst ((q.gs.map fun i => D.p (.int i)) ++ [D.p (.int x)]) :: _ = Ob.lst ((q.gs ++ [x]).map fun i => D.p (.int i)) :: _
  rw [List.map_append] <;> rfl
abbrev rEnv (sc : PyData) (z2 z3 z4 : Option D) : Sl := [some (.p sc), some (.r 2), z2, z3, z4]
theorem reed_ok (n : Nat) (ns : List Int) (hl : ns.length ≤ 1000) : ∃ q : Hl, callD (callF F (n + 1)) false 6 [.p (.list (ns.map .int))] [] = .ok (.r 2) (H q []) ∧ q.ok := by
  suffices h : wpR (callF F (n + 1) f__law_reed [.p (.list (ns.map .int))] []) (fun d st => ∃ q : Hl, d = .r 2 ∧ st = H q [] ∧ q.ok) by
    obtain ⟨d, st, f, q, rfl, rfl, hq⟩ := wpR_out h
    exact ⟨q, callD_r f, hq⟩
  rw [wp_call (d := d__law_reed) rfl ⟨rfl, by decide⟩]
  show wpR (exB (callF F n) b__law_reed [some (.p (.list (ns.map .int))), none, none, none, none] []) _
  unfold b__law_reed
  obtain ⟨K, hK, eK⟩ := shl_ev 2000 (by omega)
  obtain ⟨P, hP, eP⟩ := pow_ev 10 14 (by omega) (by omega)
  have el : ev (callF F n) (.lst true [.lst true [], .c (.int 50003), .c (.int 0), .dic []]) [some (.p (.list (ns.map .int))), none, none, none, none] [] = .ok (.r 2) (H ⟨[], 50003, 0, []⟩ []) := by rfl
  array_get_dec
  show wpR (exB _ _ (rEnv (.list (ns.map .int)) none none none) _) _
  have e : cut (ns.map PyData.int) none (some 53) = (ns.take 53).map .int := by
    rw [List.map_take]; exact cut_upto _ 53
  have hw : walkOf 0 [.p (.list (cut (ns.map PyData.int) none (some 53)))] (H ⟨[], 50003, 0, []⟩ []) = some ((ns.take 53).map fun x => It.one (.p (.int x))) := by
    rw [e]; exact walk_listN
  refine st_for (by array_mem_dec) hw ?_
  refine forN (fun (xs : List Int) env st => ∃ (q : Hl) (z2 z3 z4 : Option D), env = rEnv (.list (ns.map .int)) z2 z3 z4 ∧ st = H q [] ∧ q.kv = [] ∧ q.gs.length + xs.length * 180 ≤ 9540) ?_ ?_ ⟨_, none, none, none, rfl, rfl, rfl, by simp; omega⟩
  · rintro x xs env st ⟨q, z2, z3, z4, rfl, rfl, hkv, hq⟩
    simp only [List.length_cons] at hq
    refine ⟨rfl, rEnv (.list (ns.map .int)) (some (.p (.int x))) z3 z4, rfl, ?_⟩
    have eK' := eK (callF F n) (rEnv (.list (ns.map .int)) (some (.p (.int x))) z3 z4) (H q [])
    array_get_dec
    obtain ⟨y, hy⟩ : ∃ y : Int, y = (if x < 0 then -x else x) % K := ⟨_, rfl⟩
    rw [← hy]
    have p2 := put_m q [] ((q.m * 48271 + y % 1000003 + 9) % 2147483647)
    array_get_dec
    array_get_dec
    refine st_whl (fun m env st => ∃ (q : Hl) (s : Int) (l : Nat), env = rEnv (.list (ns.map .int)) (some (.p (.int x))) (some (.p (.int s))) (some (.p (.int (l : Int)))) ∧ st = H q [] ∧ q.kv = [] ∧ m + l = 180 ∧ q.gs.length + m + xs.length * 180 ≤ 9540) ?_ (m := 180) ⟨{ q with m := (q.m * 48271 + y % 1000003 + 9) % 2147483647 }, y, 0, rfl, rfl, hkv, rfl, by show q.gs.length + 180 + xs.length * 180 ≤ 9540; omega⟩ (by omega)
    rintro m env st ⟨q, s, l, rfl, rfl, hkv, hml, hq⟩
    have eP' := eP (callF F n) (rEnv (.list (ns.map .int)) (some (.p (.int x))) (some (.p (.int s))) (some (.p (.int (l : Int))))) (H q [])
    refine ⟨_, _, anC (k := decide (P ≤ s)) (m := decide ((l : Int) < 180)) (by array_mem_dec) (fun _ => an1 (by array_mem_dec)), fun hk => ?_, fun hk => ?_⟩
    · exact st_go (st_nil ⟨q, _, _, _, rfl, rfl, hkv, by omega⟩)
    · rw [Bool.and_eq_true, decide_eq_true_eq, decide_eq_true_eq] at hk
      have h100 : (q.gs.map fun i => D.p (.int i)).length ≤ 100000 := by rw [List.length_map]; omega
      array_get_dec
      rw [great_add]
      array_get_dec
      have ea : ((l : Int) + 1) = ((l + 1 : Nat) : Int) := by omega
      array_get_dec
      rw [ea]
      exact st_nil ⟨m - 1, by omega, { q with gs := q.gs ++ [s % 1039] }, s / 1039, l + 1, rfl, rfl, hkv, by omega, by simp; omega⟩
  · rintro env st ⟨q, z2, z3, z4, rfl, rfl, hkv, hq⟩
    refine ⟨rfl, st_go ?_⟩
    have hr : op1 .rev (.r 0) (H q []) = .ok (.p .none) (H { q with gs := q.gs.reverse } []) := by
      show Res.ok (D.p .none) ((H q []).set 0 (.lst (q.gs.map fun i => D.p (.int i)).reverse)) = _
      rw [← List.map_reverse]
      all_goals rfl
    array_get_dec
    array_get_dec
    refine ⟨_, rfl, rfl, ?_, ?_, ?_⟩
    · show q.gs.reverse.length ≤ 10000
      rw [List.length_reverse]
      omega
    · show (q.kv.map (·.1)).Nodup
      rw [hkv]
      exact .nil
    · show ∀ k ∈ q.kv.map (·.1), k ∈ PL
      rw [hkv]
      simp
end Lw
namespace Lw
open PySem Dn
/-! TAC -/
local macro_rules | `(tactic| array_mem_dec) => `(tactic| first
  | with_reducible assumption
  | with_reducible exact ev_c
  | with_reducible exact evs_nil
  | with_reducible exact evO_n
  | with_reducible exact ev_gE
  | (with_reducible apply var_at) <;> rfl
  | (with_reducible apply evs_at) <;> array_mem_dec
  | ((with_reducible apply o2_at); (· array_mem_dec); (· sizeOf_list_dec); (· array_mem_dec); (· sizeOf_list_dec))
  | ((with_reducible apply o1_at); (· array_mem_dec); (· sizeOf_list_dec))
  | ((with_reducible apply o3_at); (· array_mem_dec); (· sizeOf_list_dec); (· array_mem_dec); (· array_mem_dec); (· sizeOf_list_dec))
  | (with_reducible apply callE) <;> array_mem_dec
  | ((with_reducible apply callkE); (· array_mem_dec); (· rfl); (· array_mem_dec))
  | ((with_reducible apply tupE); (· array_mem_dec); (· sizeOf_list_dec); (· sizeOf_list_dec))
  | ((with_reducible apply lstE); (· array_mem_dec); (· sizeOf_list_dec); (· sizeOf_list_dec))
  | (with_reducible apply an_at) <;> array_mem_dec
  | (with_reducible apply orr_at) <;> array_mem_dec
  | (with_reducible apply an1) <;> array_mem_dec
  | (with_reducible apply or1) <;> array_mem_dec
  | (with_reducible apply anC) <;> (try intro _) <;> array_mem_dec
  | (with_reducible apply orC) <;> (try intro _) <;> array_mem_dec
  | (with_reducible apply ite_v) <;> (try intro _) <;> array_mem_dec
  | ((with_reducible apply chain_v); (· array_mem_dec); (· array_mem_dec); (· sizeOf_list_dec); (· intro _; array_mem_dec); (· sizeOf_list_dec))
  | ((with_reducible apply slE); (· array_mem_dec); (· array_mem_dec); (· array_mem_dec); (· sizeOf_list_dec))
  | ((with_reducible apply rvE); (· array_mem_dec); (· sizeOf_list_dec))
  | (with_reducible apply evO_at) <;> array_mem_dec
  | ((with_reducible apply lst_at); (· array_mem_dec); (· sizeOf_list_dec))
  | ((with_reducible apply dicE); (· array_mem_dec); (· rfl); (· rfl))
  | ((with_reducible apply callD_g); (· sizeOf_list_dec); (· with_reducible assumption)))
local macro_rules | `(tactic| sizeOf_list_dec) => `(tactic| first
  | with_reducible assumption
  | with_reducible rfl
  | with_reducible exact op2_add_i
  | with_reducible exact op2_sub_i
  | with_reducible exact q_ltI
  | with_reducible exact q_leI
  | with_reducible exact q_gtI
  | with_reducible exact q_geI
  | with_reducible exact q_eqI
  | with_reducible exact q_eqS
  | with_reducible exact q_neI
  | with_reducible exact q_neS
  | with_reducible exact q_eqB
  | with_reducible exact q_neB
  | with_reducible exact q_inTS
  | with_reducible exact q_inLS
  | with_reducible exact q_ninTS
  | with_reducible exact q_ninLS
  | with_reducible exact q_inTI
  | with_reducible exact q_inLI
  | with_reducible exact q_mx
  | with_reducible exact q_mn
  | with_reducible exact q_nt
  | with_reducible exact q_neg
  | with_reducible exact q_lenT
  | with_reducible exact q_lenL
  | with_reducible exact q_abs
  | with_reducible exact q_intI
  | with_reducible exact q_intB
  | with_reducible exact q_tupT
  | with_reducible exact q_tupL
  | with_reducible exact q_isN
  | (with_reducible apply q_lenR) <;> sizeOf_list_dec
  | (with_reducible apply q_ix) <;> sizeOf_list_dec
  | (with_reducible apply q_ixD) <;> sizeOf_list_dec
  | (with_reducible apply q_mod) <;> sizeOf_list_dec
  | (with_reducible apply q_fdv) <;> sizeOf_list_dec
  | (with_reducible apply q_mul) <;> first | exact mulOk_R rfl | exact mulOk_L rfl | sizeOf_list_dec
  | (with_reducible apply q_mulT1) <;> sizeOf_list_dec
  | (with_reducible apply q_addT) <;> sizeOf_list_dec
  | (with_reducible apply q_addL) <;> sizeOf_list_dec
  | (with_reducible apply q_addRL) <;> sizeOf_list_dec
  | (with_reducible apply q_addS) <;> sizeOf_list_dec
  | (with_reducible apply q_isin) <;> sizeOf_list_dec
  | (with_reducible apply q_all) <;> sizeOf_list_dec
  | (with_reducible apply q_any) <;> sizeOf_list_dec
  | (with_reducible apply q_sum) <;> sizeOf_list_dec
  | (with_reducible apply q_tupr) <;> sizeOf_list_dec
  | (with_reducible apply q_tupR) <;> sizeOf_list_dec
  | (with_reducible apply q_indxT) <;> sizeOf_list_dec
  | (with_reducible apply q_app) <;> sizeOf_list_dec
  | (with_reducible apply q_ext) <;> sizeOf_list_dec
  | (with_reducible apply q_frz) <;> sizeOf_list_dec
  | (with_reducible apply q_popR) <;> sizeOf_list_dec
  | (with_reducible apply q_pop0) <;> sizeOf_list_dec
  | with_reducible exact q_slT
  | (with_reducible apply q_slL) <;> sizeOf_list_dec
  | (with_reducible apply q_slR) <;> first | rfl | sizeOf_list_dec
  | (with_reducible apply q_ins0) <;> sizeOf_list_dec
  | (with_reducible apply q_popiM) <;> first | rfl | sizeOf_list_dec
  | with_reducible exact getIx_0
  | with_reducible exact getIx_1
  | (with_reducible apply ixTm) <;> sizeOf_list_dec
  | (with_reducible apply ixLm) <;> sizeOf_list_dec
  | (with_reducible apply ixT) <;> sizeOf_list_dec
  | (with_reducible apply ixL) <;> sizeOf_list_dec
  | (with_reducible apply ixRm) <;> first | rfl | sizeOf_list_dec
  | (with_reducible apply ixR) <;> sizeOf_list_dec
  | with_reducible exact boolsOf_map _
  | with_reducible exact intsOf_map _
  | with_reducible exact strsOf_map _
  | with_reducible exact allP_map _
  | with_reducible exact allP_mapc _ _
  | with_reducible exact allP_maps _
  | with_reducible exact allP_fun _ _
  | with_reducible exact boolsOf_mapf _ _
  | (with_reducible apply qStN) <;> sizeOf_list_dec
  | rfl
  | omega
  | (simp only [List.length_map, List.length_append, List.length_cons, List.length_nil, List.length_range]; omega)
  | decide)
local macro_rules | `(tactic| array_get_dec) => `(tactic| first
  | ((with_reducible apply st_set); (· array_mem_dec); (· rfl); (try dsimp only [List.set_cons_succ, List.set_cons_zero]))
  | ((with_reducible apply st_iffF); (· array_mem_dec); (· first | rfl | (simp; done) | (simp; omega)))
  | ((with_reducible apply st_par2); (· array_mem_dec); (· array_mem_dec); (· rfl); (· rfl); (try dsimp only [List.set_cons_succ, List.set_cons_zero]))
  | ((with_reducible apply st_par3); (· array_mem_dec); (· array_mem_dec); (· array_mem_dec); (· rfl); (· rfl); (· rfl); (try dsimp only [List.set_cons_succ, List.set_cons_zero]))
  | ((with_reducible apply st_unp2); (· array_mem_dec); (· rfl); (· rfl); (try dsimp only [List.set_cons_succ, List.set_cons_zero]))
  | ((with_reducible apply st_unp3); (· array_mem_dec); (· rfl); (· rfl); (· rfl); (try dsimp only [List.set_cons_succ, List.set_cons_zero]))
  | ((with_reducible apply st_unp4); (· array_mem_dec); (· rfl); (· rfl); (· rfl); (· rfl); (try dsimp only [List.set_cons_succ, List.set_cons_zero]))
  | ((with_reducible apply st_unp5); (· array_mem_dec); (· rfl); (try dsimp only [List.set_cons_succ, List.set_cons_zero]))
  | ((with_reducible apply st_aug); (· rfl); (· array_mem_dec); (· sizeOf_list_dec); (· rfl); (try dsimp only [List.set_cons_succ, List.set_cons_zero]))
  | ((with_reducible apply st_setix); (· array_mem_dec); (· array_mem_dec); (· array_mem_dec); (· sizeOf_list_dec))
  | ((with_reducible apply st_augix); (· array_mem_dec); (· array_mem_dec); (· sizeOf_list_dec); (· array_mem_dec); (· sizeOf_list_dec); (· sizeOf_list_dec))
  | ((with_reducible apply st_ex); (· array_mem_dec))
  | ((with_reducible apply st_ret); (· array_mem_dec))
  | with_reducible apply st_retN
  | with_reducible apply st_pass
  | with_reducible apply st_brk
  | with_reducible apply st_cont
  | with_reducible apply st_nil
  | with_reducible apply st_go)
/-! CAT -/
/-! ### names -/
def kept : List Str := ["wall", "state", "first", "inner", "last", "rule", "never", "may", "begin", "none"]
abbrev small : Str := "abcdefghijklmnopqrstuvwxyz"
abbrev smallfig : Str := "abcdefghijklmnopqrstuvwxyz0123456789"
def kd : PyData → Bool
  | .dict _ => false
  | _ => true
def isS : PyData → Bool
  | .str _ => true
  | _ => false
def isT : PyData → Bool
  | .tuple _ => true
  | _ => false
def TH : PyData → Prop
  | .tuple ds => (∀ d ∈ ds, kd d = true) ∧ ds.length ≤ 100
  | .dict _ => False
  | _ => True
theorem all_strs : ∀ {ds : List PyData}, ds.all isS = true → ∃ ws : List Str, ds = ws.map .str
  | [], _ => ⟨[], rfl⟩
  | d :: ds, h => by
    simp only [List.all_cons, Bool.and_eq_true] at h
    obtain ⟨ws, rfl⟩ := all_strs h.2
    cases d with
    | str s => exact ⟨s :: ws, rfl⟩
    | _ => cases h.1
theorem isS_ev {Φ : Calls} {env : Sl} {st : Store} {a : E} {d : PyData} (hd : kd d = true) (ha : ev Φ a env st = .ok (.p d) st) : ev Φ (.o1 (.isin [.str]) a) env st = .ok (.p (.bool (isS d))) st := by
  have key : ∀ (t : Ty) {k : Bool}, tyOf (.p d) st = some t → isTy t .str = k → ev Φ (.o1 (.isin [.str]) a) env st = .ok (.p (.bool k)) st := fun t k h hk => by
    refine ev_to (o1_at ha (q_isin h)) ?_
    rw [← hk]
    simp
  cases d with
  | dict _ => cases hd
  | str s => exact key .str (by rfl) (by rfl)
  | none => exact key .none (by rfl) (by rfl)
  | bool _ => exact key .bool (by rfl) (by rfl)
  | int _ => exact key .int (by rfl) (by rfl)
  | list _ => exact key .list (by rfl) (by rfl)
  | tuple _ => exact key .tuple (by rfl) (by rfl)
theorem isT_ev {Φ : Calls} {env : Sl} {st : Store} {a : E} {d : PyData} (hd : kd d = true) (ha : ev Φ a env st = .ok (.p d) st) : ev Φ (.o1 (.isin [.tuple]) a) env st = .ok (.p (.bool (isT d))) st := by
  have key : ∀ (t : Ty) {k : Bool}, tyOf (.p d) st = some t → isTy t .tuple = k → ev Φ (.o1 (.isin [.tuple]) a) env st = .ok (.p (.bool k)) st := fun t k h hk => by
    refine ev_to (o1_at ha (q_isin h)) ?_
    rw [← hk]
    simp
  cases d with
  | dict _ => cases hd
  | str s => exact key .str (by rfl) (by rfl)
  | none => exact key .none (by rfl) (by rfl)
  | bool _ => exact key .bool (by rfl) (by rfl)
  | int _ => exact key .int (by rfl) (by rfl)
  | list _ => exact key .list (by rfl) (by rfl)
  | tuple _ => exact key .tuple (by rfl) (by rfl)
theorem TH.kd : ∀ {t : PyData}, TH t → Lw.kd t = true
  | .tuple _, _ => rfl
  | .dict _, h => h.elim
  | .none, _ => rfl
  | .bool _, _ => rfl
  | .int _, _ => rfl
  | .str _, _ => rfl
  | .list _, _ => rfl
theorem str_len (x : Str) : x.cps.toList.length = x.length := by simp [Str.length]
abbrev sg (c : Nat) : Str := ⟨#[c]⟩
def firstS (s : Str) : Bool := match s.cps.toList with
  | c :: _ => inStr (sg c) small
  | [] => false
def lenOk (s : Str) : Bool := decide ((1 : Int) ≤ (s.length : Int)) && decide ((s.length : Int) ≤ 8)
def isNm : PyData → Bool
  | .str s => lenOk s && (!decide (s ∈ kept) && (firstS s && s.cps.toList.all fun c => inStr (sg c) smallfig))
  | _ => false
theorem walk_str {s : Str} {st : Store} : walkOf 0 [.p (.str s)] st = some (s.cps.toList.map fun c => It.one (.p (.str (sg c)))) := rfl
theorem in_str {x y : Str} {st : Store} : op2 .inn (.p (.str x)) (.p (.str y)) st = .ok (.p (.bool (inStr x y))) st := inn_at rfl
theorem nin_str {x y : Str} {st : Store} : op2 .nin (.p (.str x)) (.p (.str y)) st = .ok (.p (.bool (!inStr x y))) st := nin_at rfl
theorem first_at {s : Str} {c : Nat} {r : List Nat} {st : Store} (h : s.cps.toList = c :: r) : getIx (.p (.str s)) (.p (.int 0)) st = some (.p (.str (sg c))) := by
  show (((ixOf s.cps.toList.length 0).bind fun j => s.cps.toList[j]?).map fun c => D.p (.str ⟨#[c]⟩)) = _
  rw [h]
  have e : ixOf (c :: r).length 0 = some 0 := by
    unfold ixOf
    rw [if_pos (by decide), if_pos (by simp)]
    rfl
  rw [e]
  rfl
theorem lenOk_cons {s : Str} (h : lenOk s = true) : ∃ c r, s.cps.toList = c :: r := by
  unfold lenOk at h
  rw [Bool.and_eq_true, decide_eq_true_eq, decide_eq_true_eq] at h
  cases e : s.cps.toList with
  | nil =>
    have := str_len s
    rw [e] at this
    simp at this
    omega
  | cons c r => exact ⟨c, r, rfl⟩
theorem lenOk_le {s : Str} (h : lenOk s = true) : s.cps.toList.length ≤ 8 := by
  unfold lenOk at h
  rw [Bool.and_eq_true, decide_eq_true_eq, decide_eq_true_eq] at h
  rw [str_len]
  omega
theorem len_str {s : Str} {st : Store} : op1 .len (.p (.str s)) st = .ok (.p (.int (s.length : Int))) st := rfl
theorem kept_in {s : Str} {st : Store} : op2 .inn (.p (.str s)) (.p (.tuple [.str "wall", .str "state", .str "first", .str "inner", .str "last", .str "rule", .str "never", .str "may", .str "begin", .str "none"])) st = .ok (.p (.bool (decide (s ∈ kept)))) st := q_inTS (ws := kept)
/-- the two signs of a name's length and of a word that is kept -/
theorem or3_no {Φ : Calls} {env : Sl} {st : Store} {a b c : E} {es : List E} (ha : ev Φ a env st = .ok (.p (.bool true)) st) : ev Φ (.orr (a :: b :: es)) env st = .ok (.p (.bool true)) st :=
  ev_to (orr_at (orC (k := true) (m := true) ha (fun h => by cases h))) rfl
theorem or3_no2 {Φ : Calls} {env : Sl} {st : Store} {a b c : E} {es : List E} (ha : ev Φ a env st = .ok (.p (.bool false)) st) (hb : ev Φ b env st = .ok (.p (.bool true)) st) : ev Φ (.orr (a :: b :: c :: es)) env st = .ok (.p (.bool true)) st :=
  ev_to (orr_at (orC (k := false) (m := true) ha (fun _ => ((orC (k := true) (m := true) hb (fun h => by cases h)) : evOr Φ (b :: c :: es) env st = .ok (.p (.bool (true || true))) st)))) rfl
theorem is_name_ok (n : Nat) (t : PyData) (ht : kd t = true) : Gives F (n + 1) f_is_name [t] (.bool (isNm t)) := by
  refine Gives.of ?_
  rw [wp_call (d := d_is_name) rfl ⟨rfl, by decide⟩]
  show wpR (exB (callF F n) b_is_name [some (.p t), none] []) _
  unfold b_is_name
  have v0 : ev (callF F n) (.var 0) [some (.p t), none] [] = .ok (.p t) [] := var_at rfl
  have i1 := isS_ev ht v0
  cases hs : isS t with
  | false =>
    rw [hs] at i1
    have i2 : ev (callF F n) (.o1 .nt (.o1 (.isin [.str]) (.var 0))) [some (.p t), none] [] = .ok (.p (.bool true)) [] := o1_at i1 q_nt
    refine st_iffT (or3_no (c := .var 0) i2) rfl (st_ret ev_c ?_)
    have : isNm t = false := by cases t <;> first | rfl | cases hs
    rw [this]
    rfl
  | true =>
    obtain ⟨s, rfl⟩ : ∃ s, t = .str s := by cases t <;> first | exact ⟨_, rfl⟩ | cases hs
    rw [hs] at i1
    have i2 : ev (callF F n) (.o1 .nt (.o1 (.isin [.str]) (.var 0))) [some (.p (.str s)), none] [] = .ok (.p (.bool false)) [] := o1_at i1 q_nt
    have l1 := len_str (s := s) (st := [])
    have k1 := kept_in (s := s) (st := [])
    have i3 : ev (callF F n) (.o1 .nt (.chain .le .le (.c (.int 1)) (.o1 .len (.var 0)) (.c (.int 8)))) [some (.p (.str s)), none] [] = .ok (.p (.bool (!lenOk s))) [] := by array_mem_dec
    cases hl : lenOk s with
    | false =>
      rw [hl] at i3
      refine st_iffT (or3_no2 i2 i3) rfl (st_ret ev_c ?_)
      show thaw (.p (.bool false)) [] = some (.bool (lenOk s && _))
      rw [hl]
      rfl
    | true =>
      rw [hl] at i3
      obtain ⟨c, r, hcr⟩ := lenOk_cons hl
      have f1 := first_at (st := []) hcr
      refine st_iff (by array_mem_dec) (fun h => ?_) (fun h => ?_)
      · simp only [Bool.not_true, Bool.false_or, decide_eq_true_eq] at h
        refine st_ret ev_c ?_
        show thaw (.p (.bool false)) [] = some (.bool (lenOk s && (!decide (s ∈ kept) && _)))
        rw [decide_eq_true h, hl]
        rfl
      · simp only [Bool.not_true, Bool.false_or, decide_eq_false_iff_not] at h
        refine st_nil (st_go ?_)
        have a1 : op2 .add (.p (.str "abcdefghijklmnopqrstuvwxyz")) (.p (.str "0123456789")) [] = .ok (.p (.str smallfig)) [] := by
          refine (q_addS (by decide)).trans ?_
          have : (("abcdefghijklmnopqrstuvwxyz" : Str) ++ ("0123456789" : Str)) = smallfig := by decide
          rw [this]
        have hc : ev (callF F n) (.comp false (.o2 .inn (.var 1) (.o2 .add (.g "SMALL" (.str "abcdefghijklmnopqrstuvwxyz")) (.g "FIGURES" (.str "0123456789")))) (.one 1) 0 [.var 0] []) [some (.p (.str s)), none] [] = .ok (.p (.list (s.cps.toList.map fun c => PyData.bool (inStr (sg c) smallfig)))) [] :=
          compN0 (fun c => PyData.bool (inStr (sg c) smallfig)) (by array_mem_dec) walk_str rfl (fun c _ => ⟨[some (.p (.str s)), some (.p (.str (sg c)))], rfl, by
            have s1 := in_str (x := sg c) (y := smallfig) (st := [])
            array_mem_dec⟩) (by have := lenOk_le hl; omega)
        have s2 := in_str (x := sg c) (y := small) (st := [])
        have hb : boolsOf (s.cps.toList.map fun c => PyData.bool (inStr (sg c) smallfig)) = some (s.cps.toList.map fun c => inStr (sg c) smallfig) := boolsOf_mapf _ _
        have e2 : ev (callF F n) (.o2 .inn (.o2 .ix (.var 0) (.c (.int 0))) (.g "SMALL" (.str "abcdefghijklmnopqrstuvwxyz"))) [some (.p (.str s)), none] [] = .ok (.p (.bool (inStr (sg c) small))) [] := o2_at (x := .p (.str (sg c))) (by array_mem_dec) rfl (by array_mem_dec) s2
        refine st_ret (by array_mem_dec) ?_
        show thaw (.p (.bool (inStr (sg c) small && _))) [] = some (.bool (lenOk s && (!decide (s ∈ kept) && (firstS s && _))))
        have e3 : firstS s = inStr (sg c) small := by unfold firstS; rw [hcr]
        rw [decide_eq_false h, hl, e3, List.all_map]
        rfl
theorem cnt_all {α β : Type} (p : α → Bool) (f : α → β) (l : List α) : decide (((((l.filter fun c => !p c).map f).length : Nat) : Int) = 0) = l.all p := by
  rw [Bool.eq_iff_iff]
  simp
theorem name_due_ok (n : Nat) (t : PyData) (ht : kd t = true) : Gives F (n + 1) f__law_name_due [t] (.bool (isNm t)) := by
  refine Gives.of ?_
  rw [wp_call (d := d__law_name_due) rfl ⟨rfl, by decide⟩]
  show wpR (exB (callF F n) b__law_name_due [some (.p t), none, none] []) _
  unfold b__law_name_due
  array_get_dec
  obtain ⟨W, hW⟩ : ∃ W : PyData, W = .tuple [.str "wall", .str "state", .str "first", .str "inner", .str "last", .str "rule", .str "never", .str "may", .str "begin", .str "none"] := ⟨_, rfl⟩
  rw [← hW]
  have v0 : ev (callF F n) (.var 0) [some (.p t), some (.p W), none] [] = .ok (.p t) [] := var_at rfl
  have i1 := isS_ev ht v0
  cases hs : isS t with
  | false =>
    rw [hs] at i1
    have i2 : ev (callF F n) (.o1 .nt (.o1 (.isin [.str]) (.var 0))) [some (.p t), some (.p W), none] [] = .ok (.p (.bool true)) [] := o1_at i1 q_nt
    refine st_iffT (or3_no (c := .var 0) i2) rfl (st_ret ev_c ?_)
    have : isNm t = false := by cases t <;> first | rfl | cases hs
    rw [this]
    rfl
  | true =>
    obtain ⟨s, rfl⟩ : ∃ s, t = .str s := by cases t <;> first | exact ⟨_, rfl⟩ | cases hs
    rw [hs] at i1
    have i2 : ev (callF F n) (.o1 .nt (.o1 (.isin [.str]) (.var 0))) [some (.p (.str s)), some (.p W), none] [] = .ok (.p (.bool false)) [] := o1_at i1 q_nt
    have l1 := len_str (s := s) (st := [])
    have k1 := kept_in (s := s) (st := [])
    rw [← hW] at k1
    have i3 : ev (callF F n) (.o1 .nt (.chain .le .le (.c (.int 1)) (.o1 .len (.var 0)) (.c (.int 8)))) [some (.p (.str s)), some (.p W), none] [] = .ok (.p (.bool (!lenOk s))) [] := by array_mem_dec
    cases hl : lenOk s with
    | false =>
      rw [hl] at i3
      refine st_iffT (or3_no2 i2 i3) rfl (st_ret ev_c ?_)
      show thaw (.p (.bool false)) [] = some (.bool (lenOk s && _))
      rw [hl]
      rfl
    | true =>
      rw [hl] at i3
      obtain ⟨c, r, hcr⟩ := lenOk_cons hl
      have f1 := first_at (st := []) hcr
      have e3 : firstS s = inStr (sg c) small := by unfold firstS; rw [hcr]
      have s2 := nin_str (x := sg c) (y := small) (st := [])
      have e2 : ev (callF F n) (.o2 .nin (.o2 .ix (.var 0) (.c (.int 0))) (.c (.str "abcdefghijklmnopqrstuvwxyz"))) [some (.p (.str s)), some (.p W), none] [] = .ok (.p (.bool (!inStr (sg c) small))) [] := o2_at (x := .p (.str (sg c))) (by array_mem_dec) rfl (by array_mem_dec) s2
      refine st_iff (by array_mem_dec) (fun h => ?_) (fun h => ?_)
      · refine st_ret ev_c ?_
        show thaw (.p (.bool false)) [] = some (.bool (lenOk s && (!decide (s ∈ kept) && (firstS s && _))))
        rw [e3, hl]
        simp only [Bool.not_true, Bool.false_or, Bool.or_eq_true, decide_eq_true_eq, Bool.not_eq_true'] at h
        rcases h with h | h
        · rw [decide_eq_true h]; rfl
        · rw [h]; simp [thaw]
      · simp only [Bool.not_true, Bool.false_or, Bool.or_eq_false_iff, decide_eq_false_iff_not, Bool.not_eq_false'] at h
        refine st_nil (st_go ?_)
        have hc : ev (callF F n) (.comp false (.var 2) (.one 2) 0 [.var 0] [.o2 .nin (.var 2) (.c (.str "abcdefghijklmnopqrstuvwxyz0123456789"))]) [some (.p (.str s)), some (.p W), none] [] = .ok (.p (.list ((s.cps.toList.filter fun c => !inStr (sg c) smallfig).map fun c => PyData.str (sg c)))) [] :=
          compN (fun c => !inStr (sg c) smallfig) (fun c => PyData.str (sg c)) (by array_mem_dec) walk_str rfl (fun c _ => ⟨[some (.p (.str s)), some (.p W), some (.p (.str (sg c)))], rfl, by
            have s1 := nin_str (x := sg c) (y := smallfig) (st := [])
            exact an1 (o2_at (x := .p (.str (sg c))) (by array_mem_dec) rfl (by array_mem_dec) s1), fun _ => by array_mem_dec⟩) (by have := lenOk_le hl; omega)
        refine st_ret (by array_mem_dec) ?_
        show thaw (.p (.bool (decide _))) [] = some (.bool (lenOk s && (!decide (s ∈ kept) && (firstS s && _))))
        rw [e3, hl, decide_eq_false h.1, h.2]
        show some (PyData.bool _) = some (PyData.bool _)
        congr 2
        exact cnt_all _ _ _
theorem zip_drop {α : Type} (d : α) (l : List α) : l.zip (l.drop 1) = (List.range (l.length - 1)).map fun j => (l.getD j d, l.getD (j + 1) d) := by
  refine List.ext_getElem? fun i => ?_
  rw [List.getElem?_map]
  by_cases h : i < l.length - 1
  · rw [List.getElem?_range h, List.getElem?_eq_getElem (by simp; omega)]
    simp only [List.getElem_zip, List.getElem_drop, Option.map_some, List.getD_eq_getElem?_getD]
    rw [List.getElem?_eq_getElem (by omega), List.getElem?_eq_getElem (by omega)]
    simp [Nat.add_comm]
  · rw [List.getElem?_eq_none (by simp; omega), List.getElem?_eq_none (by simp; omega)]
    rfl
def rise {α : Type} (lt : α → α → Bool) (l : List α) : Bool := (l.zip (l.drop 1)).all fun p => lt p.1 p.2
theorem rise_count {α : Type} (d : α) (lt : α → α → Bool) (l : List α) : decide ((((((List.range (l.length - 1)).filter fun j => !lt (l.getD j d) (l.getD (j + 1) d)).map fun (j : Nat) => PyData.int ((j + 1 : Nat) : Int)).length : Nat) : Int) = 0) = rise lt l := by
  unfold rise
  rw [zip_drop d, List.all_map, Bool.eq_iff_iff]
  simp
theorem range_1 {n : Nat} {st : Store} (h : n ≤ 1000000) : walkOf 1 [.p (.int 1), .p (.int (n : Int))] st = some ((List.range (n - 1)).map fun (j : Nat) => It.one (.p (.int ((j + 1 : Nat) : Int)))) := by
  rw [walk_range2 (by omega) (by omega) (by omega) (by omega)]
  have key : ∀ (m k : Nat), rangeI ((k + 1 : Nat) : Int) 1 m = (List.range' k m).map fun (j : Nat) => It.one (.p (.int ((j + 1 : Nat) : Int))) := by
    intro m
    induction m with
    | zero => intro k; rfl
    | succ m ih =>
      intro k
      rw [List.range'_succ, List.map_cons, ← ih (k + 1)]
      rfl
  have := key (n - 1) 0
  rw [List.range_eq_range', ← this, show ((n : Int) - 1).toNat = n - 1 by omega]
  rfl
end Lw
namespace Lw
open PySem Dn
/-! TAC -/
local macro_rules | `(tactic| array_mem_dec) => `(tactic| first
  | with_reducible assumption
  | with_reducible exact ev_c
  | with_reducible exact evs_nil
  | with_reducible exact evO_n
  | with_reducible exact ev_gE
  | (with_reducible apply var_at) <;> rfl
  | (with_reducible apply evs_at) <;> array_mem_dec
  | ((with_reducible apply o2_at); (· array_mem_dec); (· sizeOf_list_dec); (· array_mem_dec); (· sizeOf_list_dec))
  | ((with_reducible apply o1_at); (· array_mem_dec); (· sizeOf_list_dec))
  | ((with_reducible apply o3_at); (· array_mem_dec); (· sizeOf_list_dec); (· array_mem_dec); (· array_mem_dec); (· sizeOf_list_dec))
  | (with_reducible apply callE) <;> array_mem_dec
  | ((with_reducible apply callkE); (· array_mem_dec); (· rfl); (· array_mem_dec))
  | ((with_reducible apply tupE); (· array_mem_dec); (· sizeOf_list_dec); (· sizeOf_list_dec))
  | ((with_reducible apply lstE); (· array_mem_dec); (· sizeOf_list_dec); (· sizeOf_list_dec))
  | (with_reducible apply an_at) <;> array_mem_dec
  | (with_reducible apply orr_at) <;> array_mem_dec
  | (with_reducible apply an1) <;> array_mem_dec
  | (with_reducible apply or1) <;> array_mem_dec
  | (with_reducible apply anC) <;> (try intro _) <;> array_mem_dec
  | (with_reducible apply orC) <;> (try intro _) <;> array_mem_dec
  | (with_reducible apply ite_v) <;> (try intro _) <;> array_mem_dec
  | ((with_reducible apply chain_v); (· array_mem_dec); (· array_mem_dec); (· sizeOf_list_dec); (· intro _; array_mem_dec); (· sizeOf_list_dec))
  | ((with_reducible apply slE); (· array_mem_dec); (· array_mem_dec); (· array_mem_dec); (· sizeOf_list_dec))
  | ((with_reducible apply rvE); (· array_mem_dec); (· sizeOf_list_dec))
  | (with_reducible apply evO_at) <;> array_mem_dec
  | ((with_reducible apply lst_at); (· array_mem_dec); (· sizeOf_list_dec))
  | ((with_reducible apply dicE); (· array_mem_dec); (· rfl); (· rfl))
  | ((with_reducible apply callD_g); (· sizeOf_list_dec); (· with_reducible assumption)))
local macro_rules | `(tactic| sizeOf_list_dec) => `(tactic| first
  | with_reducible assumption
  | with_reducible rfl
  | with_reducible exact op2_add_i
  | with_reducible exact op2_sub_i
  | with_reducible exact q_ltI
  | with_reducible exact q_leI
  | with_reducible exact q_gtI
  | with_reducible exact q_geI
  | with_reducible exact q_eqI
  | with_reducible exact q_eqS
  | with_reducible exact q_neI
  | with_reducible exact q_neS
  | with_reducible exact q_eqB
  | with_reducible exact q_neB
  | with_reducible exact q_inTS
  | with_reducible exact q_inLS
  | with_reducible exact q_ninTS
  | with_reducible exact q_ninLS
  | with_reducible exact q_inTI
  | with_reducible exact q_inLI
  | with_reducible exact q_mx
  | with_reducible exact q_mn
  | with_reducible exact q_nt
  | with_reducible exact q_neg
  | with_reducible exact q_lenT
  | with_reducible exact q_lenL
  | with_reducible exact q_abs
  | with_reducible exact q_intI
  | with_reducible exact q_intB
  | with_reducible exact q_tupT
  | with_reducible exact q_tupL
  | with_reducible exact q_isN
  | (with_reducible apply q_lenR) <;> sizeOf_list_dec
  | (with_reducible apply q_ix) <;> sizeOf_list_dec
  | (with_reducible apply q_ixD) <;> sizeOf_list_dec
  | (with_reducible apply q_mod) <;> sizeOf_list_dec
  | (with_reducible apply q_fdv) <;> sizeOf_list_dec
  | (with_reducible apply q_mul) <;> first | exact mulOk_R rfl | exact mulOk_L rfl | sizeOf_list_dec
  | (with_reducible apply q_mulT1) <;> sizeOf_list_dec
  | (with_reducible apply q_addT) <;> sizeOf_list_dec
  | (with_reducible apply q_addL) <;> sizeOf_list_dec
  | (with_reducible apply q_addRL) <;> sizeOf_list_dec
  | (with_reducible apply q_addS) <;> sizeOf_list_dec
  | (with_reducible apply q_isin) <;> sizeOf_list_dec
  | (with_reducible apply q_all) <;> sizeOf_list_dec
  | (with_reducible apply q_any) <;> sizeOf_list_dec
  | (with_reducible apply q_sum) <;> sizeOf_list_dec
  | (with_reducible apply q_tupr) <;> sizeOf_list_dec
  | (with_reducible apply q_tupR) <;> sizeOf_list_dec
  | (with_reducible apply q_indxT) <;> sizeOf_list_dec
  | (with_reducible apply q_app) <;> sizeOf_list_dec
  | (with_reducible apply q_ext) <;> sizeOf_list_dec
  | (with_reducible apply q_frz) <;> sizeOf_list_dec
  | (with_reducible apply q_popR) <;> sizeOf_list_dec
  | (with_reducible apply q_pop0) <;> sizeOf_list_dec
  | with_reducible exact q_slT
  | (with_reducible apply q_slL) <;> sizeOf_list_dec
  | (with_reducible apply q_slR) <;> first | rfl | sizeOf_list_dec
  | (with_reducible apply q_ins0) <;> sizeOf_list_dec
  | (with_reducible apply q_popiM) <;> first | rfl | sizeOf_list_dec
  | with_reducible exact getIx_0
  | with_reducible exact getIx_1
  | (with_reducible apply ixTm) <;> sizeOf_list_dec
  | (with_reducible apply ixLm) <;> sizeOf_list_dec
  | (with_reducible apply ixT) <;> sizeOf_list_dec
  | (with_reducible apply ixL) <;> sizeOf_list_dec
  | (with_reducible apply ixRm) <;> first | rfl | sizeOf_list_dec
  | (with_reducible apply ixR) <;> sizeOf_list_dec
  | with_reducible exact boolsOf_map _
  | with_reducible exact intsOf_map _
  | with_reducible exact strsOf_map _
  | with_reducible exact allP_map _
  | with_reducible exact allP_mapc _ _
  | with_reducible exact allP_maps _
  | with_reducible exact allP_fun _ _
  | with_reducible exact boolsOf_mapf _ _
  | (with_reducible apply qStN) <;> sizeOf_list_dec
  | rfl
  | omega
  | (simp only [List.length_map, List.length_append, List.length_cons, List.length_nil, List.length_range]; omega)
  | decide)
local macro_rules | `(tactic| array_get_dec) => `(tactic| first
  | ((with_reducible apply st_set); (· array_mem_dec); (· rfl); (try dsimp only [List.set_cons_succ, List.set_cons_zero]))
  | ((with_reducible apply st_iffF); (· array_mem_dec); (· first | rfl | (simp; done) | (simp; omega)))
  | ((with_reducible apply st_par2); (· array_mem_dec); (· array_mem_dec); (· rfl); (· rfl); (try dsimp only [List.set_cons_succ, List.set_cons_zero]))
  | ((with_reducible apply st_par3); (· array_mem_dec); (· array_mem_dec); (· array_mem_dec); (· rfl); (· rfl); (· rfl); (try dsimp only [List.set_cons_succ, List.set_cons_zero]))
  | ((with_reducible apply st_unp2); (· array_mem_dec); (· rfl); (· rfl); (try dsimp only [List.set_cons_succ, List.set_cons_zero]))
  | ((with_reducible apply st_unp3); (· array_mem_dec); (· rfl); (· rfl); (· rfl); (try dsimp only [List.set_cons_succ, List.set_cons_zero]))
  | ((with_reducible apply st_unp4); (· array_mem_dec); (· rfl); (· rfl); (· rfl); (· rfl); (try dsimp only [List.set_cons_succ, List.set_cons_zero]))
  | ((with_reducible apply st_unp5); (· array_mem_dec); (· rfl); (try dsimp only [List.set_cons_succ, List.set_cons_zero]))
  | ((with_reducible apply st_aug); (· rfl); (· array_mem_dec); (· sizeOf_list_dec); (· rfl); (try dsimp only [List.set_cons_succ, List.set_cons_zero]))
  | ((with_reducible apply st_setix); (· array_mem_dec); (· array_mem_dec); (· array_mem_dec); (· sizeOf_list_dec))
  | ((with_reducible apply st_augix); (· array_mem_dec); (· array_mem_dec); (· sizeOf_list_dec); (· array_mem_dec); (· sizeOf_list_dec); (· sizeOf_list_dec))
  | ((with_reducible apply st_ex); (· array_mem_dec))
  | ((with_reducible apply st_ret); (· array_mem_dec))
  | with_reducible apply st_retN
  | with_reducible apply st_pass
  | with_reducible apply st_brk
  | with_reducible apply st_cont
  | with_reducible apply st_nil
  | with_reducible apply st_go)
/-! CAT -/
abbrev eW (w : List Str) : PyData := .tuple (w.map .str)
def sV : PyData → Str
  | .str s => s
  | _ => ""
theorem sV_map (ws : List Str) : (ws.map PyData.str).map sV = ws := by
  rw [List.map_map]
  exact List.map_id' ws
def isNms : PyData → Bool
  | .tuple ds => ds.all isNm && rise strLt (ds.map sV)
  | _ => false
theorem nm_str {d : PyData} (h : isNm d = true) : isS d = true := by cases d <;> first | rfl | cases h
theorem nms_strs {ds : List PyData} (h : ds.all isNm = true) : ∃ ws : List Str, ds = ws.map .str := all_strs (List.all_eq_true.mpr fun d hd => nm_str (List.all_eq_true.mp h d hd))
theorem walk_tup1 {ds : List PyData} {st : Store} : walkOf 0 [.p (.tuple ds)] st = some (ds.map fun x => It.one (.p x)) := by
  have := walk_tupN (f := fun x : PyData => x) (l := ds) (st := st)
  rw [List.map_id'] at this
  exact this
theorem walk_zipL {α β : Type} {f : α → PyData} {g : β → PyData} {l : List α} {m : List β} {st : Store} : walkOf 3 [.p (.list (l.map f)), .p (.list (m.map g))] st = some ((l.zip m).map fun x => It.two (.p (f x.1)) (.p (g x.2))) := by
  have h := walk_zipT (f := f) (g := g) (l := l) (m := m) (st := st)
  exact h
theorem ltS {u v : Str} {st : Store} : op2 .lt (.p (.str u)) (.p (.str v)) st = .ok (.p (.bool (strLt u v))) st := rfl
theorem allQ {bs : List Bool} {st : Store} {α : Type} {l : List α} {p : α → Bool} : op1 .all (.p (.list (l.map fun a => PyData.bool (p a)))) st = .ok (.p (.bool (l.all p))) st := by
  rw [q_all (bs := l.map p) (boolsOf_mapf _ _), List.all_map]
  rfl
theorem is_names_ok (n : Nat) (t : PyData) (ht : TH t) : Gives F (n + 2) f_is_names [t] (.bool (isNms t)) := by
  refine Gives.of ?_
  rw [wp_call (d := d_is_names) rfl ⟨rfl, by decide⟩]
  show wpR (exB (callF F (n + 1)) b_is_names [some (.p t), none, none, none] []) _
  unfold b_is_names
  have v0 : ev (callF F (n + 1)) (.var 0) [some (.p t), none, none, none] [] = .ok (.p t) [] := var_at rfl
  have i1 := isT_ev ht.kd v0
  cases hs : isT t with
  | false =>
    rw [hs] at i1
    have i2 : ev (callF F (n + 1)) (.o1 .nt (.o1 (.isin [.tuple]) (.var 0))) [some (.p t), none, none, none] [] = .ok (.p (.bool true)) [] := o1_at i1 q_nt
    refine st_iffT (or3_no (c := .var 0) i2) rfl (st_ret ev_c ?_)
    have : isNms t = false := by cases t <;> first | rfl | cases hs
    rw [this]
    rfl
  | true =>
    obtain ⟨ds, rfl⟩ : ∃ ds, t = .tuple ds := by cases t <;> first | exact ⟨_, rfl⟩ | cases hs
    obtain ⟨hk, hl⟩ := ht
    rw [hs] at i1
    have hc : ev (callF F (n + 1)) (.comp false (.call true 0 [.var 3]) (.one 3) 0 [.var 0] []) [some (.p (.tuple ds)), none, none, none] [] = .ok (.p (.list (ds.map fun d => PyData.bool (isNm d)))) [] :=
      compN0 (fun d => PyData.bool (isNm d)) (by array_mem_dec) walk_tup1 rfl (fun d hd => ⟨[some (.p (.tuple ds)), none, none, some (.p d)], rfl, by
        have c1 := is_name_ok n d (hk d hd)
        array_mem_dec⟩) (by omega)
    have a1 := allQ (bs := []) (st := []) (l := ds) (p := isNm)
    refine st_iff (by array_mem_dec) (fun h => ?_) (fun h => ?_)
    · simp only [Bool.not_true, Bool.false_or, Bool.not_eq_true'] at h
      refine st_ret ev_c ?_
      show thaw (.p (.bool false)) [] = some (.bool (ds.all isNm && _))
      rw [h]
      rfl
    · simp only [Bool.not_true, Bool.false_or, Bool.not_eq_false'] at h
      refine st_nil (st_go ?_)
      obtain ⟨ws, rfl⟩ := nms_strs h
      have s1 : ev (callF F (n + 1)) (.sl false (.var 0) (.some (.c (.int 1))) .none) [some (.p (.tuple (ws.map .str))), none, none, none] [] = .ok (.p (.tuple ((ws.drop 1).map .str))) [] := by
        refine ev_to (by array_mem_dec) ?_
        rw [show (some (1 : Int)) = some ((1 : Nat) : Int) from rfl, cut_from, List.map_drop]
      have hc2 : ev (callF F (n + 1)) (.comp false (.o2 .lt (.var 1) (.var 2)) (.many [1, 2]) 3 [.var 0, .sl false (.var 0) (.some (.c (.int 1))) .none] []) [some (.p (.tuple (ws.map .str))), none, none, none] [] = .ok (.p (.list ((ws.zip (ws.drop 1)).map fun p => PyData.bool (strLt p.1 p.2)))) [] :=
        compN0 (fun p : Str × Str => PyData.bool (strLt p.1 p.2)) (by array_mem_dec) walk_zipT rfl (fun p _ => ⟨[some (.p (.tuple (ws.map .str))), some (.p (.str p.1)), some (.p (.str p.2)), none], rfl, by
          have := ltS (u := p.1) (v := p.2) (st := [])
          array_mem_dec⟩) (by rw [List.length_map] at hl; simp; omega)
      have a2 := allQ (bs := []) (st := []) (l := ws.zip (ws.drop 1)) (p := fun p : Str × Str => strLt p.1 p.2)
      refine st_ret (by array_mem_dec) ?_
      show thaw (.p (.bool _)) [] = some (.bool ((ws.map PyData.str).all isNm && rise strLt ((ws.map PyData.str).map sV)))
      rw [h, sV_map]
      rfl
theorem cnt_pos {α : Type} (p : α → Bool) (l : List α) : decide ((0 : Int) < (((((l.filter fun c => !p c).map fun _ => PyData.int 1).length : Nat) : Int))) = !l.all p := by
  rw [Bool.eq_iff_iff]
  simp
theorem names_due_ok (n : Nat) (t : PyData) (ht : TH t) : Gives F (n + 2) f__law_names_due [t] (.bool (isNms t)) := by
  refine Gives.of ?_
  rw [wp_call (d := d__law_names_due) rfl ⟨rfl, by decide⟩]
  show wpR (exB (callF F (n + 1)) b__law_names_due [some (.p t), none, none] []) _
  unfold b__law_names_due
  have v0 : ev (callF F (n + 1)) (.var 0) [some (.p t), none, none] [] = .ok (.p t) [] := var_at rfl
  have i1 := isT_ev ht.kd v0
  cases hs : isT t with
  | false =>
    rw [hs] at i1
    have i2 : ev (callF F (n + 1)) (.o1 .nt (.o1 (.isin [.tuple]) (.var 0))) [some (.p t), none, none] [] = .ok (.p (.bool true)) [] := o1_at i1 q_nt
    refine st_iffT (or3_no (c := .var 0) i2) rfl (st_ret ev_c ?_)
    have : isNms t = false := by cases t <;> first | rfl | cases hs
    rw [this]
    rfl
  | true =>
    obtain ⟨ds, rfl⟩ : ∃ ds, t = .tuple ds := by cases t <;> first | exact ⟨_, rfl⟩ | cases hs
    obtain ⟨hk, hl⟩ := ht
    rw [hs] at i1
    have hc : ev (callF F (n + 1)) (.comp false (.c (.int 1)) (.one 2) 0 [.var 0] [.o1 .nt (.call true 10 [.var 2])]) [some (.p (.tuple ds)), none, none] [] = .ok (.p (.list ((ds.filter fun d => !isNm d).map fun _ => PyData.int 1))) [] :=
      compN (fun d => !isNm d) (fun _ => PyData.int 1) (by array_mem_dec) walk_tup1 rfl (fun d hd => ⟨[some (.p (.tuple ds)), none, some (.p d)], rfl, by
        have c1 := name_due_ok n d (hk d hd)
        exact an1 (by array_mem_dec), fun _ => by array_mem_dec⟩) (by omega)
    refine st_iff (by array_mem_dec) (fun h => ?_) (fun h => ?_)
    · rw [cnt_pos] at h
      simp only [Bool.not_true, Bool.false_or, Bool.not_eq_true'] at h
      refine st_ret ev_c ?_
      show thaw (.p (.bool false)) [] = some (.bool (ds.all isNm && _))
      rw [h]
      rfl
    · rw [cnt_pos] at h
      simp only [Bool.not_true, Bool.false_or, Bool.not_eq_false'] at h
      refine st_nil (st_go ?_)
      obtain ⟨ws, rfl⟩ := nms_strs h
      rw [List.length_map] at hl
      have hc2 : ev (callF F (n + 1)) (.comp false (.var 1) (.one 1) 1 [.c (.int 1), .o1 .len (.var 0)] [.o1 .nt (.o2 .lt (.o2 .ix (.var 0) (.o2 .sub (.var 1) (.c (.int 1)))) (.o2 .ix (.var 0) (.var 1)))]) [some (.p (.tuple (ws.map .str))), none, none] [] = .ok (.p (.list (((List.range (ws.length - 1)).filter fun j => !strLt (ws.getD j "") (ws.getD (j + 1) "")).map fun (j : Nat) => PyData.int ((j + 1 : Nat) : Int)))) [] :=
        compN (fun j : Nat => !strLt (ws.getD j "") (ws.getD (j + 1) "")) (fun j : Nat => PyData.int ((j + 1 : Nat) : Int)) (st1 := []) (ds := [.p (.int 1), .p (.int (((ws.map PyData.str).length : Nat) : Int))]) (by array_mem_dec) (by rw [List.length_map]; exact range_1 (by omega)) rfl (fun j hj => ⟨[some (.p (.tuple (ws.map .str))), some (.p (.int ((j + 1 : Nat) : Int))), none], rfl, by
          have hj' := List.mem_range.mp hj
          have e1 : ev (callF F (n + 1)) (.o2 .sub (.var 1) (.c (.int 1))) [some (.p (.tuple (ws.map .str))), some (.p (.int ((j + 1 : Nat) : Int))), none] [] = .ok (.p (.int (j : Int))) [] := ev_to (by array_mem_dec) (by congr 2; omega)
          have g1 : getIx (.p (.tuple (ws.map PyData.str))) (.p (.int (j : Int))) [] = some (.p (.str (ws.getD j ""))) := by
            rw [ixTm (by omega), List.getD_eq_getElem?_getD, List.getElem?_eq_getElem (by omega)]
            rfl
          have g2 : getIx (.p (.tuple (ws.map PyData.str))) (.p (.int ((j + 1 : Nat) : Int))) [] = some (.p (.str (ws.getD (j + 1) ""))) := by
            rw [ixTm (by omega), List.getD_eq_getElem?_getD, List.getElem?_eq_getElem (by omega)]
            rfl
          have := ltS (u := ws.getD j "") (v := ws.getD (j + 1) "") (st := [])
          exact an1 (by array_mem_dec), fun _ => by array_mem_dec⟩) (by simp; omega)
      refine st_ret (by array_mem_dec) ?_
      show thaw (.p (.bool _)) [] = some (.bool ((ws.map PyData.str).all isNm && rise strLt ((ws.map PyData.str).map sV)))
      rw [h, sV_map, rise_count]
      rfl
end Lw
namespace Lw
open PySem Dn
/-! TAC -/
local macro_rules | `(tactic| array_mem_dec) => `(tactic| first
  | with_reducible assumption
  | with_reducible exact ev_c
  | with_reducible exact evs_nil
  | with_reducible exact evO_n
  | with_reducible exact ev_gE
  | (with_reducible apply var_at) <;> rfl
  | (with_reducible apply evs_at) <;> array_mem_dec
  | ((with_reducible apply o2_at); (· array_mem_dec); (· sizeOf_list_dec); (· array_mem_dec); (· sizeOf_list_dec))
  | ((with_reducible apply o1_at); (· array_mem_dec); (· sizeOf_list_dec))
  | ((with_reducible apply o3_at); (· array_mem_dec); (· sizeOf_list_dec); (· array_mem_dec); (· array_mem_dec); (· sizeOf_list_dec))
  | (with_reducible apply callE) <;> array_mem_dec
  | ((with_reducible apply callkE); (· array_mem_dec); (· rfl); (· array_mem_dec))
  | ((with_reducible apply tupE); (· array_mem_dec); (· sizeOf_list_dec); (· sizeOf_list_dec))
  | ((with_reducible apply lstE); (· array_mem_dec); (· sizeOf_list_dec); (· sizeOf_list_dec))
  | (with_reducible apply an_at) <;> array_mem_dec
  | (with_reducible apply orr_at) <;> array_mem_dec
  | (with_reducible apply an1) <;> array_mem_dec
  | (with_reducible apply or1) <;> array_mem_dec
  | (with_reducible apply anC) <;> (try intro _) <;> array_mem_dec
  | (with_reducible apply orC) <;> (try intro _) <;> array_mem_dec
  | (with_reducible apply ite_v) <;> (try intro _) <;> array_mem_dec
  | ((with_reducible apply chain_v); (· array_mem_dec); (· array_mem_dec); (· sizeOf_list_dec); (· intro _; array_mem_dec); (· sizeOf_list_dec))
  | ((with_reducible apply slE); (· array_mem_dec); (· array_mem_dec); (· array_mem_dec); (· sizeOf_list_dec))
  | ((with_reducible apply rvE); (· array_mem_dec); (· sizeOf_list_dec))
  | (with_reducible apply evO_at) <;> array_mem_dec
  | ((with_reducible apply lst_at); (· array_mem_dec); (· sizeOf_list_dec))
  | ((with_reducible apply dicE); (· array_mem_dec); (· rfl); (· rfl))
  | ((with_reducible apply callD_g); (· sizeOf_list_dec); (· with_reducible assumption)))
local macro_rules | `(tactic| sizeOf_list_dec) => `(tactic| first
  | with_reducible assumption
  | with_reducible rfl
  | with_reducible exact op2_add_i
  | with_reducible exact op2_sub_i
  | with_reducible exact q_ltI
  | with_reducible exact q_leI
  | with_reducible exact q_gtI
  | with_reducible exact q_geI
  | with_reducible exact q_eqI
  | with_reducible exact q_eqS
  | with_reducible exact q_neI
  | with_reducible exact q_neS
  | with_reducible exact q_eqB
  | with_reducible exact q_neB
  | with_reducible exact q_inTS
  | with_reducible exact q_inLS
  | with_reducible exact q_ninTS
  | with_reducible exact q_ninLS
  | with_reducible exact q_inTI
  | with_reducible exact q_inLI
  | with_reducible exact q_mx
  | with_reducible exact q_mn
  | with_reducible exact q_nt
  | with_reducible exact q_neg
  | with_reducible exact q_lenT
  | with_reducible exact q_lenL
  | with_reducible exact q_abs
  | with_reducible exact q_intI
  | with_reducible exact q_intB
  | with_reducible exact q_tupT
  | with_reducible exact q_tupL
  | with_reducible exact q_isN
  | (with_reducible apply q_lenR) <;> sizeOf_list_dec
  | (with_reducible apply q_ix) <;> sizeOf_list_dec
  | (with_reducible apply q_ixD) <;> sizeOf_list_dec
  | (with_reducible apply q_mod) <;> sizeOf_list_dec
  | (with_reducible apply q_fdv) <;> sizeOf_list_dec
  | (with_reducible apply q_mul) <;> first | exact mulOk_R rfl | exact mulOk_L rfl | sizeOf_list_dec
  | (with_reducible apply q_mulT1) <;> sizeOf_list_dec
  | (with_reducible apply q_addT) <;> sizeOf_list_dec
  | (with_reducible apply q_addL) <;> sizeOf_list_dec
  | (with_reducible apply q_addRL) <;> sizeOf_list_dec
  | (with_reducible apply q_addS) <;> sizeOf_list_dec
  | (with_reducible apply q_isin) <;> sizeOf_list_dec
  | (with_reducible apply q_all) <;> sizeOf_list_dec
  | (with_reducible apply q_any) <;> sizeOf_list_dec
  | (with_reducible apply q_sum) <;> sizeOf_list_dec
  | (with_reducible apply q_tupr) <;> sizeOf_list_dec
  | (with_reducible apply q_tupR) <;> sizeOf_list_dec
  | (with_reducible apply q_indxT) <;> sizeOf_list_dec
  | (with_reducible apply q_app) <;> sizeOf_list_dec
  | (with_reducible apply q_ext) <;> sizeOf_list_dec
  | (with_reducible apply q_frz) <;> sizeOf_list_dec
  | (with_reducible apply q_popR) <;> sizeOf_list_dec
  | (with_reducible apply q_pop0) <;> sizeOf_list_dec
  | with_reducible exact q_slT
  | (with_reducible apply q_slL) <;> sizeOf_list_dec
  | (with_reducible apply q_slR) <;> first | rfl | sizeOf_list_dec
  | (with_reducible apply q_ins0) <;> sizeOf_list_dec
  | (with_reducible apply q_popiM) <;> first | rfl | sizeOf_list_dec
  | with_reducible exact getIx_0
  | with_reducible exact getIx_1
  | (with_reducible apply ixTm) <;> sizeOf_list_dec
  | (with_reducible apply ixLm) <;> sizeOf_list_dec
  | (with_reducible apply ixT) <;> sizeOf_list_dec
  | (with_reducible apply ixL) <;> sizeOf_list_dec
  | (with_reducible apply ixRm) <;> first | rfl | sizeOf_list_dec
  | (with_reducible apply ixR) <;> sizeOf_list_dec
  | with_reducible exact boolsOf_map _
  | with_reducible exact intsOf_map _
  | with_reducible exact strsOf_map _
  | with_reducible exact allP_map _
  | with_reducible exact allP_mapc _ _
  | with_reducible exact allP_maps _
  | with_reducible exact allP_fun _ _
  | with_reducible exact boolsOf_mapf _ _
  | (with_reducible apply qStN) <;> sizeOf_list_dec
  | rfl
  | omega
  | (simp only [List.length_map, List.length_append, List.length_cons, List.length_nil, List.length_range]; omega)
  | decide)
local macro_rules | `(tactic| array_get_dec) => `(tactic| first
  | ((with_reducible apply st_set); (· array_mem_dec); (· rfl); (try dsimp only [List.set_cons_succ, List.set_cons_zero]))
  | ((with_reducible apply st_iffF); (· array_mem_dec); (· first | rfl | (simp; done) | (simp; omega)))
  | ((with_reducible apply st_par2); (· array_mem_dec); (· array_mem_dec); (· rfl); (· rfl); (try dsimp only [List.set_cons_succ, List.set_cons_zero]))
  | ((with_reducible apply st_par3); (· array_mem_dec); (· array_mem_dec); (· array_mem_dec); (· rfl); (· rfl); (· rfl); (try dsimp only [List.set_cons_succ, List.set_cons_zero]))
  | ((with_reducible apply st_unp2); (· array_mem_dec); (· rfl); (· rfl); (try dsimp only [List.set_cons_succ, List.set_cons_zero]))
  | ((with_reducible apply st_unp3); (· array_mem_dec); (· rfl); (· rfl); (· rfl); (try dsimp only [List.set_cons_succ, List.set_cons_zero]))
  | ((with_reducible apply st_unp4); (· array_mem_dec); (· rfl); (· rfl); (· rfl); (· rfl); (try dsimp only [List.set_cons_succ, List.set_cons_zero]))
  | ((with_reducible apply st_unp5); (· array_mem_dec); (· rfl); (try dsimp only [List.set_cons_succ, List.set_cons_zero]))
  | ((with_reducible apply st_aug); (· rfl); (· array_mem_dec); (· sizeOf_list_dec); (· rfl); (try dsimp only [List.set_cons_succ, List.set_cons_zero]))
  | ((with_reducible apply st_setix); (· array_mem_dec); (· array_mem_dec); (· array_mem_dec); (· sizeOf_list_dec))
  | ((with_reducible apply st_augix); (· array_mem_dec); (· array_mem_dec); (· sizeOf_list_dec); (· array_mem_dec); (· sizeOf_list_dec); (· sizeOf_list_dec))
  | ((with_reducible apply st_ex); (· array_mem_dec))
  | ((with_reducible apply st_ret); (· array_mem_dec))
  | with_reducible apply st_retN
  | with_reducible apply st_pass
  | with_reducible apply st_brk
  | with_reducible apply st_cont
  | with_reducible apply st_nil
  | with_reducible apply st_go)
/-! CAT -/
/-! ### states -/
abbrev eB (S : List Str) (x : PyData) : PyData := .tuple [eW S, x, .tuple []]
def isIn (S : List Str) : PyData → Bool
  | .str s => decide (s ∈ S)
  | _ => false
abbrev rk (S : List Str) (s : Str) : Nat := S.findIdx fun x => decide (x = s)
def ltN (a b : Nat) : Bool := decide ((a : Int) < (b : Int))
def isSt (S : List Str) : PyData → Bool
  | .tuple ds => ds.all (isIn S) && rise ltN ((ds.map sV).map (rk S))
  | _ => false
def lenD : PyData → Nat
  | .tuple ds => ds.length
  | _ => 0
def isStates (S : List Str) (t : PyData) : Bool := isSt S t && decide ((0 : Int) < (lenD t : Int))
theorem in_str2 {S : List Str} {d : PyData} (h : isIn S d = true) : isS d = true := by cases d <;> first | rfl | cases h
theorem sts_strs {S : List Str} {ds : List PyData} (h : ds.all (isIn S) = true) : ∃ ws : List Str, ds = ws.map .str ∧ ∀ w ∈ ws, w ∈ S := by
  obtain ⟨ws, rfl⟩ := all_strs (List.all_eq_true.mpr fun d hd => in_str2 (List.all_eq_true.mp h d hd))
  refine ⟨ws, rfl, fun w hw => ?_⟩
  have := List.all_eq_true.mp h (.str w) (List.mem_map.mpr ⟨w, hw, rfl⟩)
  simpa [isIn] using this
theorem rk_at {S : List Str} {s : Str} (h : s ∈ S) : S[rk S s]? = some s := by
  have h1 : rk S s < S.length := List.findIdx_lt_length_of_exists ⟨s, h, decide_eq_true rfl⟩
  rw [List.getElem?_eq_getElem h1]
  have := List.findIdx_getElem (w := h1)
  rw [of_decide_eq_true this]
theorem indx_at {S : List Str} {s : Str} {st : Store} (hn : S.Nodup) (h : s ∈ S) : op2 .indx (.p (eW S)) (.p (.str s)) st = .ok (.p (.int (rk S s : Int))) st := q_indxT hn (rk_at h)
theorem rank_of_ok (n : Nat) (S : List Str) (x : PyData) (s : Str) (hn : S.Nodup) (h : s ∈ S) : Gives F (n + 1) f_rank_of [eB S x, .str s] (.int (rk S s : Int)) := by
  refine Gives.of ?_
  rw [wp_call (d := d_rank_of) rfl ⟨rfl, by decide⟩]
  show wpR (exB (callF F n) b_rank_of [some (.p (eB S x)), some (.p (.str s))] []) _
  unfold b_rank_of
  have i1 := indx_at (st := []) hn h
  have g0 : getIx (.p (eB S x)) (.p (.int 0)) [] = some (.p (eW S)) := rfl
  refine st_ret (o2_at (x := .p (eW S)) (by array_mem_dec) rfl (by array_mem_dec) i1) rfl
abbrev eI (l : List Nat) : PyData := .list (l.map fun (i : Nat) => PyData.int (i : Int))
theorem rising_ok (n : Nat) (l : List Nat) (hl : l.length ≤ 1000) : Gives F (n + 1) f_are_rising [eI l] (.bool (rise ltN l)) := by
  refine Gives.of ?_
  rw [wp_call (d := d_are_rising) rfl ⟨rfl, by decide⟩]
  show wpR (exB (callF F n) b_are_rising [some (.p (eI l)), none, none] []) _
  unfold b_are_rising
  have s1 : ev (callF F n) (.sl false (.var 0) (.some (.c (.int 1))) .none) [some (.p (eI l)), none, none] [] = .ok (.p (eI (l.drop 1))) [] := by
    have hll : (l.map fun (i : Nat) => PyData.int (i : Int)).length ≤ 1000000 := by rw [List.length_map]; omega
    refine ev_to (by array_mem_dec) ?_
    rw [show (some (1 : Int)) = some ((1 : Nat) : Int) from rfl, cut_from]
    show _ = D.p (.list ((l.drop 1).map fun (i : Nat) => PyData.int (i : Int)))
    rw [List.map_drop]
  have hc2 : ev (callF F n) (.comp false (.o2 .lt (.var 1) (.var 2)) (.many [1, 2]) 3 [.var 0, .sl false (.var 0) (.some (.c (.int 1))) .none] []) [some (.p (eI l)), none, none] [] = .ok (.p (.list ((l.zip (l.drop 1)).map fun p => PyData.bool (ltN p.1 p.2)))) [] :=
    compN0 (fun p : Nat × Nat => PyData.bool (ltN p.1 p.2)) (by array_mem_dec) walk_zipL rfl (fun p _ => ⟨[some (.p (eI l)), some (.p (.int (p.1 : Int))), some (.p (.int (p.2 : Int)))], rfl, by
      refine ev_to (by array_mem_dec) ?_
      rfl⟩) (by simp; omega)
  have a2 := allQ (bs := []) (st := []) (l := l.zip (l.drop 1)) (p := fun p : Nat × Nat => ltN p.1 p.2)
  refine st_ret (by array_mem_dec) ?_
  rfl
theorem isIn_ev {Φ : Calls} {env : Sl} {st : Store} {S : List Str} {a b : E} {d : PyData} (hd : kd d = true) (ha : ev Φ a env st = .ok (.p d) st) (hb : ev Φ b env st = .ok (.p (eW S)) st) : ev Φ (.an [.o1 (.isin [.str]) a, .o2 .inn a b]) env st = .ok (.p (.bool (isIn S d))) st := by
  have i1 := isS_ev hd ha
  refine an2_at (x := isS d) i1 (fun h => ?_) (fun h => ?_)
  · cases d with
    | str s => exact o2_at ha rfl hb q_inTS
    | _ => cases h
  · cases d <;> first | (cases h; done) | exact ⟨rfl, rfl⟩
theorem indx_list (n : Nat) {S ws : List Str} {Φ : Calls} {env : Sl} {st : Store} {i j : Nat} {elt tgt : E} {env' : Str → Sl} (hn : S.Nodup) (hw : ∀ w ∈ ws, w ∈ S) (hl : ws.length ≤ 1000) {it : E} {k : Nat} (h1 : ev Φ it env st = .ok (.p (eW ws)) st)
    (h2 : ∀ w ∈ ws, bindT (.one k) (.one (.p (.str w))) (wipeE env (Tg.one k).slots) = some (env' w)) (h3 : ∀ w ∈ ws, ev Φ elt (env' w) st = .ok (.p (.int (rk S w : Int))) st) :
    ev Φ (.comp false elt (.one k) 0 [it] []) env st = .ok (.p (eI (ws.map (rk S)))) st := by
  refine ev_to (compN0 (fun w : Str => PyData.int (rk S w : Int)) (evs1_at h1) walk_tupN rfl (fun w hw' => ⟨env' w, h2 w hw', h3 w hw'⟩) (by omega)) ?_
  show _ = D.p (.list ((ws.map (rk S)).map fun (i : Nat) => PyData.int (i : Int)))
  rw [List.map_map]
  all_goals rfl
theorem is_set_ok (n : Nat) (S : List Str) (t : PyData) (hn : S.Nodup) (ht : TH t) : Gives F (n + 2) f_is_set [eW S, t] (.bool (isSt S t)) := by
  refine Gives.of ?_
  rw [wp_call (d := d_is_set) rfl ⟨rfl, by decide⟩]
  show wpR (exB (callF F (n + 1)) b_is_set [some (.p (eW S)), some (.p t), none] []) _
  unfold b_is_set
  have v0 : ev (callF F (n + 1)) (.var 1) [some (.p (eW S)), some (.p t), none] [] = .ok (.p t) [] := var_at rfl
  have i1 := isT_ev ht.kd v0
  cases hs : isT t with
  | false =>
    rw [hs] at i1
    have i2 : ev (callF F (n + 1)) (.o1 .nt (.o1 (.isin [.tuple]) (.var 1))) [some (.p (eW S)), some (.p t), none] [] = .ok (.p (.bool true)) [] := o1_at i1 q_nt
    refine st_iffT (or3_no (c := .var 0) i2) rfl (st_ret ev_c ?_)
    have : isSt S t = false := by cases t <;> first | rfl | cases hs
    rw [this]
    rfl
  | true =>
    obtain ⟨ds, rfl⟩ : ∃ ds, t = .tuple ds := by cases t <;> first | exact ⟨_, rfl⟩ | cases hs
    obtain ⟨hk, hl⟩ := ht
    rw [hs] at i1
    have hc : ev (callF F (n + 1)) (.comp false (.an [.o1 (.isin [.str]) (.var 2), .o2 .inn (.var 2) (.var 0)]) (.one 2) 0 [.var 1] []) [some (.p (eW S)), some (.p (.tuple ds)), none] [] = .ok (.p (.list (ds.map fun d => PyData.bool (isIn S d)))) [] :=
      compN0 (fun d => PyData.bool (isIn S d)) (by array_mem_dec) walk_tup1 rfl (fun d hd => ⟨[some (.p (eW S)), some (.p (.tuple ds)), some (.p d)], rfl, isIn_ev (hk d hd) (var_at rfl) (var_at rfl)⟩) (by omega)
    have a1 := allQ (bs := []) (st := []) (l := ds) (p := isIn S)
    refine st_iff (by array_mem_dec) (fun h => ?_) (fun h => ?_)
    · simp only [Bool.not_true, Bool.false_or, Bool.not_eq_true'] at h
      refine st_ret ev_c ?_
      show thaw (.p (.bool false)) [] = some (.bool (ds.all (isIn S) && _))
      rw [h]
      rfl
    · simp only [Bool.not_true, Bool.false_or, Bool.not_eq_false'] at h
      refine st_nil (st_go ?_)
      obtain ⟨ws, rfl, hw⟩ := sts_strs h
      rw [List.length_map] at hl
      have hc2 : ev (callF F (n + 1)) (.comp false (.o2 .indx (.var 0) (.var 2)) (.one 2) 0 [.var 1] []) [some (.p (eW S)), some (.p (eW ws)), none] [] = .ok (.p (eI (ws.map (rk S)))) [] :=
        indx_list 0 (i := 0) (j := 0) (tgt := .var 0) (env' := fun w => [some (.p (eW S)), some (.p (eW ws)), some (.p (.str w))]) hn hw (by omega) (var_at rfl) (fun w _ => rfl) (fun w hw' => o2_at (var_at rfl) rfl (var_at rfl) (indx_at hn (hw w hw')))
      have c2 := rising_ok n (ws.map (rk S)) (by rw [List.length_map]; omega)
      refine st_ret (by array_mem_dec) ?_
      show thaw (.p (.bool _)) [] = some (.bool ((ws.map PyData.str).all (isIn S) && rise ltN (((ws.map PyData.str).map sV).map (rk S))))
      rw [h, sV_map]
      rfl
theorem is_states_ok (n : Nat) (S : List Str) (x t : PyData) (hn : S.Nodup) (ht : TH t) : Gives F (n + 3) f_is_states [eB S x, t] (.bool (isStates S t)) := by
  refine Gives.of ?_
  rw [wp_call (d := d_is_states) rfl ⟨rfl, by decide⟩]
  show wpR (exB (callF F (n + 2)) b_is_states [some (.p (eB S x)), some (.p t)] []) _
  unfold b_is_states
  have c1 := is_set_ok n S t hn ht
  have g0 : getIx (.p (eB S x)) (.p (.int 0)) [] = some (.p (eW S)) := rfl
  have e1 : ev (callF F (n + 2)) (.call true 4 [.o2 .ix (.var 0) (.c (.int 0)), .var 1]) [some (.p (eB S x)), some (.p t)] [] = .ok (.p (.bool (isSt S t))) [] := by array_mem_dec
  refine st_ret (an2_at (y := isStates S t) e1 (fun h => ?_) (fun h => ⟨by unfold isStates; rw [h]; rfl, rfl⟩)) rfl
  cases t with
  | tuple ds =>
    refine ev_to (by array_mem_dec) ?_
    unfold isStates
    rw [h]
    rfl
  | _ => cases h
theorem states_due_ok (n : Nat) (S : List Str) (t : PyData) (hn : S.Nodup) (ht : TH t) : Gives F (n + 1) f__law_states_due [eW S, t] (.bool (isStates S t)) := by
  refine Gives.of ?_
  rw [wp_call (d := d__law_states_due) rfl ⟨rfl, by decide⟩]
  show wpR (exB (callF F n) b__law_states_due [some (.p (eW S)), some (.p t), none, none, none] []) _
  unfold b__law_states_due
  have v0 : ev (callF F n) (.var 1) [some (.p (eW S)), some (.p t), none, none, none] [] = .ok (.p t) [] := var_at rfl
  have i1 := isT_ev ht.kd v0
  cases hs : isT t with
  | false =>
    rw [hs] at i1
    have i2 : ev (callF F n) (.o1 .nt (.o1 (.isin [.tuple]) (.var 1))) [some (.p (eW S)), some (.p t), none, none, none] [] = .ok (.p (.bool true)) [] := o1_at i1 q_nt
    refine st_iffT (or3_no (c := .var 0) i2) rfl (st_ret ev_c ?_)
    have : isStates S t = false := by cases t <;> first | rfl | cases hs
    rw [this]
    rfl
  | true =>
    obtain ⟨ds, rfl⟩ : ∃ ds, t = .tuple ds := by cases t <;> first | exact ⟨_, rfl⟩ | cases hs
    obtain ⟨hk, hl⟩ := ht
    rw [hs] at i1
    have hc : ev (callF F n) (.comp false (.c (.int 1)) (.one 3) 0 [.var 1] [.orr [.o1 .nt (.o1 (.isin [.str]) (.var 3)), .o2 .nin (.var 3) (.var 0)]]) [some (.p (eW S)), some (.p (.tuple ds)), none, none, none] [] = .ok (.p (.list ((ds.filter fun d => !isIn S d).map fun _ => PyData.int 1))) [] :=
      compN (fun d => !isIn S d) (fun _ => PyData.int 1) (by array_mem_dec) walk_tup1 rfl (fun d hd => ⟨[some (.p (eW S)), some (.p (.tuple ds)), none, some (.p d), none], rfl, by
        have j1 := isS_ev (Φ := callF F n) (env := [some (.p (eW S)), some (.p (.tuple ds)), none, some (.p d), none]) (st := []) (a := .var 3) (hk d hd) (var_at rfl)
        refine an1 (or2_at (x := !isS d) (o1_at j1 q_nt) (fun h => ?_) (fun h => ?_))
        · cases d with
          | str s => exact o2_at (var_at rfl) rfl (var_at rfl) q_ninTS
          | _ => cases h
        · cases d <;> first | (cases h; done) | exact ⟨rfl, rfl⟩, fun _ => by array_mem_dec⟩) (by omega)
    refine st_iff (by array_mem_dec) (fun h => ?_) (fun h => ?_)
    · rw [cnt_pos] at h
      refine st_ret ev_c ?_
      simp only [Bool.not_true, Bool.false_or, Bool.or_eq_true, decide_eq_true_eq, Bool.not_eq_true'] at h
      show thaw (.p (.bool false)) [] = some (.bool ((ds.all (isIn S) && _) && decide ((0 : Int) < (ds.length : Int))))
      rcases h with h | h
      · rw [decide_eq_false (by omega), Bool.and_false]
        rfl
      · rw [h]
        rfl
    · rw [cnt_pos] at h
      simp only [Bool.not_true, Bool.false_or, Bool.or_eq_false_iff, decide_eq_false_iff_not, Bool.not_eq_false'] at h
      obtain ⟨h0, h⟩ := h
      refine st_nil (st_go ?_)
      obtain ⟨ws, rfl, hw⟩ := sts_strs h
      rw [List.length_map] at hl h0
      have hc2 : ev (callF F n) (.comp false (.o2 .indx (.var 0) (.var 3)) (.one 3) 0 [.var 1] []) [some (.p (eW S)), some (.p (eW ws)), none, none, none] [] = .ok (.p (eI (ws.map (rk S)))) [] :=
        indx_list 0 (i := 0) (j := 0) (tgt := .var 0) (env' := fun w => [some (.p (eW S)), some (.p (eW ws)), none, some (.p (.str w)), none]) hn hw (by omega) (var_at rfl) (fun w _ => rfl) (fun w hw' => o2_at (var_at rfl) rfl (var_at rfl) (indx_at hn (hw w hw')))
      array_get_dec
      obtain ⟨l, hl2⟩ : ∃ l : List Nat, l = ws.map (rk S) := ⟨_, rfl⟩
      have hll : l.length = ws.length := by rw [hl2, List.length_map]
      rw [← hl2]
      have hc3 : ev (callF F n) (.comp false (.var 4) (.one 4) 1 [.c (.int 1), .o1 .len (.var 2)] [.o1 .nt (.o2 .lt (.o2 .ix (.var 2) (.o2 .sub (.var 4) (.c (.int 1)))) (.o2 .ix (.var 2) (.var 4)))]) [some (.p (eW S)), some (.p (eW ws)), some (.p (eI l)), none, none] [] = .ok (.p (.list (((List.range (l.length - 1)).filter fun j => !ltN (l.getD j 0) (l.getD (j + 1) 0)).map fun (j : Nat) => PyData.int ((j + 1 : Nat) : Int)))) [] :=
        compN (fun j : Nat => !ltN (l.getD j 0) (l.getD (j + 1) 0)) (fun j : Nat => PyData.int ((j + 1 : Nat) : Int)) (st1 := []) (ds := [.p (.int 1), .p (.int (((l.map fun (i : Nat) => PyData.int (i : Int)).length : Nat) : Int))]) (by array_mem_dec) (by rw [List.length_map]; exact range_1 (by omega)) rfl (fun j hj => ⟨[some (.p (eW S)), some (.p (eW ws)), some (.p (eI l)), none, some (.p (.int ((j + 1 : Nat) : Int)))], rfl, by
          have hj' := List.mem_range.mp hj
          have e1 : ev (callF F n) (.o2 .sub (.var 4) (.c (.int 1))) [some (.p (eW S)), some (.p (eW ws)), some (.p (eI l)), none, some (.p (.int ((j + 1 : Nat) : Int)))] [] = .ok (.p (.int (j : Int))) [] := ev_to (by array_mem_dec) (by congr 2; omega)
          have g1 : getIx (.p (eI l)) (.p (.int (j : Int))) [] = some (.p (.int (l.getD j 0 : Int))) := by
            rw [ixLm (by omega), List.getD_eq_getElem?_getD, List.getElem?_eq_getElem (by omega)]
            rfl
          have g2 : getIx (.p (eI l)) (.p (.int ((j + 1 : Nat) : Int))) [] = some (.p (.int (l.getD (j + 1) 0 : Int))) := by
            rw [ixLm (by omega), List.getD_eq_getElem?_getD, List.getElem?_eq_getElem (by omega)]
            rfl
          exact an1 (ev_to (by array_mem_dec) (by rfl)), fun _ => by array_mem_dec⟩) (by simp; omega)
      refine st_ret (by array_mem_dec) ?_
      show thaw (.p (.bool _)) [] = some (.bool (((ws.map PyData.str).all (isIn S) && rise ltN (((ws.map PyData.str).map sV).map (rk S))) && decide ((0 : Int) < (((ws.map PyData.str).length : Nat) : Int))))
      rw [h, sV_map, ← hl2, rise_count, List.length_map, decide_eq_true (by omega)]
      simp [thaw]
end Lw
namespace Lw
open PySem Dn
/-! TAC -/
local macro_rules | `(tactic| array_mem_dec) => `(tactic| first
  | with_reducible assumption
  | with_reducible exact ev_c
  | with_reducible exact evs_nil
  | with_reducible exact evO_n
  | with_reducible exact ev_gE
  | (with_reducible apply var_at) <;> rfl
  | (with_reducible apply evs_at) <;> array_mem_dec
  | ((with_reducible apply o2_at); (· array_mem_dec); (· sizeOf_list_dec); (· array_mem_dec); (· sizeOf_list_dec))
  | ((with_reducible apply o1_at); (· array_mem_dec); (· sizeOf_list_dec))
  | ((with_reducible apply o3_at); (· array_mem_dec); (· sizeOf_list_dec); (· array_mem_dec); (· array_mem_dec); (· sizeOf_list_dec))
  | (with_reducible apply callE) <;> array_mem_dec
  | ((with_reducible apply callkE); (· array_mem_dec); (· rfl); (· array_mem_dec))
  | ((with_reducible apply tupE); (· array_mem_dec); (· sizeOf_list_dec); (· sizeOf_list_dec))
  | ((with_reducible apply lstE); (· array_mem_dec); (· sizeOf_list_dec); (· sizeOf_list_dec))
  | (with_reducible apply an_at) <;> array_mem_dec
  | (with_reducible apply orr_at) <;> array_mem_dec
  | (with_reducible apply an1) <;> array_mem_dec
  | (with_reducible apply or1) <;> array_mem_dec
  | (with_reducible apply anC) <;> (try intro _) <;> array_mem_dec
  | (with_reducible apply orC) <;> (try intro _) <;> array_mem_dec
  | (with_reducible apply ite_v) <;> (try intro _) <;> array_mem_dec
  | ((with_reducible apply chain_v); (· array_mem_dec); (· array_mem_dec); (· sizeOf_list_dec); (· intro _; array_mem_dec); (· sizeOf_list_dec))
  | ((with_reducible apply slE); (· array_mem_dec); (· array_mem_dec); (· array_mem_dec); (· sizeOf_list_dec))
  | ((with_reducible apply rvE); (· array_mem_dec); (· sizeOf_list_dec))
  | (with_reducible apply evO_at) <;> array_mem_dec
  | ((with_reducible apply lst_at); (· array_mem_dec); (· sizeOf_list_dec))
  | ((with_reducible apply dicE); (· array_mem_dec); (· rfl); (· rfl))
  | ((with_reducible apply callD_g); (· sizeOf_list_dec); (· with_reducible assumption)))
local macro_rules | `(tactic| sizeOf_list_dec) => `(tactic| first
  | with_reducible assumption
  | with_reducible rfl
  | with_reducible exact op2_add_i
  | with_reducible exact op2_sub_i
  | with_reducible exact q_ltI
  | with_reducible exact q_leI
  | with_reducible exact q_gtI
  | with_reducible exact q_geI
  | with_reducible exact q_eqI
  | with_reducible exact q_eqS
  | with_reducible exact q_neI
  | with_reducible exact q_neS
  | with_reducible exact q_eqB
  | with_reducible exact q_neB
  | with_reducible exact q_inTS
  | with_reducible exact q_inLS
  | with_reducible exact q_ninTS
  | with_reducible exact q_ninLS
  | with_reducible exact q_inTI
  | with_reducible exact q_inLI
  | with_reducible exact q_mx
  | with_reducible exact q_mn
  | with_reducible exact q_nt
  | with_reducible exact q_neg
  | with_reducible exact q_lenT
  | with_reducible exact q_lenL
  | with_reducible exact q_abs
  | with_reducible exact q_intI
  | with_reducible exact q_intB
  | with_reducible exact q_tupT
  | with_reducible exact q_tupL
  | with_reducible exact q_isN
  | (with_reducible apply q_lenR) <;> sizeOf_list_dec
  | (with_reducible apply q_ix) <;> sizeOf_list_dec
  | (with_reducible apply q_ixD) <;> sizeOf_list_dec
  | (with_reducible apply q_mod) <;> sizeOf_list_dec
  | (with_reducible apply q_fdv) <;> sizeOf_list_dec
  | (with_reducible apply q_mul) <;> first | exact mulOk_R rfl | exact mulOk_L rfl | sizeOf_list_dec
  | (with_reducible apply q_mulT1) <;> sizeOf_list_dec
  | (with_reducible apply q_addT) <;> sizeOf_list_dec
  | (with_reducible apply q_addL) <;> sizeOf_list_dec
  | (with_reducible apply q_addRL) <;> sizeOf_list_dec
  | (with_reducible apply q_addS) <;> sizeOf_list_dec
  | (with_reducible apply q_isin) <;> sizeOf_list_dec
  | (with_reducible apply q_all) <;> sizeOf_list_dec
  | (with_reducible apply q_any) <;> sizeOf_list_dec
  | (with_reducible apply q_sum) <;> sizeOf_list_dec
  | (with_reducible apply q_tupr) <;> sizeOf_list_dec
  | (with_reducible apply q_tupR) <;> sizeOf_list_dec
  | (with_reducible apply q_indxT) <;> sizeOf_list_dec
  | (with_reducible apply q_app) <;> sizeOf_list_dec
  | (with_reducible apply q_ext) <;> sizeOf_list_dec
  | (with_reducible apply q_frz) <;> sizeOf_list_dec
  | (with_reducible apply q_popR) <;> sizeOf_list_dec
  | (with_reducible apply q_pop0) <;> sizeOf_list_dec
  | with_reducible exact q_slT
  | (with_reducible apply q_slL) <;> sizeOf_list_dec
  | (with_reducible apply q_slR) <;> first | rfl | sizeOf_list_dec
  | (with_reducible apply q_ins0) <;> sizeOf_list_dec
  | (with_reducible apply q_popiM) <;> first | rfl | sizeOf_list_dec
  | with_reducible exact getIx_0
  | with_reducible exact getIx_1
  | (with_reducible apply ixTm) <;> sizeOf_list_dec
  | (with_reducible apply ixLm) <;> sizeOf_list_dec
  | (with_reducible apply ixT) <;> sizeOf_list_dec
  | (with_reducible apply ixL) <;> sizeOf_list_dec
  | (with_reducible apply ixRm) <;> first | rfl | sizeOf_list_dec
  | (with_reducible apply ixR) <;> sizeOf_list_dec
  | with_reducible exact boolsOf_map _
  | with_reducible exact intsOf_map _
  | with_reducible exact strsOf_map _
  | with_reducible exact allP_map _
  | with_reducible exact allP_mapc _ _
  | with_reducible exact allP_maps _
  | with_reducible exact allP_fun _ _
  | with_reducible exact boolsOf_mapf _ _
  | (with_reducible apply qStN) <;> sizeOf_list_dec
  | rfl
  | omega
  | (simp only [List.length_map, List.length_append, List.length_cons, List.length_nil, List.length_range]; omega)
  | decide)
local macro_rules | `(tactic| array_get_dec) => `(tactic| first
  | ((with_reducible apply st_set); (· array_mem_dec); (· rfl); (try dsimp only [List.set_cons_succ, List.set_cons_zero]))
  | ((with_reducible apply st_iffF); (· array_mem_dec); (· first | rfl | (simp; done) | (simp; omega)))
  | ((with_reducible apply st_par2); (· array_mem_dec); (· array_mem_dec); (· rfl); (· rfl); (try dsimp only [List.set_cons_succ, List.set_cons_zero]))
  | ((with_reducible apply st_par3); (· array_mem_dec); (· array_mem_dec); (· array_mem_dec); (· rfl); (· rfl); (· rfl); (try dsimp only [List.set_cons_succ, List.set_cons_zero]))
  | ((with_reducible apply st_unp2); (· array_mem_dec); (· rfl); (· rfl); (try dsimp only [List.set_cons_succ, List.set_cons_zero]))
  | ((with_reducible apply st_unp3); (· array_mem_dec); (· rfl); (· rfl); (· rfl); (try dsimp only [List.set_cons_succ, List.set_cons_zero]))
  | ((with_reducible apply st_unp4); (· array_mem_dec); (· rfl); (· rfl); (· rfl); (· rfl); (try dsimp only [List.set_cons_succ, List.set_cons_zero]))
  | ((with_reducible apply st_unp5); (· array_mem_dec); (· rfl); (try dsimp only [List.set_cons_succ, List.set_cons_zero]))
  | ((with_reducible apply st_aug); (· rfl); (· array_mem_dec); (· sizeOf_list_dec); (· rfl); (try dsimp only [List.set_cons_succ, List.set_cons_zero]))
  | ((with_reducible apply st_setix); (· array_mem_dec); (· array_mem_dec); (· array_mem_dec); (· sizeOf_list_dec))
  | ((with_reducible apply st_augix); (· array_mem_dec); (· array_mem_dec); (· sizeOf_list_dec); (· array_mem_dec); (· sizeOf_list_dec); (· sizeOf_list_dec))
  | ((with_reducible apply st_ex); (· array_mem_dec))
  | ((with_reducible apply st_ret); (· array_mem_dec))
  | with_reducible apply st_retN
  | with_reducible apply st_pass
  | with_reducible apply st_brk
  | with_reducible apply st_cont
  | with_reducible apply st_nil
  | with_reducible apply st_go)
/-! CAT -/
/-! ### words -/
structure As (x : Str) (n : Nat) : Prop where
  lo : ∀ c ∈ x.cps.toList, c < 128
  le : x.cps.toList.length ≤ n
def asB (x : Str) (n : Nat) : Bool := x.cps.toList.all (fun c => decide (c < 128)) && decide (x.cps.toList.length ≤ n)
theorem asB_as {x : Str} {n : Nat} (h : asB x n = true) : As x n := by
  unfold asB at h
  rw [Bool.and_eq_true, decide_eq_true_eq] at h
  exact ⟨fun c hc => of_decide_eq_true (List.all_eq_true.mp h.1 c hc), h.2⟩
theorem app_list (x y : Str) : (x ++ y).cps.toList = x.cps.toList ++ y.cps.toList := by
  show (x.cps ++ y.cps).toList = _
  rw [Array.toList_append]
theorem As.app {x y : Str} {n m k : Nat} (h : As x n) (g : As y m) (hk : n + m ≤ k) : As (x ++ y) k := by
  refine ⟨fun c hc => ?_, ?_⟩
  · rw [app_list, List.mem_append] at hc
    rcases hc with hc | hc
    · exact h.lo c hc
    · exact g.lo c hc
  · rw [app_list, List.length_append]
    have := h.le
    have := g.le
    omega
theorem cut_sub {α : Type} (xs : List α) (lo hi : Option Int) : (cut xs lo hi).Sublist xs := (List.take_sublist _ _).trans (List.drop_sublist _ _)
theorem As.cut {x : Str} {n : Nat} (h : As x n) (lo hi : Option Int) : As ⟨(Dn.cut x.cps.toList lo hi).toArray⟩ n := by
  have e : (⟨(Dn.cut x.cps.toList lo hi).toArray⟩ : Str).cps.toList = Dn.cut x.cps.toList lo hi := rfl
  refine ⟨fun c hc => ?_, ?_⟩
  · rw [e] at hc
    exact h.lo c ((cut_sub _ _ _).subset hc)
  · rw [e]
    exact Nat.le_trans (cut_sub _ _ _).length_le h.le
theorem As.mono {x : Str} {n m : Nat} (h : As x n) (hm : n ≤ m) : As x m := ⟨h.lo, Nat.le_trans h.le hm⟩
theorem As.len {x : Str} {n : Nat} (h : As x n) : x.length ≤ n := by rw [← str_len]; exact h.le
/-- a sign of a text -/
theorem sign_at {s : Str} {n v : Nat} {st : Store} (h : As s n) (hv : v < s.cps.toList.length) : ∃ x : Str, getIx (.p (.str s)) (.p (.int (v : Int))) st = some (.p (.str x)) ∧ As x 1 := by
  refine ⟨sg s.cps.toList[v], ?_, ⟨fun c hc => ?_, by simp⟩⟩
  · show (((ixOf s.cps.toList.length (v : Int)).bind fun j => s.cps.toList[j]?).map fun c => D.p (.str ⟨#[c]⟩)) = _
    have e : ixOf s.cps.toList.length (v : Int) = some v := by
      unfold ixOf
      rw [if_pos (by omega), if_pos (by omega), Int.toNat_natCast]
    rw [e]
    show (s.cps.toList[v]?).map _ = _
    rw [List.getElem?_eq_getElem hv]
    rfl
  · have hc : c ∈ [s.cps.toList[v]] := hc
    rw [List.mem_singleton.mp hc]
    exact h.lo _ (List.getElem_mem hv)
theorem sl_str {x : Str} {lo hi : Option Int} {st : Store} : asNew false (cutD (.p (.str x)) lo hi st) st = .ok (.p (.str ⟨(Dn.cut x.cps.toList lo hi).toArray⟩)) st := rfl
def wordsL : List Str := ["wall", "state", "first", "inner", "last", "rule", "never", "may", "begin", "none", "walls", "stat", "beginn", "rules", "noned", "Wall"]
abbrev wEnv (z1 z2 z3 z4 z5 z6 : Option D) : Sl := [some (.r 2), z1, z2, z3, z4, z5, z6]
theorem word_c (n : Nat) {q : Hl} (rest : Store) (hq : q.ok) : ∃ (x : Str) (q' : Hl), callD (callF F (n + 3)) false 13 [.r 2] (H q rest) = .ok (.p (.str x)) (H q' rest) ∧ As x 20 ∧ q'.ok := by
  suffices h : wpR (callF F (n + 3) f__law_word [.r 2] (H q rest)) (fun d st => ∃ (x : Str) (q' : Hl), d = .p (.str x) ∧ st = H q' rest ∧ As x 20 ∧ q'.ok) by
    obtain ⟨d, st, f, x, q', rfl, rfl, h1, h2⟩ := wpR_out h
    exact ⟨x, q', callD_f f (by simp), h1, h2⟩
  rw [wp_call (d := d__law_word) rfl ⟨rfl, by decide⟩]
  show wpR (exB (callF F (n + 2)) b__law_word (wEnv none none none none none none) (H q rest)) _
  unfold b__law_word
  array_get_dec
  obtain ⟨W, hW⟩ : ∃ W : List Str, W = wordsL := ⟨_, rfl⟩
  have hWa : ∀ w ∈ W, As w 20 := by
    rw [hW]
    have : ∀ w ∈ wordsL, asB w 20 = true := by decide
    exact fun w hw => asB_as (this w hw)
  have hWl : W.length = 16 := by rw [hW]; rfl
  rw [show ([PyData.str "wall", .str "state", .str "first", .str "inner", .str "last", .str "rule", .str "never", .str "may", .str "begin", .str "none", .str "walls", .str "stat", .str "beginn", .str "rules", .str "noned", .str "Wall"] : List PyData) = W.map PyData.str by rw [hW]; rfl]
  obtain ⟨k, q1, f1, hk, hq1⟩ := pull_c n rest "kind" 8 hq (by decide) (by omega) (by omega)
  array_get_dec
  refine st_iff (by array_mem_dec) (fun h => ?_) (fun h => ?_)
  · obtain ⟨v, q2, f2, hv, hq2⟩ := pull_c n rest "word" (((W.map PyData.str).length : Nat) : Int) hq1 (by decide) (by rw [List.length_map]; omega) (by rw [List.length_map]; omega)
    have hv' : v < W.length := by rw [List.length_map] at hv; omega
    array_get_dec
    exact ⟨W[v], q2, rfl, rfl, hWa _ (List.getElem_mem hv'), hq2⟩
  · refine st_nil (st_go ?_)
    array_get_dec
    have sA : As ("abyz0189kmq" : Str) 11 := asB_as (by decide)
    have sL : ("abyz0189kmq" : Str).cps.toList.length = 11 := by decide
    obtain ⟨v, q2, f2, hv, hq2⟩ := pull_c n rest "first" 4 hq1 (by decide) (by omega) (by omega)
    obtain ⟨x, g1, hx⟩ := sign_at (st := H q2 rest) sA (v := v) (by omega)
    have pre1 : ∀ st, pre .ix (.p (.str ("abyz0189kmq" : Str))) st = true := fun _ => rfl
    array_get_dec
    obtain ⟨l, q3, f3, hl, hq3⟩ := pull_c n rest "long" 9 hq2 (by decide) (by omega) (by omega)
    refine st_for (by array_mem_dec) (walk_rangeN (by omega)) ?_
    refine forN (fun (xs : List Nat) env st => ∃ (q : Hl) (x : Str) (z5 : Option D), env = wEnv (some (.p (.tuple (W.map .str)))) (some (.p (.int (k : Int)))) (some (.p (.str "abyz0189kmq"))) (some (.p (.str x))) z5 none ∧ st = H q rest ∧ q.ok ∧ ∃ m, As x m ∧ m + xs.length ≤ 9) ?_ ?_ ⟨q3, x, none, rfl, rfl, hq3, 1, hx, by simp; omega⟩
    · rintro i xs env st ⟨q, x, z5, rfl, rfl, hq, m, hx, hm⟩
      simp only [List.length_cons] at hm
      refine ⟨rfl, wEnv (some (.p (.tuple (W.map .str)))) (some (.p (.int (k : Int)))) (some (.p (.str "abyz0189kmq"))) (some (.p (.str x))) (some (.p (.int (i : Int)))) none, rfl, ?_⟩
      obtain ⟨v, q2, f2, hv, hq2⟩ := pull_c n rest "sign" 11 hq (by decide) (by omega) (by omega)
      obtain ⟨y, g1, hy⟩ := sign_at (st := H q2 rest) sA (v := v) (by omega)
      have hll : x.length + y.length ≤ 1000000 := by have := hx.len; have := hy.len; omega
      array_get_dec
      exact st_nil ⟨q2, _, _, rfl, rfl, hq2, m + 1, hx.app hy (by omega), by omega⟩
    · rintro env st ⟨q, x, z5, rfl, rfl, hq, m, hx, hm⟩
      refine ⟨rfl, st_go ?_⟩
      have hm9 : m ≤ 9 := by simp at hm; exact hm
      have fin : ∀ (q : Hl) (x : Str) (z6 : Option D), q.ok → As x 10 → wpR (exB (callF F (n + 2)) [.ret (.ite (.o2 .ne (.var 2) (.c (.int 2))) (.var 4) (.o2 .add (.c (.str "9")) (.sl false (.var 4) .none (.some (.c (.int 7))))))] (wEnv (some (.p (.tuple (W.map .str)))) (some (.p (.int (k : Int)))) (some (.p (.str "abyz0189kmq"))) (some (.p (.str x))) z5 z6) (H q rest)) (endB fun d st => ∃ (x : Str) (q' : Hl), d = .p (.str x) ∧ st = H q' rest ∧ As x 20 ∧ q'.ok) := by
        intro q x z6 hq hx
        by_cases h2 : (k : Int) = 2
        · have h9 : As ("9" : Str) 1 := asB_as (by decide)
          have hc := hx.cut none (some 7)
          have hll : ("9" : Str).length + (⟨(Dn.cut x.cps.toList none (some 7)).toArray⟩ : Str).length ≤ 1000000 := by have := h9.len; have := hc.len; omega
          have s1 := sl_str (x := x) (lo := none) (hi := some 7) (st := H q rest)
          refine st_ret (ite_f (k := !decide ((k : Int) = 2)) (by array_mem_dec) (by rw [decide_eq_true h2]; rfl) (by array_mem_dec)) ?_
          exact ⟨_, q, rfl, rfl, h9.app hc (by omega), hq⟩
        · refine st_ret (ite_t (k := !decide ((k : Int) = 2)) (by array_mem_dec) (by rw [decide_eq_false h2]; rfl) (by array_mem_dec)) ?_
          exact ⟨x, q, rfl, rfl, hx.mono (by omega), hq⟩
      refine st_iff (by array_mem_dec) (fun h => ?_) (fun h => ?_)
      · have lx := len_str (s := x) (st := H q rest)
        obtain ⟨p, q2, f2, hp, hq2⟩ := pull_c n rest "at" ((x.length : Int) + 1) hq (by decide) (by omega) (by have := hx.len; omega)
        array_get_dec
        have bA : As ("A -_{@/" : Str) 7 := asB_as (by decide)
        have bL : ("A -_{@/" : Str).cps.toList.length = 7 := by decide
        obtain ⟨v, q3, f3, hv, hq3⟩ := pull_c n rest "wrong" 7 hq2 (by decide) (by omega) (by omega)
        obtain ⟨y, g1, hy⟩ := sign_at (st := H q3 rest) bA (v := v) (by omega)
        have c1 := hx.cut none (some (p : Int))
        have c2 := hx.cut (some (p : Int)) none
        have s1 := sl_str (x := x) (lo := none) (hi := some (p : Int)) (st := H q2 rest)
        have s2 := sl_str (x := x) (lo := some (p : Int)) (hi := none) (st := H q3 rest)
        have l1 : (⟨(Dn.cut x.cps.toList none (some (p : Int))).toArray⟩ : Str).length + y.length ≤ 1000000 := by have := c1.len; have := hy.len; omega
        have a1 := c1.app hy (Nat.le_refl _)
        have l2 : ((⟨(Dn.cut x.cps.toList none (some (p : Int))).toArray⟩ : Str) ++ y).length + (⟨(Dn.cut x.cps.toList (some (p : Int)) none).toArray⟩ : Str).length ≤ 1000000 := by have := a1.len; have := c2.len; omega
        array_get_dec
        refine st_nil (st_go (fin q3 _ _ hq3 ⟨fun c hc => (a1.app c2 (Nat.le_refl _)).lo c hc, ?_⟩))
        rw [app_list, app_list, List.length_append, List.length_append]
        show (Dn.cut x.cps.toList none (some (p : Int))).length + y.cps.toList.length + (Dn.cut x.cps.toList (some (p : Int)) none).length ≤ 10
        rw [cut_upto, cut_from, List.length_take, List.length_drop]
        have := hx.le
        have := hy.le
        omega
      · exact st_nil (st_go (fin q x _ hq (hx.mono (by omega))))
end Lw
namespace Lw
open PySem Dn
/-! TAC -/
local macro_rules | `(tactic| array_mem_dec) => `(tactic| first
  | with_reducible assumption
  | with_reducible exact ev_c
  | with_reducible exact evs_nil
  | with_reducible exact evO_n
  | with_reducible exact ev_gE
  | (with_reducible apply var_at) <;> rfl
  | (with_reducible apply evs_at) <;> array_mem_dec
  | ((with_reducible apply o2_at); (· array_mem_dec); (· sizeOf_list_dec); (· array_mem_dec); (· sizeOf_list_dec))
  | ((with_reducible apply o1_at); (· array_mem_dec); (· sizeOf_list_dec))
  | ((with_reducible apply o3_at); (· array_mem_dec); (· sizeOf_list_dec); (· array_mem_dec); (· array_mem_dec); (· sizeOf_list_dec))
  | (with_reducible apply callE) <;> array_mem_dec
  | ((with_reducible apply callkE); (· array_mem_dec); (· rfl); (· array_mem_dec))
  | ((with_reducible apply tupE); (· array_mem_dec); (· sizeOf_list_dec); (· sizeOf_list_dec))
  | ((with_reducible apply lstE); (· array_mem_dec); (· sizeOf_list_dec); (· sizeOf_list_dec))
  | (with_reducible apply an_at) <;> array_mem_dec
  | (with_reducible apply orr_at) <;> array_mem_dec
  | (with_reducible apply an1) <;> array_mem_dec
  | (with_reducible apply or1) <;> array_mem_dec
  | (with_reducible apply anC) <;> (try intro _) <;> array_mem_dec
  | (with_reducible apply orC) <;> (try intro _) <;> array_mem_dec
  | (with_reducible apply ite_v) <;> (try intro _) <;> array_mem_dec
  | ((with_reducible apply chain_v); (· array_mem_dec); (· array_mem_dec); (· sizeOf_list_dec); (· intro _; array_mem_dec); (· sizeOf_list_dec))
  | ((with_reducible apply slE); (· array_mem_dec); (· array_mem_dec); (· array_mem_dec); (· sizeOf_list_dec))
  | ((with_reducible apply rvE); (· array_mem_dec); (· sizeOf_list_dec))
  | (with_reducible apply evO_at) <;> array_mem_dec
  | ((with_reducible apply lst_at); (· array_mem_dec); (· sizeOf_list_dec))
  | ((with_reducible apply dicE); (· array_mem_dec); (· rfl); (· rfl))
  | ((with_reducible apply callD_g); (· sizeOf_list_dec); (· with_reducible assumption)))
local macro_rules | `(tactic| sizeOf_list_dec) => `(tactic| first
  | with_reducible assumption
  | with_reducible rfl
  | with_reducible exact op2_add_i
  | with_reducible exact op2_sub_i
  | with_reducible exact q_ltI
  | with_reducible exact q_leI
  | with_reducible exact q_gtI
  | with_reducible exact q_geI
  | with_reducible exact q_eqI
  | with_reducible exact q_eqS
  | with_reducible exact q_neI
  | with_reducible exact q_neS
  | with_reducible exact q_eqB
  | with_reducible exact q_neB
  | with_reducible exact q_inTS
  | with_reducible exact q_inLS
  | with_reducible exact q_ninTS
  | with_reducible exact q_ninLS
  | with_reducible exact q_inTI
  | with_reducible exact q_inLI
  | with_reducible exact q_mx
  | with_reducible exact q_mn
  | with_reducible exact q_nt
  | with_reducible exact q_neg
  | with_reducible exact q_lenT
  | with_reducible exact q_lenL
  | with_reducible exact q_abs
  | with_reducible exact q_intI
  | with_reducible exact q_intB
  | with_reducible exact q_tupT
  | with_reducible exact q_tupL
  | with_reducible exact q_isN
  | (with_reducible apply q_lenR) <;> sizeOf_list_dec
  | (with_reducible apply q_ix) <;> sizeOf_list_dec
  | (with_reducible apply q_ixD) <;> sizeOf_list_dec
  | (with_reducible apply q_mod) <;> sizeOf_list_dec
  | (with_reducible apply q_fdv) <;> sizeOf_list_dec
  | (with_reducible apply q_mul) <;> first | exact mulOk_R rfl | exact mulOk_L rfl | sizeOf_list_dec
  | (with_reducible apply q_mulT1) <;> sizeOf_list_dec
  | (with_reducible apply q_addT) <;> sizeOf_list_dec
  | (with_reducible apply q_addL) <;> sizeOf_list_dec
  | (with_reducible apply q_addRL) <;> sizeOf_list_dec
  | (with_reducible apply q_addS) <;> sizeOf_list_dec
  | (with_reducible apply q_isin) <;> sizeOf_list_dec
  | (with_reducible apply q_all) <;> sizeOf_list_dec
  | (with_reducible apply q_any) <;> sizeOf_list_dec
  | (with_reducible apply q_sum) <;> sizeOf_list_dec
  | (with_reducible apply q_tupr) <;> sizeOf_list_dec
  | (with_reducible apply q_tupR) <;> sizeOf_list_dec
  | (with_reducible apply q_indxT) <;> sizeOf_list_dec
  | (with_reducible apply q_app) <;> sizeOf_list_dec
  | (with_reducible apply q_ext) <;> sizeOf_list_dec
  | (with_reducible apply q_frz) <;> sizeOf_list_dec
  | (with_reducible apply q_popR) <;> sizeOf_list_dec
  | (with_reducible apply q_pop0) <;> sizeOf_list_dec
  | with_reducible exact q_slT
  | (with_reducible apply q_slL) <;> sizeOf_list_dec
  | (with_reducible apply q_slR) <;> first | rfl | sizeOf_list_dec
  | (with_reducible apply q_ins0) <;> sizeOf_list_dec
  | (with_reducible apply q_popiM) <;> first | rfl | sizeOf_list_dec
  | with_reducible exact getIx_0
  | with_reducible exact getIx_1
  | (with_reducible apply ixTm) <;> sizeOf_list_dec
  | (with_reducible apply ixLm) <;> sizeOf_list_dec
  | (with_reducible apply ixT) <;> sizeOf_list_dec
  | (with_reducible apply ixL) <;> sizeOf_list_dec
  | (with_reducible apply ixRm) <;> first | rfl | sizeOf_list_dec
  | (with_reducible apply ixR) <;> sizeOf_list_dec
  | with_reducible exact boolsOf_map _
  | with_reducible exact intsOf_map _
  | with_reducible exact strsOf_map _
  | with_reducible exact allP_map _
  | with_reducible exact allP_mapc _ _
  | with_reducible exact allP_maps _
  | with_reducible exact allP_fun _ _
  | with_reducible exact boolsOf_mapf _ _
  | (with_reducible apply qStN) <;> sizeOf_list_dec
  | rfl
  | omega
  | (simp only [List.length_map, List.length_append, List.length_cons, List.length_nil, List.length_range]; omega)
  | decide)
local macro_rules | `(tactic| array_get_dec) => `(tactic| first
  | ((with_reducible apply st_set); (· array_mem_dec); (· rfl); (try dsimp only [List.set_cons_succ, List.set_cons_zero]))
  | ((with_reducible apply st_iffF); (· array_mem_dec); (· first | rfl | (simp; done) | (simp; omega)))
  | ((with_reducible apply st_par2); (· array_mem_dec); (· array_mem_dec); (· rfl); (· rfl); (try dsimp only [List.set_cons_succ, List.set_cons_zero]))
  | ((with_reducible apply st_par3); (· array_mem_dec); (· array_mem_dec); (· array_mem_dec); (· rfl); (· rfl); (· rfl); (try dsimp only [List.set_cons_succ, List.set_cons_zero]))
  | ((with_reducible apply st_unp2); (· array_mem_dec); (· rfl); (· rfl); (try dsimp only [List.set_cons_succ, List.set_cons_zero]))
  | ((with_reducible apply st_unp3); (· array_mem_dec); (· rfl); (· rfl); (· rfl); (try dsimp only [List.set_cons_succ, List.set_cons_zero]))
  | ((with_reducible apply st_unp4); (· array_mem_dec); (· rfl); (· rfl); (· rfl); (· rfl); (try dsimp only [List.set_cons_succ, List.set_cons_zero]))
  | ((with_reducible apply st_unp5); (· array_mem_dec); (· rfl); (try dsimp only [List.set_cons_succ, List.set_cons_zero]))
  | ((with_reducible apply st_aug); (· rfl); (· array_mem_dec); (· sizeOf_list_dec); (· rfl); (try dsimp only [List.set_cons_succ, List.set_cons_zero]))
  | ((with_reducible apply st_setix); (· array_mem_dec); (· array_mem_dec); (· array_mem_dec); (· sizeOf_list_dec))
  | ((with_reducible apply st_augix); (· array_mem_dec); (· array_mem_dec); (· sizeOf_list_dec); (· array_mem_dec); (· sizeOf_list_dec); (· sizeOf_list_dec))
  | ((with_reducible apply st_ex); (· array_mem_dec))
  | ((with_reducible apply st_ret); (· array_mem_dec))
  | with_reducible apply st_retN
  | with_reducible apply st_pass
  | with_reducible apply st_brk
  | with_reducible apply st_cont
  | with_reducible apply st_nil
  | with_reducible apply st_go)
/-! CAT -/
/-! ### the book -/
abbrev oS (w : List Str) : Ob := .lst (w.map fun x => .p (.str x))
structure SOk (S : List Str) : Prop where
  nd : S.Nodup
  s2 : 2 ≤ S.length
  s4 : S.length ≤ 4
  sl : ∀ s ∈ S, As s 20
theorem pick_perm {l : List Str} {v : Nat} (h : v < l.length) : (l[v] :: l.eraseIdx v).Perm l := by
  induction l generalizing v with
  | nil => cases h
  | cons x l ih =>
    cases v with
    | zero => exact List.Perm.refl _
    | succ v =>
      have h' : v < l.length := by simpa using h
      show (l[v] :: x :: l.eraseIdx v).Perm (x :: l)
      exact (List.Perm.swap _ _ _).trans (List.Perm.cons x (ih h'))
def poolL : List Str := ["ash", "b2", "cold", "dim", "x", "zz9", "lit"]
abbrev bEnv (z1 : Option D) : Sl := [some (.r 2), z1, some (.r 3), some (.r 4)]
theorem book_c (n : Nat) {q : Hl} (hq : q.ok) : ∃ (S : List Str) (x : PyData) (q' : Hl), callD (callF F (n + 3)) false 14 [.r 2] (H q []) = .ok (.p (eB S x)) (H q' []) ∧ SOk S ∧ q'.ok := by
  suffices h : wpR (callF F (n + 3) f__law_book [.r 2] (H q [])) (fun d st => ∃ (S : List Str) (x : PyData) (q' : Hl) (L : Store), d = .p (eB S x) ∧ st = H q' L ∧ SOk S ∧ q'.ok) by
    obtain ⟨d, st, f, S, x, q', L, rfl, rfl, h1, h2⟩ := wpR_out h
    refine ⟨S, x, q', ?_, h1, h2⟩
    have hc : ((H q' L).take (H q []).length).all (obLt (H q []).length) = true := by
      show (H q' []).all (obLt 3) = true
      simp [obLt, refLt, kvD]
    exact callD_t f hc
  rw [wp_call (d := d__law_book) rfl ⟨rfl, by decide⟩]
  show wpR (exB (callF F (n + 2)) b__law_book [some (.r 2), none, none, none] (H q [])) _
  unfold b__law_book
  array_get_dec
  show wpR (exB _ _ (bEnv none) (H q [oS [], oS poolL])) _
  obtain ⟨v, q1, f1, hv, hq1⟩ := pull_c n [oS [], oS poolL] "states" 5 hq (by decide) (by omega) (by omega)
  obtain ⟨many, hm, hm2, hm4⟩ : ∃ many : Nat, [PyData.int 2, .int 3, .int 3, .int 2, .int 4][v]? = some (.int (many : Int)) ∧ 2 ≤ many ∧ many ≤ 4 := by
    have : v = 0 ∨ v = 1 ∨ v = 2 ∨ v = 3 ∨ v = 4 := by omega
    rcases this with rfl | rfl | rfl | rfl | rfl
    · exact ⟨2, rfl, by omega, by omega⟩
    · exact ⟨3, rfl, by omega, by omega⟩
    · exact ⟨3, rfl, by omega, by omega⟩
    · exact ⟨2, rfl, by omega, by omega⟩
    · exact ⟨4, rfl, by omega, by omega⟩
  refine st_for (by array_mem_dec) (walk_rangeN (n := many) (by omega)) ?_
  refine forN (fun (ms : List Nat) env st => ∃ (q : Hl) (L S : List Str) (z1 : Option D), env = bEnv z1 ∧ st = H q [oS S, oS L] ∧ q.ok ∧ (S ++ L).Perm poolL ∧ S.length + ms.length = many) ?_ ?_ ⟨q1, poolL, [], none, rfl, rfl, hq1, .refl _, by simp⟩
  · rintro m ms env st ⟨q, L, S, z1, rfl, rfl, hq, hp, hm'⟩
    simp only [List.length_cons] at hm'
    have hpl := hp.length_eq
    rw [List.length_append] at hpl
    have h7 : poolL.length = 7 := rfl
    refine ⟨rfl, bEnv (some (.p (.int (m : Int)))), rfl, ?_⟩
    obtain ⟨v, q2, f2, hv, hq2⟩ := pull_c n [oS S, oS L] "state" (((L.map fun x => D.p (.str x)).length : Nat) : Int) hq (by decide) (by rw [List.length_map]; omega) (by rw [List.length_map]; omega)
    have hv' : v < L.length := by rw [List.length_map] at hv; omega
    have hS' : (S.map fun x => D.p (.str x)).length ≤ 100000 := by rw [List.length_map]; omega
    array_get_dec
    show wpR (exB _ _ _ [_, _, _, .lst ((S.map fun x => D.p (.str x)) ++ [D.p (.str L[v])]), oS (L.eraseIdx v)]) _
    have e : (S.map fun x => D.p (.str x)) ++ [D.p (.str L[v])] = (S ++ [L[v]]).map fun x => D.p (.str x) := by rw [List.map_append] <;> rfl
    rw [e]
    refine st_nil ⟨q2, L.eraseIdx v, S ++ [L[v]], _, rfl, rfl, hq2, ?_, by simp; omega⟩
    rw [List.append_assoc]
    exact (List.Perm.append_left S (pick_perm hv')).trans hp
  · rintro env st ⟨q, L, S, z1, rfl, rfl, hq, hp, hm'⟩
    refine ⟨rfl, st_go ?_⟩
    simp only [List.length_nil, Nat.add_zero] at hm'
    have hSl : (S.map PyData.str).length ≤ 1000000 := by rw [List.length_map]; omega
    have e2 : asNew false (cutD (.r 3) none (some 1) (H q [oS S, oS L])) (H q [oS S, oS L]) = .ok (.p (.list (Dn.cut (S.map .str) none (some 1)))) (H q [oS S, oS L]) := q_slR (k := 3) rfl (allP_fun PyData.str S) hSl
    have e3 : asNew false (cutD (.r 3) (some (-1)) none (H q [oS S, oS L])) (H q [oS S, oS L]) = .ok (.p (.list (Dn.cut (S.map .str) (some (-1)) none))) (H q [oS S, oS L]) := q_slR (k := 3) rfl (allP_fun PyData.str S) hSl
    have nd : poolL.Nodup := by decide
    have al : ∀ w ∈ poolL, asB w 20 = true := by decide
    array_get_dec
    exact ⟨S, _, q, _, rfl, rfl, ⟨(List.nodup_append.mp (hp.nodup_iff.mpr nd)).1, by omega, by omega, fun s hs => asB_as (al s (hp.mem_iff.mp (List.mem_append_left _ hs)))⟩, hq⟩
/-! ### things bent -/
section
variable {Φ : Calls} {env : Sl} {st : Store}
def TU (Φ : Calls) (env : Sl) (st : Store) (e : E) (n : Nat) : Prop := ∃ xs, ev Φ e env st = .ok (.p (.tuple xs)) st ∧ (∀ d ∈ xs, kd d = true) ∧ xs.length ≤ n
def VA (Φ : Calls) (env : Sl) (st : Store) (e : E) : Prop := ∃ d, ev Φ e env st = .ok (.p d) st ∧ TH d
theorem TU.va {e : E} {n : Nat} (h : TU Φ env st e n) (hn : n ≤ 100) : VA Φ env st e := by
  obtain ⟨xs, h1, h2, h3⟩ := h
  exact ⟨_, h1, h2, by omega⟩
theorem TU.add {a b : E} {n m : Nat} (h : TU Φ env st a n) (g : TU Φ env st b m) (hn : n + m ≤ 1000) : TU Φ env st (.o2 .add a b) (n + m) := by
  obtain ⟨xs, h1, h2, h3⟩ := h
  obtain ⟨ys, g1, g2, g3⟩ := g
  have hl : xs.length + ys.length ≤ 1000 := by omega
  refine ⟨xs ++ ys, by array_mem_dec, fun d hd => ?_, by rw [List.length_append]; omega⟩
  rcases List.mem_append.mp hd with hd | hd
  · exact h2 d hd
  · exact g2 d hd
theorem TU.sl {a : E} {n : Nat} {lo hi : Option E} {l r : Option Int} (h : TU Φ env st a n) (hl : evO Φ lo env st = .ok l st) (hr : evO Φ hi env st = .ok r st) : TU Φ env st (.sl false a lo hi) n := by
  obtain ⟨xs, h1, h2, h3⟩ := h
  exact ⟨Dn.cut xs l r, slE h1 hl hr q_slT, fun d hd => h2 d ((cut_sub _ _ _).subset hd), Nat.le_trans (cut_sub _ _ _).length_le h3⟩
theorem TU.one {e : E} {d : PyData} (h : ev Φ e env st = .ok (.p d) st) (hd : kd d = true) : TU Φ env st (.tup [e]) 1 := ⟨[d], by array_mem_dec, fun x hx => by rw [List.mem_singleton.mp hx]; exact hd, by simp⟩
theorem VA.of {e : E} {d : PyData} (h : ev Φ e env st = .ok (.p d) st) (hd : TH d) : VA Φ env st e := ⟨d, h, hd⟩
theorem evs_VA : ∀ {es : List E}, (∀ e ∈ es, VA Φ env st e) → ∃ ds : List PyData, evs Φ es env st = .ok (ds.map D.p) st ∧ ds.length = es.length ∧ ∀ d ∈ ds, TH d
  | [], _ => ⟨[], rfl, rfl, by simp⟩
  | e :: es, h => by
    obtain ⟨d, h1, h2⟩ := h e (by simp)
    obtain ⟨ds, g1, g2, g3⟩ := evs_VA (es := es) fun x hx => h x (by simp [hx])
    refine ⟨d :: ds, evs_at h1 g1, by simp [g2], fun x hx => ?_⟩
    rcases List.mem_cons.mp hx with rfl | hx
    · exact h2
    · exact g3 x hx
end
theorem ne_nil {d : PyData} {st : Store} : op2 .ne (.p d) (.p (.tuple [])) st = .ok (.p (.bool (!PyData.eqv d (.tuple [])))) st := by
  rw [op2_ne_p]
  have e : eqD d (.tuple []) = some (PyData.eqv d (.tuple [])) := by
    unfold eqD
    have h : PyData.depth (.tuple []) ≤ 64 := by decide
    rw [if_pos (by omega)]
  rw [e]
  rfl
theorem q_lstT {xs : List PyData} {st : Store} (h : xs.length ≤ 100000) : op1 (.lst false) (.p (.tuple xs)) st = .ok (.p (.list xs)) st := by
  show newL false (xs.map .p) st = _
  unfold newL
  rw [if_neg (Nat.not_lt.mpr (le_line (by rw [List.length_map]; omega))), allP_map]
  rfl
theorem up_ev {x : Str} {n : Nat} {st : Store} (h : As x n) (hn : n ≤ 1000) : ∃ y : Str, op1 .upper (.p (.str x)) st = .ok (.p (.str y)) st := by
  have e : upS x = some ⟨(x.cps.toList.map upC).toArray⟩ := by
    unfold upS
    have h1 : x.cps.toList.all (· < 128) = true := List.all_eq_true.mpr fun c hc => decide_eq_true (h.lo c hc)
    have := h.len
    rw [h1, decide_eq_true (by omega)]
    rfl
  refine ⟨⟨(x.cps.toList.map upC).toArray⟩, ?_⟩
  show Res.of st ((upS x).map fun y => D.p (.str y)) = _
  rw [e]
  rfl
theorem mul_ev {x : Str} {n : Nat} {st : Store} (h : As x n) (hn : n ≤ 1000) : op2 .mul (.p (.str x)) (.p (.int 5)) st = .ok (.p (.str (mulS x 5))) st := by
  have := h.len
  show (if (decide ((0 : Int) ≤ 5) && decide ((5 : Int) ≤ 1000) && decide (x.length ≤ 1000)) = true then _ else _) = _
  rw [if_pos (by rw [decide_eq_true (by omega : x.length ≤ 1000)]; rfl)]
abbrev nEnv (ws : List Str) (o : Str) (z3 z4 z5 : Option D) : Sl := [some (.r 2), some (.p (eW ws)), some (.p (.str o)), z3, z4, z5]
abbrev oP (ts : List PyData) : Ob := .lst (ts.map D.p)
theorem kd_map (ws : List Str) : ∀ d ∈ ws.map PyData.str, kd d = true := fun d hd => by
  obtain ⟨w, _, rfl⟩ := List.mem_map.mp hd
  rfl
theorem bents_c (n : Nat) {q : Hl} {ws : List Str} {o : Str} (hq : q.ok) (h1 : 1 ≤ ws.length) (h2 : ws.length ≤ 20) (hw : ∀ w ∈ ws, As w 20) :
    ∃ (ts : List PyData) (q' : Hl), callD (callF F (n + 3)) false 15 [.r 2, .p (eW ws), .p (.str o)] (H q []) = .ok (.p (.list ts)) (H q' []) ∧ ts.length ≤ 50 ∧ (∀ t ∈ ts, TH t) ∧ q'.ok := by
  suffices h : wpR (callF F (n + 3) f__law_bents [.r 2, .p (eW ws), .p (.str o)] (H q [])) (fun d st => ∃ (ts : List PyData) (q' : Hl) (L : Store), d = .p (.list ts) ∧ st = H q' L ∧ ts.length ≤ 50 ∧ (∀ t ∈ ts, TH t) ∧ q'.ok) by
    obtain ⟨d, st, f, ts, q', L, rfl, rfl, g1, g2, g3⟩ := wpR_out h
    refine ⟨ts, q', ?_, g1, g2, g3⟩
    have hc : ((H q' L).take (H q []).length).all (obLt (H q []).length) = true := by
      show (H q' []).all (obLt 3) = true
      simp [obLt, refLt, kvD]
    exact callD_t f hc
  rw [wp_call (d := d__law_bents) rfl ⟨rfl, by decide⟩]
  show wpR (exB (callF F (n + 2)) b__law_bents (nEnv ws o none none none) (H q [])) _
  unfold b__law_bents
  obtain ⟨v, q1, f1, hv, hq1⟩ := pull_c n [] "spot" (((ws.map PyData.str).length : Nat) : Int) hq (by decide) (by rw [List.length_map]; omega) (by rw [List.length_map]; omega)
  have hv' : v < ws.length := by rw [List.length_map] at hv; omega
  array_get_dec
  have base : ∀ (z4 z5 : Option D) (st : Store), TU (callF F (n + 2)) (nEnv ws o (some (.p (.int (v : Int)))) z4 z5) st (.var 1) 20 := fun z4 z5 st => ⟨ws.map .str, var_at rfl, kd_map ws, by rw [List.length_map]; exact h2⟩
  have lo : ∀ (z4 z5 : Option D) (st : Store), TU (callF F (n + 2)) (nEnv ws o (some (.p (.int (v : Int)))) z4 z5) st (.sl false (.var 1) .none (.some (.var 3))) 20 := fun z4 z5 st => (base z4 z5 st).sl (r := some (v : Int)) evO_n (evO_at (var_at rfl))
  have hi0 : ∀ (z4 z5 : Option D) (st : Store), TU (callF F (n + 2)) (nEnv ws o (some (.p (.int (v : Int)))) z4 z5) st (.sl false (.var 1) (.some (.var 3)) .none) 20 := fun z4 z5 st => (base z4 z5 st).sl (l := some (v : Int)) (evO_at (var_at rfl)) evO_n
  have hi1 : ∀ (z4 z5 : Option D) (st : Store), TU (callF F (n + 2)) (nEnv ws o (some (.p (.int (v : Int)))) z4 z5) st (.sl false (.var 1) (.some (.o2 .add (.var 3) (.c (.int 1)))) .none) 20 := fun z4 z5 st => (base z4 z5 st).sl (l := some ((v : Int) + 1)) (evO_at (by array_mem_dec)) evO_n
  have other : ∀ (z4 z5 : Option D) (st : Store), TU (callF F (n + 2)) (nEnv ws o (some (.p (.int (v : Int)))) z4 z5) st (.tup [.var 2]) 1 := fun z4 z5 st => TU.one (d := .str o) (var_at rfl) rfl
  have g1 : getIx (.p (eW ws)) (.p (.int (v : Int))) (H q1 []) = some (.p (.str ws[v])) := ixTm hv'
  have g0 : getIx (.p (eW ws)) (.p (.int 0)) (H q1 []) = some (.p (.str ws[0])) := ixTm (n := 0) (by omega)
  have hq12 : ∀ e ∈ ([.var 1, .o1 (.lst false) (.var 1), .rv false (.var 1), .o2 .add (.var 1) (.sl false (.var 1) (.some (.o1 .neg (.c (.int 1)))) .none), .o2 .add (.var 1) (.tup [.c .none]), .tup [.var 1], .o2 .ix (.var 1) (.c (.int 0)), .c .none, .c (.bool true), .c (.int 0), .o2 .add (.o2 .add (.sl false (.var 1) .none (.some (.var 3))) (.sl false (.var 1) (.some (.o2 .add (.var 3) (.c (.int 1)))) .none)) (.tup [.var 2]), .o2 .add (.o2 .add (.sl false (.var 1) .none (.some (.var 3))) (.tup [.var 2])) (.sl false (.var 1) (.some (.var 3)) .none)] : List E), VA (callF F (n + 2)) (nEnv ws o (some (.p (.int (v : Int)))) none none) (H q1 []) e := by
    have b := base none none (H q1 [])
    have hl5 : (ws.map PyData.str).length ≤ 100000 := by rw [List.length_map]; omega
    have hls := q_lstT (st := H q1 []) hl5
    intro e he
    simp only [List.mem_cons, List.not_mem_nil, or_false] at he
    rcases he with rfl | rfl | rfl | rfl | rfl | rfl | rfl | rfl | rfl | rfl | rfl | rfl
    · exact b.va (by omega)
    · exact .of (d := .list (ws.map .str)) (o1_at (var_at rfl) hls) trivial
    · exact .of (d := .tuple (ws.map .str).reverse) (rvE (x := .p (eW ws)) (var_at rfl) rfl) ⟨fun d hd => kd_map ws d (List.mem_reverse.mp hd), by rw [List.length_reverse, List.length_map]; omega⟩
    · exact (b.add (b.sl (l := some (-1)) (evO_at (by array_mem_dec)) evO_n) (by omega)).va (by omega)
    · exact (b.add (TU.one ev_c rfl) (by omega)).va (by omega)
    · exact (TU.one (d := eW ws) (var_at rfl) rfl).va (by omega)
    · exact .of (d := .str ws[0]) (by array_mem_dec) trivial
    · exact .of ev_c trivial
    · exact .of ev_c trivial
    · exact .of ev_c trivial
    · exact (((lo none none _).add (hi1 none none _) (by omega)).add (other none none _) (by omega)).va (by omega)
    · exact (((lo none none _).add (other none none _) (by omega)).add (hi0 none none _) (by omega)).va (by omega)
  obtain ⟨ts, e1, e2, e3⟩ := evs_VA hq12
  have el : ev (callF F (n + 2)) (.lst true [.var 1, .o1 (.lst false) (.var 1), .rv false (.var 1), .o2 .add (.var 1) (.sl false (.var 1) (.some (.o1 .neg (.c (.int 1)))) .none), .o2 .add (.var 1) (.tup [.c .none]), .tup [.var 1], .o2 .ix (.var 1) (.c (.int 0)), .c .none, .c (.bool true), .c (.int 0), .o2 .add (.o2 .add (.sl false (.var 1) .none (.some (.var 3))) (.sl false (.var 1) (.some (.o2 .add (.var 3) (.c (.int 1)))) .none)) (.tup [.var 2]), .o2 .add (.o2 .add (.sl false (.var 1) .none (.some (.var 3))) (.tup [.var 2])) (.sl false (.var 1) (.some (.var 3)) .none)]) (nEnv ws o (some (.p (.int (v : Int)))) none none) (H q1 []) = .ok (.r 3) (H q1 [oP ts]) := lst_at e1 (by rw [List.length_map, e2]; simp)
  array_get_dec
  have hq11 : ∀ e ∈ ([.c .none, .c (.int 1), .c (.bool true), .c (.str ""), .c (.str "wall"), .var 2, .tup [.o2 .ix (.var 1) (.var 3)], .lst false [.o2 .ix (.var 1) (.var 3)], .o2 .add (.o2 .ix (.var 1) (.var 3)) (.c (.str " ")), .o1 .upper (.o2 .ix (.var 1) (.var 3)), .o2 .mul (.o2 .ix (.var 1) (.var 3)) (.c (.int 5))] : List E), VA (callF F (n + 2)) (nEnv ws o (some (.p (.int (v : Int)))) (some (.r 3)) none) (H q1 [oP ts]) e := by
    have g1 : getIx (.p (eW ws)) (.p (.int (v : Int))) (H q1 [oP ts]) = some (.p (.str ws[v])) := ixTm hv'
    have ha := hw _ (List.getElem_mem hv')
    have hx : ev (callF F (n + 2)) (.o2 .ix (.var 1) (.var 3)) (nEnv ws o (some (.p (.int (v : Int)))) (some (.r 3)) none) (H q1 [oP ts]) = .ok (.p (.str ws[v])) (H q1 [oP ts]) := by array_mem_dec
    intro e he
    simp only [List.mem_cons, List.not_mem_nil, or_false] at he
    rcases he with rfl | rfl | rfl | rfl | rfl | rfl | rfl | rfl | rfl | rfl | rfl
    · exact .of ev_c trivial
    · exact .of ev_c trivial
    · exact .of ev_c trivial
    · exact .of ev_c trivial
    · exact .of ev_c trivial
    · exact .of (d := .str o) (var_at rfl) trivial
    · exact (TU.one hx rfl).va (by omega)
    · exact .of (d := .list [.str ws[v]]) (by array_mem_dec) trivial
    · have hll : ws[v].length + (" " : Str).length ≤ 1000000 := by
        have := ha.len
        have h1 : (" " : Str).length = 1 := by decide
        omega
      exact .of (d := .str (ws[v] ++ " ")) (o2_at hx rfl ev_c (q_addS hll)) trivial
    · obtain ⟨y, hy⟩ := up_ev (st := H q1 [oP ts]) ha (by omega)
      exact .of (d := .str y) (o1_at hx hy) trivial
    · exact .of (d := .str (mulS ws[v] 5)) (o2_at hx rfl ev_c (mul_ev ha (by omega))) trivial
  obtain ⟨us, k1, k2, k3⟩ := evs_VA hq11
  have et : ev (callF F (n + 2)) (.tup [.c .none, .c (.int 1), .c (.bool true), .c (.str ""), .c (.str "wall"), .var 2, .tup [.o2 .ix (.var 1) (.var 3)], .lst false [.o2 .ix (.var 1) (.var 3)], .o2 .add (.o2 .ix (.var 1) (.var 3)) (.c (.str " ")), .o1 .upper (.o2 .ix (.var 1) (.var 3)), .o2 .mul (.o2 .ix (.var 1) (.var 3)) (.c (.int 5))]) (nEnv ws o (some (.p (.int (v : Int)))) (some (.r 3)) none) (H q1 [oP ts]) = .ok (.p (.tuple us)) (H q1 [oP ts]) := tupE k1 (allP_map _) (by rw [k2]; simp)
  refine st_for (evs1_at et) walk_tup1 ?_
  refine forN (fun (xs : List PyData) env st => ∃ (ts : List PyData) (z5 : Option D), env = nEnv ws o (some (.p (.int (v : Int)))) (some (.r 3)) z5 ∧ st = H q1 [oP ts] ∧ ts.length + xs.length ≤ 23 ∧ (∀ t ∈ ts, TH t) ∧ ∀ x ∈ xs, TH x) ?_ ?_ ⟨ts, none, rfl, rfl, by rw [e2, k2]; simp, e3, k3⟩
  · rintro x xs env st ⟨ts, z5, rfl, rfl, hl, ht, hx⟩
    simp only [List.length_cons] at hl
    refine ⟨rfl, nEnv ws o (some (.p (.int (v : Int)))) (some (.r 3)) (some (.p x)), rfl, ?_⟩
    obtain ⟨d, m1, m2⟩ := (((lo (some (.r 3)) (some (.p x)) (H q1 [oP ts])).add (TU.one (e := .var 5) (d := x) (var_at rfl) (hx x (by simp)).kd) (by omega)).add (hi1 _ _ _) (by omega)).va (by omega)
    have hl' : (ts.map D.p).length ≤ 100000 := by rw [List.length_map]; omega
    array_get_dec
    show wpR (exB _ _ _ [_, _, _, .lst (ts.map D.p ++ [D.p d])]) _
    have e : ts.map D.p ++ [D.p d] = (ts ++ [d]).map D.p := by rw [List.map_append] <;> rfl
    rw [e]
    refine st_nil ⟨ts ++ [d], _, rfl, rfl, by simp; omega, fun t h => ?_, fun y hy => hx y (by simp [hy])⟩
    rcases List.mem_append.mp h with h | h
    · exact ht t h
    · rw [List.mem_singleton.mp h]; exact m2
  · rintro env st ⟨ts, z5, rfl, rfl, hl, ht, hx⟩
    refine ⟨rfl, st_go ?_⟩
    simp only [List.length_nil, Nat.add_zero] at hl
    have hc : ev (callF F (n + 2)) (.comp false (.var 5) (.one 5) 0 [.var 4] [.o2 .ne (.var 5) (.tup [])]) (nEnv ws o (some (.p (.int (v : Int)))) (some (.r 3)) z5) (H q1 [oP ts]) = .ok (.p (.list ((ts.filter fun t => !PyData.eqv t (.tuple [])).map fun t => t))) (H q1 [oP ts]) :=
      compN (fun t => !PyData.eqv t (.tuple [])) (fun t => t) (ds := [.r 3]) (by array_mem_dec) (walk_refN (k := 3) (f := D.p) (l := ts) rfl) (still_ref (k := 3) rfl rfl) (fun t _ => ⟨nEnv ws o (some (.p (.int (v : Int)))) (some (.r 3)) (some (.p t)), rfl, by
        have := ne_nil (d := t) (st := H q1 [oP ts])
        exact an1 (o2_at (y := .p (.tuple [])) (var_at rfl) rfl (by array_mem_dec) this), fun _ => var_at rfl⟩) (by omega)
    array_get_dec
    refine ⟨_, q1, _, rfl, rfl, ?_, fun t h => ?_, hq1⟩
    · rw [List.length_map]
      exact Nat.le_trans (List.length_filter_le _ _) (by omega)
    · rw [List.map_id'] at h
      exact ht t (List.mem_filter.mp h).1
end Lw
namespace Lw
open PySem Dn
/-! TAC -/
local macro_rules | `(tactic| array_mem_dec) => `(tactic| first
  | with_reducible assumption
  | with_reducible exact ev_c
  | with_reducible exact evs_nil
  | with_reducible exact evO_n
  | with_reducible exact ev_gE
  | (with_reducible apply var_at) <;> rfl
  | (with_reducible apply evs_at) <;> array_mem_dec
  | ((with_reducible apply o2_at); (· array_mem_dec); (· sizeOf_list_dec); (· array_mem_dec); (· sizeOf_list_dec))
  | ((with_reducible apply o1_at); (· array_mem_dec); (· sizeOf_list_dec))
  | ((with_reducible apply o3_at); (· array_mem_dec); (· sizeOf_list_dec); (· array_mem_dec); (· array_mem_dec); (· sizeOf_list_dec))
  | (with_reducible apply callE) <;> array_mem_dec
  | ((with_reducible apply callkE); (· array_mem_dec); (· rfl); (· array_mem_dec))
  | ((with_reducible apply tupE); (· array_mem_dec); (· sizeOf_list_dec); (· sizeOf_list_dec))
  | ((with_reducible apply lstE); (· array_mem_dec); (· sizeOf_list_dec); (· sizeOf_list_dec))
  | (with_reducible apply an_at) <;> array_mem_dec
  | (with_reducible apply orr_at) <;> array_mem_dec
  | (with_reducible apply an1) <;> array_mem_dec
  | (with_reducible apply or1) <;> array_mem_dec
  | (with_reducible apply anC) <;> (try intro _) <;> array_mem_dec
  | (with_reducible apply orC) <;> (try intro _) <;> array_mem_dec
  | (with_reducible apply ite_v) <;> (try intro _) <;> array_mem_dec
  | ((with_reducible apply chain_v); (· array_mem_dec); (· array_mem_dec); (· sizeOf_list_dec); (· intro _; array_mem_dec); (· sizeOf_list_dec))
  | ((with_reducible apply slE); (· array_mem_dec); (· array_mem_dec); (· array_mem_dec); (· sizeOf_list_dec))
  | ((with_reducible apply rvE); (· array_mem_dec); (· sizeOf_list_dec))
  | (with_reducible apply evO_at) <;> array_mem_dec
  | ((with_reducible apply lst_at); (· array_mem_dec); (· sizeOf_list_dec))
  | ((with_reducible apply dicE); (· array_mem_dec); (· rfl); (· rfl))
  | ((with_reducible apply callD_g); (· sizeOf_list_dec); (· with_reducible assumption)))
local macro_rules | `(tactic| sizeOf_list_dec) => `(tactic| first
  | with_reducible assumption
  | with_reducible rfl
  | with_reducible exact op2_add_i
  | with_reducible exact op2_sub_i
  | with_reducible exact q_ltI
  | with_reducible exact q_leI
  | with_reducible exact q_gtI
  | with_reducible exact q_geI
  | with_reducible exact q_eqI
  | with_reducible exact q_eqS
  | with_reducible exact q_neI
  | with_reducible exact q_neS
  | with_reducible exact q_eqB
  | with_reducible exact q_neB
  | with_reducible exact q_inTS
  | with_reducible exact q_inLS
  | with_reducible exact q_ninTS
  | with_reducible exact q_ninLS
  | with_reducible exact q_inTI
  | with_reducible exact q_inLI
  | with_reducible exact q_mx
  | with_reducible exact q_mn
  | with_reducible exact q_nt
  | with_reducible exact q_neg
  | with_reducible exact q_lenT
  | with_reducible exact q_lenL
  | with_reducible exact q_abs
  | with_reducible exact q_intI
  | with_reducible exact q_intB
  | with_reducible exact q_tupT
  | with_reducible exact q_tupL
  | with_reducible exact q_isN
  | (with_reducible apply q_lenR) <;> sizeOf_list_dec
  | (with_reducible apply q_ix) <;> sizeOf_list_dec
  | (with_reducible apply q_ixD) <;> sizeOf_list_dec
  | (with_reducible apply q_mod) <;> sizeOf_list_dec
  | (with_reducible apply q_fdv) <;> sizeOf_list_dec
  | (with_reducible apply q_mul) <;> first | exact mulOk_R rfl | exact mulOk_L rfl | sizeOf_list_dec
  | (with_reducible apply q_mulT1) <;> sizeOf_list_dec
  | (with_reducible apply q_addT) <;> sizeOf_list_dec
  | (with_reducible apply q_addL) <;> sizeOf_list_dec
  | (with_reducible apply q_addRL) <;> sizeOf_list_dec
  | (with_reducible apply q_addS) <;> sizeOf_list_dec
  | (with_reducible apply q_isin) <;> sizeOf_list_dec
  | (with_reducible apply q_all) <;> sizeOf_list_dec
  | (with_reducible apply q_any) <;> sizeOf_list_dec
  | (with_reducible apply q_sum) <;> sizeOf_list_dec
  | (with_reducible apply q_tupr) <;> sizeOf_list_dec
  | (with_reducible apply q_tupR) <;> sizeOf_list_dec
  | (with_reducible apply q_indxT) <;> sizeOf_list_dec
  | (with_reducible apply q_app) <;> sizeOf_list_dec
  | (with_reducible apply q_ext) <;> sizeOf_list_dec
  | (with_reducible apply q_frz) <;> sizeOf_list_dec
  | (with_reducible apply q_popR) <;> sizeOf_list_dec
  | (with_reducible apply q_pop0) <;> sizeOf_list_dec
  | with_reducible exact q_slT
  | (with_reducible apply q_slL) <;> sizeOf_list_dec
  | (with_reducible apply q_slR) <;> first | rfl | sizeOf_list_dec
  | (with_reducible apply q_ins0) <;> sizeOf_list_dec
  | (with_reducible apply q_popiM) <;> first | rfl | sizeOf_list_dec
  | with_reducible exact getIx_0
  | with_reducible exact getIx_1
  | (with_reducible apply ixTm) <;> sizeOf_list_dec
  | (with_reducible apply ixLm) <;> sizeOf_list_dec
  | (with_reducible apply ixT) <;> sizeOf_list_dec
  | (with_reducible apply ixL) <;> sizeOf_list_dec
  | (with_reducible apply ixRm) <;> first | rfl | sizeOf_list_dec
  | (with_reducible apply ixR) <;> sizeOf_list_dec
  | with_reducible exact boolsOf_map _
  | with_reducible exact intsOf_map _
  | with_reducible exact strsOf_map _
  | with_reducible exact allP_map _
  | with_reducible exact allP_mapc _ _
  | with_reducible exact allP_maps _
  | with_reducible exact allP_fun _ _
  | with_reducible exact boolsOf_mapf _ _
  | (with_reducible apply qStN) <;> sizeOf_list_dec
  | rfl
  | omega
  | (simp only [List.length_map, List.length_append, List.length_cons, List.length_nil, List.length_range]; omega)
  | decide)
local macro_rules | `(tactic| array_get_dec) => `(tactic| first
  | ((with_reducible apply st_set); (· array_mem_dec); (· rfl); (try dsimp only [List.set_cons_succ, List.set_cons_zero]))
  | ((with_reducible apply st_iffF); (· array_mem_dec); (· first | rfl | (simp; done) | (simp; omega)))
  | ((with_reducible apply st_par2); (· array_mem_dec); (· array_mem_dec); (· rfl); (· rfl); (try dsimp only [List.set_cons_succ, List.set_cons_zero]))
  | ((with_reducible apply st_par3); (· array_mem_dec); (· array_mem_dec); (· array_mem_dec); (· rfl); (· rfl); (· rfl); (try dsimp only [List.set_cons_succ, List.set_cons_zero]))
  | ((with_reducible apply st_unp2); (· array_mem_dec); (· rfl); (· rfl); (try dsimp only [List.set_cons_succ, List.set_cons_zero]))
  | ((with_reducible apply st_unp3); (· array_mem_dec); (· rfl); (· rfl); (· rfl); (try dsimp only [List.set_cons_succ, List.set_cons_zero]))
  | ((with_reducible apply st_unp4); (· array_mem_dec); (· rfl); (· rfl); (· rfl); (· rfl); (try dsimp only [List.set_cons_succ, List.set_cons_zero]))
  | ((with_reducible apply st_unp5); (· array_mem_dec); (· rfl); (try dsimp only [List.set_cons_succ, List.set_cons_zero]))
  | ((with_reducible apply st_aug); (· rfl); (· array_mem_dec); (· sizeOf_list_dec); (· rfl); (try dsimp only [List.set_cons_succ, List.set_cons_zero]))
  | ((with_reducible apply st_setix); (· array_mem_dec); (· array_mem_dec); (· array_mem_dec); (· sizeOf_list_dec))
  | ((with_reducible apply st_augix); (· array_mem_dec); (· array_mem_dec); (· sizeOf_list_dec); (· array_mem_dec); (· sizeOf_list_dec); (· sizeOf_list_dec))
  | ((with_reducible apply st_ex); (· array_mem_dec))
  | ((with_reducible apply st_ret); (· array_mem_dec))
  | with_reducible apply st_retN
  | with_reducible apply st_pass
  | with_reducible apply st_brk
  | with_reducible apply st_cont
  | with_reducible apply st_nil
  | with_reducible apply st_go)
/-! CAT -/
theorem isTrue_ok {r : Res D} (h : isTrueR r = true) : ∃ st, r = .ok (.p (.bool true)) st := by
  match r, h with
  | .ok (.p (.bool true)) st, _ => exact ⟨st, rfl⟩
theorem hand_ev : isTrueR (callF F 59 16 [] []) = true := by kernel_rfl
theorem hand_c (st : Store) : callD (callF F 59) true 16 [] st = .ok (.p (.bool true)) st := by
  obtain ⟨st1, e⟩ := isTrue_ok hand_ev
  show runP (callF F 59) 16 [] st = _
  unfold runP
  show (match callF F 59 16 [] [] with
    | .ok d st' => Res.of st ((thaw d st').map D.p)
    | .ex c fs _ => .ex c fs st
    | .bad => .bad) = _
  rw [e]
  rfl
theorem like_c (n : Nat) {x : PyData} (st : Store) (hx : pl x = true) (hz : sz x ≤ 15000) : callD (callF F (n + 1)) true 9 [.p x, .p x] st = .ok (.p (.bool true)) st := callD_pure (like_ok n hx hz) rfl
theorem rise_range' (m : Nat) : ∀ a : Nat, rise ltN (List.range' a m) = true := by
  induction m with
  | zero => intro a; rfl
  | succ m ih =>
    intro a
    cases m with
    | zero => rfl
    | succ m =>
      have h := ih (a + 1)
      unfold rise at h ⊢
      rw [List.range'_succ] at h
      rw [List.range'_succ, List.range'_succ]
      simp only [List.drop_succ_cons, List.drop_zero] at h ⊢
      rw [List.zip_cons_cons, List.all_cons, h]
      unfold ltN
      rw [decide_eq_true (by omega)]
      rfl
theorem rk_all {S : List Str} (hn : S.Nodup) : S.map (rk S) = List.range' 0 S.length := by
  rw [← List.range_eq_range']
  refine List.ext_getElem? fun i => ?_
  rw [List.getElem?_map]
  by_cases h : i < S.length
  · rw [List.getElem?_eq_getElem h, List.getElem?_range h]
    show some (rk S S[i]) = some i
    have h1 := rk_at (List.getElem_mem h)
    have h2 : rk S S[i] < S.length := (List.getElem?_eq_some_iff.mp h1).1
    congr 1
    exact (List.getElem_inj hn).mp (Option.some.inj ((List.getElem?_eq_getElem h2).symm.trans h1))
  · rw [List.getElem?_eq_none (by omega), List.getElem?_eq_none (by simp; omega)]
    rfl
theorem states_part {S ws : List Str} {a m : Nat} (hm : ∀ w ∈ ws, w ∈ S) (hw : ws.map (rk S) = List.range' a m) (h0 : 0 < ws.length) : isStates S (eW ws) = true := by
  have h1 : (ws.map PyData.str).all (isIn S) = true := List.all_eq_true.mpr fun d hd => by
    obtain ⟨w, hw', rfl⟩ := List.mem_map.mp hd
    exact decide_eq_true (hm w hw')
  show (((ws.map PyData.str).all (isIn S) && rise ltN (((ws.map PyData.str).map sV).map (rk S))) && decide ((0 : Int) < (((ws.map PyData.str).length : Nat) : Int))) = true
  rw [h1, sV_map, hw, rise_range', List.length_map, decide_eq_true (by omega)]
  rfl
theorem states_drop {S : List Str} (hn : S.Nodup) {i : Nat} (hi : i < S.length) : isStates S (eW (S.drop i)) = true := by
  refine states_part (a := i) (m := S.length - i) (fun w hw => List.mem_of_mem_drop hw) ?_ (by rw [List.length_drop]; omega)
  rw [List.map_drop, rk_all hn, List.drop_range']
  simp
theorem states_take {S : List Str} (hn : S.Nodup) {i : Nat} (hi : i < S.length) : isStates S (eW (S.take (i + 1))) = true := by
  refine states_part (a := 0) (m := min (i + 1) S.length) (fun w hw => List.mem_of_mem_take hw) ?_ (by rw [List.length_take]; omega)
  rw [List.map_take, rk_all hn, ← List.range_eq_range', List.take_range, List.range_eq_range']
theorem sst_ev {xs : List Str} {st : Store} (h : xs.length ≤ 1000) : op1 .sst (.p (.list (xs.map .str))) st = .ok (.p (.list ((srtL strLe (sd xs)).map .str))) st := by
  show (match (listP (.p (.list (xs.map PyData.str))) st).bind strsOf with
    | some xs => if xs.length ≤ 1000 then Res.ok (D.p (.list ((srtL strLe (sd xs)).map .str))) st else .bad
    | none => .bad) = _
  have e : (listP (.p (.list (xs.map PyData.str))) st).bind strsOf = some xs := strsOf_map xs
  rw [e]
  show (if xs.length ≤ 1000 then _ else _) = _
  rw [if_pos h]
theorem srt_ev {w : Str} {ws : List Str} {st : Store} (h : (w :: ws).length < 64) : op1 .srt (.p (.list ((w :: ws).map .str))) st = .ok (.p (.list ((srtL strLe (w :: ws)).map .str))) st := by
  show (match strsOf ((w :: ws).map PyData.str) with
    | some xs => if xs.length < 64 then Res.ok (D.p (.list ((srtL strLe xs).map .str))) st else .bad
    | none => _) = _
  rw [strsOf_map (w :: ws)]
  show (if (w :: ws).length < 64 then _ else _) = _
  rw [if_pos h]
theorem cutWd (S : List Str) (i : Nat) : Dn.cut (S.map PyData.str) (some (i : Int)) none = (S.drop i).map .str := by rw [cut_from, List.map_drop]
theorem cutWt (S : List Str) (i : Nat) : Dn.cut (S.map PyData.str) none (some (i : Int)) = (S.take i).map .str := by rw [cut_upto, List.map_take]
abbrev zz : List Str := ["zzzzzzzz"]
abbrev lEnv (sc : PyData) (z2 z3 z4 z5 z6 z7 z8 z9 z10 : Option D) : Sl := [some (.p sc), some (.r 2), z2, z3, z4, z5, z6, z7, z8, z9, z10, none]
theorem TH_W {ws : List Str} (h : ws.length ≤ 100) : TH (eW ws) := ⟨kd_map ws, by rw [List.length_map]; exact h⟩
theorem name_loop (n : Nat) {sc : PyData} {z2 z10 z5 : Option D} {ds : List PyData} {st : Store} {QS : Dn.Flow × Sl → Store → Prop} (hd : ∀ d ∈ ds, TH d) (hQ : ∀ z5, QS (.nx, lEnv sc z2 none none z5 none none none none z10) st) :
    wpR (forM' (fun _ => true) (forF (callF F (n + 2)) (.one 5) [.iff (.o1 .nt (.call true 9 [.call true 0 [.var 5], .call true 10 [.var 5]])) [.ret (.c (.bool false))] []]) (ds.map fun x => It.one (.p x)) (lEnv sc z2 none none z5 none none none none z10) st) QS := by
  refine forN (fun (xs : List PyData) env st' => ∃ z5, env = lEnv sc z2 none none z5 none none none none z10 ∧ st' = st ∧ ∀ x ∈ xs, TH x) ?_ ?_ ⟨z5, rfl, rfl, hd⟩
  · rintro x xs env st' ⟨z5, rfl, rfl, hx⟩
    refine ⟨rfl, lEnv sc z2 none none (some (.p x)) none none none none z10, rfl, ?_⟩
    have c1 := is_name_ok (n + 1) x (hx x (by simp)).kd
    have c2 := name_due_ok (n + 1) x (hx x (by simp)).kd
    have c3 := like_c (n + 1) (x := .bool (isNm x)) st' rfl (by simp [sz])
    array_get_dec
    exact st_nil ⟨_, rfl, rfl, fun y hy => hx y (by simp [hy])⟩
  · rintro env st' ⟨z5, rfl, rfl, _⟩
    exact ⟨rfl, hQ _⟩
theorem law_true : ∀ ns : List Int, ns.length ≤ 63 → ∃ st', callF F 60 f_law [.p (.list (ns.map .int))] [] = .ok (.p (.bool true)) st' := by
  intro ns hns
  suffices h : wpR (callF F 60 f_law [.p (.list (ns.map .int))] []) (fun d _ => d = .p (.bool true)) by
    obtain ⟨d, st', e, rfl⟩ := wpR_out h
    exact ⟨st', e⟩
  rw [wp_call (d := d_law) rfl ⟨rfl, by decide⟩]
  show wpR (exB (callF F 59) b_law [some (.p (.list (ns.map .int))), none, none, none, none, none, none, none, none, none, none, none] []) _
  obtain ⟨script, hsc⟩ : ∃ x : PyData, x = .list (ns.map .int) := ⟨_, rfl⟩
  obtain ⟨q, f1, hq⟩ := reed_ok 58 ns (by omega)
  rw [← hsc] at f1 ⊢
  unfold b_law
  array_get_dec
  have hh := hand_c (H q [])
  refine st_iffF (k := false) (o1_at (callE evs_nil hh) rfl) rfl ?_
  show wpR (exB _ _ (lEnv script none none none none none none none none none) _) _
  refine st_for (evs1_at ev_c) (walk_rangeN (n := 9) (by omega)) ?_
  refine forN (fun (xs : List Nat) env st => ∃ (z2 z5 z10 : Option D) (q : Hl), env = lEnv script z2 none none z5 none none none none z10 ∧ st = H q [] ∧ q.ok) ?_ ?_ ⟨none, none, none, q, rfl, rfl, hq⟩
  · rintro x xs env st ⟨z2, z5, z10, q, rfl, rfl, hq⟩
    refine ⟨rfl, lEnv script (some (.p (.int (x : Int)))) none none z5 none none none none z10, rfl, ?_⟩
    obtain ⟨w, q1, f2, hw, hq1⟩ := word_c 56 [] hq
    array_get_dec
    have hv : ∀ e ∈ ([.var 10, .tup [.var 10], .lst false [.var 10], .o1 .upper (.var 10), .o2 .add (.var 10) (.c (.str " "))] : List E), VA (callF F 59) (lEnv script (some (.p (.int (x : Int)))) none none z5 none none none none (some (.p (.str w)))) (H q1 []) e := by
      intro e he
      simp only [List.mem_cons, List.not_mem_nil, or_false] at he
      rcases he with rfl | rfl | rfl | rfl | rfl
      · exact .of (d := .str w) (var_at rfl) trivial
      · exact (TU.one (d := .str w) (var_at rfl) rfl).va (by omega)
      · exact .of (d := .list [.str w]) (by array_mem_dec) trivial
      · obtain ⟨y, hy⟩ := up_ev (st := H q1 []) hw (by omega)
        exact .of (d := .str y) (o1_at (var_at rfl) hy) trivial
      · have hll : w.length + (" " : Str).length ≤ 1000000 := by
          have := hw.len
          have h1 : (" " : Str).length = 1 := by decide
          omega
        exact .of (d := .str (w ++ " ")) (o2_at (var_at rfl) rfl ev_c (q_addS hll)) trivial
    obtain ⟨ds, k1, k2, k3⟩ := evs_VA hv
    have et : ev (callF F 59) (.tup [.var 10, .tup [.var 10], .lst false [.var 10], .o1 .upper (.var 10), .o2 .add (.var 10) (.c (.str " "))]) (lEnv script (some (.p (.int (x : Int)))) none none z5 none none none none (some (.p (.str w)))) (H q1 []) = .ok (.p (.tuple ds)) (H q1 []) := tupE k1 (allP_map _) (by rw [k2]; simp)
    refine st_for (evs1_at et) walk_tup1 ?_
    refine name_loop 57 k3 fun z5 => ?_
    exact st_go (st_nil ⟨_, _, _, q1, rfl, rfl, hq1⟩)
  · rintro env st ⟨z2, z5, z10, q, rfl, rfl, hq⟩
    refine ⟨rfl, st_go ?_⟩
    obtain ⟨m, q1, f2, hm, hq1⟩ := pull_c 57 [] "many" 5 hq (by decide) (by omega) (by omega)
    have e1 : evs (callF F 59) [.o2 .add (.c (.int 1)) (.call false 8 [.var 1, .c (.str "many"), .c (.int 5)])] (lEnv script z2 none none z5 none none none none z10) (H q []) = .ok [.p (.int ((1 + m : Nat) : Int))] (H q1 []) := evs1_at (ev_to (by array_mem_dec) (by congr 2))
    obtain ⟨d, s2, f3, ys, rfl, hl, hy, q2, rfl, hq2⟩ := wpR_out (compD0 (Φ := callF F 59) (env := lEnv script z2 none none z5 none none none none z10) (elt := .call false 13 [.var 1]) (tg := .one 2) (k := 1) (xs := List.range (1 + m))
      (fun st => ∃ q' : Hl, st = H q' [] ∧ q'.ok) (fun y => ∃ x : Str, y = .str x ∧ As x 20) e1 (walk_rangeN (by omega)) (fun _ _ => rfl) ⟨q1, rfl, hq1⟩ (fun i _ st1 ⟨q', e, hq'⟩ => by
        subst e
        refine ⟨lEnv script (some (.p (.int (i : Int)))) none none z5 none none none none z10, rfl, ?_⟩
        obtain ⟨w, q'', g1, hw, hq''⟩ := word_c 56 [] hq'
        exact wpR_eq (a := .p (.str w)) (st := H q'' []) (by array_mem_dec) ⟨_, rfl, ⟨_, rfl, hw⟩, q'', rfl, hq''⟩) (by simp; omega))
    obtain ⟨words, rfl, hwa⟩ := enc_of hy
    rw [List.length_map, List.length_range] at hl
    array_get_dec
    obtain ⟨w0, wr, hw0⟩ : ∃ w0 wr, words = w0 :: wr := by
      cases words with
      | nil => simp at hl; omega
      | cons a b => exact ⟨a, b, rfl⟩
    have hc : ev (callF F 59) (.comp false (.var 10) (.one 10) 0 [.var 3] [.call true 10 [.var 10]]) (lEnv script z2 (some (.p (.list (words.map .str)))) none z5 none none none none z10) (H q2 []) = .ok (.p (.list ((words.filter fun w => isNm (.str w)).map .str))) (H q2 []) :=
      compN (fun w : Str => isNm (.str w)) PyData.str (by array_mem_dec) walk_listN rfl (fun w _ => ⟨lEnv script z2 (some (.p (.list (words.map .str)))) none z5 none none none none (some (.p (.str w))), rfl, by
        have c1 := name_due_ok 58 (.str w) rfl
        exact an1 (by array_mem_dec), fun _ => var_at rfl⟩) (by omega)
    have hfl : (words.filter fun w => isNm (.str w)).length ≤ 5 := Nat.le_trans (List.length_filter_le _ _) (by omega)
    have hss := sst_ev (st := H q2 []) (xs := words.filter fun w => isNm (.str w)) (by omega)
    obtain ⟨good, hgd⟩ : ∃ good : List Str, good = srtL strLe (sd (words.filter fun w => isNm (.str w))) := ⟨_, rfl⟩
    have hgl : good.length ≤ 5 := by
      rw [hgd, (srtL_perm' _).length_eq]
      exact Nat.le_trans sd_len hfl
    have hga : ∀ w ∈ good, As w 20 := fun w hw => by
      rw [hgd] at hw
      exact hwa w (List.mem_filter.mp (sd_mem.mp ((srtL_perm' _).mem_iff.mp hw))).1
    rw [← hgd] at hss
    have hll : (good.map PyData.str).length + [PyData.str "zzzzzzzz"].length ≤ 1000 := by rw [List.length_map]; simp; omega
    have eg : ev (callF F 59) (.o2 .add (.o1 .tup (.o1 .sst (.comp false (.var 10) (.one 10) 0 [.var 3] [.call true 10 [.var 10]]))) (.tup [.c (.str "zzzzzzzz")])) (lEnv script z2 (some (.p (.list (words.map .str)))) none z5 none none none none z10) (H q2 []) = .ok (.p (eW (good ++ zz))) (H q2 []) := by
      refine ev_to (o2_at (o1_at (o1_at hc hss) q_tupL) rfl (by array_mem_dec) (q_addT hll)) ?_
      unfold eW
      rw [List.map_append] <;> rfl
    array_get_dec
    obtain ⟨bs, q3, f4, hbl, hbt, hq3⟩ := bents_c 56 (ws := good ++ zz) (o := w0) hq2 (by simp) (by simp; omega) (fun w hw => by
      rcases List.mem_append.mp hw with h | h
      · exact hga w h
      · rw [List.mem_singleton.mp h]; exact asB_as (by decide))
    have g0 : getIx (.p (.list (words.map PyData.str))) (.p (.int 0)) (H q2 []) = some (.p (.str w0)) := by
      rw [hw0]
      exact getIx_l0
    have hsr : op1 .srt (.p (.list (words.map PyData.str))) (H q3 []) = .ok (.p (.list ((srtL strLe words).map .str))) (H q3 []) := by
      rw [hw0]
      exact srt_ev (by rw [← hw0]; omega)
    have hsl : (srtL strLe words).length = words.length := (srtL_perm' _).length_eq
    have ebl : bs.length + [eW words, eW (srtL strLe words)].length ≤ 100000 := by simp; omega
    have ea : ev (callF F 59) (.o2 .add (.call false 15 [.var 1, .var 4, .o2 .ix (.var 3) (.c (.int 0))]) (.lst false [.o1 .tup (.var 3), .o1 .tup (.o1 .srt (.var 3))])) (lEnv script z2 (some (.p (.list (words.map .str)))) (some (.p (eW (good ++ zz)))) z5 none none none none z10) (H q2 []) = .ok (.p (.list (bs ++ [eW words, eW (srtL strLe words)]))) (H q3 []) := by array_mem_dec
    have hwk : walkOf 0 [.p (.list (bs ++ [eW words, eW (srtL strLe words)]))] (H q3 []) = some ((bs ++ [eW words, eW (srtL strLe words)]).map fun x => It.one (.p x)) := by
      have := walk_listN (f := fun x : PyData => x) (l := bs ++ [eW words, eW (srtL strLe words)]) (st := H q3 [])
      rw [List.map_id'] at this
      exact this
    refine st_for (evs1_at ea) hwk ?_
    refine forN (fun (xs : List PyData) env st' => ∃ z5, env = lEnv script z2 (some (.p (.list (words.map .str)))) (some (.p (eW (good ++ zz)))) z5 none none none none z10 ∧ st' = H q3 [] ∧ ∀ x ∈ xs, TH x) ?_ ?_ ⟨z5, rfl, rfl, fun x hx => by
      rcases List.mem_append.mp hx with h | h
      · exact hbt x h
      · simp only [List.mem_cons, List.not_mem_nil, or_false] at h
        rcases h with rfl | rfl
        · exact TH_W (by omega)
        · exact TH_W (by omega)⟩
    · rintro x xs env st' ⟨z5, rfl, rfl, hx⟩
      refine ⟨rfl, lEnv script z2 (some (.p (.list (words.map .str)))) (some (.p (eW (good ++ zz)))) (some (.p x)) none none none none z10, rfl, ?_⟩
      have c1 := is_names_ok 57 x (hx x (by simp))
      have c2 := names_due_ok 57 x (hx x (by simp))
      have c3 := like_c 58 (x := .bool (isNms x)) (H q3 []) rfl (by simp [sz])
      array_get_dec
      exact st_nil ⟨_, rfl, rfl, fun y hy => hx y (by simp [hy])⟩
    · rintro env st' ⟨z5, rfl, rfl, _⟩
      refine ⟨rfl, st_go ?_⟩
      obtain ⟨S, bx, q4, f5, hS, hq4⟩ := book_c 56 hq3
      have s2 := hS.s2
      have s4 := hS.s4
      array_get_dec
      have gb : getIx (.p (eB S bx)) (.p (.int 0)) (H q4 []) = some (.p (eW S)) := rfl
      array_get_dec
      refine st_for (by array_mem_dec) (walk_rangeN (n := (S.map PyData.str).length) (by rw [List.length_map]; omega)) ?_
      refine forN (fun (xs : List Nat) env st' => ∃ z8, env = lEnv script z2 (some (.p (.list (words.map .str)))) (some (.p (eW (good ++ zz)))) z5 (some (.p (eB S bx))) (some (.p (eW S))) z8 none z10 ∧ st' = H q4 [] ∧ ∀ x ∈ xs, x < S.length) ?_ ?_ ⟨none, rfl, rfl, fun x hx => by
        have := List.mem_range.mp hx
        rw [List.length_map] at this
        exact this⟩
      · rintro i xs env st' ⟨z8, rfl, rfl, hx⟩
        have hi := hx i (by simp)
        refine ⟨rfl, lEnv script z2 (some (.p (.list (words.map .str)))) (some (.p (eW (good ++ zz)))) z5 (some (.p (eB S bx))) (some (.p (eW S))) (some (.p (.int (i : Int)))) none z10, rfl, ?_⟩
        have hrk : rk S S[i] = i := by
          have h1 := rk_at (List.getElem_mem hi)
          have h2 : rk S S[i] < S.length := (List.getElem?_eq_some_iff.mp h1).1
          exact (List.getElem_inj hS.nd).mp (Option.some.inj ((List.getElem?_eq_getElem h2).symm.trans h1))
        have c1 := rank_of_ok 58 S bx S[i] hS.nd (List.getElem_mem hi)
        rw [hrk] at c1
        have c2 := is_states_ok 56 S bx (eW (S.drop i)) hS.nd (TH_W (by rw [List.length_drop]; omega))
        rw [states_drop hS.nd hi] at c2
        have c3 := is_states_ok 56 S bx (eW (S.take (i + 1))) hS.nd (TH_W (by rw [List.length_take]; omega))
        rw [states_take hS.nd hi] at c3
        have e1 : ev (callF F 59) (.sl false (.var 7) (.some (.var 8)) .none) (lEnv script z2 (some (.p (.list (words.map .str)))) (some (.p (eW (good ++ zz)))) z5 (some (.p (eB S bx))) (some (.p (eW S))) (some (.p (.int (i : Int)))) none z10) (H q4 []) = .ok (.p (eW (S.drop i))) (H q4 []) := ev_to (by array_mem_dec) (by rw [cutWd])
        have e2 : ev (callF F 59) (.sl false (.var 7) .none (.some (.o2 .add (.var 8) (.c (.int 1))))) (lEnv script z2 (some (.p (.list (words.map .str)))) (some (.p (eW (good ++ zz)))) z5 (some (.p (eB S bx))) (some (.p (eW S))) (some (.p (.int (i : Int)))) none z10) (H q4 []) = .ok (.p (eW (S.take (i + 1)))) (H q4 []) := by
          refine ev_to (by array_mem_dec) ?_
          rw [show (some ((i : Int) + 1)) = some ((i + 1 : Nat) : Int) from rfl, cutWt]
        have c4 := like_c 58 (x := .tuple [.int (i : Int), .bool true, .bool true]) (H q4 []) rfl (by simp only [sz, szA]; omega)
        array_get_dec
        exact st_nil ⟨_, rfl, rfl, fun y hy => hx y (by simp [hy])⟩
      · rintro env st' ⟨z8, rfl, rfl, _⟩
        refine ⟨rfl, st_go ?_⟩
        obtain ⟨d, s2', f6, ys, rfl, hl6, hy6, q5, rfl, hq5⟩ := wpR_out (compD (Φ := callF F 59) (env := lEnv script z2 (some (.p (.list (words.map .str)))) (some (.p (eW (good ++ zz)))) z5 (some (.p (eB S bx))) (some (.p (eW S))) z8 none z10) (st := H q4 []) (st0 := H q4 []) (elt := .var 11) (tg := .one 11) (k := 0) (its := [.var 7])
          (ifs := [.o2 .eq (.call false 8 [.var 1, .c (.str "in"), .c (.int 2)]) (.c (.int 0))]) (xs := S) (f := fun x => .one (.p (.str x))) (fun st => ∃ q' : Hl, st = H q' [] ∧ q'.ok) (fun y => ∃ x : Str, y = .str x ∧ As x 20)
          (by array_mem_dec) walk_tupN (fun _ _ => rfl) ⟨q4, rfl, hq4⟩ (fun x hx st1 ⟨q', e, hq'⟩ => by
            subst e
            refine ⟨[some (.p script), some (.r 2), z2, some (.p (.list (words.map .str))), some (.p (eW (good ++ zz))), z5, some (.p (eB S bx)), some (.p (eW S)), z8, none, z10, some (.p (.str x))], rfl, ?_⟩
            obtain ⟨v, q'', g1, hv, hq''⟩ := pull_c 57 [] "in" 2 hq' (by decide) (by omega) (by omega)
            refine wpR_eq (a := .p (.bool (decide ((v : Int) = 0)))) (st := H q'' []) (an1 (by array_mem_dec)) ⟨_, rfl, ⟨q'', rfl, hq''⟩, fun _ => ?_⟩
            exact wpR_eq (a := .p (.str x)) (st := H q'' []) (by array_mem_dec) ⟨_, rfl, ⟨x, rfl, hS.sl x hx⟩, q'', rfl, hq''⟩) (by omega))
        obtain ⟨some1, rfl, hsa⟩ := enc_of hy6
        rw [List.length_map] at hl6
        array_get_dec
        obtain ⟨some2, e9, h91, h92, h93⟩ : ∃ some2 : List Str, ev (callF F 59) (.ite (.o2 .gt (.o1 .len (.var 9)) (.c (.int 0))) (.var 9) (.sl false (.var 7) .none (.some (.c (.int 1))))) (lEnv script z2 (some (.p (.list (words.map .str)))) (some (.p (eW (good ++ zz)))) z5 (some (.p (eB S bx))) (some (.p (eW S))) z8 (some (.p (eW some1))) z10) (H q5 []) = .ok (.p (eW some2)) (H q5 []) ∧ 1 ≤ some2.length ∧ some2.length ≤ 4 ∧ ∀ w ∈ some2, As w 20 := by
          by_cases h0 : 0 < some1.length
          · exact ⟨some1, ite_t (by array_mem_dec) (decide_eq_true (by rw [List.length_map]; omega)) (by array_mem_dec), by omega, by omega, hsa⟩
          · refine ⟨S.take 1, ite_f (by array_mem_dec) (decide_eq_false (by rw [List.length_map]; omega)) (ev_to (by array_mem_dec) ?_), by rw [List.length_take]; omega, by rw [List.length_take]; omega, fun w hw => hS.sl w (List.mem_of_mem_take hw)⟩
            rw [show (some (1 : Int)) = some ((1 : Nat) : Int) from rfl, cutWt]
        array_get_dec
        obtain ⟨v, q6, f7, hv, hq6⟩ := pull_c 57 [] "other" (((S.map PyData.str).length : Nat) : Int) hq5 (by decide) (by rw [List.length_map]; omega) (by rw [List.length_map]; omega)
        have hv' : v < S.length := by rw [List.length_map] at hv; omega
        obtain ⟨cs, q7, f8, hcl, hct, hq7⟩ := bents_c 56 (ws := some2) (o := S[v]) hq6 h91 (by omega) h93
        have hwk2 : walkOf 0 [.p (.list cs)] (H q7 []) = some (cs.map fun x => It.one (.p x)) := by
          have := walk_listN (f := fun x : PyData => x) (l := cs) (st := H q7 [])
          rw [List.map_id'] at this
          exact this
        refine st_for (by array_mem_dec) hwk2 ?_
        refine forN (fun (xs : List PyData) env st' => ∃ z5, env = lEnv script z2 (some (.p (.list (words.map .str)))) (some (.p (eW (good ++ zz)))) z5 (some (.p (eB S bx))) (some (.p (eW S))) z8 (some (.p (eW some2))) z10 ∧ st' = H q7 [] ∧ ∀ x ∈ xs, TH x) ?_ ?_ ⟨z5, rfl, rfl, hct⟩
        · rintro x xs env st' ⟨z5, rfl, rfl, hx⟩
          refine ⟨rfl, lEnv script z2 (some (.p (.list (words.map .str)))) (some (.p (eW (good ++ zz)))) (some (.p x)) (some (.p (eB S bx))) (some (.p (eW S))) z8 (some (.p (eW some2))) z10, rfl, ?_⟩
          have c1 := is_states_ok 56 S bx x hS.nd (hx x (by simp))
          have c2 := states_due_ok 58 S x hS.nd (hx x (by simp))
          have c3 := like_c 58 (x := .bool (isStates S x)) (H q7 []) rfl (by simp [sz])
          array_get_dec
          exact st_nil ⟨_, rfl, rfl, fun y hy => hx y (by simp [hy])⟩
        · rintro env st' ⟨z5, rfl, rfl, _⟩
          exact ⟨rfl, st_go (st_ret ev_c rfl)⟩
end Lw
namespace Lw
open PySem Dn
def tp (i : Nat) : Stmt := PySem.Challenge.pw_rowsrise_k00_names.main.body.getD i (.Pass ⟨0, 0, 0, 0⟩)
def r_is_name : Fr := ⟨d_is_name, tp 4, []⟩
theorem bd_is_name : BdOk r_is_name := by
  refine ⟨fun _ _ _ _ _ _ us hl => match us, hl with | [_], _ => rfl, ?_⟩
  exact fun q hq => absurd hq (List.not_mem_nil)
def r_is_names : Fr := ⟨d_is_names, tp 5, []⟩
theorem bd_is_names : BdOk r_is_names := by
  refine ⟨fun _ _ _ _ _ _ us hl => match us, hl with | [_], _ => rfl, ?_⟩
  exact fun q hq => absurd hq (List.not_mem_nil)
def r_rank_of : Fr := ⟨d_rank_of, tp 7, [(0, ["state", "book"], [1, 0])]⟩
theorem bd_rank_of : BdOk r_rank_of := by
  refine ⟨fun _ _ _ _ _ _ us hl => match us, hl with | [_, _], _ => rfl, ?_⟩
  intro q hq
  rcases List.mem_cons.mp hq with rfl | hq
  · exact fun _ _ _ _ _ _ us ws h1 h2 => match us, ws, h1, h2 with | [], [_, _], _, _ => rfl
  exact absurd hq (List.not_mem_nil)
def r_are_rising : Fr := ⟨d_are_rising, tp 8, []⟩
theorem bd_are_rising : BdOk r_are_rising := by
  refine ⟨fun _ _ _ _ _ _ us hl => match us, hl with | [_], _ => rfl, ?_⟩
  exact fun q hq => absurd hq (List.not_mem_nil)
def r_is_set : Fr := ⟨d_is_set, tp 9, []⟩
theorem bd_is_set : BdOk r_is_set := by
  refine ⟨fun _ _ _ _ _ _ us hl => match us, hl with | [_, _], _ => rfl, ?_⟩
  exact fun q hq => absurd hq (List.not_mem_nil)
def r_is_states : Fr := ⟨d_is_states, tp 10, []⟩
theorem bd_is_states : BdOk r_is_states := by
  refine ⟨fun _ _ _ _ _ _ us hl => match us, hl with | [_, _], _ => rfl, ?_⟩
  exact fun q hq => absurd hq (List.not_mem_nil)
def r__law_reed : Fr := ⟨d__law_reed, tp 12, []⟩
theorem bd__law_reed : BdOk r__law_reed := by
  refine ⟨fun _ _ _ _ _ _ us hl => match us, hl with | [_], _ => rfl, ?_⟩
  exact fun q hq => absurd hq (List.not_mem_nil)
def r__law_stem : Fr := ⟨d__law_stem, tp 13, []⟩
theorem bd__law_stem : BdOk r__law_stem := by
  refine ⟨fun _ _ _ _ _ _ us hl => match us, hl with | [_], _ => rfl, ?_⟩
  exact fun q hq => absurd hq (List.not_mem_nil)
def r__law_pull : Fr := ⟨d__law_pull, tp 14, []⟩
theorem bd__law_pull : BdOk r__law_pull := by
  refine ⟨fun _ _ _ _ _ _ us hl => match us, hl with | [_, _, _], _ => rfl, ?_⟩
  exact fun q hq => absurd hq (List.not_mem_nil)
def r__law_is : Fr := ⟨d__law_is, tp 15, []⟩
theorem bd__law_is : BdOk r__law_is := by
  refine ⟨fun _ _ _ _ _ _ us hl => match us, hl with | [_, _], _ => rfl, ?_⟩
  exact fun q hq => absurd hq (List.not_mem_nil)
def r__law_name_due : Fr := ⟨d__law_name_due, tp 16, []⟩
theorem bd__law_name_due : BdOk r__law_name_due := by
  refine ⟨fun _ _ _ _ _ _ us hl => match us, hl with | [_], _ => rfl, ?_⟩
  exact fun q hq => absurd hq (List.not_mem_nil)
def r__law_names_due : Fr := ⟨d__law_names_due, tp 17, []⟩
theorem bd__law_names_due : BdOk r__law_names_due := by
  refine ⟨fun _ _ _ _ _ _ us hl => match us, hl with | [_], _ => rfl, ?_⟩
  exact fun q hq => absurd hq (List.not_mem_nil)
def r__law_states_due : Fr := ⟨d__law_states_due, tp 18, []⟩
theorem bd__law_states_due : BdOk r__law_states_due := by
  refine ⟨fun _ _ _ _ _ _ us hl => match us, hl with | [_, _], _ => rfl, ?_⟩
  exact fun q hq => absurd hq (List.not_mem_nil)
def r__law_word : Fr := ⟨d__law_word, tp 19, []⟩
theorem bd__law_word : BdOk r__law_word := by
  refine ⟨fun _ _ _ _ _ _ us hl => match us, hl with | [_], _ => rfl, ?_⟩
  exact fun q hq => absurd hq (List.not_mem_nil)
def r__law_book : Fr := ⟨d__law_book, tp 20, []⟩
theorem bd__law_book : BdOk r__law_book := by
  refine ⟨fun _ _ _ _ _ _ us hl => match us, hl with | [_], _ => rfl, ?_⟩
  exact fun q hq => absurd hq (List.not_mem_nil)
def r__law_bents : Fr := ⟨d__law_bents, tp 21, []⟩
theorem bd__law_bents : BdOk r__law_bents := by
  refine ⟨fun _ _ _ _ _ _ us hl => match us, hl with | [_, _, _], _ => rfl, ?_⟩
  exact fun q hq => absurd hq (List.not_mem_nil)
def r__law_hand : Fr := ⟨d__law_hand, tp 22, []⟩
theorem bd__law_hand : BdOk r__law_hand := by
  refine ⟨fun _ _ _ _ _ _ us hl => match us, hl with | [], _ => rfl, ?_⟩
  exact fun q hq => absurd hq (List.not_mem_nil)
def r_law : Fr := ⟨d_law, tp 23, []⟩
theorem bd_law : BdOk r_law := by
  refine ⟨fun _ _ _ _ _ _ us hl => match us, hl with | [_], _ => rfl, ?_⟩
  exact fun q hq => absurd hq (List.not_mem_nil)
def frs : List Fr := [r_is_name, r_is_names, r_rank_of, r_are_rising, r_is_set, r_is_states, r__law_reed, r__law_stem, r__law_pull, r__law_is, r__law_name_due, r__law_names_due, r__law_states_due, r__law_word, r__law_book, r__law_bents, r__law_hand, r_law]
theorem frsF : frs.map (fun r => r.d) = F := rfl
def blt : List Str := ["all", "isinstance", "str", "len", "tuple", "zip", "int", "abs", "list", "range", "bool", "sorted", "set"]
theorem bds : ∀ r ∈ frs, BdOk r := all_cons bd_is_name (all_cons bd_is_names (all_cons bd_rank_of (all_cons bd_are_rising (all_cons bd_is_set (all_cons bd_is_states (all_cons bd__law_reed (all_cons bd__law_stem (all_cons bd__law_pull (all_cons bd__law_is (all_cons bd__law_name_due (all_cons bd__law_names_due (all_cons bd__law_states_due (all_cons bd__law_word (all_cons bd__law_book (all_cons bd__law_bents (all_cons bd__law_hand (all_cons bd_law all_nil)))))))))))))))))
def csts : List (PySem.Str × PyData) := [("SMALL", (.str "abcdefghijklmnopqrstuvwxyz")), ("FIGURES", (.str "0123456789")), ("KEPT", (.tuple [(.str "wall"), (.str "state"), (.str "first"), (.str "inner"), (.str "last"), (.str "rule"), (.str "never"), (.str "may"), (.str "begin"), (.str "none")]))]
def exs : List Ex := []
theorem exbd : ∀ q ∈ exs, q.Bd :=  all_nil
def hnd : List (PySem.Str × List Nat) := []
theorem exsok : exsB exs = true := by kernel_rfl
theorem oks : frs.all (Fr.ok (cnOf frs blt csts exs hnd)) = true := by kernel_rfl
abbrev R : PySem.W.OpenRow := PySem.W.OpenLaw.row PySem.Challenge.rw_rowsrise_k00_names
def fas : List He.Fa := faOf frs blt
def dds : List He.DefD := frs.map Fr.dd
def pr : Pr := ⟨fas, dds, csts, PySem.Challenge.pw_rowsrise_k00_names.main.file, exs, hnd⟩
abbrev hk : PySem.W.Hook := hookX 4 pr
def ob (s : PySem.W.SharedT) : AlX := obsXG 4 pr (HandSHeadRun.getT s)
theorem ob_eq (s : PySem.W.SharedT) : ob s = hk.obs s.abs := obsXG_eq (HandSHeadRun.getT_eq s)
def lo : List PySem.Str := (["is_name", "is_names", "rank_of", "are_rising", "is_set", "is_states", "_law_reed", "_law_stem", "_law_pull", "_law_is", "_law_name_due", "_law_names_due", "_law_states_due", "_law_word", "_law_book", "_law_bents", "_law_hand", "SMALL", "FIGURES", "KEPT"] : List PySem.Str)
theorem run (w : World) : HandSHeadRun.RunEq R (PySem.W.view R.prog [23]) hk ob 1380 lo w := by
  intro os
  kernel_rfl
end Lw
open PySem PySem.W PySem.Calls PyProof.Rows Dn
theorem PySem.Challenge.cw_rowsrise_k00_names_holds : PySem.Challenge.rw_rowsrise_k00_names.Holds := by
  w_on; o_law
  refine HandSHeadRun.head_any (r := Lw.R) (q := view Lw.R.prog [23]) (H := Lw.hk) (ob := Lw.ob) (M := 1380) (loose := Lw.lo) (d := HandSHeadRun.topDef Lw.R.prog 23) (kwd := []) Lw.ob_eq
    (by kernel_rfl) (fun s => by kernel_rfl) Lw.run (by kernel_rfl) (by kernel_rfl) (by kernel_rfl) (by rfl) (by first | assumption | decide +kernel) (by decide +kernel) ⟨rfl, rfl, rfl, rfl, rfl, by decide +kernel⟩ ?hw ?hc
  case hw => w_witness2
  case hc =>
    refine walkD (l := PySem.Challenge.rw_rowsrise_k00_names) (num := 63) (lev := 62) rfl (by decide) (by kernel_rfl) ⟨rfl, by decide, by decide⟩ ?F
    intro w mg fa h Y G hmg0
    obtain ⟨K, KX, c⟩ := Y
    have hmg : mg ("law" : PySem.Str) = some (.ref fa) := by
      have e : (HandSHeadRun.topDef Lw.R.prog 23).name = ("law" : PySem.Str) := by kernel_rfl
      rw [← e]
      exact hmg0
    exact law_facts (frs := Lw.frs) (blt := Lw.blt) (csts := Lw.csts) (fl := PySem.Challenge.pw_rowsrise_k00_names.main.file) (exs := Lw.exs) (hnd := Lw.hnd) (i := 17) (r := Lw.r_law) KX G c rfl (by kernel_rfl) Lw.exsok Lw.exbd Lw.oks Lw.bds rfl rfl rfl hmg Lw.law_true
