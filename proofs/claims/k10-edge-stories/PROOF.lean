import PyProof.Rows.All
import HandS.Comp
import HandS.Deep
import HandS.Defaults
import HandS.ExcOwn
import HandS.ForExc
import HandS.ForMost
import HandS.Head0
import HandS.Head1
import HandS.Head2
import HandS.HeadEnd
import HandS.HeadHook1
import HandS.HeadHook2
import HandS.IsInst
import HandS.More
import HandS.Rev
import HandS.SortInts
import HandS.Strs
import HandS.Style
import HandS.Text
import HandS.TupAny
import HandS.TupMul
import HandS.Zip
import OpenK.AllK
import Wide.All
import Wide.FinOn
import PySem.Challenge.RW_rowsrise_k10_edge_stories
set_option Elab.async false
set_option linter.all false
set_option maxRecDepth 100000
set_option maxHeartbeats 0
/-! Dn, part 1: a small tree of Python's expressions and statements, and what it computes over plain nested data.
Values: p d, data that never changes (d a PyData); r k, the k-th changing object of the store. -/
namespace Dn
open PySem

inductive D where
  | p (d : PyData)
  | r (k : Nat)
inductive Ob where
  | lst (ds : List D)
  | dic (kvs : List (PyData × D))
  | gone
abbrev Store := List Ob
inductive Res (α : Type) where
  | ok (a : α) (st : Store)
  | ex (c : Nat) (fs : List PyData) (st : Store)
  | bad
namespace Res
def bind {α β : Type} (m : Res α) (f : α → Store → Res β) : Res β := match m with
  | .ok a st => f a st
  | .ex c fs st => .ex c fs st
  | .bad => .bad
@[simp] theorem bind_ok {α β : Type} (a : α) (st : Store) (f : α → Store → Res β) : Res.bind (.ok a st) f = f a st := rfl
@[simp] theorem bind_ex {α β : Type} (c : Nat) (fs : List PyData) (st : Store) (f : α → Store → Res β) : Res.bind (.ex c fs st) f = .ex c fs st := rfl
@[simp] theorem bind_bad {α β : Type} (f : α → Store → Res β) : Res.bind .bad f = .bad := rfl
def of {α : Type} (st : Store) : Option α → Res α
  | some a => .ok a st
  | none => .bad
@[simp] theorem of_some {α : Type} (st : Store) (a : α) : Res.of st (some a) = .ok a st := rfl
@[simp] theorem of_none {α : Type} (st : Store) : (Res.of st none : Res α) = .bad := rfl
/-- exceptions do not pass -/
def nox {α : Type} : Res α → Res α
  | .ok a st => .ok a st
  | _ => .bad
@[simp] theorem nox_ok {α : Type} (a : α) (st : Store) : (Res.ok a st).nox = .ok a st := rfl
@[simp] theorem nox_bad {α : Type} : (Res.bad : Res α).nox = .bad := rfl
end Res

/-! ### names of operations -/
inductive Ty where
  | str | tuple | list | int | bool | dict | none
  deriving DecidableEq
inductive O1 where
  | nt | neg | len | abs | int | all | any | sum | tup | lst (m : Bool) | isin (ts : List Ty) | isN | niN | srt | upper | pop | rev | str | mn | mx | frz
  deriving DecidableEq
inductive O2 where
  | add | sub | mul | mod | fdv | pow | shl | eq | ne | lt | le | gt | ge | inn | nin | ix | app | ext | popi | indx | mx2 | mn2 | get | join | split | band | shr
  deriving DecidableEq
inductive O3 where
  | ins | get2
  deriving DecidableEq
inductive Tg where
  | one (i : Nat)
  | many (is : List Nat)
def Tg.slots : Tg → List Nat
  | .one i => [i]
  | .many is => is

/-- expressions -/
inductive E where
  | var (i : Nat)
  | c (d : PyData)
  | g (x : Str) (d : PyData)
  | o1 (o : O1) (a : E)
  | o2 (o : O2) (a b : E)
  | o3 (o : O3) (a b c : E)
  | an (es : List E)
  | orr (es : List E)
  | ite (c a b : E)
  | chain (o o' : O2) (a b c : E)
  | tup (es : List E)
  | lst (m : Bool) (es : List E)
  | dic (kvs : List E)
  | sl (m : Bool) (a : E) (lo hi : Option E)
  | rv (m : Bool) (a : E)
  | call (pu : Bool) (f : Nat) (es : List E)
  | callk (pu : Bool) (f : Nat) (ps : List Nat) (es : List E)
  | comp (m : Bool) (elt : E) (tg : Tg) (k : Nat) (its : List E) (ifs : List E)
-- what a comprehension or a loop walks (k): 0 a sequence or text, 1 range, 2 enumerate, 3 zip, 4 d.items(), 5 d (keys), 6 d.values(), 7 reversed
/-- statements -/
inductive S where
  | set (i : Nat) (e : E)
  | unp (is : List Nat) (e : E)
  | par (is : List Nat) (es : List E)
  | setix (o i v : E)
  | aug (i : Nat) (o : O2) (e : E)
  | augix (o i : E) (op : O2) (e : E)
  | ex (e : E)
  | ret (e : E)
  | retN
  | iff (c : E) (a b : List S)
  | for_ (tg : Tg) (k : Nat) (its : List E) (body : List S)
  | whl (c : E) (body : List S)
  | brk
  | cont
  | pass
  | raise (c : Nat) (es : List E)
  | try_ (body : List S) (cs : List Nat) (i : Option Nat) (suite : List S)

abbrev Sl := List (Option D)
inductive Flow where
  | nx | bk | ct
  | rt (d : D)

/-! ### data -/
def pOf : D → Option PyData
  | .p d => some d
  | .r _ => none
def allP : List D → Option (List PyData)
  | [] => some []
  | .p d :: ds => (allP ds).map (d :: ·)
  | .r _ :: _ => none
def seqD (d : D) (st : Store) : Option (List D) := match d with
  | .p (.list ds) => some (ds.map .p)
  | .p (.tuple ds) => some (ds.map .p)
  | .r k => match st[k]? with
    | some (.lst ds) => some ds
    | _ => none
  | _ => none
/-- a list's items as data -/
def listP (d : D) (st : Store) : Option (List PyData) := match d with
  | .p (.list ds) => some ds
  | .r k => match st[k]? with
    | some (.lst ds) => allP ds
    | _ => none
  | _ => none
def alloc (o : Ob) (st : Store) : Res D := .ok (.r st.length) (st ++ [o])
/-- a new list -/
def newL (m : Bool) (ds : List D) (st : Store) : Res D :=
  if sizeLine < ds.length then .bad else
  if m then alloc (.lst ds) st else Res.of st ((allP ds).map fun xs => .p (.list xs))
def tyOf (d : D) (st : Store) : Option Ty := match d with
  | .p .none => some .none
  | .p (.bool _) => some .bool
  | .p (.int _) => some .int
  | .p (.str _) => some .str
  | .p (.list _) => some .list
  | .p (.tuple _) => some .tuple
  | .p (.dict _) => none
  | .r k => match st[k]? with
    | some (.lst _) => some .list
    | some (.dic _) => some .dict
    | _ => none
def isTy (a b : Ty) : Bool := decide (a = b) || (decide (a = .bool) && decide (b = .int))
def boolsOf : List PyData → Option (List Bool)
  | [] => some []
  | .bool b :: r => (boolsOf r).map (b :: ·)
  | _ => none
def intsOf : List PyData → Option (List Int)
  | [] => some []
  | .int i :: r => (intsOf r).map (i :: ·)
  | _ => none
def strsOf : List PyData → Option (List Str)
  | [] => some []
  | .str x :: r => (strsOf r).map (x :: ·)
  | _ => none
def strLt (x y : Str) : Bool := decide (x.cps.toList < y.cps.toList)
def strLe (x y : Str) : Bool := !strLt y x
def upC (c : Nat) : Nat := if 97 ≤ c ∧ c ≤ 122 then c - 32 else c
def upS (x : Str) : Option Str := if x.cps.toList.all (· < 128) && decide (x.length ≤ 5592405) then some ⟨(x.cps.toList.map upC).toArray⟩ else none

def insL {α : Type} (le : α → α → Bool) (x : α) : List α → List α
  | [] => [x]
  | y :: r => if le x y then x :: y :: r else y :: insL le x r
def srtL {α : Type} (le : α → α → Bool) : List α → List α
  | [] => []
  | x :: r => insL le x (srtL le r)
def minL (n : Int) : List Int → Int
  | [] => n
  | m :: r => minL (if m < n then m else n) r
def maxL (n : Int) : List Int → Int
  | [] => n
  | m :: r => maxL (if m > n then m else n) r
def op1 (o : O1) (d : D) (st : Store) : Res D := match o with
  | .nt => match d with
    | .p (.bool b) => .ok (.p (.bool (!b))) st
    | _ => .bad
  | .neg => match d with
    | .p (.int i) => .ok (.p (.int (-i))) st
    | _ => .bad
  | .len => match d with
    | .p (.str x) => .ok (.p (.int x.length)) st
    | .r k => match st[k]? with
      | some (.lst ds) => .ok (.p (.int ds.length)) st
      | some (.dic kvs) => .ok (.p (.int kvs.length)) st
      | _ => .bad
    | .p (.list ds) => .ok (.p (.int ds.length)) st
    | .p (.tuple ds) => .ok (.p (.int ds.length)) st
    | _ => .bad
  | .abs => match d with
    | .p (.int i) => .ok (.p (.int (if i < 0 then -i else i))) st
    | _ => .bad
  | .int => match d with
    | .p (.int i) => .ok (.p (.int i)) st
    | .p (.bool b) => .ok (.p (.int (if b then 1 else 0))) st
    | _ => .bad
  | .all => Res.of st (((listP d st).bind boolsOf).map fun bs => .p (.bool (bs.all id)))
  | .any => Res.of st (((listP d st).bind boolsOf).map fun bs => .p (.bool (bs.any id)))
  | .sum => Res.of st (((listP d st).bind intsOf).map fun ns => .p (.int ns.sum))
  | .tup => match d with
    | .p (.tuple ds) => .ok (.p (.tuple ds)) st
    | _ => Res.of st ((listP d st).map fun ds => .p (.tuple ds))
  | .lst m => match seqD d st with
    | some ds => newL m ds st
    | none => .bad
  | .isin ts => Res.of st ((tyOf d st).map fun t => .p (.bool (ts.any fun u => isTy t u)))
  | .isN => match d with
    | .p .none => .ok (.p (.bool true)) st
    | _ => .ok (.p (.bool false)) st
  | .niN => match d with
    | .p .none => .ok (.p (.bool false)) st
    | _ => .ok (.p (.bool true)) st
  | .srt => match listP d st with
    | some ds => (match intsOf ds with
      | some ns => if ns.length < 64 then .ok (.p (.list ((srtL (fun a b => decide (a ≤ b)) ns).map .int))) st else .bad
      | none => (match strsOf ds with
        | some xs => if xs.length < 64 then .ok (.p (.list ((srtL strLe xs).map .str))) st else .bad
        | none => .bad))
    | none => .bad
  | .upper => match d with
    | .p (.str x) => Res.of st ((upS x).map fun y => .p (.str y))
    | _ => .bad
  | .pop => match d with
    | .r k => match st[k]? with
      | some (.lst ds) => (match ds.getLast? with
        | some x => .ok x (st.set k (.lst ds.dropLast))
        | none => .bad)
      | _ => .bad
    | _ => .bad
  | .rev => match d with
    | .r k => match st[k]? with
      | some (.lst ds) => .ok (.p .none) (st.set k (.lst ds.reverse))
      | _ => .bad
    | _ => .bad
  | .str => match d with
    | .p (.int i) => if i.natAbs.log2 < 1920 then .ok (.p (.str (toString i))) st else .bad
    | _ => .bad
  | .mn => match (listP d st).bind intsOf with
    | some (n :: r) => .ok (.p (.int (minL n r))) st
    | _ => .bad
  | .mx => match (listP d st).bind intsOf with
    | some (n :: r) => .ok (.p (.int (maxL n r))) st
    | _ => .bad
  | .frz => match d with
    | .r k => (match listP d st with
      | some ds => .ok (.p (.list ds)) (st.set k .gone)
      | none => .bad)
    | d => .ok d st

def mulOk (i j : Int) : Bool := (decide (i.natAbs < 18446744073709551616)) || (decide (j.natAbs < 18446744073709551616))
/-- the place of an index -/
def ixOf (n : Nat) (i : Int) : Option Nat := if 0 ≤ i then (if i < n then some i.toNat else none) else if -(n : Int) ≤ i then some (i + n).toNat else none
def cmpI (o : O2) (i j : Int) : Option Bool := match o with
  | .lt => some (decide (i < j))
  | .le => some (decide (i ≤ j))
  | .gt => some (decide (j < i))
  | .ge => some (decide (j ≤ i))
  | _ => none
def cmpS (o : O2) (x y : Str) : Option Bool := match o with
  | .lt => some (strLt x y)
  | .le => some (!strLt y x)
  | .gt => some (strLt y x)
  | .ge => some (!strLt x y)
  | _ => none
def eqD (d e : PyData) : Option Bool := if min d.depth e.depth ≤ 64 then some (PyData.eqv d e) else none
def inP (x : PyData) (ds : List PyData) : Option Bool := if min (PyData.depthAll ds) x.depth ≤ 64 then some (ds.any fun z => PyData.eqv z x) else none
def inStr (x y : Str) : Bool := !(Builtin.Str.occurrences y x 0 y.length 1).isEmpty
def keyOk : PyData → Bool
  | .int _ => true
  | .str _ => true
  | _ => false
def keyEq : PyData → PyData → Bool
  | .int a, .int b => decide (a = b)
  | .str a, .str b => decide (a = b)
  | _, _ => false
def dGet (kvs : List (PyData × D)) (k : PyData) : Option D := (kvs.find? fun q => keyEq q.1 k).map (·.2)
def dPut (kvs : List (PyData × D)) (k : PyData) (v : D) : List (PyData × D) :=
  if kvs.any fun q => keyEq q.1 k then kvs.map fun q => if keyEq q.1 k then (q.1, v) else q else kvs ++ [(k, v)]
def inD (x d : D) (st : Store) : Option Bool := match x with
  | .p x => (match d with
    | .p (.str y) => (match x with
      | .str z => some (inStr z y)
      | _ => none)
    | .p (.list ds) => inP x ds
    | .p (.tuple ds) => inP x ds
    | .r k => (match st[k]? with
      | some (.lst ds) => (allP ds).bind (inP x)
      | some (.dic kvs) => if keyOk x then some (dGet kvs x).isSome else none
      | _ => none)
    | _ => none)
  | .r _ => none
def idxOf (x : PyData) : List PyData → Option Nat
  | [] => none
  | z :: r => if PyData.eqv z x then some 0 else (idxOf x r).map (· + 1)
def repD (n : Nat) (ds : List PyData) : List PyData := (List.replicate n ds).flatten
def repS (n : Nat) (x : Str) : Str := ⟨((List.replicate n x.cps.toList).flatten).toArray⟩
def getIx (x y : D) (st : Store) : Option D := match x with
  | .p (.str s) => (match y with
    | .p (.int i) => ((ixOf s.cps.toList.length i).bind fun j => s.cps.toList[j]?).map fun c => .p (.str ⟨#[c]⟩)
    | _ => none)
  | .p (.list ds) => (match y with
    | .p (.int i) => ((ixOf ds.length i).bind fun j => ds[j]?).map .p
    | _ => none)
  | .p (.tuple ds) => (match y with
    | .p (.int i) => ((ixOf ds.length i).bind fun j => ds[j]?).map .p
    | _ => none)
  | .r k => (match st[k]? with
    | some (.lst ds) => (match y with
      | .p (.int i) => (ixOf ds.length i).bind fun j => ds[j]?
      | _ => none)
    | some (.dic kvs) => (match y with
      | .p q => if keyOk q then dGet kvs q else none
      | _ => none)
    | _ => none)
  | _ => none
def setIx (x y v : D) (st : Store) : Option Store := match x with
  | .r k => (match st[k]? with
    | some (.lst ds) => (match y with
      | .p (.int i) => (ixOf ds.length i).map fun j => st.set k (.lst (ds.set j v))
      | _ => none)
    | some (.dic kvs) => (match y with
      | .p q => if keyOk q && decide (kvs.length < sizeLine) then some (st.set k (.dic (dPut kvs q v))) else none
      | _ => none)
    | _ => none)
  | _ => none
def bz (b : Bool) : D := .p (.bool b)
def op2 (o : O2) (x y : D) (st : Store) : Res D := match o with
  | .add => (match x, y with
    | .p (.int i), .p (.int j) => .ok (.p (.int (i + j))) st
    | .p (.str a), .p (.str b) => if a.length + b.length ≤ sizeLine then .ok (.p (.str (a ++ b))) st else .bad
    | .p (.tuple a), .p (.tuple b) => if a.length + b.length ≤ sizeLine then .ok (.p (.tuple (a ++ b))) st else .bad
    | x, y => Res.of st ((listP x st).bind fun a => (listP y st).bind fun b => if a.length + b.length ≤ sizeLine then some (.p (.list (a ++ b))) else none))
  | .sub => (match x, y with
    | .p (.int i), .p (.int j) => .ok (.p (.int (i - j))) st
    | _, _ => .bad)
  | .mul => (match x, y with
    | .p (.int i), .p (.int j) => if mulOk i j then .ok (.p (.int (i * j))) st else .bad
    | _, _ => .bad)
  | .mod => (match x, y with
    | .p (.int i), .p (.int j) => if 0 < j then .ok (.p (.int (i % j))) st else .bad
    | _, _ => .bad)
  | .fdv => (match x, y with
    | .p (.int i), .p (.int j) => if 0 < j ∧ j < 1073741824 then .ok (.p (.int (i / j))) st else .bad
    | _, _ => .bad)
  | .pow => (match x, y with
    | .p (.int i), .p (.int j) => if 0 ≤ j ∧ j ≤ 1000000 ∧ i.natAbs < 18446744073709551616 then .ok (.p (.int (i ^ j.toNat))) st else .bad
    | _, _ => .bad)
  | .band => (match x, y with
    | .p (.int i), .p (.int j) => .ok (.p (.int (Builtin.bitAnd i j))) st
    | _, _ => .bad)
  | .shr => (match x, y with
    | .p (.int i), .p (.int j) => if 0 ≤ j then .ok (.p (.int (i / 2 ^ j.toNat))) st else .bad
    | _, _ => .bad)
  | .shl => (match x, y with
    | .p (.int i), .p (.int j) => if 0 ≤ j ∧ j ≤ 1000000 ∧ i.natAbs < 18446744073709551616 then .ok (.p (.int (i * ((2 ^ j.toNat : Nat) : Int)))) st else .bad
    | _, _ => .bad)
  | .eq => (match x, y with
    | .p a, .p b => Res.of st ((eqD a b).map bz)
    | _, _ => .bad)
  | .ne => (match x, y with
    | .p a, .p b => Res.of st ((eqD a b).map fun k => bz (!k))
    | _, _ => .bad)
  | .inn => Res.of st ((inD x y st).map bz)
  | .nin => Res.of st ((inD x y st).map fun k => bz (!k))
  | .ix => Res.of st (getIx x y st)
  | .app => (match x with
    | .r k => (match st[k]? with
      | some (.lst ds) => if ds.length < sizeLine then .ok (.p .none) (st.set k (.lst (ds ++ [y]))) else .bad
      | _ => .bad)
    | _ => .bad)
  | .ext => (match x with
    | .r k => (match st[k]? with
      | some (.lst ds) => (match listP y st with
        | some es => if ds.length + es.length ≤ sizeLine then .ok (.p .none) (st.set k (.lst (ds ++ es.map .p))) else .bad
        | none => .bad)
      | _ => .bad)
    | _ => .bad)
  | .popi => (match x, y with
    | .r k, .p (.int i) => (match st[k]? with
      | some (.lst ds) => (match ixOf ds.length i with
        | some j => (match ds[j]? with
          | some d => .ok d (st.set k (.lst (ds.eraseIdx j)))
          | none => .bad)
        | none => .bad)
      | _ => .bad)
    | _, _ => .bad)
  | .indx => (match x, y with
    | .p (.tuple ds), .p d => if (inP d ds).isSome then Res.of st ((idxOf d ds).map fun (j : Nat) => .p (.int (j : Int))) else .bad
    | x, .p d => (match listP x st with
      | some ds => if (inP d ds).isSome then Res.of st ((idxOf d ds).map fun (j : Nat) => .p (.int (j : Int))) else .bad
      | none => .bad)
    | _, _ => .bad)
  | .mx2 => (match x, y with
    | .p (.int i), .p (.int j) => .ok (.p (.int (if j > i then j else i))) st
    | _, _ => .bad)
  | .mn2 => (match x, y with
    | .p (.int i), .p (.int j) => .ok (.p (.int (if j < i then j else i))) st
    | _, _ => .bad)
  | .get => .bad
  | .join => .bad
  | .split => .bad
  | o => (match x, y with
    | .p (.int i), .p (.int j) => Res.of st ((cmpI o i j).map bz)
    | .p (.str i), .p (.str j) => Res.of st ((cmpS o i j).map bz)
    | _, _ => .bad)
def op3 (o : O3) (x y z : D) (st : Store) : Res D := match o with
  | .ins => (match x, y with
    | .r k, .p (.int i) => (match st[k]? with
      | some (.lst ds) => if i = 0 ∧ ds.length < sizeLine then .ok (.p .none) (st.set k (.lst (z :: ds))) else .bad
      | _ => .bad)
    | _, _ => .bad)
  | .get2 => .bad

/-- the old thing at a place that changes -/
def getM (x y : D) (st : Store) : Option D := match x with
  | .r k => getIx (.r k) y st
  | _ => none
/-- a op= b -/
def opA (o : O2) (x y : D) (st : Store) : Res D := match o, x, y with
  | .add, .p (.int i), .p (.int j) => .ok (.p (.int (i + j))) st
  | .add, .p (.str a), .p (.str b) => if a.length + b.length ≤ sizeLine then .ok (.p (.str (a ++ b))) st else .bad
  | .sub, .p (.int i), .p (.int j) => .ok (.p (.int (i - j))) st
  | _, _, _ => .bad
/-! ### slices -/
def clip (n d : Nat) : Option Int → Nat
  | none => d
  | some i => if i < 0 then (i + n).toNat else min i.toNat n
def cut {α : Type} (xs : List α) (lo hi : Option Int) : List α := (xs.drop (clip xs.length 0 lo)).take (clip xs.length xs.length hi - clip xs.length 0 lo)
def cutD (x : D) (lo hi : Option Int) (st : Store) : Option D := match x with
  | .p (.str s) => some (.p (.str ⟨(cut s.cps.toList lo hi).toArray⟩))
  | .p (.tuple ds) => some (.p (.tuple (cut ds lo hi)))
  | x => (listP x st).map fun ds => .p (.list (cut ds lo hi))
def revD (x : D) (st : Store) : Option D := match x with
  | .p (.tuple ds) => some (.p (.tuple ds.reverse))
  | .p (.str _) => none
  | x => (listP x st).map fun ds => .p (.list ds.reverse)

/-! ### what is walked -/
inductive It where
  | one (d : D)
  | two (d e : D)
def zipI : List D → List D → List It
  | d :: ds, e :: es => .two d e :: zipI ds es
  | _, _ => []
def enumI (n : Nat) : List D → List It
  | [] => []
  | d :: ds => .two (.p (.int n)) d :: enumI (n + 1) ds
def rangeI (a : Int) (c : Int) : Nat → List It
  | 0 => []
  | n + 1 => .one (.p (.int a)) :: rangeI (a + c) c n
@[irreducible] def near (i : Int) : Bool := decide (-1073741824 < i) && decide (i < 1073741824)
def isL (d : D) (st : Store) : Bool := match d with
  | .p (.list _) => true
  | .r k => (match st[k]? with
    | some (.lst _) => true
    | _ => false)
  | _ => false
def isT (d : D) : Bool := match d with
  | .p (.tuple _) => true
  | _ => false
def walkOf (k : Nat) (ds : List D) (st : Store) : Option (List It) := match k, ds with
  | 0, [.p (.str s)] => some (s.cps.toList.map fun c => .one (.p (.str ⟨#[c]⟩)))
  | 0, [d] => (seqD d st).map (·.map .one)
  | 1, [.p (.int n)] => if near n then some (rangeI 0 1 n.toNat) else none
  | 1, [.p (.int a), .p (.int b)] => if near a && near b then some (rangeI a 1 (b - a).toNat) else none
  | 1, [.p (.int a), .p (.int b), .p (.int c)] => if near a && near b && decide (c = -1) then some (rangeI a (-1) (a - b).toNat) else none
  | 2, [d] => if isL d st then (seqD d st).map (enumI 0) else none
  | 3, [d, e] => if (isL d st && isL e st) || (isT d && isT e) then (seqD d st).bind fun ds => (seqD e st).map fun es => zipI ds es else none
  | 7, [d] => (seqD d st).map fun ds => ds.reverse.map .one
  | _, _ => none
mutual
def sameP : PyData → PyData → Bool
  | .none, .none => true
  | .bool a, .bool b => decide (a = b)
  | .int a, .int b => decide (a = b)
  | .str a, .str b => decide (a = b)
  | .list a, .list b => sameA a b
  | .tuple a, .tuple b => sameA a b
  | .dict a, .dict b => sameK a b
  | _, _ => false
def sameA : List PyData → List PyData → Bool
  | [], [] => true
  | a :: r, b :: q => sameP a b && sameA r q
  | _, _ => false
def sameK : List (PyData × PyData) → List (PyData × PyData) → Bool
  | [], [] => true
  | (a, c) :: r, (b, d) :: q => sameP a b && sameP c d && sameK r q
  | _, _ => false
end
def sameD : List D → List D → Bool
  | [], [] => true
  | .p a :: r, .p b :: q => sameP a b && sameD r q
  | .r a :: r, .r b :: q => decide (a = b) && sameD r q
  | _, _ => false
/-- what the walk leans on: a changing list that is walked stays as it is -/
def still (ds : List D) (st st' : Store) : Bool := ds.all fun d => match d with
  | .r k => match st[k]?, st'[k]? with
    | some (.lst a), some (.lst b) => sameD a b
    | _, _ => false
  | _ => true
mutual
theorem sameP_eq : ∀ {a b : PyData}, sameP a b = true → a = b
  | .none, .none, _ => rfl
  | .bool a, .bool b, h => by rw [of_decide_eq_true h]
  | .int a, .int b, h => by rw [of_decide_eq_true h]
  | .str a, .str b, h => by rw [of_decide_eq_true h]
  | .list a, .list b, h => by rw [sameA_eq (a := a) (b := b) h]
  | .tuple a, .tuple b, h => by rw [sameA_eq (a := a) (b := b) h]
  | .dict a, .dict b, h => by rw [sameK_eq (a := a) (b := b) h]
theorem sameA_eq : ∀ {a b : List PyData}, sameA a b = true → a = b
  | [], [], _ => rfl
  | a :: r, b :: q, h => by
    have h := Bool.and_eq_true_iff.mp h
    rw [sameP_eq h.1, sameA_eq h.2]
theorem sameK_eq : ∀ {a b : List (PyData × PyData)}, sameK a b = true → a = b
  | [], [], _ => rfl
  | (a, c) :: r, (b, d) :: q, h => by
    have h := Bool.and_eq_true_iff.mp h
    have h1 := Bool.and_eq_true_iff.mp h.1
    rw [sameP_eq h1.1, sameP_eq h1.2, sameK_eq h.2]
end
theorem sameD_eq : ∀ {a b : List D}, sameD a b = true → a = b
  | [], [], _ => rfl
  | .p a :: r, .p b :: q, h => by
    have h := Bool.and_eq_true_iff.mp h
    rw [sameP_eq h.1, sameD_eq h.2]
  | .r a :: r, .r b :: q, h => by
    have h := Bool.and_eq_true_iff.mp h
    rw [of_decide_eq_true h.1, sameD_eq h.2]
mutual
theorem sameP_rfl : ∀ a : PyData, sameP a a = true
  | .none => rfl
  | .bool a => by simp [sameP]
  | .int a => by simp [sameP]
  | .str a => by simp [sameP]
  | .list a => by simp [sameP, sameA_rfl a]
  | .tuple a => by simp [sameP, sameA_rfl a]
  | .dict a => by simp [sameP, sameK_rfl a]
theorem sameA_rfl : ∀ a : List PyData, sameA a a = true
  | [] => rfl
  | a :: r => by simp [sameA, sameP_rfl a, sameA_rfl r]
theorem sameK_rfl : ∀ a : List (PyData × PyData), sameK a a = true
  | [] => rfl
  | (a, c) :: r => by simp [sameK, sameP_rfl a, sameP_rfl c, sameK_rfl r]
end
theorem sameD_rfl : ∀ a : List D, sameD a a = true
  | [] => rfl
  | .p a :: r => by simp [sameD, sameP_rfl a, sameD_rfl r]
  | .r a :: r => by simp [sameD, sameD_rfl r]
def setAll : List Nat → List D → Sl → Option Sl
  | [], [], env => some env
  | i :: is, d :: ds, env => if i < env.length then setAll is ds (env.set i (some d)) else none
  | _, _, _ => none
def bindT (tg : Tg) (it : It) (env : Sl) : Option Sl := match tg, it with
  | .one i, .one d => setAll [i] [d] env
  | .many is, .two d e => setAll is [d, e] env
  | .many is, .one (.p (.tuple ds)) => setAll is (ds.map .p) env
  | _, _ => none
def wipeE (env : Sl) : List Nat → Sl
  | [] => env
  | v :: vs => (wipeE env vs).set v none

/-- a changing list -/
def isLst (x : D) (st : Store) : Bool := match x with
  | .r k => (match st[k]? with
    | some (.lst _) => true
    | _ => false)
  | _ => false
/-- what a method's receiver is, told ahead of the arguments -/
def pre (o : O2) (x : D) (st : Store) : Bool := match o with
  | .app => isLst x st
  | .ext => isLst x st
  | .popi => isLst x st
  | .indx => (match x with
    | .p (.tuple _) => true
    | .p (.list _) => true
    | x => isLst x st)
  | .get => false
  | .join => (match x with
    | .p (.str _) => true
    | _ => false)
  | .split => (match x with
    | .p (.str _) => true
    | _ => false)
  | _ => true
/-! ### evaluation -/
abbrev Calls := Nat → List D → Store → Res D
/-- a list that a call hands back, as data -/
def thaw (d : D) (st : Store) : Option PyData := match d with
  | .p d => some d
  | .r k => (match st[k]? with
    | some (.lst ds) => (allP ds).map .list
    | _ => none)
def runP (Φ : Calls) (f : Nat) (xs : List PyData) (st : Store) : Res D := match Φ f (xs.map .p) [] with
  | .ok d st' => Res.of st ((thaw d st').map .p)
  | .ex c fs _ => .ex c fs st
  | .bad => .bad
def callD (Φ : Calls) (pu : Bool) (f : Nat) (ds : List D) (st : Store) : Res D :=
  if pu then (match allP ds with
    | some xs => runP Φ f xs st
    | none => .bad)
  else Φ f ds st
def permD (ps : List Nat) (ds : List D) : Option (List D) := ps.mapM fun i => ds[i]?
def truth (d : D) : Option Bool := match d with
  | .p (.bool b) => some b
  | _ => none
def dicOf : List D → List (PyData × D) → Option (List (PyData × D))
  | [], acc => some acc
  | .p k :: v :: r, acc => if keyOk k then dicOf r (dPut acc k v) else none
  | _, _ => none
def compM (ok : Store → Bool) (f : It → Store → Res (Option D)) : List It → Store → Res (List D)
  | [], st => if ok st then .ok [] st else .bad
  | x :: xs, st => if ok st then (f x st).bind fun o st => (compM ok f xs st).bind fun ds st => .ok (match o with
    | some d => d :: ds
    | none => ds) st else .bad
/-- a new list as a changing one -/
def asNew (m : Bool) (o : Option D) (st : Store) : Res D := match o with
  | some (.p (.list ds)) => newL m (ds.map .p) st
  | some d => if m then .bad else .ok d st
  | none => .bad
mutual
def ev (Φ : Calls) : E → Sl → Store → Res D
  | .var i, env, st => match env[i]? with
    | some (some d) => .ok d st
    | _ => .bad
  | .c d, _, st => .ok (.p d) st
  | .g _ d, _, st => .ok (.p d) st
  | .o1 o a, env, st => (ev Φ a env st).bind fun x st => (op1 o x st).nox
  | .o2 o a b, env, st => (ev Φ a env st).bind fun x st => if pre o x st then (ev Φ b env st).bind fun y st => (op2 o x y st).nox else .bad
  | .o3 o a b c, env, st => (ev Φ a env st).bind fun x st => if isLst x st then (ev Φ b env st).bind fun y st => (ev Φ c env st).bind fun z st => (op3 o x y z st).nox else .bad
  | .an es, env, st => evAn Φ es env st
  | .orr es, env, st => evOr Φ es env st
  | .ite c a b, env, st => (ev Φ c env st).bind fun x st => match truth x with
    | some true => ev Φ a env st
    | some false => ev Φ b env st
    | none => .bad
  | .chain o o' a b c, env, st => (ev Φ a env st).bind fun x st => (ev Φ b env st).bind fun y st => (op2 o x y st).nox.bind fun k st => match truth k with
    | some true => (ev Φ c env st).bind fun z st => (op2 o' y z st).nox
    | some false => .ok (bz false) st
    | none => .bad
  | .tup es, env, st => (evs Φ es env st).bind fun ds st => Res.of st ((allP ds).bind fun xs => if xs.length ≤ sizeLine then some (.p (.tuple xs)) else none)
  | .lst m es, env, st => (evs Φ es env st).bind fun ds st => newL m ds st
  | .dic kvs, env, st => (evs Φ kvs env st).bind fun ds st => match dicOf ds [] with
    | some kvs => alloc (.dic kvs) st
    | none => .bad
  | .sl m a lo hi, env, st => (ev Φ a env st).bind fun x st => (evO Φ lo env st).bind fun l st => (evO Φ hi env st).bind fun h st => (asNew m (cutD x l h st) st).nox
  | .rv m a, env, st => (ev Φ a env st).bind fun x st => (asNew m (revD x st) st).nox
  | .call pu f es, env, st => (evs Φ es env st).bind fun ds st => callD Φ pu f ds st
  | .callk pu f ps es, env, st => (evs Φ es env st).bind fun ds st => match permD ps ds with
    | some ds => callD Φ pu f ds st
    | none => .bad
  | .comp m elt tg k its ifs, env, st => (evs Φ its env st).bind fun ds st => match walkOf k ds st with
    | some xs => ((compM (fun st1 => still ds st st1) (fun x st1 => match bindT tg x (wipeE env tg.slots) with
        | some env' => (evAn Φ ifs env' st1).bind fun c st1 => match truth c with
          | some true => (ev Φ elt env' st1).bind fun d st1 => .ok (some d) st1
          | some false => .ok none st1
          | none => .bad
        | none => .bad) xs st).bind fun ds st => newL m ds st).nox
    | none => .bad
def evs (Φ : Calls) : List E → Sl → Store → Res (List D)
  | [], _, st => .ok [] st
  | e :: es, env, st => (ev Φ e env st).bind fun d st => (evs Φ es env st).bind fun ds st => .ok (d :: ds) st
def evO (Φ : Calls) : Option E → Sl → Store → Res (Option Int)
  | none, _, st => .ok none st
  | some e, env, st => (ev Φ e env st).bind fun d st => match d with
    | .p (.int i) => .ok (some i) st
    | _ => .bad
/-- and: each but the last a truth value -/
def evAn (Φ : Calls) : List E → Sl → Store → Res D
  | [], _, st => .ok (bz true) st
  | e :: es, env, st => match es with
    | [] => ev Φ e env st
    | _ :: _ => (ev Φ e env st).bind fun x st => match truth x with
      | some true => evAn Φ es env st
      | some false => .ok (bz false) st
      | none => .bad
def evOr (Φ : Calls) : List E → Sl → Store → Res D
  | [], _, st => .ok (bz false) st
  | e :: es, env, st => match es with
    | [] => ev Φ e env st
    | _ :: _ => (ev Φ e env st).bind fun x st => match truth x with
      | some true => .ok (bz true) st
      | some false => evOr Φ es env st
      | none => .bad
end

/-! ### statements -/
abbrev SR := Res (Flow × Sl)
def forM' (ok : Store → Bool) (f : It → Sl → Store → SR) : List It → Sl → Store → SR
  | [], env, st => if ok st then .ok (.nx, env) st else .bad
  | x :: xs, env, st => if ok st then (f x env st).bind fun r st => (match r.1 with
    | .nx => forM' ok f xs r.2 st
    | .ct => forM' ok f xs r.2 st
    | .bk => .ok (.nx, r.2) st
    | .rt d => .ok (.rt d, r.2) st) else .bad
def whlM (c : Sl → Store → Res D) (f : Sl → Store → SR) : Nat → Sl → Store → SR
  | 0, _, _ => .bad
  | n + 1, env, st => (c env st).bind fun k st => match truth k with
    | some false => .ok (.nx, env) st
    | some true => (f env st).bind fun r st => (match r.1 with
      | .nx => whlM c f n r.2 st
      | .ct => whlM c f n r.2 st
      | .bk => .ok (.nx, r.2) st
      | .rt d => .ok (.rt d, r.2) st)
    | none => .bad
def fuel : Nat := 1099511627776
def setE (i : Nat) (d : D) (env : Sl) : Option Sl := if i < env.length then some (env.set i (some d)) else none
mutual
def exS (Φ : Calls) : S → Sl → Store → SR
  | .set i e, env, st => (ev Φ e env st).bind fun d st => Res.of st ((setE i d env).map fun env => (.nx, env))
  | .unp is e, env, st => (ev Φ e env st).bind fun d st => match d with
    | .p (.tuple ds) => Res.of st ((setAll is (ds.map .p) env).map fun env => (.nx, env))
    | _ => .bad
  | .par is es, env, st => (evs Φ es env st).bind fun ds st => Res.of st ((setAll is ds env).map fun env => (.nx, env))
  | .setix o i v, env, st => (ev Φ v env st).bind fun d st => (ev Φ o env st).bind fun x st => (ev Φ i env st).bind fun y st => match setIx x y d st with
    | some st => .ok (.nx, env) st
    | none => .bad
  | .aug i o e, env, st => match env[i]? with
    | some (some x) => (ev Φ e env st).bind fun y st => (opA o x y st).nox.bind fun d st => Res.of st ((setE i d env).map fun env => (.nx, env))
    | _ => .bad
  | .augix o i op e, env, st => (ev Φ o env st).bind fun x st => (ev Φ i env st).bind fun y st => match getM x y st with
    | some old => (ev Φ e env st).bind fun z st => (opA op old z st).nox.bind fun d st => (match setIx x y d st with
      | some st => .ok (.nx, env) st
      | none => .bad)
    | none => .bad
  | .ex e, env, st => (ev Φ e env st).bind fun _ st => .ok (.nx, env) st
  | .ret e, env, st => (ev Φ e env st).bind fun d st => .ok (.rt d, env) st
  | .retN, env, st => .ok (.rt (.p .none), env) st
  | .iff c a b, env, st => (ev Φ c env st).bind fun k st => match truth k with
    | some true => exB Φ a env st
    | some false => exB Φ b env st
    | none => .bad
  | .for_ tg k its body, env, st => (evs Φ its env st).bind fun ds st => match walkOf k ds st with
    | some xs => forM' (fun st1 => still ds st st1) (fun x env1 st1 => match bindT tg x env1 with
      | some env2 => exB Φ body env2 st1
      | none => .bad) xs env st
    | none => .bad
  | .whl c body, env, st => whlM (fun env st => ev Φ c env st) (fun env st => exB Φ body env st) fuel env st
  | .brk, env, st => .ok (.bk, env) st
  | .cont, env, st => .ok (.ct, env) st
  | .pass, env, st => .ok (.nx, env) st
  | .raise _ _, _, _ => .bad
  | .try_ _ _ _ _, _, _ => .bad
def exB (Φ : Calls) : List S → Sl → Store → SR
  | [], env, st => .ok (.nx, env) st
  | s :: ss, env, st => (exS Φ s env st).bind fun r st => match r.1 with
    | .nx => exB Φ ss r.2 st
    | .bk => .ok (.bk, r.2) st
    | .ct => .ok (.ct, r.2) st
    | .rt d => .ok (.rt d, r.2) st
end

structure FDef where
  nm : Str
  N : List Str
  pars : Nat
  body : List S
def startE (d : FDef) (args : List D) : Sl := args.map some ++ List.replicate (d.N.length - d.pars) none
def bodyR (Φ : Calls) (d : FDef) (args : List D) (st : Store) : Res D :=
  if args.length = d.pars ∧ d.pars ≤ d.N.length then (exB Φ d.body (startE d args) st).bind fun r st => match r.1 with
    | .rt v => .ok v st
    | .nx => .ok (.p .none) st
    | _ => .bad
  else .bad
/-- calls, so many deep at most -/
def callF (F : List FDef) : Nat → Calls
  | 0 => fun _ _ _ => .bad
  | n + 1 => fun f args st => match F[f]? with
    | some d => bodyR (callF F n) d args st
    | none => .bad
def isTrueR : Res D → Bool
  | .ok (.p (.bool true)) _ => true
  | _ => false
end Dn
/-! Dn, part 2: what the data stand for in the abstract heap. -/
namespace Dn
open PySem PySem.Spec PyProof.Rows L2

abbrev Sg := List (Option V)
abbrev Off1 := Addr → Prop
abbrev Lc := List (Option Addr)
def Live (L : Lc) (a : Addr) : Prop := ∃ i : Nat, L[i]? = some (some a)
def Off (G : Off1) (L : Lc) : Off1 := fun a => G a ∨ Live L a
def hNone : Hp := fun _ => none
/-- a list at a that nothing here changes -/
def LstO (K : PySem.W.Frag) (O : Off1) (H : Hp) (a : Addr) (xs : List V) : Prop := (Rd H a (.lst xs) ∧ ¬ O a) ∨ SqL K hNone a xs
/-- a tuple at a, its object without a dict of its own -/
def TupK (K : PySem.W.Frag) (a : Addr) (xs : List V) : Prop := ∃ (o : Obj) (its : Array Value) (n : Nat), K.lookup a = some o ∧ o.cls = .type "tuple" ∧ o.dict = none ∧ o.data = .seq its n ∧ its.size ≤ sizeLine ∧ Vals xs its.toList
def TupO (K : PySem.W.Frag) (O : Off1) (H : Hp) (a : Addr) (xs : List V) : Prop := (∃ o : Obj, H a = some (.frz o (.tup xs)) ∧ o.dict = none ∧ ¬ O a) ∨ TupK K a xs
theorem noRd {a : Addr} {u : HO} : ¬ Rd hNone a u := by
  rintro (h | ⟨o, h⟩) <;> cases h
theorem LstO.sq {K : PySem.W.Frag} {O : Off1} {H : Hp} {a : Addr} {xs : List V} (h : LstO K O H a xs) : SqL K H a xs := by
  rcases h with ⟨h, _⟩ | h
  · exact .inl h
  · rcases h with h | h
    · exact absurd h noRd
    · exact .inr h
theorem TupO.sq {K : PySem.W.Frag} {O : Off1} {H : Hp} {a : Addr} {xs : List V} (h : TupO K O H a xs) : SqT K H a xs := by
  rcases h with ⟨o, h, _, _⟩ | ⟨o, its, n, h1, h2, _, h3, h4, h5⟩
  · exact .inl (.inr ⟨o, h⟩)
  · exact .inr ⟨o, its, n, h1, h2, h3, h4, h5⟩
/-- what stood stays, but what is off limits; what is newly off limits was free -/
structure Keep (O : Off1) (H : Hp) (O' : Off1) (H' : Hp) : Prop where
  kp : ∀ b u, H b = some u → ¬ O b → H' b = some u
  no : ∀ b, O' b → O b ∨ H b = none
theorem Keep.rd {O O' : Off1} {H H' : Hp} (k : Keep O H O' H') {a : Addr} {u : HO} (h : Rd H a u) (n : ¬ O a) : Rd H' a u ∧ ¬ O' a := by
  rcases h with h | ⟨o, h⟩
  · refine ⟨.inl (k.kp a u h n), fun z => ?_⟩
    rcases k.no a z with q | q
    · exact n q
    · rw [h] at q; cases q
  · refine ⟨.inr ⟨o, k.kp a _ h n⟩, fun z => ?_⟩
    rcases k.no a z with q | q
    · exact n q
    · rw [h] at q; cases q
theorem LstO.mono {K : PySem.W.Frag} {O O' : Off1} {H H' : Hp} (k : Keep O H O' H') {a : Addr} {xs : List V} (h : LstO K O H a xs) : LstO K O' H' a xs := by
  rcases h with ⟨h, n⟩ | h
  · exact .inl (k.rd h n)
  · exact .inr h
theorem TupO.mono {K : PySem.W.Frag} {O O' : Off1} {H H' : Hp} (k : Keep O H O' H') {a : Addr} {xs : List V} (h : TupO K O H a xs) : TupO K O' H' a xs := by
  rcases h with ⟨o, h, d, n⟩ | h
  · refine .inl ⟨o, k.kp a _ h n, d, fun z => ?_⟩
    rcases k.no a z with q | q
    · exact n q
    · rw [h] at q; cases q
  · exact .inr h
def sOk (x : Str) : Prop := PyData.strOk x = true ∧ x.length ≤ sizeLine
mutual
inductive Fz (K : PySem.W.Frag) (O : Off1) (H : Hp) : V → PyData → Prop
  | non : Fz K O H .non .none
  | bl (b : Bool) : Fz K O H (.bl b) (.bool b)
  | int (i : Int) : Fz K O H (.int i) (.int i)
  | str (x : Str) : sOk x → Fz K O H (.str x) (.str x)
  | lst {a : Addr} {xs : List V} {ds : List PyData} : LstO K O H a xs → FzA K O H xs ds → Fz K O H (.ref a) (.list ds)
  | tup {a : Addr} {xs : List V} {ds : List PyData} : TupO K O H a xs → FzA K O H xs ds → Fz K O H (.ref a) (.tuple ds)
inductive FzA (K : PySem.W.Frag) (O : Off1) (H : Hp) : List V → List PyData → Prop
  | nil : FzA K O H [] []
  | cons {v : V} {vs : List V} {d : PyData} {ds : List PyData} : Fz K O H v d → FzA K O H vs ds → FzA K O H (v :: vs) (d :: ds)
end
section
variable {K : PySem.W.Frag} {O O' : Off1} {H H' : Hp}
mutual
theorem Fz.mono (k : Keep O H O' H') : ∀ (d : PyData) (v : V), Fz K O H v d → Fz K O' H' v d
  | .none, _, h => by cases h; exact .non
  | .bool b, _, h => by cases h; exact .bl b
  | .int i, _, h => by cases h; exact .int i
  | .str x, _, h => by cases h with | str _ o => exact .str x o
  | .list ds, _, h => by cases h with | lst s a => exact .lst (s.mono k) (FzA.mono k ds _ a)
  | .tuple ds, _, h => by cases h with | tup s a => exact .tup (s.mono k) (FzA.mono k ds _ a)
  | .dict _, _, h => by cases h
theorem FzA.mono (k : Keep O H O' H') : ∀ (ds : List PyData) (vs : List V), FzA K O H vs ds → FzA K O' H' vs ds
  | [], _, h => by cases h; exact .nil
  | d :: ds, _, h => by cases h with | cons a b => exact .cons (Fz.mono k d _ a) (FzA.mono k ds _ b)
end
mutual
theorem Fz.dp : ∀ (d : PyData) (v : V), Fz K O H v d → Dp K H v d
  | .none, _, h => by cases h; exact .non
  | .bool b, _, h => by cases h; exact .bl b
  | .int i, _, h => by cases h; exact .int i
  | .str x, _, h => by cases h; exact .str x
  | .list ds, _, h => by cases h with | lst s a => exact .lst s.sq (FzA.dp ds _ a)
  | .tuple ds, _, h => by cases h with | tup s a => exact .tup s.sq (FzA.dp ds _ a)
  | .dict _, _, h => by cases h
theorem FzA.dp : ∀ (ds : List PyData) (vs : List V), FzA K O H vs ds → DpAll K H vs ds
  | [], _, h => by cases h; exact .nil
  | d :: ds, _, h => by cases h with | cons a b => exact .cons (Fz.dp d _ a) (FzA.dp ds _ b)
end
mutual
theorem Fz.lay : ∀ (d : PyData) (v : V), Fz K O H v d → d.canLay0 = true
  | .none, _, h => by simp only [PyData.canLay0]
  | .bool b, _, h => by simp only [PyData.canLay0]
  | .int i, _, h => by simp only [PyData.canLay0]
  | .str x, _, h => by cases h with | str _ o => simp only [PyData.canLay0]; exact o.1
  | .list ds, _, h => by cases h with | lst s a => simp only [PyData.canLay0]; exact FzA.lay ds _ a
  | .tuple ds, _, h => by cases h with | tup s a => simp only [PyData.canLay0]; exact FzA.lay ds _ a
  | .dict _, _, h => by cases h
theorem FzA.lay : ∀ (ds : List PyData) (vs : List V), FzA K O H vs ds → PyData.canLayAll0 ds = true
  | [], _, h => by simp only [PyData.canLayAll0]
  | d :: ds, _, h => by
    cases h with
    | cons a b =>
      simp only [PyData.canLayAll0, Bool.and_eq_true]
      exact ⟨Fz.lay d _ a, FzA.lay ds _ b⟩
end
theorem FzA.len : ∀ {ds : List PyData} {vs : List V}, FzA K O H vs ds → vs.length = ds.length
  | [], _, h => by cases h; rfl
  | d :: ds, _, h => by cases h with | cons a b => simp [FzA.len b]
theorem FzA.app : ∀ {ds es : List PyData} {vs us : List V}, FzA K O H vs ds → FzA K O H us es → FzA K O H (vs ++ us) (ds ++ es)
  | [], _, _, _, .nil, h => h
  | d :: ds, _, _, _, .cons a b, h => .cons a (FzA.app b h)
theorem FzA.get : ∀ {ds : List PyData} {vs : List V} {i : Nat} {d : PyData}, FzA K O H vs ds → ds[i]? = some d → ∃ v, vs[i]? = some v ∧ Fz K O H v d
  | [], _, _, _, .nil, e => by simp at e
  | _ :: _, _, 0, _, .cons a b, e => by simp at e; subst e; exact ⟨_, rfl, a⟩
  | _ :: _, _, i + 1, _, .cons a b, e => by
    obtain ⟨v, h1, h2⟩ := FzA.get (i := i) b (by simpa using e)
    exact ⟨v, by simpa using h1, h2⟩
theorem FzA.take : ∀ {ds : List PyData} {vs : List V} (n : Nat), FzA K O H vs ds → FzA K O H (vs.take n) (ds.take n)
  | _, _, 0, _ => by simp; exact .nil
  | [], _, n + 1, .nil => by simp; exact .nil
  | _ :: _, _, n + 1, .cons a b => by simp; exact .cons a (FzA.take n b)
theorem FzA.drop : ∀ {ds : List PyData} {vs : List V} (n : Nat), FzA K O H vs ds → FzA K O H (vs.drop n) (ds.drop n)
  | _, _, 0, h => by simpa using h
  | [], _, n + 1, .nil => by simp; exact .nil
  | _ :: _, _, n + 1, .cons a b => by simp; exact FzA.drop n b
theorem FzA.rev : ∀ {ds : List PyData} {vs : List V}, FzA K O H vs ds → FzA K O H vs.reverse ds.reverse
  | [], _, .nil => by simp; exact .nil
  | d :: ds, _, .cons a b => by
    simp only [List.reverse_cons]
    exact (FzA.rev b).app (.cons a .nil)
theorem FzA.rep {ds : List PyData} {vs : List V} (h : FzA K O H vs ds) : ∀ n : Nat, FzA K O H (List.replicate n vs).flatten (repD n ds)
  | 0 => by simp [repD]; exact .nil
  | n + 1 => by
    have ih := FzA.rep h n
    unfold repD at ih ⊢
    simp only [List.replicate_succ, List.flatten_cons]
    exact h.app ih
theorem FzA.nil_iff {ds : List PyData} {vs : List V} (h : FzA K O H vs ds) : vs = [] ↔ ds = [] := by
  cases h <;> simp
end

/-! ### values, objects -/
def RD (K : PySem.W.Frag) (G : Off1) (L : Lc) (H : Hp) : V → D → Prop
  | v, .p d => Fz K (Off G L) H v d
  | v, .r k => ∃ a, v = .ref a ∧ k < L.length ∧ ∀ b, L[k]? = some (some b) → b = a
abbrev RDs (K : PySem.W.Frag) (G : Off1) (L : Lc) (H : Hp) : List V → List D → Prop := Paired (RD K G L H)
def KeyR : Key → PyData → Prop
  | .inl i, .int j => i = j
  | .inr x, .str y => x = y ∧ sOk x
  | _, _ => False
def OR (K : PySem.W.Frag) (G : Off1) (L : Lc) (H : Hp) (a : Addr) : Ob → Prop
  | .lst ds => ∃ xs, H a = some (.lst xs) ∧ RDs K G L H xs ds
  | .dic kvs => ∃ ks, H a = some (.dK ks) ∧ Paired (fun p q => KeyR p.1 q.1 ∧ RD K G L H p.2 q.2) ks kvs
  | .gone => True
structure Rl (K : PySem.W.Frag) (G : Off1) (L : Lc) (st : Store) (H : Hp) : Prop where
  len : L.length = st.length
  inj : ∀ (i j : Nat) (a : Addr), L[i]? = some (some a) → L[j]? = some (some a) → i = j
  obj : ∀ (i : Nat) (a : Addr) (o : Ob), L[i]? = some (some a) → st[i]? = some o → OR K G L H a o
  gtr : ∀ a, Off G L a → ∃ o, H a = some o
  out : ∀ a, Live L a → ¬ G a
  ded : ∀ i : Nat, L[i]? = some none → st[i]? = some .gone
structure Po (L : Lc) (H : Hp) (L' : Lc) (H' : Hp) : Prop where
  kp : ∀ b u, H b = some u → ¬ Live L b → H' b = some u
  st : ∀ b u, H b = some u → ∃ u', H' b = some u'
  le : L.length ≤ L'.length
  old : ∀ (k : Nat) (b : Addr), k < L.length → L'[k]? = some (some b) → L[k]? = some (some b)
  new : ∀ (k : Nat) (b : Addr), L.length ≤ k → L'[k]? = some (some b) → H b = none
section
variable {K : PySem.W.Frag} {G : Off1} {L L1 L2 : Lc} {H H1 H2 : Hp} {st st1 : Store}
theorem Po.refl : Po L H L H := ⟨fun _ _ h _ => h, fun _ u h => ⟨u, h⟩, Nat.le_refl _, fun _ _ _ h => h, fun k b h e => by
  have := (List.getElem?_eq_some_iff.mp e).1
  omega⟩
theorem Po.live (p : Po L H L1 H1) {b : Addr} (h : Live L1 b) : Live L b ∨ H b = none := by
  obtain ⟨i, e⟩ := h
  by_cases hi : i < L.length
  · exact .inl ⟨i, p.old i b hi e⟩
  · exact .inr (p.new i b (by omega) e)
theorem Po.trans (p : Po L H L1 H1) (q : Po L1 H1 L2 H2) : Po L H L2 H2 where
  kp := fun b u e n => q.kp b u (p.kp b u e n) fun z => by
    rcases p.live z with r | r
    · exact n r
    · rw [e] at r; cases r
  st := fun b u e => by
    obtain ⟨u1, e1⟩ := p.st b u e
    exact q.st b u1 e1
  le := Nat.le_trans p.le q.le
  old := fun k b h e => p.old k b h (q.old k b (Nat.lt_of_lt_of_le h p.le) e)
  new := fun k b h e => by
    by_cases hk : k < L1.length
    · exact p.new k b h (q.old k b hk e)
    · cases z : H b with
      | none => rfl
      | some u =>
        obtain ⟨u1, e1⟩ := p.st b u z
        rw [q.new k b (by omega) e] at e1; cases e1
theorem Po.keep (p : Po L H L1 H1) : Keep (Off G L) H (Off G L1) H1 where
  kp := fun b u e n => p.kp b u e fun z => n (.inr z)
  no := fun b h => by
    rcases h with h | h
    · exact .inl (.inl h)
    · rcases p.live h with r | r
      · exact .inl (.inr r)
      · exact .inr r
theorem RD.mono (p : Po L H L1 H1) : ∀ {v : V} {d : D}, RD K G L H v d → RD K G L1 H1 v d
  | v, .p d, h => Fz.mono p.keep d v h
  | v, .r k, h => by
    obtain ⟨a, e, hk, hb⟩ := h
    exact ⟨a, e, Nat.lt_of_lt_of_le hk p.le, fun b z => hb b (p.old k b hk z)⟩
theorem RDs.mono (p : Po L H L1 H1) {vs : List V} {ds : List D} (h : RDs K G L H vs ds) : RDs K G L1 H1 vs ds := Paired.mono (fun _ _ x => RD.mono p x) h
/-- the frame's names -/
structure RE (K : PySem.W.Frag) (G : Off1) (L : Lc) (H : Hp) (σ : Sg) (env : Sl) : Prop where
  len : env.length = σ.length
  at_ : ∀ (i : Nat) (d : D), env[i]? = some (some d) → ∃ v, σ[i]? = some (some v) ∧ RD K G L H v d
theorem RE.mono (p : Po L H L1 H1) {σ : Sg} {env : Sl} (h : RE K G L H σ env) : RE K G L1 H1 σ env := ⟨h.len, fun i d e => by
  obtain ⟨v, e1, r⟩ := h.at_ i d e
  exact ⟨v, e1, RD.mono p r⟩⟩
theorem RE.set {σ : Sg} {env : Sl} (h : RE K G L H σ env) {i : Nat} {d : D} {v : V} (r : RD K G L H v d) : RE K G L H (σ.set i (some v)) (env.set i (some d)) := ⟨by simpa using h.len, fun j e hj => by
  by_cases q : i = j
  · subst q
    have hl : i < env.length := by
      have := (List.getElem?_eq_some_iff.mp hj).1
      simpa using this
    rw [List.getElem?_set_self hl] at hj
    cases hj
    exact ⟨v, List.getElem?_set_self (by rw [← h.len]; exact hl), r⟩
  · rw [List.getElem?_set_ne q] at hj ⊢
    exact h.at_ j e hj⟩
theorem RE.unset {σ : Sg} {env : Sl} (h : RE K G L H σ env) {i : Nat} : RE K G L H (σ.set i none) (env.set i none) := ⟨by simpa using h.len, fun j e hj => by
  by_cases q : i = j
  · subst q
    have hl : i < env.length := by
      have := (List.getElem?_eq_some_iff.mp hj).1
      simpa using this
    rw [List.getElem?_set_self hl] at hj
    cases hj
  · rw [List.getElem?_set_ne q] at hj ⊢
    exact h.at_ j e hj⟩
theorem RE.wipe {σ : Sg} {env : Sl} (h : RE K G L H σ env) : ∀ vs : List Nat, RE K G L H (wipe σ vs) (wipeE env vs)
  | [] => h
  | v :: vs => (RE.wipe h vs).unset

/-! ### the store's steps -/
theorem Rl.none (r : Rl K G L st H) {a : Addr} (h : H a = none) : ¬ Off G L a := fun z => by
  obtain ⟨o, e⟩ := r.gtr a z
  rw [h] at e; cases e
/-- something new is tracked that nothing here changes -/
theorem Po.new1 (r : Rl K G L st H) {p : Addr} {o : HO} (h : H p = .none) : Po L H L (upd H p o) := ⟨fun b u e _ => by rw [upd_ne (ne_of_none e h)]; exact e, fun b u e => ⟨u, by rw [upd_ne (ne_of_none e h)]; exact e⟩, Nat.le_refl _, fun _ _ _ e => e, fun k b h e => by
  have := (List.getElem?_eq_some_iff.mp e).1
  omega⟩
theorem OR.mono (p : Po L H L1 H1) {a : Addr} {o : Ob} (h : OR K G L H a o) (e : ∀ u, H a = some u → H1 a = some u) : OR K G L1 H1 a o := by
  cases o with
  | lst ds =>
    obtain ⟨xs, e1, r⟩ := h
    exact ⟨xs, e _ e1, r.mono p⟩
  | dic kvs =>
    obtain ⟨ks, e1, r⟩ := h
    exact ⟨ks, e _ e1, Paired.mono (fun _ _ x => ⟨x.1, RD.mono p x.2⟩) r⟩
  | gone => trivial
theorem Rl.new1 (r : Rl K G L st H) {p : Addr} {o : HO} (h : H p = .none) : Rl K G L st (upd H p o) where
  len := r.len
  inj := r.inj
  obj := fun i a o e1 e2 => (r.obj i a o e1 e2).mono (Po.new1 r h) fun u e => by rw [upd_ne (ne_of_none e h)]; exact e
  gtr := fun a z => by
    obtain ⟨o', e⟩ := r.gtr a z
    exact ⟨o', by rw [upd_ne (ne_of_none e h)]; exact e⟩
  out := r.out
  ded := r.ded
/-- a live object is written -/
theorem Po.write {a : Addr} {o : HO} {L : Lc} (hl : Live L a) : Po L H L (upd H a o) := ⟨fun b u e n => by
  rw [upd_ne (fun z => n (by rw [z]; exact hl))]; exact e, fun b u e => by
  by_cases q : b = a
  · exact ⟨o, by rw [q]; exact upd_same⟩
  · exact ⟨u, by rw [upd_ne q]; exact e⟩, Nat.le_refl _, fun _ _ _ e => e, fun k b h e => by
  have := (List.getElem?_eq_some_iff.mp e).1
  omega⟩
theorem Rl.write (r : Rl K G L st H) {k : Nat} {a : Addr} {o : HO} {ob : Ob} (hk : L[k]? = some (some a)) (h : OR K G L (upd H a o) a ob) : Rl K G L (st.set k ob) (upd H a o) where
  len := by simpa using r.len
  inj := r.inj
  obj := fun i b u e1 e2 => by
    by_cases q : k = i
    · subst q
      rw [hk] at e1; cases e1
      have hl : k < st.length := by rw [← r.len]; exact (List.getElem?_eq_some_iff.mp hk).1
      rw [List.getElem?_set_self hl] at e2; cases e2
      exact h
    · rw [List.getElem?_set_ne q] at e2
      have ne : b ≠ a := fun z => q (r.inj k i a hk (by rw [← z]; exact e1))
      exact (r.obj i b u e1 e2).mono (Po.write ⟨k, hk⟩) fun w e => by rw [upd_ne ne]; exact e
  gtr := fun b z => by
    by_cases q : b = a
    · exact ⟨o, by rw [q]; exact upd_same⟩
    · obtain ⟨u, e⟩ := r.gtr b z
      exact ⟨u, by rw [upd_ne q]; exact e⟩
  out := r.out
  ded := fun i e => by
    by_cases q : k = i
    · subst q
      rw [hk] at e; cases e
    · rw [List.getElem?_set_ne q]
      exact r.ded i e
/-- a new object -/
theorem live_app {L : Lc} {p : Addr} {b : Addr} : Live (L ++ [some p]) b ↔ Live L b ∨ b = p := by
  constructor
  · rintro ⟨i, e⟩
    by_cases h : i < L.length
    · rw [List.getElem?_append_left h] at e
      exact .inl ⟨i, e⟩
    · rw [List.getElem?_append_right (by omega)] at e
      have hz : i - L.length = 0 := by
        have := (List.getElem?_eq_some_iff.mp e).1
        simp at this; omega
      rw [hz] at e
      simp at e
      exact .inr e.symm
  · rintro (⟨i, e⟩ | e)
    · exact ⟨i, by rw [List.getElem?_append_left (List.getElem?_eq_some_iff.mp e).1]; exact e⟩
    · subst e
      exact ⟨L.length, by simp⟩
theorem Po.alloc (r : Rl K G L st H) {p : Addr} {o : HO} (h : H p = .none) : Po L H (L ++ [some p]) (upd H p o) where
  kp := fun b u e _ => by rw [upd_ne (ne_of_none e h)]; exact e
  st := fun b u e => ⟨u, by rw [upd_ne (ne_of_none e h)]; exact e⟩
  le := by simp
  old := fun k b hk e => by rw [List.getElem?_append_left hk] at e; exact e
  new := fun k b hk e => by
    rw [List.getElem?_append_right hk] at e
    have hz : k - L.length = 0 := by
      have := (List.getElem?_eq_some_iff.mp e).1
      simp at this; omega
    rw [hz] at e
    simp at e
    rw [← e]; exact h
theorem Rl.alloc (r : Rl K G L st H) {p : Addr} {o : HO} {ob : Ob} (h : H p = .none) (ho : OR K G (L ++ [some p]) (upd H p o) p ob) : Rl K G (L ++ [some p]) (st ++ [ob]) (upd H p o) where
  len := by simp [r.len]
  inj := fun i j a e1 e2 => by
    have key : ∀ (i : Nat), (L ++ [some p])[i]? = some (some a) → (i < L.length ∧ L[i]? = some (some a)) ∨ (i = L.length ∧ a = p) := fun i e => by
      by_cases hi : i < L.length
      · rw [List.getElem?_append_left hi] at e
        exact .inl ⟨hi, e⟩
      · rw [List.getElem?_append_right (by omega)] at e
        have hz : i - L.length = 0 := by
          have := (List.getElem?_eq_some_iff.mp e).1
          simp at this; omega
        rw [hz] at e
        simp at e
        exact .inr ⟨by omega, e.symm⟩
    have nl : ∀ (i : Nat), L[i]? = some (some p) → False := fun i e => r.none h (.inr ⟨i, e⟩)
    rcases key i e1 with ⟨h1, q1⟩ | ⟨h1, q1⟩ <;> rcases key j e2 with ⟨h2, q2⟩ | ⟨h2, q2⟩
    · exact r.inj i j a q1 q2
    · subst q2; exact (nl i q1).elim
    · subst q1; exact (nl j q2).elim
    · omega
  obj := fun i a u e1 e2 => by
    by_cases hi : i < L.length
    · rw [List.getElem?_append_left hi] at e1
      rw [List.getElem?_append_left (by rw [← r.len]; exact hi)] at e2
      refine (r.obj i a u e1 e2).mono (Po.alloc r h) fun w e => ?_
      rw [upd_ne (ne_of_none e h)]; exact e
    · rw [List.getElem?_append_right (by omega)] at e1
      rw [List.getElem?_append_right (by rw [← r.len]; omega)] at e2
      have hz : i - L.length = 0 := by
        have := (List.getElem?_eq_some_iff.mp e1).1
        simp at this; omega
      rw [hz] at e1
      rw [← r.len, hz] at e2
      simp at e1 e2
      subst e1 e2
      exact ho
  gtr := fun b z => by
    have old : Off G L b → ∃ u, upd H p o b = some u := fun z => by
      obtain ⟨u, e⟩ := r.gtr b z
      exact ⟨u, by rw [upd_ne (ne_of_none e h)]; exact e⟩
    rcases z with z | z
    · exact old (.inl z)
    · rcases live_app.mp z with z | z
      · exact old (.inr z)
      · subst z; exact ⟨o, upd_same⟩
  out := fun b z => by
    rcases live_app.mp z with z | z
    · exact r.out b z
    · subst z
      exact fun g => r.none h (.inl g)
  ded := fun i e => by
    by_cases hi : i < L.length
    · rw [List.getElem?_append_left hi] at e
      rw [List.getElem?_append_left (by rw [← r.len]; exact hi)]
      exact r.ded i e
    · rw [List.getElem?_append_right (by omega)] at e
      have hz : i - L.length = 0 := by
        have := (List.getElem?_eq_some_iff.mp e).1
        simp at this; omega
      rw [hz] at e
      simp at e
/-- a live list is frozen -/
theorem Rl.freeze (r : Rl K G L st H) {k : Nat} {a : Addr} (hk : L[k]? = some (some a)) : Rl K G (L.set k .none) (st.set k .gone) H ∧ Po L H (L.set k .none) H ∧ ¬ Off G (L.set k .none) a := by
  have get : ∀ (i : Nat) (b : Addr), (L.set k .none)[i]? = some (some b) → i ≠ k ∧ L[i]? = some (some b) := fun i b e => by
    by_cases q : k = i
    · subst q
      rw [List.getElem?_set_self (List.getElem?_eq_some_iff.mp hk).1] at e
      cases e
    · rw [List.getElem?_set_ne q] at e
      exact ⟨Ne.symm q, e⟩
  have po : Po L H (L.set k .none) H := ⟨fun _ _ e _ => e, fun _ u e => ⟨u, e⟩, by simp, fun i b _ e => (get i b e).2, fun i b h e => by
    have := (List.getElem?_eq_some_iff.mp e).1
    simp at this; omega⟩
  refine ⟨⟨by simpa using r.len, fun i j b e1 e2 => r.inj i j b (get i b e1).2 (get j b e2).2, fun i b o e1 e2 => ?_, fun b z => ?_, fun b z => ?_, fun i e => ?_⟩, po, fun z => ?_⟩
  · obtain ⟨n, e1⟩ := get i b e1
    rw [List.getElem?_set_ne (Ne.symm n)] at e2
    exact (r.obj i b o e1 e2).mono po fun _ e => e
  · rcases z with z | ⟨i, e⟩
    · exact r.gtr b (.inl z)
    · exact r.gtr b (.inr ⟨i, (get i b e).2⟩)
  · obtain ⟨i, e⟩ := z
    exact r.out b ⟨i, (get i b e).2⟩
  · by_cases q : k = i
    · subst q
      exact List.getElem?_set_self (by rw [← r.len]; exact (List.getElem?_eq_some_iff.mp hk).1)
    · rw [List.getElem?_set_ne q] at e ⊢
      exact r.ded i e
  · rcases z with z | ⟨i, e⟩
    · exact r.out a ⟨k, hk⟩ z
    · obtain ⟨n, e⟩ := get i a e
      exact n (r.inj i k a e hk)
end
end Dn
/-! Dn, part 3: the operations by values. -/
namespace Dn
open PySem PySem.Spec PyProof.Rows L2

/-- what follows a result (no exception) -/
def Nw {α β : Type} (K : PySem.W.Frag) (G : Off1) (L : Lc) (H : Hp) (res : Res α) (Rel : Lc → Hp → β → α → Prop) (Q : β → Hp → Prop) : Prop := match res with
  | .ok a st' => ∀ b L' H', Po L H L' H' → Rl K G L' st' H' → Rel L' H' b a → Q b H'
  | _ => False
section
variable {K : PySem.W.Frag} {G : Off1} {L : Lc} {H : Hp} {st : Store} {Q : VK}
theorem Nw.pure {d : D} {v : V} (h : Nw K G L H (.ok d st) (RD K G) Q) (r : Rl K G L st H) (f : RD K G L H v d) : Q v H := h v L H .refl r f
theorem Nw.newT {ds : List PyData} {xs : List V} {p : Addr} {o : Obj} (h : Nw K G L H (.ok (.p (.tuple ds)) st) (RD K G) Q) (r : Rl K G L st H) (f : FzA K (Off G L) H xs ds) (hp : H p = none) (hd : o.dict = none) : Q (.ref p) (upd H p (.frz o (.tup xs))) :=
  h _ _ _ (Po.new1 r hp) (r.new1 hp) (Fz.tup (.inl ⟨o, upd_same, hd, r.none hp⟩) (FzA.mono (Po.new1 r hp).keep _ _ f))
theorem Nw.newL {ds : List PyData} {xs : List V} {p : Addr} (h : Nw K G L H (.ok (.p (.list ds)) st) (RD K G) Q) (r : Rl K G L st H) (f : FzA K (Off G L) H xs ds) (hp : H p = none) : Q (.ref p) (upd H p (.lst xs)) :=
  h _ _ _ (Po.new1 r hp) (r.new1 hp) (Fz.lst (.inl ⟨.inl upd_same, r.none hp⟩) (FzA.mono (Po.new1 r hp).keep _ _ f))
theorem Nw.newM {ds : List D} {xs : List V} {p : Addr} (h : Nw K G L H (alloc (.lst ds) st) (RD K G) Q) (r : Rl K G L st H) (f : RDs K G L H xs ds) (hp : H p = none) : Q (.ref p) (upd H p (.lst xs)) :=
  h _ _ _ (Po.alloc r hp) (r.alloc hp ⟨xs, upd_same, f.mono (Po.alloc r hp)⟩) ⟨p, rfl, by rw [← r.len]; simp, fun b e => by
    rw [← r.len] at e
    simp at e
    exact e.symm⟩
/-- a written object -/
theorem Nw.put {k : Nat} {a : Addr} {o : HO} {ob : Ob} {d : D} {v : V} (h : Nw K G L H (.ok d (st.set k ob)) (RD K G) Q) (r : Rl K G L st H) (hk : L[k]? = some (some a)) (ho : OR K G L (upd H a o) a ob) (f : RD K G L (upd H a o) v d) : Q v (upd H a o) :=
  h _ _ _ (Po.write ⟨k, hk⟩) (r.write hk ho) f

/-! ### reading the relations -/
theorem allP_rel : ∀ {ds : List D} {es : List PyData} {xs : List V}, RDs K G L H xs ds → allP ds = some es → FzA K (Off G L) H xs es
  | [], es, _, .nil, h => by simp [allP] at h; subst h; exact .nil
  | .p d :: ds, es, _, .cons a b, h => by
    simp only [allP, Option.map_eq_some_iff] at h
    obtain ⟨fs, h1, h2⟩ := h
    subst h2
    exact .cons a (allP_rel b h1)
  | .r k :: ds, es, _, _, h => by simp [allP] at h
theorem mapP_rel : ∀ {es : List PyData} {xs : List V}, FzA K (Off G L) H xs es → RDs K G L H xs (es.map .p)
  | [], _, .nil => .nil
  | _ :: _, _, .cons a b => .cons a (mapP_rel b)
theorem allP_map : ∀ (es : List PyData), allP (es.map .p) = some es
  | [] => rfl
  | e :: es => by simp [allP, allP_map es]
/-- a reference to a changing object that stands -/
theorem ref_rel (r : Rl K G L st H) {v : V} {k : Nat} {o : Ob} (h : RD K G L H v (.r k)) (e : st[k]? = some o) (n : o ≠ .gone) : ∃ a, v = .ref a ∧ L[k]? = some (some a) ∧ OR K G L H a o := by
  obtain ⟨a, e1, hk, hb⟩ := h
  obtain ⟨w, hw⟩ : ∃ w, L[k]? = some w := ⟨_, List.getElem?_eq_getElem hk⟩
  cases w with
  | none =>
    have := r.ded k hw
    rw [e] at this; cases this; exact absurd rfl n
  | some b =>
    have := hb b hw
    subst this
    exact ⟨b, e1, hw, r.obj k b o hw e⟩
theorem listP_rel (r : Rl K G L st H) {x : V} {d : D} {es : List PyData} (hd : RD K G L H x d) (h : listP d st = some es) : ∃ a xs, x = .ref a ∧ SqL K H a xs ∧ FzA K (Off G L) H xs es := by
  unfold listP at h
  split at h
  · cases h
    cases hd with
    | lst s f => exact ⟨_, _, rfl, s.sq, f⟩
  · split at h
    · rename_i ds e
      obtain ⟨a, e1, e2, xs, e3, f⟩ := ref_rel r hd e (by simp)
      exact ⟨a, xs, e1, SqL.of e3, allP_rel f h⟩
    · cases h
  · cases h
theorem seqD_rel (r : Rl K G L st H) {x : V} {d : D} {es : List D} (hd : RD K G L H x d) (h : seqD d st = some es) : ∃ a xs, x = .ref a ∧ (SqL K H a xs ∨ SqT K H a xs) ∧ RDs K G L H xs es := by
  unfold seqD at h
  split at h
  · cases h
    cases hd with
    | lst s f => exact ⟨_, _, rfl, .inl s.sq, mapP_rel f⟩
  · cases h
    cases hd with
    | tup s f => exact ⟨_, _, rfl, .inr s.sq, mapP_rel f⟩
  · split at h
    · rename_i ds e
      cases h
      obtain ⟨a, e1, e2, xs, e3, f⟩ := ref_rel r hd e (by simp)
      exact ⟨a, xs, e1, .inl (SqL.of e3), f⟩
    · cases h
  · cases h
theorem fz_int {O : Off1} {x : V} {i : Int} (h : Fz K O H x (.int i)) : x = .int i := by cases h; rfl
theorem fz_str {O : Off1} {x : V} {i : Str} (h : Fz K O H x (.str i)) : x = .str i ∧ sOk i := by cases h with | str _ o => exact ⟨rfl, o⟩
theorem fz_bool {O : Off1} {x : V} {i : Bool} (h : Fz K O H x (.bool i)) : x = .bl i := by cases h; rfl
theorem fz_tup {O : Off1} {x : V} {ds : List PyData} (h : Fz K O H x (.tuple ds)) : ∃ a xs, x = .ref a ∧ TupO K O H a xs ∧ FzA K O H xs ds := by cases h with | tup s f => exact ⟨_, _, rfl, s, f⟩
theorem fz_lst {O : Off1} {x : V} {ds : List PyData} (h : Fz K O H x (.list ds)) : ∃ a xs, x = .ref a ∧ LstO K O H a xs ∧ FzA K O H xs ds := by cases h with | lst s f => exact ⟨_, _, rfl, s, f⟩
/-! ### texts -/
theorem sOk.all {x : Str} (h : sOk x) : ∀ c ∈ x.cps.toList, c < 0x110000 := by
  have h1 := h.1
  unfold PyData.strOk at h1
  rw [← Array.all_toList] at h1
  intro c hc
  simpa using List.all_eq_true.mp h1 c hc
theorem sOk.mk {l : List Nat} (h : ∀ c ∈ l, c < 0x110000) (hl : l.length ≤ sizeLine) : sOk ⟨l.toArray⟩ := by
  refine ⟨?_, ?_⟩
  · unfold PyData.strOk
    rw [← Array.all_toList]
    exact List.all_eq_true.mpr fun c hc => by simpa using h c (by simpa using hc)
  · show (⟨l.toArray⟩ : Str).length ≤ sizeLine
    simpa [Str.length] using hl
theorem str_eta (x : Str) : (⟨x.cps.toList.toArray⟩ : Str) = x := by cases x; simp
theorem str_len (x : Str) : x.cps.toList.length = x.length := by simp [Str.length]
theorem sOk.app {x y : Str} (hx : sOk x) (hy : sOk y) (h : x.length + y.length ≤ sizeLine) : sOk (x ++ y) := by
  have e : x ++ y = ⟨(x.cps.toList ++ y.cps.toList).toArray⟩ := by
    show (⟨x.cps ++ y.cps⟩ : Str) = _
    congr 1
    apply Array.ext'
    simp
  rw [e]
  refine sOk.mk (fun c hc => ?_) (by rw [List.length_append, str_len, str_len]; exact h)
  rcases List.mem_append.mp hc with z | z
  · exact hx.all c z
  · exact hy.all c z
end

/-! ### operators -/
def rD (K : PySem.W.Frag) (g : D → D → Store → Res D) : R2 := fun x y H Q => ∃ G L st d e, Rl K G L st H ∧ RD K G L H x d ∧ RD K G L H y e ∧ Nw K G L H (g d e st) (RD K G) Q
theorem OpR.imp {X : Cx} {f : Value → Value → Sem Value} {r r' : R2} (h : OpR X f r) (hi : ∀ x y H Q, r' x y H Q → r x y H Q) : OpR X f r' := fun pins s σ H x y v u Q I rx ry q => h pins s σ H x y v u Q I rx ry (hi x y H Q q)
def rCatLs (K : PySem.W.Frag) : R2 := fun x y H Q => ∃ l b xs zs, x = .ref l ∧ y = .ref b ∧ SqL K H l xs ∧ SqL K H b zs ∧ xs.length + zs.length ≤ sizeLine ∧ ∀ p, H p = none → Q (.ref p) (upd H p (.lst (xs ++ zs)))
/-- a new tuple -/
def NewT (xs : List V) (H : Hp) (Q : VK) : Prop := ∀ p (o : Obj), o.dict = none → H p = none → Q (.ref p) (upd H p (.frz o (.tup xs)))
def rCatF (K : PySem.W.Frag) : R2 := fun x y H Q => ∃ a b xs ys, x = .ref a ∧ y = .ref b ∧ SqT K H a xs ∧ SqT K H b ys ∧ xs.length + ys.length ≤ sizeLine ∧
  (xs = [] → Q (.ref b) H) ∧ (xs ≠ [] → ys = [] → Q (.ref a) H) ∧ (xs ≠ [] → ys ≠ [] → NewT (xs ++ ys) H Q)
section
variable {X : Cx}
theorem laidT {pins : List (Addr × Obj)} {σ : Sg} {H : Hp} {s : Shared} {xs : List V} {us : List Value} {h' : Heap} {t' : Nat} {Q : VK} {p : Addr} (I : L2.Inv X pins σ H s) (k : ∀ b u, s.heap.get? b = some u → h'.get? b = some u) (hp : s.heap.objs.size ≤ p)
    (e : h'.get? p = some { cls := .type "tuple", data := .seq us.toArray }) (r : Vals xs us) (hz : xs.length ≤ sizeLine) (q : NewT xs H Q) : EP X pins σ Q (.ref p) { s with heap := h', toks := t' } := by
  refine ⟨.ref p, upd H p (.frz { cls := .type "tuple", data := .seq us.toArray } (.tup xs)), I.laid (t' := t') k hp ?_, rfl, q p _ rfl (I.hok.fresh hp)⟩
  exact ⟨e, hz, us, r, _, e, rfl, _, rfl⟩
theorem op_catF : OpR X (binaryOp .Add) (rCatF X.K) := by
  intro pins s σ H x y v u Q I rx ry h
  obtain ⟨a, b, xs, ys, rfl, rfl, ha, hb, hz, q0, q1, q2⟩ := h
  cases rx
  cases ry
  obtain ⟨its, r1, p1, _⟩ := I.tuple ha
  obtain ⟨its2, r2, p2, _⟩ := I.tuple hb
  by_cases hx : xs = []
  · subst hx
    cases r1
    exact cat_tup0 p1 p2 ⟨.ref b, H, I, rfl, q0 rfl⟩
  · refine HT.cat_tup p1 p2 (fun z => hx (r1.nil_iff.mp z)) (fun z => ⟨.ref a, H, I, rfl, q1 hx (r2.nil_iff.mp z)⟩) (fun z => ?_) (by rw [← r1.length, ← r2.length]; exact hz)
    exact laidT (t' := s.toks) I (fun b ob q => Heap.get?_push_of_some _ q) (Nat.le_refl _) (Heap.get?_push_size _ rfl) (r1.append r2) (by rw [List.length_append]; exact hz) (q2 hx fun w => z (r2.nil_iff.mpr w))
theorem op_catLs : OpR X (binaryOp .Add) (rCatLs X.K) := by
  intro pins s σ H x y v u Q I rx ry h
  obtain ⟨l, b, xs, zs, rfl, rfl, hH, hB, hz, q⟩ := h
  cases rx
  cases ry
  obtain ⟨its, r, ⟨⟨c1, d1, t1, s1⟩, n, e, hc, hd, ht⟩, z⟩ := I.list hH
  obtain ⟨its2, r2, ⟨⟨c2, d2, t2, s2⟩, n2, e2, hc2, hd2, ht2⟩, z2⟩ := I.list hB
  simp only at hc hd ht hc2 hd2 ht2
  subst hc hd ht hc2 hd2 ht2
  have l1 := r.length
  have l2 := r2.length
  have hz' : its.toArray.size + its2.toArray.size ≤ sizeLine := by
    rw [List.size_toArray, List.size_toArray, ← l1, ← l2]; exact hz
  refine concat_meets ⟨_, e, rfl⟩ ⟨_, e2, rfl⟩ noFill_list_add seq_list_add PySem.F.slot_list_add
    PySem.F.entry_list_add (PySem.F.args_list_add_2 _ _)
    (PyProof.Rows.list_addW l b its.toArray its2.toArray n n2 none none s1 s2 hz') ⟨e, e2, ?_⟩
  have ea : its.toArray ++ its2.toArray = (its ++ its2).toArray := by simp
  rw [ea]
  exact ⟨.ref _, _, I.lnew (t' := s.toks) (r.append r2) (by rw [List.length_append]; omega), rfl, q _ I.fresh⟩
theorem o_add : OpR X (binaryOp .Add) (rD X.K (op2 .add)) := by
  refine OpR.imp (OpR.or op_add (OpR.or op_add_str (OpR.or op_catF op_catLs))) fun x y H Q h => ?_
  obtain ⟨G, L, st, d, e, rl, hd, he, q⟩ := h
  unfold op2 at q
  simp only at q
  split at q
  · exact .inl ⟨_, _, fz_int hd, fz_int he, q.pure rl (.int _)⟩
  · rename_i a b
    split at q
    · rename_i hl
      obtain ⟨e1, o1⟩ := fz_str hd
      obtain ⟨e2, o2⟩ := fz_str he
      exact .inr (.inl ⟨_, _, e1, e2, hl, q.pure rl (.str _ (o1.app o2 hl))⟩)
    · exact q.elim
  · rename_i a b
    split at q
    · rename_i hl
      obtain ⟨p1, xs, e1, t1, f1⟩ := fz_tup hd
      obtain ⟨p2, ys, e2, t2, f2⟩ := fz_tup he
      refine .inr (.inr (.inl ⟨p1, p2, xs, ys, e1, e2, t1.sq, t2.sq, by rw [f1.len, f2.len]; exact hl, fun z => ?_, fun z1 z2 => ?_, fun z1 z2 p o ho hp => ?_⟩))
      · have za := f1.nil_iff.mp z
        subst za
        exact q.pure rl (.tup t2 (by simpa using f2))
      · have za := f2.nil_iff.mp z2
        subst za
        exact q.pure rl (.tup t1 (by simpa using f1))
      · exact q.newT rl (f1.app f2) hp ho
    · exact q.elim
  · cases ha : listP d st with
    | none => rw [ha] at q; exact q.elim
    | some a =>
      cases hb : listP e st with
      | none => rw [ha, hb] at q; exact q.elim
      | some b =>
        rw [ha, hb] at q
        simp only [Option.bind_some] at q
        split at q
        · rename_i hl
          obtain ⟨p1, xs, e1, s1, f1⟩ := listP_rel rl hd ha
          obtain ⟨p2, ys, e2, s2, f2⟩ := listP_rel rl he hb
          exact .inr (.inr (.inr ⟨p1, p2, xs, ys, e1, e2, s1, s2, by rw [f1.len, f2.len]; exact hl, fun p hp => q.newL rl (f1.app f2) hp⟩))
        · exact q.elim
theorem o_sub : OpR X (binaryOp .Sub) (rD X.K (op2 .sub)) := by
  refine OpR.imp op_sub fun x y H Q h => ?_
  obtain ⟨G, L, st, d, e, rl, hd, he, q⟩ := h
  unfold op2 at q
  simp only at q
  split at q
  · exact ⟨_, _, fz_int hd, fz_int he, q.pure rl (.int _)⟩
  · exact q.elim
theorem o_mod : OpR X (binaryOp .Mod) (rD X.K (op2 .mod)) := by
  refine OpR.imp op_mod fun x y H Q h => ?_
  obtain ⟨G, L, st, d, e, rl, hd, he, q⟩ := h
  unfold op2 at q
  simp only at q
  split at q
  · split at q
    · rename_i hj
      exact ⟨_, _, fz_int hd, fz_int he, hj, q.pure rl (.int _)⟩
    · exact q.elim
  · exact q.elim
theorem o_fdv : OpR X (binaryOp .FloorDiv) (rD X.K (op2 .fdv)) := by
  refine OpR.imp op_fdiv fun x y H Q h => ?_
  obtain ⟨G, L, st, d, e, rl, hd, he, q⟩ := h
  unfold op2 at q
  simp only at q
  split at q
  · split at q
    · rename_i hj
      exact ⟨_, _, fz_int hd, fz_int he, hj, q.pure rl (.int _)⟩
    · exact q.elim
  · exact q.elim
theorem o_pow : OpR X (binaryOp .Pow) (rD X.K (op2 .pow)) := by
  refine OpR.imp op_pow fun x y H Q h => ?_
  obtain ⟨G, L, st, d, e, rl, hd, he, q⟩ := h
  unfold op2 at q
  simp only at q
  split at q
  · split at q
    · rename_i hj
      exact ⟨_, _, fz_int hd, fz_int he, hj, q.pure rl (.int _)⟩
    · exact q.elim
  · exact q.elim
theorem o_shl : OpR X (binaryOp .LShift) (rD X.K (op2 .shl)) := by
  refine OpR.imp op_shl fun x y H Q h => ?_
  obtain ⟨G, L, st, d, e, rl, hd, he, q⟩ := h
  unfold op2 at q
  simp only at q
  split at q
  · rename_i i j
    split at q
    · rename_i hj
      refine ⟨_, _, fz_int hd, fz_int he, hj, ?_⟩
      have e : i * 2 ^ j.toNat = i * ((2 ^ j.toNat : Nat) : Int) := by simp [Int.natCast_pow]
      simp only [e]
      exact q.pure rl (.int _)
    · exact q.elim
  · exact q.elim
end
end Dn
namespace Dn
open PySem PySem.Spec PyProof.Rows L2
section
variable {K : PySem.W.Frag} {G : Off1} {L : Lc} {H : Hp} {st : Store} {Q : VK}
theorem Nw.of_map {α : Type} {o : Option α} {f : α → D} (h : Nw K G L H (Res.of st (o.map f)) (RD K G) Q) : ∃ a, o = some a ∧ Nw K G L H (.ok (f a) st) (RD K G) Q := by
  cases o with
  | none => exact h.elim
  | some a => exact ⟨a, rfl, h⟩
theorem Nw.of_some {o : Option D} (h : Nw K G L H (Res.of st o) (RD K G) Q) : ∃ a, o = some a ∧ Nw K G L H (.ok a st) (RD K G) Q := by
  cases o with
  | none => exact h.elim
  | some a => exact ⟨a, rfl, h⟩
theorem RDs.get {xs : List V} {ds : List D} {i : Nat} {d : D} : RDs K G L H xs ds → ds[i]? = some d → ∃ v, xs[i]? = some v ∧ RD K G L H v d := by
  intro r
  induction r generalizing i with
  | nil => intro e; simp at e
  | cons a b ih =>
    intro e
    cases i with
    | zero => simp at e; subst e; exact ⟨_, rfl, a⟩
    | succ i =>
      obtain ⟨v, h1, h2⟩ := ih (i := i) (by simpa using e)
      exact ⟨v, by simpa using h1, h2⟩
theorem RDs.snoc {xs : List V} {ds : List D} {v : V} {d : D} (h : RDs K G L H xs ds) (r : RD K G L H v d) : RDs K G L H (xs ++ [v]) (ds ++ [d]) := Paired.snoc h r
theorem RDs.app : ∀ {xs ys : List V} {ds es : List D}, RDs K G L H xs ds → RDs K G L H ys es → RDs K G L H (xs ++ ys) (ds ++ es)
  | _, _, _, _, .nil, h => h
  | _, _, _, _, .cons a b, h => .cons a (RDs.app b h)
theorem RDs.dropLast : ∀ {xs : List V} {ds : List D}, RDs K G L H xs ds → RDs K G L H xs.dropLast ds.dropLast
  | _, _, .nil => .nil
  | _, _, .cons a .nil => by simp; exact .nil
  | _, _, .cons a (.cons b c) => by
    have := RDs.dropLast (.cons b c)
    simp only [List.dropLast_cons₂]
    exact .cons a this
theorem RDs.eraseIdx : ∀ {xs : List V} {ds : List D} (i : Nat), RDs K G L H xs ds → RDs K G L H (xs.eraseIdx i) (ds.eraseIdx i)
  | _, _, _, .nil => .nil
  | _, _, 0, .cons a b => b
  | _, _, i + 1, .cons a b => .cons a (RDs.eraseIdx i b)
theorem RDs.set {v : V} {d : D} (r : RD K G L H v d) : ∀ {xs : List V} {ds : List D} (i : Nat), RDs K G L H xs ds → RDs K G L H (xs.set i v) (ds.set i d)
  | _, _, _, .nil => .nil
  | _, _, 0, .cons a b => .cons r b
  | _, _, i + 1, .cons a b => .cons a (RDs.set r i b)
theorem RDs.rev : ∀ {xs : List V} {ds : List D}, RDs K G L H xs ds → RDs K G L H xs.reverse ds.reverse
  | _, _, .nil => .nil
  | _, _, .cons a b => by
    simp only [List.reverse_cons]
    exact (RDs.rev b).snoc a
theorem RDs.last {xs : List V} {ds : List D} {d : D} (h : RDs K G L H xs ds) (e : ds.getLast? = some d) : ∃ v, xs[xs.length - 1]? = some v ∧ RD K G L H v d := by
  rw [List.getLast?_eq_getElem?] at e
  have hl := Paired.length h
  rw [← hl] at e
  exact h.get e
end
section
variable {X : Cx}
/-! ### comparisons -/
theorem o_eq (hu : X.A.units + 64 < cLine) : OpR X (compareOp .Eq) (rD X.K (op2 .eq)) := by
  intro pins s σ H x y v u Q I rx ry h
  obtain ⟨G, L, st, d, e, rl, hd, he, q⟩ := h
  unfold op2 at q
  simp only at q
  split at q
  · rename_i a b
    obtain ⟨k, e1, q⟩ := q.of_map
    unfold eqD at e1
    split at e1
    · rename_i hm
      cases e1
      obtain ⟨as, r1⟩ := Dp.reads I a x v (Fz.dp a x hd) rx
      obtain ⟨bs, r2⟩ := Dp.reads I b y u (Fz.dp b y he) ry
      exact SeqAt.compareEq_reads r1 r2 (Fz.lay a x hd) (Fz.lay b y he) (by omega) ⟨.bl _, H, I, rfl, q.pure rl (.bl _)⟩
    · cases e1
  · exact q.elim
theorem o_ne (hu : X.A.units + 64 < cLine) : OpR X (compareOp .NotEq) (rD X.K (op2 .ne)) := by
  intro pins s σ H x y v u Q I rx ry h
  obtain ⟨G, L, st, d, e, rl, hd, he, q⟩ := h
  unfold op2 at q
  simp only at q
  split at q
  · rename_i a b
    obtain ⟨k, e1, q⟩ := q.of_map
    unfold eqD at e1
    split at e1
    · rename_i hm
      cases e1
      obtain ⟨as, r1⟩ := Dp.reads I a x v (Fz.dp a x hd) rx
      obtain ⟨bs, r2⟩ := Dp.reads I b y u (Fz.dp b y he) ry
      exact SeqAt.compareNe_reads r1 r2 (Fz.lay a x hd) (Fz.lay b y he) (by omega) ⟨.bl _, H, I, rfl, q.pure rl (.bl _)⟩
    · cases e1
  · exact q.elim
theorem o_lt : OpR X (compareOp .Lt) (rD X.K (op2 .lt)) := by
  refine OpR.imp (OpR.or op_lt op_lt_str) fun x y H Q h => ?_
  obtain ⟨G, L, st, d, e, rl, hd, he, q⟩ := h
  unfold op2 at q
  simp only at q
  split at q
  · exact .inl ⟨_, _, fz_int hd, fz_int he, q.pure rl (.bl _)⟩
  · exact .inr ⟨_, _, (fz_str hd).1, (fz_str he).1, q.pure rl (.bl _)⟩
  · exact q.elim
theorem o_le : OpR X (compareOp .LtE) (rD X.K (op2 .le)) := by
  refine OpR.imp (OpR.or op_le op_le_str) fun x y H Q h => ?_
  obtain ⟨G, L, st, d, e, rl, hd, he, q⟩ := h
  unfold op2 at q
  simp only at q
  split at q
  · exact .inl ⟨_, _, fz_int hd, fz_int he, q.pure rl (.bl _)⟩
  · exact .inr ⟨_, _, (fz_str hd).1, (fz_str he).1, q.pure rl (.bl _)⟩
  · exact q.elim
theorem o_gt : OpR X (compareOp .Gt) (rD X.K (op2 .gt)) := by
  refine OpR.imp (OpR.or op_gt op_gt_str) fun x y H Q h => ?_
  obtain ⟨G, L, st, d, e, rl, hd, he, q⟩ := h
  unfold op2 at q
  simp only at q
  split at q
  · exact .inl ⟨_, _, fz_int hd, fz_int he, q.pure rl (.bl _)⟩
  · exact .inr ⟨_, _, (fz_str hd).1, (fz_str he).1, q.pure rl (.bl _)⟩
  · exact q.elim
theorem o_ge : OpR X (compareOp .GtE) (rD X.K (op2 .ge)) := by
  refine OpR.imp (OpR.or op_ge op_ge_str) fun x y H Q h => ?_
  obtain ⟨G, L, st, d, e, rl, hd, he, q⟩ := h
  unfold op2 at q
  simp only at q
  split at q
  · exact .inl ⟨_, _, fz_int hd, fz_int he, q.pure rl (.bl _)⟩
  · exact .inr ⟨_, _, (fz_str hd).1, (fz_str he).1, q.pure rl (.bl _)⟩
  · exact q.elim
/-- keys -/
theorem key_rel {K : PySem.W.Frag} {O : Off1} {H : Hp} {x : V} {k : PyData} (h : Fz K O H x k) (hk : keyOk k = true) : ∃ q, x = kV q ∧ KeyR q k := by
  cases h with
  | int i => exact ⟨.inl i, rfl, rfl⟩
  | str z o => exact ⟨.inr z, rfl, rfl, o⟩
  | non => cases hk
  | bl b => cases hk
  | lst _ _ => cases hk
  | tup _ _ => cases hk
theorem keyEq_rel {a b : Key} {c d : PyData} (h1 : KeyR a c) (h2 : KeyR b d) : keyEq c d = decide (a = b) := by
  cases a with
  | inl i =>
    cases c <;> try exact h1.elim
    cases b with
    | inl j =>
      cases d <;> try exact h2.elim
      cases h1; cases h2
      simp [keyEq]
    | inr y =>
      cases d <;> try exact h2.elim
      simp [keyEq]
  | inr x =>
    cases c <;> try exact h1.elim
    cases b with
    | inl j =>
      cases d <;> try exact h2.elim
      simp [keyEq]
    | inr y =>
      cases d <;> try exact h2.elim
      obtain ⟨rfl, _⟩ := h1
      obtain ⟨rfl, _⟩ := h2
      simp [keyEq]
abbrev KvR (K : PySem.W.Frag) (G : Off1) (L : Lc) (H : Hp) : List (Key × V) → List (PyData × D) → Prop := Paired (fun p q => KeyR p.1 q.1 ∧ RD K G L H p.2 q.2)
theorem dGet_rel {K : PySem.W.Frag} {G : Off1} {L : Lc} {H : Hp} {q : Key} {k : PyData} (hk : KeyR q k) : ∀ {ks : List (Key × V)} {kvs : List (PyData × D)}, KvR K G L H ks kvs →
    (∀ d, dGet kvs k = some d → ∃ v, valV ks q = some v ∧ RD K G L H v d) ∧ (valV ks q).isSome = (dGet kvs k).isSome
  | _, _, .nil => ⟨fun d h => by simp [dGet] at h, rfl⟩
  | p :: ks, r :: kvs, .cons a b => by
    obtain ⟨ih1, ih2⟩ := dGet_rel hk b
    have e := keyEq_rel a.1 hk
    unfold dGet valV at *
    simp only [List.find?_cons, e]
    by_cases h : p.1 = q
    · simp only [h, decide_true, Option.map_some, Option.isSome_some, and_true]
      intro d hd
      cases hd
      exact ⟨_, rfl, a.2⟩
    · simp only [h, decide_false]
      exact ⟨ih1, ih2⟩
theorem kvMap_rel {K : PySem.W.Frag} {G : Off1} {L : Lc} {H : Hp} {q : Key} {k : PyData} (hk : KeyR q k) {v : V} {d : D} (hv : RD K G L H v d) : ∀ {ks : List (Key × V)} {kvs : List (PyData × D)}, KvR K G L H ks kvs →
    KvR K G L H (ks.map fun kv => if kv.1 = q then (kv.1, v) else kv) (kvs.map fun z => if keyEq z.1 k then (z.1, d) else z)
  | _, _, .nil => .nil
  | p :: ks, r :: kvs, .cons a b => by
    simp only [List.map_cons]
    refine .cons ?_ (kvMap_rel hk hv b)
    have e := keyEq_rel a.1 hk
    rw [e]
    by_cases z : p.1 = q
    · simp only [z, decide_true, if_true]
      exact ⟨by rw [← z]; exact a.1, hv⟩
    · simp only [z, decide_false, if_false]
      exact a
theorem dPut_rel {K : PySem.W.Frag} {G : Off1} {L : Lc} {H : Hp} {q : Key} {k : PyData} (hk : KeyR q k) {v : V} {d : D} (hv : RD K G L H v d) {ks : List (Key × V)} {kvs : List (PyData × D)} (h : KvR K G L H ks kvs) :
    KvR K G L H (putK ks q v) (dPut kvs k d) := by
  have any : (ks.any fun kv => decide (kv.1 = q)) = kvs.any fun z => keyEq z.1 k := by
    induction h with
    | nil => rfl
    | cons a b ih => simp only [List.any_cons, ih, keyEq_rel a.1 hk]
  unfold putK dPut
  rw [any]
  split
  · exact kvMap_rel hk hv h
  · exact Paired.snoc h ⟨hk, hv⟩
/-! ### in -/
theorem in_core (hu : X.A.units + 70 < cLine) {pins : List (Addr × Obj)} {s : Shared} {σ : Sg} {H : Hp} {x y : V} {v u : Value} {G : Off1} {L : Lc} {st : Store} {d e : D} {k : Bool} (I : L2.Inv X pins σ H s) (rx : RelV x v) (ry : RelV y u)
    (rl : Rl X.K G L st H) (hd : RD X.K G L H x d) (he : RD X.K G L H y e) (hk : inD d e st = some k) :
    (∀ Q : VK, Q (.bl k) H → wpAny (model X.prog X.w) X.A (compareOp .In v u) (EP X pins σ Q) X.xe s) ∧ (∀ Q : VK, Q (.bl (!k)) H → wpAny (model X.prog X.w) X.A (compareOp .NotIn v u) (EP X pins σ Q) X.xe s) := by
  have seq : ∀ (x0 : PyData) (ds : List PyData), Fz X.K (Off G L) H x x0 → inP x0 ds = some k → FzA X.K (Off G L) H (ds.map fun _ => V.non) [] ∨ True → k = (ds.any fun z => PyData.eqv z x0) ∧ X.A.units + 1 + min (PyData.depthAll ds) x0.depth < cLine := by
    intro x0 ds _ h _
    unfold inP at h
    split at h
    · rename_i hm
      cases h
      exact ⟨rfl, by omega⟩
    · cases h
  unfold inD at hk
  split at hk
  · rename_i x0
    obtain ⟨as, r1⟩ := Dp.reads I x0 x v (Fz.dp x0 x hd) rx
    split at hk
    · split at hk
      · cases hk
        rename_i z w
        obtain ⟨e1, _⟩ := fz_str hd
        obtain ⟨e2, _⟩ := fz_str he
        exact ⟨fun Q q => op_in_str pins s σ H x y v u Q I rx ry ⟨_, _, e1, e2, q⟩, fun Q q => op_notin_str pins s σ H x y v u Q I rx ry ⟨_, _, e1, e2, q⟩⟩
      · cases hk
    · rename_i ds
      obtain ⟨rfl, hm⟩ := seq x0 ds hd hk (.inr trivial)
      obtain ⟨bs, r2⟩ := Dp.reads I (.list ds) y u (Fz.dp _ y he) ry
      have la : PyData.canLayAll0 ds = true := by have := Fz.lay _ y he; simpa only [PyData.canLay0] using this
      exact ⟨fun Q q => SeqAt.in_list_reads r2 r1 la (Fz.lay x0 x hd) hm ⟨.bl _, H, I, rfl, q⟩, fun Q q => SeqAt.notIn_list_reads r2 r1 la (Fz.lay x0 x hd) hm ⟨.bl _, H, I, rfl, q⟩⟩
    · rename_i ds
      obtain ⟨rfl, hm⟩ := seq x0 ds hd hk (.inr trivial)
      obtain ⟨bs, r2⟩ := Dp.reads I (.tuple ds) y u (Fz.dp _ y he) ry
      have la : PyData.canLayAll0 ds = true := by have := Fz.lay _ y he; simpa only [PyData.canLay0] using this
      exact ⟨fun Q q => SeqAt.in_tuple_reads r2 r1 la (Fz.lay x0 x hd) hm ⟨.bl _, H, I, rfl, q⟩, fun Q q => SeqAt.notIn_tuple_reads r2 r1 la (Fz.lay x0 x hd) hm ⟨.bl _, H, I, rfl, q⟩⟩
    · split at hk
      · rename_i ds hst
        obtain ⟨es, h1, h2⟩ := Option.bind_eq_some_iff.mp hk
        obtain ⟨rfl, hm⟩ := seq x0 es hd h2 (.inr trivial)
        obtain ⟨a, e1, e2, xs, e3, f⟩ := ref_rel rl he hst (by simp)
        have fa := allP_rel f h1
        subst e1
        obtain ⟨bs, r2⟩ := Dp.reads I (.list es) (.ref a) u (.lst (SqL.of e3) (FzA.dp es _ fa)) ry
        have la := FzA.lay es _ fa
        exact ⟨fun Q q => SeqAt.in_list_reads r2 r1 la (Fz.lay x0 x hd) hm ⟨.bl _, H, I, rfl, q⟩, fun Q q => SeqAt.notIn_list_reads r2 r1 la (Fz.lay x0 x hd) hm ⟨.bl _, H, I, rfl, q⟩⟩
      · rename_i kvs hst
        split at hk
        · rename_i hko
          cases hk
          obtain ⟨q, e4, hq⟩ := key_rel hd hko
          obtain ⟨a, e1, e2, ks, e3, f⟩ := ref_rel rl he hst (by simp)
          subst e1 e4
          cases ry
          have g := DGet.k (k := q) e3
          have em := (dGet_rel hq f).2
          have hu1 : X.A.units + 1 < cLine := by omega
          exact ⟨fun Q z => d_in hu1 I g rx fun s' I' => ⟨.bl _, H, I', rfl, by rw [em]; exact z⟩, fun Q z => d_notIn hu1 I g rx fun s' I' => ⟨.bl _, H, I', rfl, by rw [em]; exact z⟩⟩
        · cases hk
      · cases hk
    · cases hk
  · cases hk
theorem o_in (hu : X.A.units + 70 < cLine) : OpR X (compareOp .In) (rD X.K (op2 .inn)) := by
  intro pins s σ H x y v u Q I rx ry h
  obtain ⟨G, L, st, d, e, rl, hd, he, q⟩ := h
  unfold op2 at q
  simp only at q
  obtain ⟨k, e1, q⟩ := q.of_map
  exact (in_core hu I rx ry rl hd he e1).1 Q (q.pure rl (.bl _))
theorem o_nin (hu : X.A.units + 70 < cLine) : OpR X (compareOp .NotIn) (rD X.K (op2 .nin)) := by
  intro pins s σ H x y v u Q I rx ry h
  obtain ⟨G, L, st, d, e, rl, hd, he, q⟩ := h
  unfold op2 at q
  simp only at q
  obtain ⟨k, e1, q⟩ := q.of_map
  exact (in_core hu I rx ry rl hd he e1).2 Q (q.pure rl (.bl _))
/-! ### subscripts -/
theorem ixOf_eq (n : Nat) (i : Int) : ixOf n i = ixN n i := rfl
theorem sOk.one {c : Nat} (h : c < 0x110000) : sOk ⟨#[c]⟩ := by
  have : (⟨#[c]⟩ : Str) = ⟨([c] : List Nat).toArray⟩ := rfl
  rw [this]
  exact sOk.mk (fun z hz => by simp at hz; subst hz; exact h) (by rw [sizeLine_eq]; simp)
theorem ix_dict (hu : X.A.units + 1 < cLine) : IxR X (fun x y H Q => ∃ a v, x = .ref a ∧ DGet H a y (some v) ∧ Q v H) := by
  intro value slice pins s σ H x y v u Q I rx ry h hs
  obtain ⟨a, z, rfl, g, q⟩ := h
  cases rx
  exact tail_any (dict_typeIs I g) PySem.F.slot_dict_getitem.lookup (d_getItem hu I g ry fun w' s3 I3 rw' => ⟨z, H, I3, rw', q⟩) hs
theorem o_ix (hu : X.A.units + 1 < cLine) : IxR X (rD X.K (op2 .ix)) := by
  intro value slice pins s σ H x y v u Q I rx ry h hs
  obtain ⟨G, L, st, d, e, rl, hd, he, q⟩ := h
  unfold op2 at q
  simp only at q
  obtain ⟨r, e1, q'⟩ := q.of_some
  clear q
  unfold getIx at e1
  split at e1
  · split at e1
    · obtain ⟨c, h1, h2⟩ := Option.map_eq_some_iff.mp e1
      obtain ⟨j, h3, h4⟩ := Option.bind_eq_some_iff.mp h1
      subst h2
      obtain ⟨e2, ok⟩ := fz_str hd
      refine ix_str value slice pins s σ H x y v u Q I rx ry ⟨_, _, c, e2, fz_int he, ok.2, ?_, q'.pure rl (.str _ (sOk.one (ok.all c (List.mem_of_getElem? h4))))⟩ hs
      unfold atI
      rw [← ixOf_eq, h3]
      exact h4
    · cases e1
  · split at e1
    · obtain ⟨c, h1, h2⟩ := Option.map_eq_some_iff.mp e1
      obtain ⟨j, h3, h4⟩ := Option.bind_eq_some_iff.mp h1
      subst h2
      obtain ⟨a, xs, e2, s2, f⟩ := fz_lst hd
      obtain ⟨w, h5, h6⟩ := f.get h4
      refine ix_list value slice pins s σ H x y v u Q I rx ry ⟨a, xs, _, w, e2, fz_int he, s2.sq, ?_, q'.pure rl h6⟩ hs
      unfold atI
      rw [← ixOf_eq, f.len, h3]
      exact h5
    · cases e1
  · split at e1
    · obtain ⟨c, h1, h2⟩ := Option.map_eq_some_iff.mp e1
      obtain ⟨j, h3, h4⟩ := Option.bind_eq_some_iff.mp h1
      subst h2
      obtain ⟨a, xs, e2, s2, f⟩ := fz_tup hd
      obtain ⟨w, h5, h6⟩ := f.get h4
      refine ix_tup value slice pins s σ H x y v u Q I rx ry ⟨a, xs, _, w, e2, fz_int he, s2.sq, ?_, q'.pure rl h6⟩ hs
      unfold atI
      rw [← ixOf_eq, f.len, h3]
      exact h5
    · cases e1
  · split at e1
    · rename_i ds hst
      split at e1
      · obtain ⟨j, h3, h4⟩ := Option.bind_eq_some_iff.mp e1
        obtain ⟨a, e2, e3, xs, e4, f⟩ := ref_rel rl hd hst (by simp)
        obtain ⟨w, h5, h6⟩ := f.get h4
        refine ix_list value slice pins s σ H x y v u Q I rx ry ⟨a, xs, _, w, e2, fz_int he, SqL.of e4, ?_, q'.pure rl h6⟩ hs
        unfold atI
        rw [← ixOf_eq, Paired.length f, h3]
        exact h5
      · cases e1
    · rename_i kvs hst
      split at e1
      · split at e1
        · rename_i hko
          obtain ⟨qk, e4, hq⟩ := key_rel he hko
          obtain ⟨a, e2, e3, ks, e5, f⟩ := ref_rel rl hd hst (by simp)
          obtain ⟨w, h5, h6⟩ := (dGet_rel hq f).1 _ e1
          subst e4
          exact ix_dict hu value slice pins s σ H x _ v u Q I rx ry ⟨a, w, e2, by rw [← h5]; exact DGet.k e5, q'.pure rl h6⟩ hs
        · cases e1
      · cases e1
    · cases e1
  · cases e1
end
end Dn
namespace Dn
open PySem PySem.Spec PyProof.Rows L2
def rC1 (K : PySem.W.Frag) (g : D → Store → Res D) : List V → Hp → VK → Prop := fun vs H Q => ∃ G L st x d, vs = [x] ∧ Rl K G L st H ∧ RD K G L H x d ∧ Nw K G L H (g d st) (RD K G) Q
def rC2 (K : PySem.W.Frag) (g : D → D → Store → Res D) : List V → Hp → VK → Prop := fun vs H Q => ∃ G L st x y d e, vs = [x, y] ∧ Rl K G L st H ∧ RD K G L H x d ∧ RD K G L H y e ∧ Nw K G L H (g d e st) (RD K G) Q
def rM0 (K : PySem.W.Frag) (g : D → Store → Res D) : V → List V → Hp → VK → Prop := fun x vs H Q => ∃ G L st d, vs = [] ∧ Rl K G L st H ∧ RD K G L H x d ∧ Nw K G L H (g d st) (RD K G) Q
def rM1 (K : PySem.W.Frag) (g : D → D → Store → Res D) : V → List V → Hp → VK → Prop := fun x vs H Q => ∃ G L st y d e, vs = [y] ∧ Rl K G L st H ∧ RD K G L H x d ∧ RD K G L H y e ∧ Nw K G L H (g d e st) (RD K G) Q
def rM2 (K : PySem.W.Frag) (g : D → D → D → Store → Res D) : V → List V → Hp → VK → Prop := fun x vs H Q => ∃ G L st y z d e f, vs = [y, z] ∧ Rl K G L st H ∧ RD K G L H x d ∧ RD K G L H y e ∧ RD K G L H z f ∧ Nw K G L H (g d e f st) (RD K G) Q
theorem CallR.imp {X : Cx} {f : Value} {r r' : List V → Hp → VK → Prop} (h : CallR X f r) (hi : ∀ vs H Q, r' vs H Q → r vs H Q) : CallR X f r' := fun pins s σ H vs us Q I rv q => h pins s σ H vs us Q I rv (hi vs H Q q)
theorem MtR.imp {X : Cx} {id : String} {r r' : V → List V → Hp → VK → Prop} (h : MtR X id r) (hi : ∀ x vs H Q, r' x vs H Q → r x vs H Q) : MtR X id r' := fun pins s σ H x vs v us Q I rx rv q => h pins s σ H x vs v us Q I rx rv (hi x vs H Q q)
section
variable {K : PySem.W.Frag} {O : Off1} {H : Hp}
theorem bools_rel : ∀ {es : List PyData} {xs : List V} {bs : List Bool}, FzA K O H xs es → boolsOf es = some bs → xs = bs.map V.bl
  | [], _, bs, .nil, h => by simp [boolsOf] at h; subst h; rfl
  | e :: es, _, bs, .cons a b, h => by
    cases e <;> simp [boolsOf] at h
    obtain ⟨cs, h1, h2⟩ := h
    subst h2
    rw [bools_rel b h1, fz_bool a]
    rfl
theorem ints_rel : ∀ {es : List PyData} {xs : List V} {bs : List Int}, FzA K O H xs es → intsOf es = some bs → xs = bs.map V.int
  | [], _, bs, .nil, h => by simp [intsOf] at h; subst h; rfl
  | e :: es, _, bs, .cons a b, h => by
    cases e <;> simp [intsOf] at h
    obtain ⟨cs, h1, h2⟩ := h
    subst h2
    rw [ints_rel b h1, fz_int a]
    rfl
theorem strs_rel : ∀ {es : List PyData} {xs : List V} {bs : List Str}, FzA K O H xs es → strsOf es = some bs → xs = bs.map V.str ∧ ∀ x ∈ bs, sOk x
  | [], _, bs, .nil, h => by simp [strsOf] at h; subst h; exact ⟨rfl, by simp⟩
  | e :: es, _, bs, .cons a b, h => by
    cases e <;> simp [strsOf] at h
    obtain ⟨cs, h1, h2⟩ := h
    subst h2
    obtain ⟨e1, o⟩ := strs_rel b h1
    obtain ⟨e2, o2⟩ := fz_str a
    rw [e1, e2]
    exact ⟨rfl, fun x hx => by
      rcases List.mem_cons.mp hx with z | z
      · rw [z]; exact o2
      · exact o x z⟩
theorem fz_ints (O : Off1) : ∀ ns : List Int, FzA K O H (ns.map V.int) (ns.map .int)
  | [] => .nil
  | n :: ns => .cons (.int n) (fz_ints O ns)
theorem fz_strs (O : Off1) : ∀ xs : List Str, (∀ x ∈ xs, sOk x) → FzA K O H (xs.map V.str) (xs.map .str)
  | [], _ => .nil
  | x :: xs, h => .cons (.str x (h x (by simp))) (fz_strs O xs fun y hy => h y (by simp [hy]))
end
/-! ### sorting -/
section
variable {α : Type} {le : α → α → Bool}
theorem insL_perm (x : α) : ∀ l : List α, (insL le x l).Perm (x :: l)
  | [] => List.Perm.refl _
  | y :: r => by
    unfold insL
    split
    · exact List.Perm.refl _
    · exact (List.Perm.cons y (insL_perm x r)).trans (List.Perm.swap x y r)
theorem srtL_perm : ∀ l : List α, (srtL le l).Perm l
  | [] => List.Perm.refl _
  | x :: r => (insL_perm x _).trans (List.Perm.cons x (srtL_perm r))
theorem insL_sorted (tot : ∀ a b, le a b = true ∨ le b a = true) (tr : ∀ a b c, le a b = true → le b c = true → le a c = true) (x : α) : ∀ l : List α, l.Pairwise (fun a b => le a b = true) → (insL le x l).Pairwise (fun a b => le a b = true)
  | [], _ => by simp [insL]
  | y :: r, h => by
    unfold insL
    rw [List.pairwise_cons] at h
    split
    · rename_i hxy
      rw [List.pairwise_cons, List.pairwise_cons]
      exact ⟨fun z hz => by
        rcases List.mem_cons.mp hz with q | q
        · rw [q]; exact hxy
        · exact tr x y z hxy (h.1 z q), h⟩
    · rename_i hxy
      have hyx : le y x = true := by
        rcases tot x y with q | q
        · exact absurd q hxy
        · exact q
      rw [List.pairwise_cons]
      refine ⟨fun z hz => ?_, insL_sorted tot tr x r h.2⟩
      rcases List.mem_cons.mp ((insL_perm x r).mem_iff.mp hz) with q | q
      · rw [q]; exact hyx
      · exact h.1 z q
theorem srtL_sorted (tot : ∀ a b, le a b = true ∨ le b a = true) (tr : ∀ a b c, le a b = true → le b c = true → le a c = true) : ∀ l : List α, (srtL le l).Pairwise (fun a b => le a b = true)
  | [] => by simp [srtL]
  | x :: r => insL_sorted tot tr x _ (srtL_sorted tot tr r)
theorem sorted_uniq (anti : ∀ a b, le a b = true → le b a = true → a = b) : ∀ {l m : List α}, l.Perm m → l.Pairwise (fun a b => le a b = true) → m.Pairwise (fun a b => le a b = true) → l = m
  | [], m, p, _, _ => by simpa using p
  | x :: l, [], p, _, _ => by simpa using p
  | x :: l, y :: m, p, h1, h2 => by
    rw [List.pairwise_cons] at h1 h2
    have e : x = y := by
      by_cases q : x = y
      · exact q
      · have a1 : x ∈ m := by
          have := p.mem_iff.mp (List.mem_cons_self (a := x) (l := l))
          rcases List.mem_cons.mp this with z | z
          · exact absurd z q
          · exact z
        have a2 : y ∈ l := by
          have := p.mem_iff.mpr (List.mem_cons_self (a := y) (l := m))
          rcases List.mem_cons.mp this with z | z
          · exact absurd z.symm q
          · exact z
        exact anti x y (h1.1 y a2) (h2.1 x a1)
    subst e
    rw [sorted_uniq anti (List.Perm.cons_inv p) h1.2 h2.2]
end
theorem ltCps_eq : ∀ a b : List Nat, PySem.Spec.ltCps a b = decide (a < b)
  | [], [] => by simp [PySem.Spec.ltCps]
  | [], _ :: _ => by simp [PySem.Spec.ltCps]
  | _ :: _, [] => by simp [PySem.Spec.ltCps]
  | a :: r, b :: t => by
    have ih := ltCps_eq r t
    simp only [PySem.Spec.ltCps, ih, List.cons_lt_cons_iff]
    by_cases h1 : a < b
    · simp [h1]
    · by_cases h2 : a = b
      · simp [h2]
      · simp [h1, h2]
theorem strLe_tot (a b : Str) : strLe a b = true ∨ strLe b a = true := by
  unfold strLe strLt
  by_cases h : b.cps.toList < a.cps.toList
  · right
    simp [List.lt_asymm h]
  · left
    simp [h]
theorem strLe_tr (a b c : Str) : strLe a b = true → strLe b c = true → strLe a c = true := by
  unfold strLe strLt
  simp only [Bool.not_eq_true', decide_eq_false_iff_not, List.not_lt]
  exact fun h1 h2 => List.le_trans h1 h2
theorem strLe_anti (a b : Str) : strLe a b = true → strLe b a = true → a = b := by
  unfold strLe strLt
  simp only [Bool.not_eq_true', decide_eq_false_iff_not, List.not_lt]
  intro h1 h2
  have e := List.le_antisymm h1 h2
  cases a; cases b
  congr 1
  exact Array.ext' e
theorem sortedS_pw : ∀ {l : List Str}, sortedS l = true → l.Pairwise (fun a b => strLe a b = true)
  | [], _ => by simp
  | x :: r, h => by
    have key : ∀ (r : List Str) (p : Str), risingS p r = true → (p :: r).Pairwise (fun a b => strLe a b = true) := by
      intro r
      induction r with
      | nil => intro p _; simp
      | cons y t ih =>
        intro p hp
        unfold risingS at hp
        rw [Bool.and_eq_true, ltCps_eq] at hp
        have h2 := ih y hp.2
        have le1 : strLe p y = true := hp.1
        rw [List.pairwise_cons]
        refine ⟨fun z hz => ?_, h2⟩
        rw [List.pairwise_cons] at h2
        rcases List.mem_cons.mp hz with q | q
        · rw [q]; exact le1
        · exact strLe_tr p y z le1 (h2.1 z q)
    exact key r x h
theorem maxL_spec : ∀ (l : List Int) (n : Int), maxL n l ∈ n :: l ∧ ∀ y ∈ n :: l, y ≤ maxL n l
  | [], n => by simp [maxL]
  | m :: r, n => by
    unfold maxL
    by_cases c : m > n
    · rw [if_pos c]
      obtain ⟨h1, h2⟩ := maxL_spec r m
      refine ⟨by simp [List.mem_cons.mp h1], fun y hy => ?_⟩
      have h3 := h2 m (by simp)
      rcases List.mem_cons.mp hy with q | q
      · omega
      · exact h2 y q
    · rw [if_neg c]
      obtain ⟨h1, h2⟩ := maxL_spec r n
      refine ⟨?_, fun y hy => ?_⟩
      · rcases List.mem_cons.mp h1 with q | q
        · rw [q]; simp
        · simp [q]
      have h3 := h2 n (by simp)
      rcases List.mem_cons.mp hy with q | q
      · omega
      · rcases List.mem_cons.mp q with q | q
        · omega
        · exact h2 y (by simp [q])
theorem minL_spec : ∀ (l : List Int) (n : Int), minL n l ∈ n :: l ∧ ∀ y ∈ n :: l, minL n l ≤ y
  | [], n => by simp [minL]
  | m :: r, n => by
    unfold minL
    by_cases c : m < n
    · rw [if_pos c]
      obtain ⟨h1, h2⟩ := minL_spec r m
      refine ⟨by simp [List.mem_cons.mp h1], fun y hy => ?_⟩
      have h3 := h2 m (by simp)
      rcases List.mem_cons.mp hy with q | q
      · omega
      · exact h2 y q
    · rw [if_neg c]
      obtain ⟨h1, h2⟩ := minL_spec r n
      refine ⟨?_, fun y hy => ?_⟩
      · rcases List.mem_cons.mp h1 with q | q
        · rw [q]; simp
        · simp [q]
      have h3 := h2 n (by simp)
      rcases List.mem_cons.mp hy with q | q
      · omega
      · rcases List.mem_cons.mp q with q | q
        · omega
        · exact h2 y (by simp [q])
/-! ### calls of built-ins -/
def tyName : Ty → String
  | .str => "str" | .tuple => "tuple" | .list => "list" | .int => "int" | .bool => "bool" | .dict => "dict" | .none => "NoneType"
theorem tyOf_rel {K : PySem.W.Frag} {G : Off1} {L : Lc} {H : Hp} {st : Store} (rl : Rl K G L st H) {x : V} {d : D} {t : Ty} (h : RD K G L H x d) (e : tyOf d st = some t) : TyX K H x (.type (tyName t)) := by
  unfold tyOf at e
  split at e <;> (try cases e)
  · cases h; exact .base .non
  · cases h; exact .base (.bl _)
  · cases h; exact .base (.int _)
  · cases h; exact .base (.str _)
  · obtain ⟨a, xs, rfl, s, _⟩ := fz_lst h
    rcases s with ⟨s | ⟨o, s⟩, _⟩ | s
    · exact .base (.lst s)
    · exact .base (.frz s)
    · rcases s with s | ⟨o, its, n, h1, h2, _⟩
      · exact absurd s noRd
      · exact .kList h1 h2
  · obtain ⟨a, xs, rfl, s, _⟩ := fz_tup h
    rcases s with ⟨o, s, _, _⟩ | ⟨o, its, n, h1, h2, _⟩
    · exact .fTuple s
    · exact .kTuple h1 h2
  · split at e <;> (try cases e)
    · rename_i hst
      obtain ⟨a, e2, e3, xs, e4, f⟩ := ref_rel rl h hst (by simp)
      subst e2
      exact .base (.lst e4)
    · rename_i hst
      obtain ⟨a, e2, e3, xs, e4, f⟩ := ref_rel rl h hst (by simp)
      subst e2
      exact .base (.dK e4)
theorem kitB_is (a b : Ty) (hb : b ≠ .none) : kitB (tyName a) (tyName b) = some (isTy a b) := by
  cases b <;> first | exact absurd rfl hb | (cases a <;> decide +kernel)
section
variable {X : Cx}
theorem c_len : CallR X (.builtin "len") (rC1 X.K (op1 .len)) := by
  intro pins s σ H vs us Q I r h
  obtain ⟨G, L, st, x, d, rfl, rl, hd, q⟩ := h
  unfold op1 at q
  simp only at q
  split at q
  · obtain ⟨e, o⟩ := fz_str hd
    subst e
    exact call_len pins s σ H _ us Q I r ⟨_, _, rfl, ⟨o.2, rfl⟩, q.pure rl (.int _)⟩
  · split at q
    · rename_i hst
      obtain ⟨a, e2, e3, xs, e4, f⟩ := ref_rel rl hd hst (by simp)
      subst e2
      exact call_len pins s σ H _ us Q I r ⟨_, _, rfl, .inl ⟨xs, SqL.of e4, (Paired.length f).symm⟩, q.pure rl (.int _)⟩
    · rename_i hst
      obtain ⟨a, e2, e3, xs, e4, f⟩ := ref_rel rl hd hst (by simp)
      subst e2
      obtain ⟨u, rfl, ru⟩ := vals1 r
      cases ru
      refine d_len I (.inl e4) fun t s' I' => ⟨.int xs.length, H, I', ⟨_, rfl⟩, ?_⟩
      rw [Paired.length f]
      exact q.pure rl (.int _)
    · exact q.elim
  · obtain ⟨a, xs, e, s1, f⟩ := fz_lst hd
    subst e
    exact call_len pins s σ H _ us Q I r ⟨_, _, rfl, .inl ⟨xs, s1.sq, f.len.symm⟩, q.pure rl (.int _)⟩
  · obtain ⟨a, xs, e, s1, f⟩ := fz_tup hd
    subst e
    exact call_len pins s σ H _ us Q I r ⟨_, _, rfl, .inr ⟨xs, s1.sq, f.len.symm⟩, q.pure rl (.int _)⟩
  · exact q.elim
theorem c_abs : CallR X (.builtin "abs") (rC1 X.K (op1 .abs)) := by
  refine CallR.imp call_abs fun vs H Q h => ?_
  obtain ⟨G, L, st, x, d, rfl, rl, hd, q⟩ := h
  unfold op1 at q
  simp only at q
  split at q
  · exact ⟨_, by rw [fz_int hd], q.pure rl (.int _)⟩
  · exact q.elim
theorem c_int : CallR X (.type "int") (rC1 X.K (op1 .int)) := by
  refine CallR.imp call_int1 fun vs H Q h => ?_
  obtain ⟨G, L, st, x, d, rfl, rl, hd, q⟩ := h
  unfold op1 at q
  simp only at q
  split at q
  · exact .inl ⟨_, by rw [fz_int hd], q.pure rl (.int _)⟩
  · exact .inr ⟨_, by rw [fz_bool hd], q.pure rl (.int _)⟩
  · exact q.elim
theorem c_all (hc : X.calm = true) : CallR X (.builtin "all") (rC1 X.K (op1 .all)) := by
  refine CallR.imp (cr_all hc) fun vs H Q h => ?_
  obtain ⟨G, L, st, x, d, rfl, rl, hd, q⟩ := h
  unfold op1 at q
  simp only at q
  obtain ⟨bs, e, q⟩ := q.of_map
  obtain ⟨es, e1, e2⟩ := Option.bind_eq_some_iff.mp e
  obtain ⟨a, xs, rfl, s1, f⟩ := listP_rel rl hd e1
  have := bools_rel f e2
  subst this
  exact ⟨a, bs, rfl, s1, q.pure rl (.bl _)⟩
theorem c_any (hc : X.calm = true) : CallR X (.builtin "any") (rC1 X.K (op1 .any)) := by
  refine CallR.imp (cr_any hc) fun vs H Q h => ?_
  obtain ⟨G, L, st, x, d, rfl, rl, hd, q⟩ := h
  unfold op1 at q
  simp only at q
  obtain ⟨bs, e, q⟩ := q.of_map
  obtain ⟨es, e1, e2⟩ := Option.bind_eq_some_iff.mp e
  obtain ⟨a, xs, rfl, s1, f⟩ := listP_rel rl hd e1
  have := bools_rel f e2
  subst this
  exact ⟨a, bs, rfl, s1, q.pure rl (.bl _)⟩
theorem c_sum (hc : X.calm = true) : CallR X (.builtin "sum") (rC1 X.K (op1 .sum)) := by
  refine CallR.imp (cr_sum hc) fun vs H Q h => ?_
  obtain ⟨G, L, st, x, d, rfl, rl, hd, q⟩ := h
  unfold op1 at q
  simp only at q
  obtain ⟨bs, e, q⟩ := q.of_map
  obtain ⟨es, e1, e2⟩ := Option.bind_eq_some_iff.mp e
  obtain ⟨a, xs, rfl, s1, f⟩ := listP_rel rl hd e1
  have := ints_rel f e2
  subst this
  exact ⟨a, bs, rfl, s1, q.pure rl (.int _)⟩
theorem c_mx (hc : X.calm = true) : CallR X (.builtin "max") (rC1 X.K (op1 .mx)) := by
  refine CallR.imp (cr_max hc) fun vs H Q h => ?_
  obtain ⟨G, L, st, x, d, rfl, rl, hd, q⟩ := h
  unfold op1 at q
  simp only at q
  split at q
  · rename_i n r e
    obtain ⟨es, e1, e2⟩ := Option.bind_eq_some_iff.mp e
    obtain ⟨a, xs, rfl, s1, f⟩ := listP_rel rl hd e1
    have := ints_rel f e2
    subst this
    refine ⟨a, n :: r, rfl, s1, by simp, fun m hm hb => ?_⟩
    obtain ⟨h1, h2⟩ := maxL_spec r n
    have : m = maxL n r := by
      have a1 := hb _ h1
      have a2 := h2 _ hm
      omega
    subst this
    exact q.pure rl (.int _)
  · exact q.elim
theorem c_mn (hc : X.calm = true) : CallR X (.builtin "min") (rC1 X.K (op1 .mn)) := by
  refine CallR.imp (cr_min hc) fun vs H Q h => ?_
  obtain ⟨G, L, st, x, d, rfl, rl, hd, q⟩ := h
  unfold op1 at q
  simp only at q
  split at q
  · rename_i n r e
    obtain ⟨es, e1, e2⟩ := Option.bind_eq_some_iff.mp e
    obtain ⟨a, xs, rfl, s1, f⟩ := listP_rel rl hd e1
    have := ints_rel f e2
    subst this
    refine ⟨a, n :: r, rfl, s1, by simp, fun m hm hb => ?_⟩
    obtain ⟨h1, h2⟩ := minL_spec r n
    have : m = minL n r := by
      have a1 := hb _ h1
      have a2 := h2 _ hm
      omega
    subst this
    exact q.pure rl (.int _)
  · exact q.elim
theorem c_mx2 (hc : X.calm = true) : CallR X (.builtin "max") (rC2 X.K (op2 .mx2)) := by
  refine CallR.imp (call_max2 hc) fun vs H Q h => ?_
  obtain ⟨G, L, st, x, y, d, e, rfl, rl, hd, he, q⟩ := h
  unfold op2 at q
  simp only at q
  split at q
  · exact ⟨_, _, by rw [fz_int hd, fz_int he], q.pure rl (.int _)⟩
  · exact q.elim
theorem c_mn2 (hc : X.calm = true) : CallR X (.builtin "min") (rC2 X.K (op2 .mn2)) := by
  refine CallR.imp (call_min2 hc) fun vs H Q h => ?_
  obtain ⟨G, L, st, x, y, d, e, rfl, rl, hd, he, q⟩ := h
  unfold op2 at q
  simp only at q
  split at q
  · exact ⟨_, _, by rw [fz_int hd, fz_int he], q.pure rl (.int _)⟩
  · exact q.elim
theorem call_tupleF : CallR X (.type "tuple") (fun xs H Q => ∃ p ys, xs = [.ref p] ∧ ((SqL X.K H p ys ∧ NewT ys H Q) ∨ (SqT X.K H p ys ∧ Q (.ref p) H))) := by
  intro pins s σ H xs us Q I r h
  obtain ⟨p, ys, rfl, h⟩ := h
  obtain ⟨u, rfl, rx⟩ := vals1 r
  cases rx
  rcases h with ⟨hq, q⟩ | ⟨hq, q⟩
  · obtain ⟨its, r', pl, hz⟩ := I.list hq
    have hlen := r'.length
    refine call_tuple_list pl.isList (fun h' kp => ?_) (by simp only [List.size_toArray] <;> omega)
    have I1 : L2.Inv X pins σ H { s with heap := h' } := I.kept (t' := s.toks) kp
    exact laidT (s := { s with heap := h' }) (t' := s.toks) I1 (fun b o e => Heap.get?_push_of_some _ e) (Nat.le_refl _) (Heap.get?_push_size _ rfl) r' hz q
  · obtain ⟨its, r', pl, hz⟩ := I.tuple hq
    exact call_tuple_same pl ⟨.ref p, H, I, rfl, q⟩
theorem c_tup : CallR X (.type "tuple") (rC1 X.K (op1 .tup)) := by
  refine CallR.imp call_tupleF fun vs H Q h => ?_
  obtain ⟨G, L, st, x, d, rfl, rl, hd, q⟩ := h
  unfold op1 at q
  simp only at q
  split at q
  · obtain ⟨a, xs, e, s1, f⟩ := fz_tup hd
    subst e
    exact ⟨a, xs, rfl, .inr ⟨s1.sq, q.pure rl hd⟩⟩
  · obtain ⟨es, e1, q⟩ := q.of_map
    obtain ⟨a, xs, rfl, s1, f⟩ := listP_rel rl hd e1
    exact ⟨a, xs, rfl, .inl ⟨s1, fun p o ho hp => q.newT rl f hp ho⟩⟩
/-- a new list of either kind -/
theorem newL_rel {K : PySem.W.Frag} {G : Off1} {L : Lc} {H : Hp} {st : Store} {Q : VK} {m : Bool} {ds : List D} {xs : List V} (q : Nw K G L H (newL m ds st) (RD K G) Q) (rl : Rl K G L st H) (f : RDs K G L H xs ds) :
    ds.length ≤ sizeLine ∧ ∀ p, H p = none → Q (.ref p) (upd H p (.lst xs)) := by
  unfold newL at q
  split at q
  · exact q.elim
  · rename_i hl
    refine ⟨by omega, fun p hp => ?_⟩
    split at q
    · exact q.newM rl f hp
    · obtain ⟨es, e1, q⟩ := q.of_map
      exact q.newL rl (allP_rel f e1) hp
theorem c_lst (m : Bool) : CallR X (.type "list") (rC1 X.K (op1 (.lst m))) := by
  refine CallR.imp call_list_of fun vs H Q h => ?_
  obtain ⟨G, L, st, x, d, rfl, rl, hd, q⟩ := h
  unfold op1 at q
  simp only at q
  split at q
  · rename_i ds e
    obtain ⟨a, xs, rfl, s1, f⟩ := seqD_rel rl hd e
    exact ⟨a, xs, rfl, s1, (newL_rel q rl f).2⟩
  · exact q.elim
theorem c_srt : CallR X (.builtin "sorted") (rC1 X.K (op1 .srt)) := by
  refine CallR.imp (CallR.or cr_sorted cr_sortedS) fun vs H Q h => ?_
  obtain ⟨G, L, st, x, d, rfl, rl, hd, q⟩ := h
  unfold op1 at q
  simp only at q
  split at q
  · rename_i ds e
    obtain ⟨a, xs, rfl, s1, f⟩ := listP_rel rl hd e
    split at q
    · rename_i ns e2
      have := ints_rel f e2
      subst this
      split at q
      · rename_i h64
        refine .inl ⟨a, ns, rfl, s1, h64, fun ns' p hp1 hp2 hp => ?_⟩
        have e3 : ns' = srtL (fun a b => decide (a ≤ b)) ns := by
          refine sorted_uniq (le := fun a b : Int => decide (a ≤ b)) (fun a b h1 h2 => ?_) (hp1.trans (srtL_perm ns).symm) (hp2.imp fun h => by simpa using h) (srtL_sorted (fun a b => ?_) (fun a b c h1 h2 => ?_) ns)
          · simp at h1 h2; omega
          · simp; omega
          · simp at h1 h2 ⊢; omega
        subst e3
        exact q.newL rl (fz_ints _ _) hp
      · exact q.elim
    · split at q
      · rename_i ys e2
        obtain ⟨e3, ok⟩ := strs_rel f e2
        subst e3
        split at q
        · rename_i h64
          refine .inr ⟨a, ys, rfl, s1, h64, fun ys' p hp1 hp2 hp => ?_⟩
          have e3 : ys' = srtL strLe ys := sorted_uniq strLe_anti (hp1.trans (srtL_perm ys).symm) (sortedS_pw hp2) (srtL_sorted strLe_tot strLe_tr ys)
          subst e3
          exact q.newL rl (fz_strs _ _ fun x hx => ok x ((srtL_perm ys).mem_iff.mp hx)) hp
        · exact q.elim
      · exact q.elim
  · exact q.elim
end
end Dn
namespace Dn
open PySem PySem.Spec PyProof.Rows L2
/-! ### methods of lists -/
theorem list_extW (l : Addr) (items : Array Value) (n : Nat) (b : Addr) (items2 : Array Value) (n2 : Nat) (dd2 : Option Addr) (sl2 : Array (Option Value)) (hc0 : ¬(!items.isEmpty && Builtin.List.listTooLong (items.size + items2.size)) = true) (hc1 : items.size ≤ sizeLine) (hs2 : items.size + items2.size ≤ sizeLine + 1) :
    Meets (Builtin.«list.extend» ⟨[.ref l, .ref b], []⟩) (fun _ R s => s.heap.get? l = some { cls := .type "list", dict := none, data := .seq items n, slots := #[] } ∧
      s.heap.get? b = some { cls := .type "list", dict := dd2, data := .seq items2 n2, slots := sl2 } ∧
      R (.ok (.ret Value.none)) { s with heap := s.heap.update l (Obj.mapSeq fun x => x ++ items2), toks := s.toks }) :=
  .of_wp fun prog w A R s h => by
    obtain ⟨hp, g, d, tk, os⟩ := s
    obtain ⟨hl, hb, h⟩ := h
    have e1 := AutoSeq1.sub_list_list
    have e2 := AutoSeq1.sub_tuple_list
    have hz' : (items ++ items2).size ≤ sizeLine + 1 := by
      rw [Array.size_append]
      exact hs2
    wp_walk using (wpAny_updateSeq hl rfl (hz := hc1) (_hz' := hz')), wpAny_loadPart' hl, wpAny_loadPart' hb
    exact ⟨_, rfl, h⟩
section
variable {X : Cx}
theorem m_app : MtR X "list.append" (rM1 X.K (op2 .app)) := by
  refine MtR.imp mt_append fun x vs H Q h => ?_
  obtain ⟨G, L, st, y, d, e, rfl, rl, hd, he, q⟩ := h
  unfold op2 at q
  simp only at q
  split at q
  · split at q
    · split at q
      · rename_i hst hz
        obtain ⟨a, e2, e3, xs, e4, f⟩ := ref_rel rl hd hst (by simp)
        exact ⟨a, xs, y, e2, rfl, e4, by rw [Paired.length f]; exact hz, q.put rl e3 ⟨_, upd_same, (RDs.snoc (f.mono (Po.write ⟨_, e3⟩)) (RD.mono (Po.write ⟨_, e3⟩) he))⟩ .non⟩
      · exact q.elim
    · exact q.elim
  · exact q.elim
theorem m_ext : MtR X "list.extend" (rM1 X.K (op2 .ext)) := by
  intro pins s σ H x vs v us Q I rx rv h
  obtain ⟨G, L, st, y, d, e, rfl, rl, hd, he, q⟩ := h
  unfold op2 at q
  simp only at q
  split at q
  · split at q
    · split at q
      · split at q
        · rename_i ds hst _ es hes hz
          obtain ⟨a, e2, e3, xs, e4, f⟩ := ref_rel rl hd hst (by simp)
          obtain ⟨b, ys, rfl, s1, f2⟩ := listP_rel rl he hes
          subst e2
          cases rx
          obtain ⟨u, rfl, ru⟩ := rv.one
          cases ru
          obtain ⟨z, its, n, r, hl, e⟩ := I.lstM e4
          obtain ⟨its2, r2, ⟨⟨c1, d1, t1, sl2⟩, n2, e5, hc, hdd, ht⟩, z2⟩ := I.list s1
          simp only at hc hdd ht
          subst hc hdd ht
          have l1 := Paired.length f
          have l2 := f2.len
          have l3 := r2.length
          have l4 := r.length
          have hsz : its.toArray.size + its2.toArray.size ≤ sizeLine := by
            rw [List.size_toArray, List.size_toArray]
            omega
          have hlong : ¬ (!its.toArray.isEmpty && Builtin.List.listTooLong (its.toArray.size + its2.toArray.size)) = true := by
            rw [notLongL hsz, Bool.and_false]
            exact Bool.false_ne_true
          refine call_meets PySem.F.slot_list_extend ⟨_, e, rfl⟩ PySem.F.entry_list_extend (PySem.F.args_list_extend_2 _ _)
            (list_extW a its.toArray n b its2.toArray n2 none sl2 hlong (by rw [List.size_toArray]; omega) (by omega)) ⟨e, e5, ?_⟩
          refine ⟨.non, _, I.lset (its' := its ++ its2) (ys := xs ++ ys) e4 e (by simp) (r.append r2) (by rw [List.length_append]; omega), rfl, ?_⟩
          exact q.put rl e3 ⟨_, upd_same, (f.mono (Po.write ⟨_, e3⟩)).app (RDs.mono (Po.write ⟨_, e3⟩) (mapP_rel f2))⟩ .non
        · exact q.elim
      · exact q.elim
    · exact q.elim
  · exact q.elim
theorem m_pop : MtR X "list.pop" (rM0 X.K (op1 .pop)) := by
  refine MtR.imp mt_pop fun x vs H Q h => ?_
  obtain ⟨G, L, st, d, rfl, rl, hd, q⟩ := h
  unfold op1 at q
  simp only at q
  split at q
  · split at q
    · split at q
      · rename_i hst _ y hy
        obtain ⟨a, e2, e3, xs, e4, f⟩ := ref_rel rl hd hst (by simp)
        obtain ⟨w, h5, h6⟩ := f.last hy
        exact ⟨a, xs, w, e2, rfl, e4, h5, q.put rl e3 ⟨_, upd_same, (f.mono (Po.write ⟨_, e3⟩)).dropLast⟩ (RD.mono (Po.write ⟨_, e3⟩) h6)⟩
      · exact q.elim
    · exact q.elim
  · exact q.elim
theorem ixN_lt {n : Nat} {i : Int} {j : Nat} (h : ixN n i = some j) (hn : n ≤ sizeLine) : -(2 ^ 63) ≤ i ∧ i < 2 ^ 63 := by
  obtain ⟨_, _, h1, h2⟩ := ixN_seq h
  rw [sizeLine_eq] at hn
  omega
theorem m_popi : MtR X "list.pop" (rM1 X.K (op2 .popi)) := by
  intro pins s σ H x vs v us Q I rx rv h
  obtain ⟨G, L, st, y, d, e, rfl, rl, hd, he, q⟩ := h
  unfold op2 at q
  simp only at q
  split at q
  · split at q
    · split at q
      · split at q
        · rename_i hst _ j hj _ z hz
          obtain ⟨a, e2, e3, xs, e4, f⟩ := ref_rel rl hd hst (by simp)
          obtain ⟨w, h5, h6⟩ := f.get hz
          rw [ixOf_eq, ← Paired.length f] at hj
          obtain ⟨h1, h2⟩ := ixN_lt hj (I.lstM e4).1
          exact mt_popAt pins s σ H x _ v us Q I rx rv ⟨a, xs, _, j, w, e2, by rw [fz_int he], e4, h1, h2, (ixN_seq hj).1, h5, q.put rl e3 ⟨_, upd_same, (f.mono (Po.write ⟨_, e3⟩)).eraseIdx j⟩ (RD.mono (Po.write ⟨_, e3⟩) h6)⟩
        · exact q.elim
      · exact q.elim
    · exact q.elim
  · exact q.elim
theorem m_rev : MtR X "list.reverse" (rM0 X.K (op1 .rev)) := by
  refine MtR.imp mt_reverse fun x vs H Q h => ?_
  obtain ⟨G, L, st, d, rfl, rl, hd, q⟩ := h
  unfold op1 at q
  simp only at q
  split at q
  · split at q
    · rename_i hst
      obtain ⟨a, e2, e3, xs, e4, f⟩ := ref_rel rl hd hst (by simp)
      exact ⟨a, xs, e2, rfl, e4, q.put rl e3 ⟨_, upd_same, (f.mono (Po.write ⟨_, e3⟩)).rev⟩ .non⟩
    · exact q.elim
  · exact q.elim
theorem m_ins : MtR X "list.insert" (rM2 X.K (op3 .ins)) := by
  refine MtR.imp mt_insert fun x vs H Q h => ?_
  obtain ⟨G, L, st, y, z, d, e, f, rfl, rl, hd, he, hf, q⟩ := h
  unfold op3 at q
  simp only at q
  split at q
  · split at q
    · split at q
      · rename_i hst hz
        obtain ⟨a, e2, e3, xs, e4, f⟩ := ref_rel rl hd hst (by simp)
        obtain ⟨rfl, hz⟩ := hz
        refine ⟨a, xs, 0, z, e2, by rw [fz_int he], e4, by rw [Paired.length f]; exact hz, by omega, by omega, ?_⟩
        exact q.put rl e3 ⟨_, upd_same, by simpa using (Paired.cons (RD.mono (Po.write ⟨_, e3⟩) hf) (f.mono (Po.write ⟨_, e3⟩)))⟩ .non
      · exact q.elim
    · exact q.elim
  · exact q.elim
/-! ### the place of an equal item -/
theorem idxOf_spec (x : PyData) : ∀ (ds : List PyData) (j : Nat), idxOf x ds = some j → (∃ z, ds[j]? = some z ∧ PyData.eqv z x = true) ∧ ∀ (m : Nat) (z : PyData), m < j → ds[m]? = some z → PyData.eqv z x = false
  | [], j, h => by simp [idxOf] at h
  | d :: ds, j, h => by
    unfold idxOf at h
    split at h
    · rename_i e
      cases h
      exact ⟨⟨d, rfl, e⟩, fun m z hm => absurd hm (Nat.not_lt_zero _)⟩
    · rename_i e
      simp only [Option.map_eq_some_iff] at h
      obtain ⟨i, h1, h2⟩ := h
      subst h2
      obtain ⟨⟨z, h3, h4⟩, h5⟩ := idxOf_spec x ds i h1
      refine ⟨⟨z, by simpa using h3, h4⟩, fun m w hm hw => ?_⟩
      cases m with
      | zero =>
        simp at hw
        subst hw
        simpa using e
      | succ m => exact h5 m w (by omega) (by simpa using hw)
theorem in_room {A : Around} {x : PyData} {ds : List PyData} (hu : A.units + 70 < cLine) (h : (inP x ds).isSome = true) : A.units + 1 + min (PyData.depthAll ds) x.depth < cLine := by
  unfold inP at h
  split at h
  · omega
  · cases h
section
variable {pins : List (Addr × Obj)} {s : Shared} {σ : Sg} {H : Hp}
/-- items read -/
theorem at_read {ds : List PyData} {its : List Value} {as : List Addr} (hxs : PyData.canLayAll0 ds = true) (h4 : ReadsAll s.heap its ds as) {m : Nat} (hm : m < its.toArray.size) {z : PyData} (hz : ds[m]? = some z) : SeqAt.readOf s.heap its.toArray[m] = z := by
  have hml : m < its.length := by simpa using hm
  have hmap := SeqAt.readsAll_map ds its as hxs h4
  rw [← hmap, List.getElem?_map, List.getElem?_eq_getElem hml] at hz
  have e1 := Option.some.inj (show some (SeqAt.readOf s.heap its[m]) = some z from hz)
  simpa using e1
theorem indx_list (hu : X.A.units + 70 < cLine) (I : L2.Inv X pins σ H s) {a : Addr} {xs : List V} {ds : List PyData} {y : V} {uy : Value} {d : PyData} {j : Nat} {Q : VK} (hs : SqL X.K H a xs) (fa : DpAll X.K H xs ds) (hl : PyData.canLayAll0 ds = true)
    (hy : Dp X.K H y d) (ry : RelV y uy) (hd : d.canLay0 = true) (hr : (inP d ds).isSome = true) (hj : idxOf d ds = some j) (q : Q (.int (j : Nat)) H) :
    wpAny (model X.prog X.w) X.A (call (.builtin "list.index") [.ref a, uy]) (EP X pins σ Q) X.xe s := by
  obtain ⟨bs, r1⟩ := Dp.reads I d y uy hy ry
  obtain ⟨its, rv, ⟨⟨cls, dd, data, sls⟩, n, ho, hc, hdn, hdt⟩, hlen⟩ := I.list hs
  simp only at hc hdt hdn
  subst hc hdt hdn
  obtain ⟨as, h4⟩ := Dp.readsAll I ds _ its fa rv
  have hn : its.length = ds.length := SeqAt.ReadsAll.length ds its as h4
  have hvl := rv.length
  have hsl := sizeLine_eq
  obtain ⟨⟨z, hz, hzj⟩, hno⟩ := idxOf_spec d ds j hj
  obtain ⟨hjd, _⟩ := List.getElem?_eq_some_iff.mp hz
  have hj' : j < its.toArray.size := by
    rw [List.size_toArray]
    omega
  refine call_meets PySem.F.slot_list_index ⟨_, ho, rfl⟩ PySem.F.entry_list_index (PySem.F.args_list_index_2 _ _)
    (SeqAt.list_indexAt a its.toArray n none sls uy (fun u => PyData.eqv (SeqAt.readOf s.heap u) d) j hj' (by have hz2 := hj'; rw [List.size_toArray] at hz2; omega) ?_ ?_)
    ⟨ho, SeqAt.items_eqAt (vs := its.toArray) h4 r1 hl hd (in_room hu hr), ⟨.int (j : Nat), H, I.tok _, ⟨_, rfl⟩, q⟩⟩
  · simp only [at_read hl h4 hj' hz, hzj]
  · intro m hm hmj
    have hmd : m < ds.length := by omega
    have hz' : ds[m]? = some ds[m] := List.getElem?_eq_getElem hmd
    simp only [at_read hl h4 hm hz']
    exact hno m _ hmj hz'
theorem indx_tup (hu : X.A.units + 70 < cLine) (I : L2.Inv X pins σ H s) {a : Addr} {xs : List V} {ds : List PyData} {y : V} {uy : Value} {d : PyData} {j : Nat} {Q : VK} (hs : SqT X.K H a xs) (fa : DpAll X.K H xs ds) (hl : PyData.canLayAll0 ds = true)
    (hy : Dp X.K H y d) (ry : RelV y uy) (hd : d.canLay0 = true) (hr : (inP d ds).isSome = true) (hj : idxOf d ds = some j) (q : Q (.int (j : Nat)) H) :
    wpAny (model X.prog X.w) X.A (call (.builtin "tuple.index") [.ref a, uy]) (EP X pins σ Q) X.xe s := by
  obtain ⟨bs, r1⟩ := Dp.reads I d y uy hy ry
  obtain ⟨its, rv, ⟨⟨cls, dd, data, sls⟩, ho, hc, n, hdt⟩, hlen⟩ := I.tuple hs
  simp only at hc hdt
  subst hc hdt
  obtain ⟨as, h4⟩ := Dp.readsAll I ds _ its fa rv
  have hn : its.length = ds.length := SeqAt.ReadsAll.length ds its as h4
  have hvl := rv.length
  obtain ⟨⟨z, hz, hzj⟩, hno⟩ := idxOf_spec d ds j hj
  obtain ⟨hjd, _⟩ := List.getElem?_eq_some_iff.mp hz
  have hj' : j < its.toArray.size := by
    rw [List.size_toArray]
    omega
  refine call_meets PySem.F.slot_tuple_index ⟨_, ho, rfl⟩ PySem.F.entry_tuple_index (PySem.F.args_tuple_index_2 _ _)
    (TI.tuple_indexAt a its.toArray n dd sls uy (fun u => PyData.eqv (SeqAt.readOf s.heap u) d) j hj' ?_ ?_)
    ⟨ho, SeqAt.items_eqAt (vs := its.toArray) h4 r1 hl hd (in_room hu hr), ⟨.int (j : Nat), H, I.tok _, ⟨_, rfl⟩, q⟩⟩
  · simp only [at_read hl h4 hj' hz, hzj]
  · intro m hm hmj
    have hmd : m < ds.length := by omega
    have hz' : ds[m]? = some ds[m] := List.getElem?_eq_getElem hmd
    simp only [at_read hl h4 hm hz']
    exact hno m _ hmj hz'
end
/-! ### o[i] = v -/
theorem set_core (hu : X.A.units + 1 < cLine) {pins : List (Addr × Obj)} {s : Shared} {σ : Sg} {H : Hp} {x y z : V} {v u w : Value} {G : Off1} {L : Lc} {st st' : Store} {d e f : D} {Q : Hp → Prop} (I : L2.Inv X pins σ H s) (rx : RelV x v) (ry : RelV y u) (rz : RelV z w)
    (rl : Rl X.K G L st H) (hd : RD X.K G L H x d) (he : RD X.K G L H y e) (hf : RD X.K G L H z f) (hk : setIx d e f st = some st') (q : ∀ L' H', Po L H L' H' → Rl X.K G L' st' H' → Q H') :
    wpAny (model X.prog X.w) X.A (setItem v u w) (fun _ s' => ∃ H', L2.Inv X pins σ H' s' ∧ Q H') X.xe s := by
  unfold setIx at hk
  split at hk
  · split at hk
    · rename_i hst
      split at hk
      · obtain ⟨j, h1, h2⟩ := Option.map_eq_some_iff.mp hk
        subst h2
        obtain ⟨a, e2, e3, xs, e4, g⟩ := ref_rel rl hd hst (by simp)
        refine set_list pins s σ H x y z v u w Q I rx ry rz ⟨a, xs, _, j, e2, fz_int he, e4, by rw [← ixOf_eq, Paired.length g]; exact h1, ?_⟩
        exact q _ _ (Po.write ⟨_, e3⟩) (rl.write e3 ⟨_, upd_same, RDs.set (RD.mono (Po.write ⟨_, e3⟩) hf) j (g.mono (Po.write ⟨_, e3⟩))⟩)
      · cases hk
    · rename_i hst
      split at hk
      · split at hk
        · rename_i hz
          cases hk
          rw [Bool.and_eq_true, decide_eq_true_eq] at hz
          obtain ⟨qk, e5, hq⟩ := key_rel he hz.1
          obtain ⟨a, e2, e3, ks, e4, g⟩ := ref_rel rl hd hst (by simp)
          subst e2 e5
          cases rx
          refine d_setItem hu I (DPut.k (k := qk) (v := z) e4 (by rw [Paired.length g]; exact hz.2)) ry rz fun s' I' => ⟨_, I', ?_⟩
          refine q _ _ (Po.write ⟨_, e3⟩) (rl.write e3 ⟨_, upd_same, ?_⟩)
          refine dPut_rel hq (RD.mono (Po.write ⟨_, e3⟩) hf) ?_
          exact Paired.mono (fun _ _ x => ⟨x.1, RD.mono (Po.write ⟨_, e3⟩) x.2⟩) g
        · cases hk
      · cases hk
    · cases hk
  · cases hk
/-! ### slices -/
theorem clip_eq (n d : Nat) (o : Option Int) : clip n d o = HT.sIx n d o := by
  cases o <;> rfl
theorem cut_eq {α : Type} (xs : List α) (lo hi : Option Int) (n : Nat) (hn : xs.length = n) : cut xs lo hi = (xs.drop (HT.sIx n 0 lo)).take (HT.sIx n n hi - HT.sIx n 0 lo) := by
  subst hn
  rfl
theorem FzA.cut {K : PySem.W.Frag} {O : Off1} {H : Hp} {ds : List PyData} {xs : List V} (f : FzA K O H xs ds) (lo hi : Option Int) : FzA K O H (cutV xs lo hi) (cut ds lo hi) := by
  rw [cut_eq ds lo hi xs.length f.len.symm]
  exact (f.drop _).take _
end
end Dn
namespace Dn
open PySem PySem.Spec PyProof.Rows L2
theorem places_rev (n : Nat) : Builtin.Slice.slicePlaces ((n : Int) - 1) (-1) (-1) = n := by
  unfold Builtin.Slice.slicePlaces
  rw [if_neg (by decide)]
  by_cases h : n = 0
  · subst h; decide
  · rw [if_pos (by omega)]
    have : ((n : Int) - 1 - -1 - 1) / (- -1) + 1 = n := by
      have e : ((n : Int) - 1 - -1 - 1) = (n : Int) - 1 := by omega
      rw [e]
      show ((n : Int) - 1) / 1 + 1 = n
      rw [Int.ediv_one]; omega
    rw [this]
    simp
theorem fm_some {α β : Type} {f : α → Option β} {g : α → β} : ∀ {l : List α}, (∀ m ∈ l, f m = some (g m)) → l.filterMap f = l.map g
  | [], _ => rfl
  | a :: l, h => by
    rw [List.filterMap_cons, h a (by simp), List.map_cons, fm_some fun m hm => h m (by simp [hm])]
theorem pick_rev (xs : List Value) : ((List.range xs.length).filterMap fun (m : Nat) => xs.toArray[(((xs.length : Int) - 1) + (m : Int) * (-1)).toNat]?) = xs.reverse := by
  apply List.ext_getElem?
  intro i
  have h1 : ∀ m ∈ List.range xs.length, xs.toArray[(((xs.length : Int) - 1) + (m : Int) * (-1)).toNat]? = some (xs.reverse.getD m .none) := fun m hm => by
    have hl := List.mem_range.mp hm
    have e : ((((xs.length : Int) - 1) + (m : Int) * (-1)).toNat) = xs.length - 1 - m := by omega
    rw [e]
    simp only [List.getElem?_toArray]
    rw [List.getD_eq_getElem?_getD, List.getElem?_reverse hl]
    rw [List.getElem?_eq_getElem (by omega)]
    rfl
  have h2 : ((List.range xs.length).filterMap fun (m : Nat) => xs.toArray[(((xs.length : Int) - 1) + (m : Int) * (-1)).toNat]?) = (List.range xs.length).map fun m => xs.reverse.getD m .none := fm_some h1
  rw [h2, List.getElem?_map]
  by_cases hi : i < xs.length
  · rw [List.getElem?_range hi, Option.map_some, List.getD_eq_getElem?_getD, List.getElem?_eq_getElem (by simpa using hi)]
    rfl
  · rw [List.getElem?_eq_none (by simpa using hi), List.getElem?_eq_none (by simpa using hi)]
    rfl
section
variable {prog : Program} {w : World} {A : Around} {E : Value → Shared → Prop} {s : Shared}
theorem sliceApplied_rev {sl : Addr} {n : Nat} {u : Tok} {Q : Int × Int × Nat → Shared → Prop} (hs : s.heap.IsSliceOf sl .none .none (.int (-1) u))
    (h : Q ((n : Int) - 1, -1, n) s) : wpAny (model prog w) A (Builtin.Slice.sliceApplied (.ref sl) (pure (n : Int))) Q E s := by
  obtain ⟨os, h1, h2, h3⟩ := id hs
  unfold Builtin.Slice.sliceApplied Builtin.Slice.sliceFields
  refine wpAny_bind (wpAny_bind (wpAny_field h1 h3 (x := .none) rfl (wpAny_bind (wpAny_field h1 h3 (x := .none) rfl (wpAny_bind (wpAny_field h1 h3 (x := .int (-1) u) rfl (wpAny_pure ?_)))))))
  refine wpAny_bind (HT.slicePart_ (o := some (-1)) (.int (-1) u) ?_)
  show wpAny (model prog w) A (if ((-1 : Int) == 0) = true then _ else _) _ E s
  rw [if_neg (by decide)]
  refine wpAny_bind (HT.slicePart_ (o := none) .none (wpAny_bind (HT.slicePart_ (o := none) .none (wpAny_bind (wpAny_pure ?_)))))
  have e : Builtin.Slice.sliceAdjust none none (-1) (n : Int) = ((n : Int) - 1, -1) := rfl
  simp only [Option.getD, e, places_rev]
  exact wpAny_pure h
theorem getItem_tup_rev {t sl : Addr} {its : List Value} {u : Tok} {Q : Value → Shared → Prop} (ht : IsTup s.heap t its.toArray) (hs : s.heap.IsSliceOf sl .none .none (.int (-1) u)) (hz : its.length ≤ sizeLine)
    (h : Q (.ref s.heap.objs.size) { s with heap := s.heap.push { cls := .type "tuple", data := .seq its.reverse.toArray } }) : wpAny (model prog w) A (getItem (.ref t) (.ref sl)) Q E s := by
  have hk : sizeOk (.seq its.reverse.toArray) := by
    show its.reverse.toArray.size ≤ sizeLine
    simpa using hz
  have tS : s.TypeIs (.ref sl) "slice" := let ⟨os, a, b, _⟩ := id hs; ⟨os, a, b⟩
  unfold getItem
  try (with_reducible refine wpAny_holding ?_)
  first | (refine wpAny_bind (wpAny_pure ?_)) | skip
  refine wpAny_bind (wpAny_sequenceKey (k := .ref sl) ht.typeIs (by decide) ?_)
  refine wpAny_bind (wpAny_callSpecial?_slot (name := Str.ofString "__getitem__") ht.typeIs PyProof.Rows.slot_tuple_getitem (wpAny_call_entry PyProof.Rows.slot_tuple_getitem ht.typeIs entry_tuple_getitem ?_ (args_tuple_getitem _ _)))
  show wpAny (model prog w) _ (Builtin.Tuple.tupleItemsOf (.ref t) >>= _) _ _ s
  refine wpAny_bind (tupleItemsOf_ ht (wpAny_bind (wpAny_typeOf tS ?_)))
  rw [if_pos (by decide)]
  refine wpAny_bind (sliceApplied_rev (n := its.toArray.size) hs ?_)
  have hno : ¬ (((((its.toArray.size : Nat) : Int) - 1) == 0 && (-1 : Int) == 1 && its.toArray.size == its.toArray.size) = true) := by simp
  show wpAny (model prog w) _ (if (((((its.toArray.size : Nat) : Int) - 1) == 0 && (-1 : Int) == 1 && its.toArray.size == its.toArray.size)) = true then _ else _) _ _ s
  rw [if_neg hno]
  have pk : ((List.range its.toArray.size).filterMap fun (m : Nat) => its.toArray[((((its.toArray.size : Nat) : Int) - 1) + (m : Int) * (-1)).toNat]?).toArray = its.reverse.toArray := by
    have := pick_rev its
    simp only [List.size_toArray]
    rw [this]
  rw [pk]
  first
    | exact wpAny_bind (m := Builtin.Tuple.tupleExact _) (wpAny_newObj_type (wpAny_pure ⟨_, rfl, wpAny_pure h⟩) hk)
    | exact wpAny_bind (m := Builtin.Tuple.tupleExact _) (wpAny_newObj_type (wpAny_bind (wpAny_pure (wpAny_pure ⟨_, rfl, wpAny_pure h⟩))) hk)
    | exact wpAny_bind (wpAny_bind (m := Builtin.Tuple.tupleExact _) (wpAny_newObj_type (wpAny_pure (wpAny_pure ⟨_, rfl, wpAny_pure h⟩)) hk))
    | exact wpAny_bind (wpAny_bind (m := Builtin.Tuple.tupleExact _) (wpAny_newObj_type (wpAny_pure ⟨_, rfl, wpAny_pure h⟩) hk))
end
end Dn
/-! Dn, part 4: expressions. -/
namespace Dn
open PySem PySem.Spec PyProof.Rows L2
/-- what is wished of an exception; what an exception (number, fields) is in the heap -/
structure Wc where
  W : Value → Option Addr → Sg → Hp → Prop
  xr : Nat → List PyData → Off1 → Hp → Value → Option Addr → Prop
  xm : ∀ {k : Nat} {fs : List PyData} {O O' : Off1} {H : Hp} {cls : Value} {dd : Option Addr}, (∀ b, O' b → O b) → xr k fs O H cls dd → xr k fs O' H cls dd
def Wc.no (c : Wc) : Wc := ⟨fun _ _ _ _ => False, c.xr, c.xm⟩
def Wc.to (c : Wc) (E : XK) : Wc := ⟨fun cls dd _ H => E cls dd H, c.xr, c.xm⟩
def Aft {α β : Type} (K : PySem.W.Frag) (c : Wc) (G : Off1) (L : Lc) (H : Hp) (σ : Sg) (res : Res α) (Rel : Lc → Hp → β → α → Prop) (Q : β → Hp → Prop) : Prop := match res with
  | .ok a st' => ∀ b L' H', Po L H L' H' → Rl K G L' st' H' → Rel L' H' b a → Q b H'
  | .ex k fs st' => ∀ cls dd L' H', Po L H L' H' → Rl K G L' st' H' → c.xr k fs (Off G L') H' cls dd → c.W cls dd σ H'
  | .bad => False
section
variable {K : PySem.W.Frag} {c : Wc} {G : Off1} {L L1 : Lc} {H H1 : Hp} {σ : Sg} {st : Store} {α β γ δ : Type}
theorem Aft.mono {r : Res α} {Rel : Lc → Hp → β → α → Prop} {Q Q' : β → Hp → Prop} (h : Aft K c G L H σ r Rel Q) (hi : ∀ b H, Q b H → Q' b H) : Aft K c G L H σ r Rel Q' := by
  cases r with
  | ok a st' => exact fun b L' H' po rl re => hi _ _ (h b L' H' po rl re)
  | ex k fs st' => exact h
  | bad => exact h
theorem Aft.shift {r : Res α} {Rel : Lc → Hp → β → α → Prop} {Q : β → Hp → Prop} (po : Po L H L1 H1) (h : Aft K c G L H σ r Rel Q) : Aft K c G L1 H1 σ r Rel Q := by
  cases r with
  | ok a st' => exact fun b L' H' po' rl re => h b L' H' (po.trans po') rl re
  | ex k fs st' => exact fun cls dd L' H' po' rl re => h cls dd L' H' (po.trans po') rl re
  | bad => exact h
/-- one thing behind another -/
def Then (K : PySem.W.Frag) (c : Wc) (G : Off1) (L : Lc) (H : Hp) (σ : Sg) (Rel1 : Lc → Hp → β → α → Prop) (f : α → Store → Res γ) (Rel2 : Lc → Hp → δ → γ → Prop) (Q : δ → Hp → Prop) (b : β) (H1 : Hp) : Prop :=
  ∃ L1 st1 a, Po L H L1 H1 ∧ Rl K G L1 st1 H1 ∧ Rel1 L1 H1 b a ∧ Aft K c G L1 H1 σ (f a st1) Rel2 Q
theorem Aft.bind {m : Res α} {f : α → Store → Res γ} (Rel1 : Lc → Hp → β → α → Prop) {Rel2 : Lc → Hp → δ → γ → Prop} {Q : δ → Hp → Prop} (h : Aft K c G L H σ (m.bind f) Rel2 Q) :
    Aft K c G L H σ m Rel1 (Then K c G L H σ Rel1 f Rel2 Q) := by
  cases m with
  | ok a st' => exact fun b L' H' po rl re => ⟨L', st', a, po, rl, re, Aft.shift po h⟩
  | ex k fs st' => exact h
  | bad => exact h
theorem Aft.nw {r : Res α} {Rel : Lc → Hp → β → α → Prop} {Q : β → Hp → Prop} (h : Aft K c G L H σ r.nox Rel Q) : Nw K G L H r Rel Q := by
  cases r with
  | ok a st' => exact h
  | ex k fs st' => exact h
  | bad => exact h
theorem Aft.now {a : α} {b : β} {Rel : Lc → Hp → β → α → Prop} {Q : β → Hp → Prop} (h : Aft K c G L H σ (.ok a st) Rel Q) (rl : Rl K G L st H) (re : Rel L H b a) : Q b H := h b L H .refl rl re
end
def tE (K : PySem.W.Frag) (c : Wc) (r : Sl → Store → Res D) : TE := fun σ H Q => ∃ G L st env, Rl K G L st H ∧ RE K G L H σ env ∧ Aft K c G L H σ (r env st) (RD K G) Q
def tAr (K : PySem.W.Frag) (c : Wc) (r : Sl → Store → Res (List D)) : TA := fun σ H Q => ∃ G L st env, Rl K G L st H ∧ RE K G L H σ env ∧ Aft K c G L H σ (r env st) (RDs K G) Q
def TrR (G : Off1) (L : Lc) (H : Hp) (b : Bool) (d : D) : Prop := truth d = some b
def tTr (K : PySem.W.Frag) (c : Wc) (r : Sl → Store → Res D) : TT := fun σ H Q => ∃ G L st env, Rl K G L st H ∧ RE K G L H σ env ∧ Aft K c G L H σ (r env st) (TrR G) Q ∧ True
abbrev SE (X : Cx) (c : Wc) (e : Expr) (r : Sl → Store → Res D) : Prop := PE X e (tE X.K c r)
abbrev SA (X : Cx) (c : Wc) (es : List Expr) (r : Sl → Store → Res (List D)) : Prop := PA X es (tAr X.K c r)
theorem PE.imp {X : Cx} {e : Expr} {t t' : TE} (h : PE X e t) (hi : ∀ σ H Q, t' σ H Q → t σ H Q) : PE X e t' := ⟨fun pins s σ H Q I q => h.run pins s σ H Q I (hi σ H Q q)⟩
theorem PA.imp {X : Cx} {e : List Expr} {t t' : TA} (h : PA X e t) (hi : ∀ σ H Q, t' σ H Q → t σ H Q) : PA X e t' := ⟨fun pos pins s σ H Q I q => h.run pos pins s σ H Q I (hi σ H Q q)⟩
theorem PT.imp {X : Cx} {e : Expr} {t t' : TT} (h : PT X e t) (hi : ∀ σ H Q, t' σ H Q → t σ H Q) : PT X e t' := ⟨fun pins s σ H Q I q => h.run pins s σ H Q I (hi σ H Q q)⟩
theorem PW.imp {X : Cx} {e : Expr} {t t' : TT} (h : PW X e t) (hi : ∀ σ H Q, t' σ H Q → t σ H Q) : PW X e t' := ⟨fun wh pins s σ H Q I q => h.run wh pins s σ H Q I (hi σ H Q q)⟩
section
variable {K : PySem.W.Frag} {c : Wc} {σ : Sg} {H : Hp} {Q : VK}
/-- two operands -/
theorem tE.two {ra rb : Sl → Store → Res D} {g : D → Store → D → Store → Res D} {r2 : R2} (hg : ∀ G L st H x y d e Q, Rl K G L st H → RD K G L H x d → RD K G L H y e → ∀ st0, Nw K G L H (g d st0 e st) (RD K G) Q → r2 x y H Q)
    (h : tE K c (fun env st => (ra env st).bind fun x st => (rb env st).bind fun y st1 => (g x st y st1).nox) σ H Q) : tOp r2 (tE K c ra) (tE K c rb) σ H Q := by
  obtain ⟨G, L, st, env, rl, re, q⟩ := h
  refine ⟨G, L, st, env, rl, re, (q.bind (RD K G)).mono fun x H1 ⟨L1, st1, d, po1, rl1, hd, q1⟩ => ?_⟩
  refine ⟨G, L1, st1, env, rl1, re.mono po1, (q1.bind (RD K G)).mono fun y H2 ⟨L2, st2, e, po2, rl2, he, q2⟩ => ?_⟩
  exact hg G L2 st2 H2 x y d e Q rl2 (RD.mono po2 hd) he st1 q2.nw
end
section
variable {X : Cx} {c : Wc} {a b : Expr} {ra rb rc : Sl → Store → Res D} {pos : Pos}
theorem e_var {i : Nat} {x : Str} (hN : X.N[i]? = some x) (hv : Vis X.env.scope x) (hd : (x == ("__debug__" : Str)) = false) (hcd : (x == ("__classdict__" : Str)) = false) :
    SE X c (.Name x pos) (fun env st => match env[i]? with
      | some (some d) => .ok d st
      | _ => .bad) := by
  refine PE.imp (pe_var hN hv hd hcd) fun σ H Q h => ?_
  obtain ⟨G, L, st, env, rl, re, q⟩ := h
  dsimp only at q
  split at q
  · rename_i d e
    obtain ⟨v, h1, h2⟩ := re.at_ i d e
    exact ⟨v, h1, q.now rl h2⟩
  · exact q.elim
theorem e_cst {e : Expr} {v : V} {d : PyData} (h : PE X e (tC v)) (hf : ∀ O H, Fz X.K O H v d) : SE X c e (fun _ st => .ok (.p d) st) := by
  refine PE.imp h fun σ H Q h => ?_
  obtain ⟨G, L, st, env, rl, re, q⟩ := h
  exact q.now rl (hf _ _)
theorem e_bin {op : Operator} {g : D → D → Store → Res D} (ho : OpR X (binaryOp op) (rD X.K g)) (ha : SE X c a ra) (hb : SE X c b rb) :
    SE X c (.BinOp a op b pos) (fun env st => (ra env st).bind fun x st => (rb env st).bind fun y st => (g x y st).nox) := by
  refine PE.imp (pe_op ho ha hb) fun σ H Q h => ?_
  exact tE.two (g := fun x _ y st => g x y st) (fun G L st H x y d e Q rl hd he _ q => ⟨G, L, st, d, e, rl, hd, he, q⟩) h
theorem e_cmp {op : CmpOp} {g : D → D → Store → Res D} (ho : OpR X (compareOp op) (rD X.K g)) (ha : SE X c a ra) (hb : SE X c b rb) (hm : behindInMarks op b = false) :
    SE X c (.Compare a [op] [b] pos) (fun env st => (ra env st).bind fun x st => (rb env st).bind fun y st => (g x y st).nox) := by
  refine PE.imp (pe_cmpR ho ha hb hm) fun σ H Q h => ?_
  exact tE.two (g := fun x _ y st => g x y st) (fun G L st H x y d e Q rl hd he _ q => ⟨G, L, st, d, e, rl, hd, he, q⟩) h
theorem e_ix {g : D → D → Store → Res D} (ho : IxR X (rD X.K g)) (ha : SE X c a ra) (hb : SE X c b rb) (hm : PlainIx b) :
    SE X c (.Subscript a b pos) (fun env st => (ra env st).bind fun x st => (rb env st).bind fun y st => (g x y st).nox) := by
  refine PE.imp (pe_ix ho ha hb hm) fun σ H Q h => ?_
  exact tE.two (g := fun x _ y st => g x y st) (fun G L st H x y d e Q rl hd he _ q => ⟨G, L, st, d, e, rl, hd, he, q⟩) h
theorem e_not (ha : SE X c a ra) : SE X c (.UnaryOp .Not a pos) (fun env st => (ra env st).bind fun x st => (op1 .nt x st).nox) := by
  refine PE.imp (pe_not ha) fun σ H Q h => ?_
  obtain ⟨G, L, st, env, rl, re, q⟩ := h
  refine ⟨G, L, st, env, rl, re, (q.bind (RD X.K G)).mono fun x H1 ⟨L1, st1, d, po1, rl1, hd, q1⟩ => ?_⟩
  replace q1 := q1.nw
  unfold op1 at q1
  simp only at q1
  split at q1
  · exact ⟨_, fz_bool hd, q1.pure rl1 (.bl _)⟩
  · exact q1.elim
theorem e_neg (ha : SE X c a ra) : SE X c (.UnaryOp .USub a pos) (fun env st => (ra env st).bind fun x st => (op1 .neg x st).nox) := by
  refine PE.imp (pe_un un_neg ha) fun σ H Q h => ?_
  obtain ⟨G, L, st, env, rl, re, q⟩ := h
  refine ⟨G, L, st, env, rl, re, (q.bind (RD X.K G)).mono fun x H1 ⟨L1, st1, d, po1, rl1, hd, q1⟩ => ?_⟩
  replace q1 := q1.nw
  unfold op1 at q1
  simp only at q1
  split at q1
  · exact ⟨_, fz_int hd, q1.pure rl1 (.int _)⟩
  · exact q1.elim
theorem e_isN {j : Nat} {p2 : Pos} (ha : SE X c a ra) : SE X c (.Compare a [.Is] [.Constant .none j p2] pos) (fun env st => (ra env st).bind fun x st => (op1 .isN x st).nox) := by
  refine PE.imp (pe_cmp (pc_isN ha) rfl) fun σ H Q h => ?_
  obtain ⟨G, L, st, env, rl, re, q⟩ := h
  refine ⟨G, L, st, env, rl, re, (q.bind (RD X.K G)).mono fun x H1 ⟨L1, st1, d, po1, rl1, hd, q1⟩ => ?_⟩
  replace q1 := q1.nw
  unfold op1 at q1
  simp only at q1
  split at q1
  · cases hd
    exact q1.pure rl1 (.bl _)
  · rename_i hn
    have e : decide (x = V.non) = false := by
      apply decide_eq_false
      intro z
      subst z
      cases d with
      | p d => cases hd; exact hn rfl
      | r k => obtain ⟨b, e, _⟩ := hd; cases e
    rw [e]
    exact q1.pure rl1 (.bl _)
theorem e_niN {j : Nat} {p2 : Pos} (ha : SE X c a ra) : SE X c (.Compare a [.IsNot] [.Constant .none j p2] pos) (fun env st => (ra env st).bind fun x st => (op1 .niN x st).nox) := by
  refine PE.imp (pe_cmp (pc_notN ha) rfl) fun σ H Q h => ?_
  obtain ⟨G, L, st, env, rl, re, q⟩ := h
  refine ⟨G, L, st, env, rl, re, (q.bind (RD X.K G)).mono fun x H1 ⟨L1, st1, d, po1, rl1, hd, q1⟩ => ?_⟩
  replace q1 := q1.nw
  unfold op1 at q1
  simp only at q1
  split at q1
  · cases hd
    exact q1.pure rl1 (.bl _)
  · rename_i hn
    have e : decide (x = V.non) = false := by
      apply decide_eq_false
      intro z
      subst z
      cases d with
      | p d => cases hd; exact hn rfl
      | r k => obtain ⟨b, e, _⟩ := hd; cases e
    rw [e]
    exact q1.pure rl1 (.bl _)
theorem truth_bool {d : D} {b : Bool} (h : truth d = some b) : d = bz b := by
  unfold truth at h
  split at h
  · cases h; rfl
  · cases h
theorem truth_rel {K : PySem.W.Frag} {G : Off1} {L : Lc} {H : Hp} {x : V} {d : D} {b : Bool} (hd : RD K G L H x d) (h : truth d = some b) : x = .bl b := by
  have := truth_bool h
  subst this
  exact fz_bool hd
theorem e_chain {op op' : CmpOp} {g g' : D → D → Store → Res D} {b c' : Expr} {rb : Sl → Store → Res D} (ho : OpR X (compareOp op) (rD X.K g)) (ho' : OpR X (compareOp op') (rD X.K g')) (ha : SE X c a ra) (hb : SE X c b rb) (hc : SE X c c' rc)
    (hm : lastMarks [op, op'] [b, c'] = false) :
    SE X c (.Compare a [op, op'] [b, c'] pos) (fun env st => (ra env st).bind fun x st => (rb env st).bind fun y st => (g x y st).nox.bind fun k st => match truth k with
      | some true => (rc env st).bind fun z st => (g' y z st).nox
      | some false => .ok (bz false) st
      | none => .bad) := by
  refine PE.imp (pe_chain ho ho' ha hb hc hm) fun σ H Q h => ?_
  obtain ⟨G, L, st, env, rl, re, q⟩ := h
  refine ⟨G, L, st, env, rl, re, (q.bind (RD X.K G)).mono fun x H1 ⟨L1, st1, d, po1, rl1, hd, q1⟩ => ?_⟩
  refine ⟨G, L1, st1, env, rl1, re.mono po1, (q1.bind (RD X.K G)).mono fun y H2 ⟨L2, st2, e, po2, rl2, he, q2⟩ => ?_⟩
  refine ⟨G, L2, st2, d, e, rl2, RD.mono po2 hd, he, Aft.nw (((q2.bind (RD X.K G))).mono fun z H3 ⟨L3, st3, k, po3, rl3, hk, q3⟩ => ?_)⟩
  dsimp only at q3
  split at q3
  · rename_i ht
    refine ⟨true, truth_rel hk ht, ?_⟩
    rw [if_pos rfl]
    refine ⟨G, L3, st3, env, rl3, (re.mono po1).mono (po2.trans po3), (q3.bind (RD X.K G)).mono fun w' H4 ⟨L4, st4, f, po4, rl4, hf, q4⟩ => ?_⟩
    exact ⟨G, L4, st4, e, f, rl4, RD.mono (po3.trans po4) he, hf, q4.nw⟩
  · rename_i ht
    refine ⟨false, truth_rel hk ht, ?_⟩
    rw [if_neg Bool.false_ne_true]
    exact q3.now rl3 (Fz.bl false)
  · exact q3.elim
/-! ### lists of expressions -/
theorem a_nil : SA X c [] (fun _ st => .ok [] st) := by
  refine PA.imp pa_nil fun σ H Q h => ?_
  obtain ⟨G, L, st, env, rl, re, q⟩ := h
  exact q.now rl .nil
theorem a_cons {es : List Expr} {rs : Sl → Store → Res (List D)} (ha : SE X c a ra) (hs : SA X c es rs) (hst : starEach (a :: es) X.env = (false, eval a X.env) :: starEach es X.env) :
    SA X c (a :: es) (fun env st => (ra env st).bind fun d st => (rs env st).bind fun ds st => .ok (d :: ds) st) := by
  refine PA.imp (pa_cons ha hs hst) fun σ H Q h => ?_
  obtain ⟨G, L, st, env, rl, re, q⟩ := h
  refine ⟨G, L, st, env, rl, re, (q.bind (RD X.K G)).mono fun x H1 ⟨L1, st1, d, po1, rl1, hd, q1⟩ => ?_⟩
  refine ⟨G, L1, st1, env, rl1, re.mono po1, (q1.bind (RDs X.K G)).mono fun y H2 ⟨L2, st2, e, po2, rl2, he, q2⟩ => ?_⟩
  exact q2.now rl2 (.cons (RD.mono po2 hd) he)
/-! ### displays -/
theorem pe_tupF {es : List Expr} {t : TA} {x1 : Nat} (h : PA X es t) : PE X (.Tuple es x1 pos) (fun σ H Q => t σ H fun xs H1 => xs.length ≤ sizeLine ∧ NewT xs H1 Q) := by
  refine ⟨fun pins s σ H Q I hq => ?_⟩
  refine wpAny_Tuple_spliced (thn (h.run pos pins s σ H _ I hq) fun us s1 ⟨xs, H1, I1, r, z, q⟩ => ⟨by rw [← r.length]; exact z, ?_⟩)
  exact laidT (t' := s1.toks) I1 (fun b u e => Heap.get?_push_of_some _ e) (Nat.le_refl _) (Heap.get?_push_size _ rfl) r z q
theorem e_tup {es : List Expr} {rs : Sl → Store → Res (List D)} {x1 : Nat} (hs : SA X c es rs) :
    SE X c (.Tuple es x1 pos) (fun env st => (rs env st).bind fun ds st => Res.of st ((allP ds).bind fun xs => if xs.length ≤ sizeLine then some (.p (.tuple xs)) else none)) := by
  refine PE.imp (pe_tupF hs) fun σ H Q h => ?_
  obtain ⟨G, L, st, env, rl, re, q⟩ := h
  refine ⟨G, L, st, env, rl, re, (q.bind (RDs X.K G)).mono fun xs H1 ⟨L1, st1, ds, po1, rl1, hd, q1⟩ => ?_⟩
  dsimp only at q1
  cases e : allP ds with
  | none => rw [e] at q1; exact q1.elim
  | some es =>
    rw [e] at q1
    simp only [Option.bind_some] at q1
    split at q1
    · rename_i hz
      have f := allP_rel hd e
      exact ⟨by rw [f.len]; exact hz, fun p o ho hp => Nw.newT (st := st1) q1 rl1 f hp ho⟩
    · exact q1.elim
theorem newL_noex {m : Bool} {ds : List D} {st : Store} : (newL m ds st).nox = newL m ds st := by
  unfold newL alloc
  split
  · rfl
  · split
    · rfl
    · cases allP ds <;> rfl
theorem e_lst {m : Bool} {es : List Expr} {rs : Sl → Store → Res (List D)} (hs : SA X c es rs) : SE X c (.List es pos) (fun env st => (rs env st).bind fun ds st => newL m ds st) := by
  refine PE.imp (pe_lst hs) fun σ H Q h => ?_
  obtain ⟨G, L, st, env, rl, re, q⟩ := h
  refine ⟨G, L, st, env, rl, re, (q.bind (RDs X.K G)).mono fun xs H1 ⟨L1, st1, ds, po1, rl1, hd, q1⟩ => ?_⟩
  dsimp only at q1
  rw [← newL_noex] at q1
  obtain ⟨h1, h2⟩ := newL_rel q1.nw rl1 hd
  exact ⟨by rw [Paired.length hd]; exact h1, h2⟩
theorem e_dic0 : SE X c (.Dict [] [] pos) (fun _ st => alloc (.dic []) st) := by
  refine PE.imp pe_dnewK fun σ H Q h => ?_
  obtain ⟨G, L, st, env, rl, re, q⟩ := h
  intro p hp
  refine q _ _ _ (Po.alloc rl hp) (rl.alloc hp ⟨[], upd_same, .nil⟩) ⟨p, rfl, by rw [← rl.len]; simp, fun b e => ?_⟩
  rw [← rl.len] at e
  simp at e
  exact e.symm
end
end Dn
namespace Dn
open PySem PySem.Spec PyProof.Rows L2
/-- a test's answer -/
def rT (r : Sl → Store → Res D) : Sl → Store → Res Bool := fun env st => (r env st).bind fun d st => Res.of st (truth d)
def tT (K : PySem.W.Frag) (c : Wc) (r : Sl → Store → Res D) : TT := fun σ H Q => ∃ G L st env, Rl K G L st H ∧ RE K G L H σ env ∧ Aft K c G L H σ (rT r env st) (fun _ _ b b' => b' = b) Q
abbrev ST (X : Cx) (c : Wc) (e : Expr) (r : Sl → Store → Res D) : Prop := PT X e (tT X.K c r)
abbrev SW (X : Cx) (c : Wc) (e : Expr) (r : Sl → Store → Res D) : Prop := PW X e (tT X.K c r)
theorem tT_E {K : PySem.W.Frag} {c : Wc} {r : Sl → Store → Res D} {σ : Sg} {H : Hp} {Q : Bool → Hp → Prop} (h : tT K c r σ H Q) : tE K c r σ H (fun x H1 => ∃ k, x = .bl k ∧ Q k H1) := by
  obtain ⟨G, L, st, env, rl, re, q⟩ := h
  refine ⟨G, L, st, env, rl, re, (Aft.bind (RD K G) q).mono fun x H1 ⟨L1, st1, d, po1, rl1, hd, q1⟩ => ?_⟩
  dsimp only at q1
  cases e : truth d with
  | none => rw [e] at q1; exact q1.elim
  | some b =>
    rw [e] at q1
    exact ⟨b, truth_rel hd e, q1.now rl1 rfl⟩
section
variable {X : Cx} {c : Wc} {a b : Expr} {ra rb rc : Sl → Store → Res D} {pos : Pos}
/-! ### and, or -/
theorem e_one {op : BoolOp} (ha : SE X c a ra) : SE X c (.BoolOp op [a] pos) ra := pe_one ha
theorem e_and {rest : List Expr} (ha : SE X c a ra) (hb : SE X c (.BoolOp .And (b :: rest) pos) rb) : SE X c (.BoolOp .And (a :: b :: rest) pos) (fun env st => (ra env st).bind fun x st => match truth x with
    | some true => rb env st
    | some false => .ok (bz false) st
    | none => .bad) := by
  refine PE.imp (pe_and ha hb) fun σ H Q h => ?_
  obtain ⟨G, L, st, env, rl, re, q⟩ := h
  refine ⟨G, L, st, env, rl, re, (q.bind (RD X.K G)).mono fun x H1 ⟨L1, st1, d, po1, rl1, hd, q1⟩ => ?_⟩
  dsimp only at q1
  split at q1
  · rename_i e
    refine ⟨true, truth_rel hd e, ?_⟩
    rw [if_pos rfl]
    exact ⟨G, L1, st1, env, rl1, re.mono po1, q1⟩
  · rename_i e
    refine ⟨false, truth_rel hd e, ?_⟩
    rw [if_neg Bool.false_ne_true]
    exact q1.now rl1 (Fz.bl false)
  · exact q1.elim
theorem e_or {rest : List Expr} (ha : SE X c a ra) (hb : SE X c (.BoolOp .Or (b :: rest) pos) rb) : SE X c (.BoolOp .Or (a :: b :: rest) pos) (fun env st => (ra env st).bind fun x st => match truth x with
    | some true => .ok (bz true) st
    | some false => rb env st
    | none => .bad) := by
  refine PE.imp (pe_or ha hb) fun σ H Q h => ?_
  obtain ⟨G, L, st, env, rl, re, q⟩ := h
  refine ⟨G, L, st, env, rl, re, (q.bind (RD X.K G)).mono fun x H1 ⟨L1, st1, d, po1, rl1, hd, q1⟩ => ?_⟩
  dsimp only at q1
  split at q1
  · rename_i e
    refine ⟨true, truth_rel hd e, ?_⟩
    rw [if_pos rfl]
    exact q1.now rl1 (Fz.bl true)
  · rename_i e
    refine ⟨false, truth_rel hd e, ?_⟩
    rw [if_neg Bool.false_ne_true]
    exact ⟨G, L1, st1, env, rl1, re.mono po1, q1⟩
  · exact q1.elim
/-! ### tests -/
theorem t_val {e : Expr} {r : Sl → Store → Res D} (h : SE X c e r) (he : ∀ whole, isTrue e X.env whole = (do let v ← whole; standAt e.pos; holding [v] (truthy v))) : ST X c e r :=
  PT.imp (pt_val h he) fun σ H Q q => tT_E q
theorem t_cmp {op : CmpOp} {g : D → D → Store → Res D} (ho : OpR X (compareOp op) (rD X.K g)) (ha : SE X c a ra) (hb : SE X c b rb) (hm : behindInMarks op b = false) :
    ST X c (.Compare a [op] [b] pos) (fun env st => (ra env st).bind fun x st => (rb env st).bind fun y st => (g x y st).nox) := by
  refine PT.imp (pt_cmpR ho ha hb hm) fun σ H Q h => ?_
  exact tE.two (g := fun x _ y st => g x y st) (fun G L st H x y d e Q rl hd he _ q => ⟨G, L, st, d, e, rl, hd, he, q⟩) (tT_E h)
theorem isN_core {K : PySem.W.Frag} {G : Off1} {L : Lc} {H : Hp} {x : V} {d : D} (hd : RD K G L H x d) : (decide (x = .non) = true ∧ d = .p .none) ∨ (decide (x = .non) = false ∧ d ≠ .p .none) := by
  cases d with
  | p d =>
    cases hd with
    | non => exact .inl ⟨rfl, rfl⟩
    | bl b => exact .inr ⟨rfl, by simp⟩
    | int b => exact .inr ⟨rfl, by simp⟩
    | str b _ => exact .inr ⟨rfl, by simp⟩
    | lst _ _ => exact .inr ⟨rfl, by simp⟩
    | tup _ _ => exact .inr ⟨rfl, by simp⟩
  | r k =>
    obtain ⟨b, e, _⟩ := hd
    subst e
    exact .inr ⟨rfl, by simp⟩
theorem t_isN {j : Nat} {p2 : Pos} (ha : SE X c a ra) : ST X c (.Compare a [.Is] [.Constant .none j p2] pos) (fun env st => (ra env st).bind fun x st => (op1 .isN x st).nox) := by
  refine PT.imp (pt_cmp (pc_isN ha) rfl) fun σ H Q h => ?_
  obtain ⟨G, L, st, env, rl, re, q⟩ := tT_E h
  refine ⟨G, L, st, env, rl, re, (Aft.bind (RD X.K G) q).mono fun x H1 ⟨L1, st1, d, po1, rl1, hd, q1⟩ => ?_⟩
  rcases isN_core hd with ⟨e1, e2⟩ | ⟨e1, e2⟩
  · subst e2
    rw [e1]
    exact q1.now rl1 (Fz.bl true)
  · rw [e1]
    have : (op1 .isN d st1) = .ok (.p (.bool false)) st1 := by
      unfold op1
      simp only
    dsimp only at q1
    rw [this] at q1
    exact q1.now rl1 (Fz.bl false)
theorem t_niN {j : Nat} {p2 : Pos} (ha : SE X c a ra) : ST X c (.Compare a [.IsNot] [.Constant .none j p2] pos) (fun env st => (ra env st).bind fun x st => (op1 .niN x st).nox) := by
  refine PT.imp (pt_cmp (pc_notN ha) rfl) fun σ H Q h => ?_
  obtain ⟨G, L, st, env, rl, re, q⟩ := tT_E h
  refine ⟨G, L, st, env, rl, re, (Aft.bind (RD X.K G) q).mono fun x H1 ⟨L1, st1, d, po1, rl1, hd, q1⟩ => ?_⟩
  rcases isN_core hd with ⟨e1, e2⟩ | ⟨e1, e2⟩
  · subst e2
    rw [e1]
    exact q1.now rl1 (Fz.bl false)
  · rw [e1]
    have : (op1 .niN d st1) = .ok (.p (.bool true)) st1 := by
      unfold op1
      simp only
    dsimp only at q1
    rw [this] at q1
    exact q1.now rl1 (Fz.bl true)
theorem chain_core {K : PySem.W.Frag} {g g' : D → D → Store → Res D} {σ : Sg} {H : Hp} {Q : VK}
    (h : tE K c (fun env st => (ra env st).bind fun x st => (rb env st).bind fun y st => (g x y st).nox.bind fun k st => match truth k with
      | some true => (rc env st).bind fun z st => (g' y z st).nox
      | some false => .ok (bz false) st
      | none => .bad) σ H Q) : tChain (rD K g) (rD K g') (tE K c ra) (tE K c rb) (tE K c rc) σ H Q := by
  obtain ⟨G, L, st, env, rl, re, q⟩ := h
  refine ⟨G, L, st, env, rl, re, (q.bind (RD K G)).mono fun x H1 ⟨L1, st1, d, po1, rl1, hd, q1⟩ => ?_⟩
  refine ⟨G, L1, st1, env, rl1, re.mono po1, (q1.bind (RD K G)).mono fun y H2 ⟨L2, st2, e, po2, rl2, he, q2⟩ => ?_⟩
  refine ⟨G, L2, st2, d, e, rl2, RD.mono po2 hd, he, Aft.nw (((q2.bind (RD K G))).mono fun z H3 ⟨L3, st3, k, po3, rl3, hk, q3⟩ => ?_)⟩
  dsimp only at q3
  split at q3
  · rename_i ht
    refine ⟨true, truth_rel hk ht, ?_⟩
    rw [if_pos rfl]
    refine ⟨G, L3, st3, env, rl3, (re.mono po1).mono (po2.trans po3), (q3.bind (RD K G)).mono fun w' H4 ⟨L4, st4, f, po4, rl4, hf, q4⟩ => ?_⟩
    exact ⟨G, L4, st4, e, f, rl4, RD.mono (po3.trans po4) he, hf, q4.nw⟩
  · rename_i ht
    refine ⟨false, truth_rel hk ht, ?_⟩
    rw [if_neg Bool.false_ne_true]
    exact q3.now rl3 (Fz.bl false)
  · exact q3.elim
theorem t_chain {op op' : CmpOp} {g g' : D → D → Store → Res D} {b c' : Expr} {rb : Sl → Store → Res D} (ho : OpR X (compareOp op) (rD X.K g)) (ho' : OpR X (compareOp op') (rD X.K g')) (ha : SE X c a ra) (hb : SE X c b rb) (hc : SE X c c' rc)
    (hm : lastMarks [op, op'] [b, c'] = false) :
    ST X c (.Compare a [op, op'] [b, c'] pos) (fun env st => (ra env st).bind fun x st => (rb env st).bind fun y st => (g x y st).nox.bind fun k st => match truth k with
      | some true => (rc env st).bind fun z st => (g' y z st).nox
      | some false => .ok (bz false) st
      | none => .bad) :=
  PT.imp (pt_chain ho ho' ha hb hc hm) fun σ H Q h => chain_core (tT_E h)
theorem t_not (ha : ST X c a ra) : ST X c (.UnaryOp .Not a pos) (fun env st => (ra env st).bind fun x st => (op1 .nt x st).nox) := by
  refine PT.imp (pt_not ha) fun σ H Q h => ?_
  obtain ⟨G, L, st, env, rl, re, q⟩ := h
  refine ⟨G, L, st, env, rl, re, ?_⟩
  unfold rT at q ⊢
  cases e : ra env st with
  | ok d st1 =>
    dsimp only at q
    rw [e] at q
    simp only [Res.bind_ok] at q ⊢
    unfold op1 at q
    simp only at q
    split at q
    · intro b L' H' po rl' hb
      cases hb
      exact q _ L' H' po rl' rfl
    · exact q.elim
  | ex k fs st1 => dsimp only at q; rw [e] at q; exact q
  | bad => dsimp only at q; rw [e] at q; exact q
theorem w_one {op : BoolOp} (h : op = .And ∨ op = .Or) (ha : ST X c a ra) : SW X c (.BoolOp op [a] pos) ra := by
  rcases h with h | h <;> subst h
  · exact pw_and1 ha
  · exact pw_or1 ha
theorem w_and {rest : List Expr} (ha : ST X c a ra) (hb : SW X c (.BoolOp .And (b :: rest) pos) rb) : SW X c (.BoolOp .And (a :: b :: rest) pos) (fun env st => (ra env st).bind fun x st => match truth x with
    | some true => rb env st
    | some false => .ok (bz false) st
    | none => .bad) := by
  refine PW.imp (pw_and ha hb) fun σ H Q h => ?_
  obtain ⟨G, L, st, env, rl, re, q⟩ := h
  refine ⟨G, L, st, env, rl, re, ?_⟩
  unfold rT at q ⊢
  cases e : ra env st with
  | ok d st1 =>
    dsimp only at q
    rw [e] at q
    simp only [Res.bind_ok] at q ⊢
    cases e2 : truth d with
    | none => rw [e2] at q; exact q.elim
    | some k =>
      rw [e2] at q
      intro b L' H' po rl' hb
      cases hb
      cases k with
      | true =>
        simp only at q
        rw [if_pos rfl]
        refine ⟨G, L', st1, env, rl', re.mono po, ?_⟩
        exact q.shift po
      | false =>
        rw [if_neg Bool.false_ne_true]
        exact q false L' H' po rl' rfl
  | ex k fs st1 => dsimp only at q; rw [e] at q; exact q
  | bad => dsimp only at q; rw [e] at q; exact q
theorem w_or {rest : List Expr} (ha : ST X c a ra) (hb : SW X c (.BoolOp .Or (b :: rest) pos) rb) : SW X c (.BoolOp .Or (a :: b :: rest) pos) (fun env st => (ra env st).bind fun x st => match truth x with
    | some true => .ok (bz true) st
    | some false => rb env st
    | none => .bad) := by
  refine PW.imp (pw_or ha hb) fun σ H Q h => ?_
  obtain ⟨G, L, st, env, rl, re, q⟩ := h
  refine ⟨G, L, st, env, rl, re, ?_⟩
  unfold rT at q ⊢
  cases e : ra env st with
  | ok d st1 =>
    dsimp only at q
    rw [e] at q
    simp only [Res.bind_ok] at q ⊢
    cases e2 : truth d with
    | none => rw [e2] at q; exact q.elim
    | some k =>
      rw [e2] at q
      intro b L' H' po rl' hb
      cases hb
      cases k with
      | false =>
        simp only at q
        rw [if_neg Bool.false_ne_true]
        refine ⟨G, L', st1, env, rl', re.mono po, ?_⟩
        exact q.shift po
      | true =>
        rw [if_pos rfl]
        exact q true L' H' po rl' rfl
  | ex k fs st1 => dsimp only at q; rw [e] at q; exact q
  | bad => dsimp only at q; rw [e] at q; exact q
theorem e_ite {t : Expr} {rt : Sl → Store → Res D} (ht : ST X c t rt) (ha : SE X c a ra) (hb : SE X c b rb) : SE X c (.IfExp t a b pos) (fun env st => (rt env st).bind fun x st => match truth x with
    | some true => ra env st
    | some false => rb env st
    | none => .bad) := by
  refine PE.imp (pe_ifExp ht ha hb) fun σ H Q h => ?_
  obtain ⟨G, L, st, env, rl, re, q⟩ := h
  refine ⟨G, L, st, env, rl, re, ?_⟩
  unfold rT
  cases e : rt env st with
  | ok d st1 =>
    dsimp only at q
    rw [e] at q
    simp only [Res.bind_ok] at q ⊢
    cases e2 : truth d with
    | none => rw [e2] at q; exact q.elim
    | some k =>
      rw [e2] at q
      intro b L' H' po rl' hb
      cases hb
      cases k with
      | true =>
        rw [if_pos rfl]
        exact ⟨G, L', st1, env, rl', re.mono po, q.shift po⟩
      | false =>
        rw [if_neg Bool.false_ne_true]
        exact ⟨G, L', st1, env, rl', re.mono po, q.shift po⟩
  | ex k fs st1 => dsimp only at q; rw [e] at q; exact q
  | bad => dsimp only at q; rw [e] at q; exact q
end
end Dn
namespace Dn
open PySem PySem.Spec PyProof.Rows L2
/-- expressions that stand anywhere without a mark of their own -/
def simpleE : Expr → Bool
  | .Starred .. => false
  | .Slice .. => false
  | .Set .. => false
  | .Call (.Name id _) _ _ _ => !(id == ("super" : Str))
  | _ => true
section
variable {env : Env} {e o : Expr} {es : List Expr}
theorem star_of (h : simpleE e = true) : starEach (e :: es) env = (false, eval e env) :: starEach es env := by
  cases e <;> first | rfl | cases h
theorem back_of {pos : Pos} : ∀ {es : List Expr}, es.all simpleE = true → (backTo pos (starEach es env)).any (·.1) = false
  | [], _ => rfl
  | e :: es, h => by
    rw [List.all_cons, Bool.and_eq_true] at h
    rw [star_of h.1]
    show (false || (backTo pos (starEach es env)).any (·.1)) = false
    rw [Bool.false_or]
    exact back_of h.2
theorem backAll_of {pos : Pos} : ∀ {es : List Expr}, es.all simpleE = true → (backTo pos (starEach es env)).all (fun x => !x.1) = true
  | [], _ => rfl
  | e :: es, h => by
    rw [List.all_cons, Bool.and_eq_true] at h
    rw [star_of h.1]
    show (true && (backTo pos (starEach es env)).all (fun x => !x.1)) = true
    rw [Bool.true_and]
    exact backAll_of h.2
theorem base_of {m : Str} (h : simpleE o = true) : attributeBase o m env (eval o env) = eval o env := by
  cases o with
  | Call f args kws pos =>
    cases f with
    | Name id p =>
      cases args with
      | nil =>
        cases kws with
        | nil =>
          unfold attributeBase
          have e : (id != ("super" : Str)) = true := by
            have : (id == ("super" : Str)) = false := by simpa [simpleE] using h
            simp [bne, this]
          simp only [e, Bool.true_or, if_true]
        | cons _ _ => rfl
      | cons _ _ => rfl
    | _ => rfl
  | _ => rfl
theorem plainIx_of (h : simpleE e = true) : PlainIx e := fun _ _ => by cases e <;> first | rfl | cases h
theorem marks_of {op : CmpOp} (h : simpleE e = true) : behindInMarks op e = false := by cases e <;> first | rfl | cases h
theorem few_of {cpos : Pos} (h : es.all simpleE = true) (hl : es.length < 30) : ((backTo cpos (starEach es env)).all (fun x => !x.1) && (backToKw cpos (keywordEach [] env)).all (fun x => x.1.isSome)
      && decide (es.length + ([] : List Keyword).length + (if ([] : List Keyword).isEmpty then 0 else 1) < 30)) = true := by
  rw [backAll_of h]
  show (true && true && decide (es.length + 0 + 0 < 30)) = true
  simp only [Bool.true_and, Nat.add_zero, decide_eq_true_eq]
  exact hl
end
section
variable {X : Cx} {c : Wc} {a b d : Expr} {ra rb rd : Sl → Store → Res D} {pos apos p : Pos} {x : Str} {id T : String}
/-! ### calls of built-ins -/
theorem e_blt1 {g : D → Store → Res D} (hc : CallR X (.builtin id) (rC1 X.K g)) (hg : Gl X x) (hm : X.mg x = none) (hv : bootBuiltins x = some (.builtin id)) (hn : x ≠ "__name__") (hdb : (x == ("__debug__" : Str)) = false) (ha : SE X c a ra) (sa : simpleE a = true) :
    SE X c (.Call (.Name x p) [a] [] pos) (fun env st => (ra env st).bind fun x st => (g x st).nox) := by
  refine PE.imp (pe_callB hc hg hm hv (pa_cons ha pa_nil (star_of sa)) hn hdb (star_of sa) rfl) fun σ H Q h => ?_
  obtain ⟨G, L, st, env, rl, re, q⟩ := h
  refine ⟨G, L, st, env, rl, re, (q.bind (RD X.K G)).mono fun x H1 ⟨L1, st1, d, po1, rl1, hd, q1⟩ => ?_⟩
  exact ⟨G, L1, st1, x, d, rfl, rl1, hd, q1.nw⟩
theorem e_blt2 {g : D → D → Store → Res D} (hc : CallR X (.builtin id) (rC2 X.K g)) (hg : Gl X x) (hm : X.mg x = none) (hv : bootBuiltins x = some (.builtin id)) (hn : x ≠ "__name__") (hdb : (x == ("__debug__" : Str)) = false) (ha : SE X c a ra) (sa : simpleE a = true) (hb : SE X c b rb) (sb : simpleE b = true) :
    SE X c (.Call (.Name x p) [a, b] [] pos) (fun env st => (ra env st).bind fun x st => (rb env st).bind fun y st => (g x y st).nox) := by
  refine PE.imp (pe_callB hc hg hm hv (pa_cons ha (pa_cons hb pa_nil (star_of sb)) (star_of sa)) hn hdb (star_of sa) (back_of (es := [b]) (by simp [sb]))) fun σ H Q h => ?_
  obtain ⟨G, L, st, env, rl, re, q⟩ := h
  refine ⟨G, L, st, env, rl, re, (q.bind (RD X.K G)).mono fun x H1 ⟨L1, st1, d, po1, rl1, hd, q1⟩ => ?_⟩
  refine ⟨G, L1, st1, env, rl1, re.mono po1, (q1.bind (RD X.K G)).mono fun y H2 ⟨L2, st2, e, po2, rl2, he, q2⟩ => ?_⟩
  exact ⟨G, L2, st2, x, y, d, e, rfl, rl2, RD.mono po2 hd, he, q2.nw⟩
theorem e_ty1 {g : D → Store → Res D} (hc : CallR X (.type T) (rC1 X.K g)) (hg : Gl X x) (hm : X.mg x = none) (hv : bootBuiltins x = some (.type T)) (hn : x ≠ "__name__") (hdb : (x == ("__debug__" : Str)) = false) (ha : SE X c a ra) (sa : simpleE a = true) :
    SE X c (.Call (.Name x p) [a] [] pos) (fun env st => (ra env st).bind fun x st => (g x st).nox) := by
  refine PE.imp (pe_callTy hc hg hm hv (pa_cons ha pa_nil (star_of sa)) hn hdb (star_of sa) rfl) fun σ H Q h => ?_
  obtain ⟨G, L, st, env, rl, re, q⟩ := h
  refine ⟨G, L, st, env, rl, re, (q.bind (RD X.K G)).mono fun x H1 ⟨L1, st1, d, po1, rl1, hd, q1⟩ => ?_⟩
  exact ⟨G, L1, st1, x, d, rfl, rl1, hd, q1.nw⟩
/-! ### isinstance -/
theorem isi_core {K : PySem.W.Frag} {G : Off1} {L : Lc} {H : Hp} {st : Store} {v : V} {d : D} {t : Ty} (rl : Rl K G L st H) (hd : RD K G L H v d) (e : tyOf d st = some t) (u : Ty) (hu : u ≠ .none) :
    TyX K H v (.type (tyName t)) ∧ PySem.W.kitOne K (.type (tyName t)) (.type (tyName u)) = some (isTy t u) := ⟨tyOf_rel rl hd e, by
  have := kitB_is t u hu
  exact this⟩
theorem e_isi1 {y : Str} {p2 : Pos} {u : Ty} (hu : u ≠ .none) (hg : Gl X "isinstance") (hm : X.mg "isinstance" = none) (hy : Gl X y) (hmy : X.mg y = none) (hvy : bootBuiltins y = some (.type (tyName u))) (hn : y ≠ "__name__") (hdb : (y == ("__debug__" : Str)) = false)
    (ha : SE X c a ra) (sa : simpleE a = true) : SE X c (.Call (.Name "isinstance" p) [a, .Name y p2] [] pos) (fun env st => (ra env st).bind fun x st => (op1 (.isin [u]) x st).nox) := by
  have hb : PE X (.Name y p2) (tC (.ty (tyName u))) := pe_bltn hy hmy hvy rfl hn hdb
  refine PE.imp (pe_callB call_isi hg hm (by decide +kernel) (pa_cons ha (pa_cons hb pa_nil rfl) (star_of sa)) (by decide) (by decide) (star_of sa) rfl) fun σ H Q h => ?_
  obtain ⟨G, L, st, env, rl, re, q⟩ := h
  refine ⟨G, L, st, env, rl, re, (q.bind (RD X.K G)).mono fun x H1 ⟨L1, st1, d, po1, rl1, hd, q1⟩ => ?_⟩
  replace q1 := q1.nw
  unfold op1 at q1
  simp only at q1
  obtain ⟨t, e, q2⟩ := Nw.of_map q1
  obtain ⟨h1, h2⟩ := isi_core rl1 hd e u hu
  refine ⟨x, .ty (tyName u), _, _, isTy t u, rfl, .ty _, h1, h2, ?_⟩
  have := q2.pure rl1 (.bl _)
  simpa using this
/-! ### slices -/
def tPs (K : PySem.W.Frag) (c : Wc) (r : Sl → Store → Res (Option Int)) : TO := fun σ H Q => ∃ G L st env, Rl K G L st H ∧ RE K G L H σ env ∧ Aft K c G L H σ (r env st) (fun _ _ b a => b = a) Q
abbrev SO (X : Cx) (c : Wc) (e : Option Expr) (r : Sl → Store → Res (Option Int)) : Prop := PO X e (tPs X.K c r)
theorem PO.imp {X : Cx} {e : Option Expr} {t t' : TO} (h : PO X e t) (hi : ∀ σ H Q, t' σ H Q → t σ H Q) : PO X e t' := ⟨fun pins s σ H Q I q => h.run pins s σ H Q I (hi σ H Q q)⟩
theorem o_none : SO X c none (fun _ st => .ok none st) := by
  refine PO.imp po_none fun σ H Q h => ?_
  obtain ⟨G, L, st, env, rl, re, q⟩ := h
  exact q.now rl rfl
theorem o_some (ha : SE X c a ra) : SO X c (some a) (fun env st => (ra env st).bind fun d st => match d with
    | .p (.int i) => .ok (some i) st
    | _ => .bad) := by
  refine PO.imp (po_some ha) fun σ H Q h => ?_
  obtain ⟨G, L, st, env, rl, re, q⟩ := h
  refine ⟨G, L, st, env, rl, re, (q.bind (RD X.K G)).mono fun x H1 ⟨L1, st1, d, po1, rl1, hd, q1⟩ => ?_⟩
  dsimp only at q1
  split at q1
  · rename_i i
    exact ⟨i, fz_int hd, q1.now rl1 rfl⟩
  · exact q1.elim
def rSlF (K : PySem.W.Frag) : V → Option Int → Option Int → Hp → VK → Prop := fun x lo hi H Q => ∃ a xs, x = .ref a ∧ SqT K H a xs ∧ (cutV xs lo hi = xs → Q x H) ∧ NewT (cutV xs lo hi) H Q
theorem sl_tupF : SlR X (rSlF X.K) := by
  intro pins s σ H x v vl vu lo hi sl Q I rx hs pl pu h
  obtain ⟨a, xs, rfl, hx, q1, q2⟩ := h
  cases rx
  obtain ⟨its, r, ht, hz⟩ := I.tuple hx
  have hlen : its.toArray.size = xs.length := by rw [List.size_toArray]; exact r.length.symm
  refine ⟨"tuple", _, PyProof.Rows.slot_tuple_getitem.lookup, ht.typeIs, ?_⟩
  by_cases hw : HT.sIx xs.length 0 lo = 0 ∧ HT.sIx xs.length xs.length hi = xs.length
  · have e : cutV xs lo hi = xs := by
      unfold cutV
      rw [hw.1, hw.2]
      simp
    exact L2.getItem_tuple_whole ht hs pl pu (by rw [hlen]; exact hw) ⟨.ref a, H, I, rfl, q1 e⟩
  · refine HT.getItem_tuple_cut ht hs pl pu (by rw [hlen]; exact hw) ?_ (by rw [hlen]; exact hz)
    rw [hlen]
    exact laidT (t' := s.toks) I (fun b ob q => Heap.get?_push_of_some _ q) (Nat.le_refl _) (Heap.get?_push_size _ rfl) ((r.drop (HT.sIx xs.length 0 lo)).take (HT.sIx xs.length xs.length hi - HT.sIx xs.length 0 lo)) (Nat.le_trans (cutV_length xs lo hi) hz) q2
def rSl (K : PySem.W.Frag) (m : Bool) : V → Option Int → Option Int → Hp → VK → Prop := fun x lo hi H Q => ∃ G L st d, Rl K G L st H ∧ RD K G L H x d ∧ Nw K G L H (asNew m (cutD d lo hi st) st) (RD K G) Q
theorem sOk.cut {z : Str} (h : sOk z) (lo hi : Option Int) : sOk ⟨(cut z.cps.toList lo hi).toArray⟩ := by
  refine sOk.mk (fun c hc => h.all c ?_) ?_
  · unfold Dn.cut at hc
    exact List.mem_of_mem_drop (List.mem_of_mem_take hc)
  · have := h.2
    rw [← str_len] at this
    unfold Dn.cut
    rw [List.length_take, List.length_drop]
    omega
theorem cutS_eq (z : Str) (lo hi : Option Int) : cutS z lo hi = ⟨(cut z.cps.toList lo hi).toArray⟩ := by
  unfold cutS
  rw [cut_eq _ lo hi z.length (str_len z)]
theorem mapP_inj : ∀ {es : List PyData} {ds : List D}, allP ds = some es → ds = es.map .p
  | _, [], h => by cases h; rfl
  | es, .p d :: ds, h => by
    simp only [allP, Option.map_eq_some_iff] at h
    obtain ⟨l, h1, rfl⟩ := h
    rw [List.map_cons, mapP_inj h1]
  | _, .r _ :: _, h => by cases h
theorem asNew_list {K : PySem.W.Frag} {G : Off1} {L : Lc} {H : Hp} {st : Store} {Q : VK} {m : Bool} {es : List PyData} {xs : List V} {p : Addr} (rl : Rl K G L st H) (f : FzA K (Off G L) H xs es) (q : Nw K G L H (asNew m (some (.p (.list es))) st) (RD K G) Q) (hp : H p = none) :
    Q (.ref p) (upd H p (.lst xs)) := by
  unfold asNew at q
  exact (newL_rel q rl (mapP_rel f)).2 p hp
theorem sl_any (m : Bool) : SlR X (rSl X.K m) := by
  intro pins s σ H x v vl vu lo hi sl Q I rx hs pl pu h
  refine (sl_list.or (sl_tupF.or sl_str)) pins s σ H x v vl vu lo hi sl Q I rx hs pl pu ?_
  obtain ⟨G, L, st, d, rl, hd, q⟩ := h
  unfold cutD at q
  split at q
  · rename_i z
    obtain ⟨e, hz⟩ := fz_str hd
    refine .inr (.inr ⟨z, e, hz.2, ?_⟩)
    rw [cutS_eq]
    unfold asNew at q
    cases m with
    | false => exact q.pure rl (.str _ (hz.cut lo hi))
    | true => exact q.elim
  · rename_i ds
    obtain ⟨a, xs, e, ht, f⟩ := fz_tup hd
    unfold asNew at q
    cases m with
    | true => exact q.elim
    | false =>
      have f2 := f.cut lo hi
      refine .inr (.inl ⟨a, xs, e, ht.sq, fun ec => ?_, fun p o ho hp => q.newT rl f2 hp ho⟩)
      rw [ec] at f2
      subst e
      exact q.pure rl (.tup ht f2)
  · rename_i n1 n2
    cases e : listP d st with
    | none =>
      rw [e] at q
      exact q.elim
    | some ds =>
      rw [e] at q
      obtain ⟨a, xs, e1, hq, f⟩ := listP_rel rl hd e
      exact .inl ⟨a, xs, e1, hq, fun p hp => asNew_list rl (f.cut lo hi) q hp⟩
theorem e_sl {lo hi : Option Expr} {rl rh : Sl → Store → Res (Option Int)} {m : Bool} {p2 : Pos} (ha : SE X c a ra) (hl : SO X c lo rl) (hh : SO X c hi rh) :
    SE X c (.Subscript a (.Slice lo hi none p2) pos) (fun env st => (ra env st).bind fun x st => (rl env st).bind fun l st => (rh env st).bind fun h st => (asNew m (cutD x l h st) st).nox) := by
  refine PE.imp (pe_slice (sl_any m) ha hl hh) fun σ H Q h => ?_
  obtain ⟨G, L, st, env, rl, re, q⟩ := h
  refine ⟨G, L, st, env, rl, re, (q.bind (RD X.K G)).mono fun x H1 ⟨L1, st1, d, po1, rl1, hd, q1⟩ => ?_⟩
  refine ⟨G, L1, st1, env, rl1, re.mono po1, (q1.bind (fun _ _ b a => b = a)).mono fun l H2 ⟨L2, st2, e, po2, rl2, he, q2⟩ => ?_⟩
  subst he
  refine ⟨G, L2, st2, env, rl2, (re.mono po1).mono po2, (q2.bind (fun _ _ b a => b = a)).mono fun l' H3 ⟨L3, st3, e', po3, rl3, he', q3⟩ => ?_⟩
  subst he'
  exact ⟨G, L3, st3, d, rl3, RD.mono (po2.trans po3) hd, q3.nw⟩
/-! ### the other way round -/
theorem e_rv {m : Bool} {k : Nat} {p1 p2 p3 : Pos} (ha : SE X c a ra) : SE X c (.Subscript a (.Slice none none (some (.UnaryOp .USub (.Constant (.int 1) k p1) p2)) p3) pos) (fun env st => (ra env st).bind fun x st => (asNew m (revD x st) st).nox) := by
  refine ⟨fun pins s σ H Q I h => ?_⟩
  obtain ⟨G, L, st, env, rl, re, q⟩ := h
  refine Subscript_ (thn (ha.run pins s σ H _ I ⟨G, L, st, env, rl, re, q.bind (RD X.K G)⟩) fun v s1 ⟨x, H1, I1, r1, L1, st1, d, po1, rl1, hd, q1⟩ => ?_)
  have hst : PO X (some (.UnaryOp .USub (.Constant (.int 1) k p1) p2)) (tPart (tUn (rU fun i => .int (-i)) (tC (.int 1)))) := po_some (pe_un un_neg pe_int)
  refine wpAny_Slice (thn (po_none.run pins s1 σ H1 (fun o H2 => o = none ∧ H2 = H1) I1 ⟨rfl, rfl⟩) fun vl s2 ⟨l, H2, I2, pl, el, e2⟩ => ?_)
  subst el e2
  refine thn (po_none.run pins s2 σ H2 (fun o H3 => o = none ∧ H3 = H2) I2 ⟨rfl, rfl⟩) fun vu s3 ⟨u, H3, I3, pu, eu, e3⟩ => ?_
  subst eu e3
  refine thn (hst.run pins s3 σ H3 (fun o H4 => o = some (-1) ∧ H4 = H3) I3 ⟨1, rfl, -1, rfl, rfl, rfl⟩) fun vs s4 ⟨o, H4, I4, ps, eo, e4⟩ => ?_
  subst eo e4
  have I5 : L2.Inv X pins σ H4 { s4 with heap := s4.heap.push { cls := .type "slice", data := .fields #[vl, vu, vs] } } := I4.kept (t' := s4.toks) fun b ob q => Heap.get?_push_of_some _ q
  show wpAny (model X.prog X.w) X.A (subscriptTail a (.Slice none none (some (.UnaryOp .USub (.Constant (.int 1) k p1) p2)) p3) v (.ref s4.heap.objs.size)) (EP X pins σ Q) X.xe { s4 with heap := s4.heap.push { cls := .type "slice", data := .fields #[vl, vu, vs] } }
  replace q1 := q1.nw
  have lst : ∀ es, listP d st1 = some es → Nw X.K G L1 H4 (asNew m (some (.p (.list es.reverse))) st1) (RD X.K G) Q → wpAny (model X.prog X.w) X.A (subscriptTail a (.Slice none none (some (.UnaryOp .USub (.Constant (.int 1) k p1) p2)) p3) v (.ref s4.heap.objs.size)) (EP X pins σ Q) X.xe { s4 with heap := s4.heap.push { cls := .type "slice", data := .fields #[vl, vu, vs] } } := by
    intro es e q2
    obtain ⟨b, xs, e1, hq, f⟩ := listP_rel rl1 hd e
    subst e1
    cases r1
    obtain ⟨its, r, ht, hz⟩ := I5.list hq
    have hlen := r.length
    refine tail_any (ops := [.ref b, .ref s4.heap.objs.size]) ht.isList.typeIs (PySem.slot_list_getitem.lookup) ?_ (by with_unfolding_all rfl)
    refine wpAny_getItem_list_slice ht.isList (Heap.IsSliceOf.new _ vl vu vs) pl pu ps (by decide) ?_ (by rw [List.size_toArray]; omega)
    rw [PySem.W.krv_pick]
    refine ⟨.ref _, _, I5.laid (t' := s4.toks) (o := .lst xs.reverse) (fun b ob q => Heap.get?_push_of_some _ q) (Nat.le_refl _) ?_, rfl, asNew_list rl1 f.rev q2 (I5.hok.fresh (Nat.le_refl _))⟩
    exact ⟨by rw [List.length_reverse]; exact hz, _, 0, r.reverse, Heap.get?_push_size _ rfl⟩
  unfold revD at q1
  split at q1
  · rename_i ds
    obtain ⟨b, xs, e, ht, f⟩ := fz_tup hd
    subst e
    cases r1
    obtain ⟨its, r, hi, hz⟩ := I5.tuple ht.sq
    obtain ⟨tk, evs⟩ : ∃ tk, vs = .int (-1) tk := by cases ps; exact ⟨_, rfl⟩
    have evl : vl = .none := by cases pl; rfl
    have evu : vu = .none := by cases pu; rfl
    subst evs evl evu
    unfold asNew at q1
    cases m with
    | true => exact q1.elim
    | false =>
      refine tail_any (ops := [.ref b, .ref s4.heap.objs.size]) hi.typeIs (PyProof.Rows.slot_tuple_getitem.lookup) ?_ (by with_unfolding_all rfl)
      refine getItem_tup_rev hi (Heap.IsSliceOf.new _ _ _ _) (by rw [← r.length]; exact hz) ?_
      exact laidT (t' := s4.toks) I5 (fun b ob q => Heap.get?_push_of_some _ q) (Nat.le_refl _) (Heap.get?_push_size _ rfl) r.reverse (by rw [List.length_reverse]; exact hz) fun p o ho hp => q1.newT rl1 f.rev hp ho
  · exact q1.elim
  · cases e : listP d st1 with
    | none => rw [e] at q1; exact q1.elim
    | some es => rw [e] at q1; exact lst es e q1
end
end Dn
/-! Dn: methods; calls of the program's own functions. -/
namespace Dn
open PySem PySem.Spec PyProof.Rows L2
section
variable {X : Cx} {c : Wc} {a b d : Expr} {ra rb rd : Sl → Store → Res D} {pos apos p cpos : Pos} {x m : Str} {id T : String}
theorem lst_ty {K : PySem.W.Frag} {G : Off1} {L : Lc} {H : Hp} {st : Store} {v : V} {d : D} (rl : Rl K G L st H) (hd : RD K G L H v d) (h : isLst d st = true) : tyV K "list" v H := by
  unfold isLst at h
  split at h
  · split at h
    · rename_i ds e
      obtain ⟨b, e1, e2, xs, e3, f⟩ := ref_rel rl hd e (by simp)
      subst e1
      exact .inl ⟨rfl, xs, .inl (.inl e3)⟩
    · cases h
  · cases h
theorem e_m0 {g : D → Store → Res D} (slot : Slot "list" m id) (hty : typeOf (.builtin id) = pure (.type "method_descriptor")) (hm : MtR X id (rM0 X.K g)) (hz : ∀ x st, isLst x st = false → g x st = .bad) (ha : SE X c a ra) (sa : simpleE a = true)
    (hline : (apos.endLine == cpos.line) = true) : SE X c (.Call (.Attribute a m apos) [] [] cpos) (fun env st => (ra env st).bind fun x st => (g x st).nox) := by
  refine PE.imp (pe_bm0 PySem.F.plainAttrs_list slot hty hm ha (base_of sa) hline) fun σ H Q h => ?_
  obtain ⟨G, L, st, env, rl, re, q⟩ := h
  refine ⟨G, L, st, env, rl, re, (q.bind (RD X.K G)).mono fun x H1 ⟨L1, st1, d, po1, rl1, hd, q1⟩ => ?_⟩
  replace q1 := q1.nw
  have hl : isLst d st1 = true := by
    cases e : isLst d st1 with
    | true => rfl
    | false => rw [hz d st1 e] at q1; exact q1.elim
  exact ⟨lst_ty rl1 hd hl, G, L1, st1, d, rfl, rl1, hd, q1⟩
theorem e_m1 {g : D → D → Store → Res D} (slot : Slot "list" m id) (hty : typeOf (.builtin id) = pure (.type "method_descriptor")) (hm : MtR X id (rM1 X.K g)) (ha : SE X c a ra) (sa : simpleE a = true) (hb : SE X c b rb) (sb : simpleE b = true)
    (hline : (apos.endLine == cpos.line) = true) : SE X c (.Call (.Attribute a m apos) [b] [] cpos) (fun env st => (ra env st).bind fun x st => if isLst x st then (rb env st).bind fun y st => (g x y st).nox else .bad) := by
  refine PE.imp (pe_bm PySem.F.plainAttrs_list slot hty hm ha (pa_cons hb pa_nil (star_of sb)) (base_of sa) (few_of (by simp [sb]) (by simp)) hline (star_of sb) rfl) fun σ H Q h => ?_
  obtain ⟨G, L, st, env, rl, re, q⟩ := h
  refine ⟨G, L, st, env, rl, re, (q.bind (RD X.K G)).mono fun x H1 ⟨L1, st1, d, po1, rl1, hd, q1⟩ => ?_⟩
  dsimp only at q1
  split at q1
  · rename_i hl
    refine ⟨lst_ty rl1 hd hl, G, L1, st1, env, rl1, re.mono po1, (q1.bind (RD X.K G)).mono fun y H2 ⟨L2, st2, e, po2, rl2, he, q2⟩ => ?_⟩
    exact ⟨G, L2, st2, y, d, e, rfl, rl2, RD.mono po2 hd, he, q2.nw⟩
  · exact q1.elim
theorem e_m2 {g : D → D → D → Store → Res D} (slot : Slot "list" m id) (hty : typeOf (.builtin id) = pure (.type "method_descriptor")) (hm : MtR X id (rM2 X.K g)) (ha : SE X c a ra) (sa : simpleE a = true) (hb : SE X c b rb) (sb : simpleE b = true) (hd : SE X c d rd) (sd : simpleE d = true)
    (hline : (apos.endLine == cpos.line) = true) : SE X c (.Call (.Attribute a m apos) [b, d] [] cpos) (fun env st => (ra env st).bind fun x st => if isLst x st then (rb env st).bind fun y st => (rd env st).bind fun z st => (g x y z st).nox else .bad) := by
  refine PE.imp (pe_bm PySem.F.plainAttrs_list slot hty hm ha (pa_cons hb (pa_cons hd pa_nil (star_of sd)) (star_of sb)) (base_of sa) (few_of (by simp [sb, sd]) (by simp)) hline (star_of sb) (back_of (es := [d]) (by simp [sd]))) fun σ H Q h => ?_
  obtain ⟨G, L, st, env, rl, re, q⟩ := h
  refine ⟨G, L, st, env, rl, re, (q.bind (RD X.K G)).mono fun x H1 ⟨L1, st1, d, po1, rl1, hd, q1⟩ => ?_⟩
  dsimp only at q1
  split at q1
  · rename_i hl
    refine ⟨lst_ty rl1 hd hl, G, L1, st1, env, rl1, re.mono po1, (q1.bind (RD X.K G)).mono fun y H2 ⟨L2, st2, e, po2, rl2, he, q2⟩ => ?_⟩
    refine ⟨G, L2, st2, env, rl2, (re.mono po1).mono po2, (q2.bind (RD X.K G)).mono fun z H3 ⟨L3, st3, f, po3, rl3, hf, q3⟩ => ?_⟩
    exact ⟨G, L3, st3, y, z, d, e, f, rfl, rl3, RD.mono (po2.trans po3) hd, RD.mono po3 he, hf, q3.nw⟩
  · exact q1.elim
/-! ### index of a tuple, a list -/
theorem type_list_index : typeOf (.builtin "list.index") = pure (.type "method_descriptor") := by show builtinType _ = _; rw [builtinType_eq_fast]; kernel_rfl
theorem e_indx (hu : X.A.units + 70 < cLine) (ha : SE X c a ra) (sa : simpleE a = true) (hb : SE X c b rb) (sb : simpleE b = true)
    (hline : (apos.endLine == cpos.line) = true) : SE X c (.Call (.Attribute a "index" apos) [b] [] cpos) (fun env st => (ra env st).bind fun x st => if pre .indx x st then (rb env st).bind fun y st => (op2 .indx x y st).nox else .bad) := by
  refine ⟨fun pins s σ H Q I h => ?_⟩
  obtain ⟨G, L, st, env, rl, re, q⟩ := h
  refine wpAny_Call_method_late (base_of sa) (few_of (by simp [sb]) (by simp)) hline rfl (thn (ha.run pins s σ H _ I ⟨G, L, st, env, rl, re, q.bind (RD X.K G)⟩) fun v s1 ⟨x, H1, I1, r1, L1, st1, d, po1, rl1, hd, q1⟩ => ?_)
  dsimp only at q1
  by_cases hp : pre .indx d st1 = true
  · rw [if_pos hp] at q1
    have key : ∀ (T : String) (id : String), PlainAttrs T → Slot T ("index" : Str) id → typeOf (.builtin id) = pure (.type "method_descriptor") → s1.TypeIs v T → (∀ a, v = .ref a → ∃ o, s1.heap.get? a = some o ∧ o.dict = none) →
        (∀ (s2 : Shared) (H2 : Hp) (Lb : Lc) (st2 : Store) (y : V) (u : Value) (e : D), L2.Inv X pins σ H2 s2 → Po L1 H1 Lb H2 → Rl X.K G Lb st2 H2 → RD X.K G Lb H2 y e → RelV y u → Nw X.K G Lb H2 (op2 .indx d e st2) (RD X.K G) Q → wpAny (model X.prog X.w) X.A (call (.builtin id) [v, u]) (EP X pins σ Q) X.xe s2) →
        MethodOn X.prog X.w X.A "index" cpos v (backTo cpos (starEach [b] X.env)) (EP X pins σ Q) X.xe s1 := by
      intro T id pa slot hty h1 h2 run
      refine ⟨T, id, pa, slot, hty, h1, h2, ?_⟩
      have hA := (pa_cons hb pa_nil (star_of sb)).run cpos pins s1 σ H1 (fun vs H2 => ∃ Lb st2 y e, vs = [y] ∧ Po L1 H1 Lb H2 ∧ Rl X.K G Lb st2 H2 ∧ RD X.K G Lb H2 y e ∧ Nw X.K G Lb H2 (op2 .indx d e st2) (RD X.K G) Q) I1
        ⟨G, L1, st1, env, rl1, re.mono po1, (q1.bind (RD X.K G)).mono fun y H2 ⟨Lb, st2, e, po2, rl2, he, q2⟩ => ⟨Lb, st2, y, e, rfl, po2, rl2, he, q2.nw⟩⟩
      rw [star_of sb] at hA ⊢
      refine Calls.callWith_builtin rfl (Calls.evalArgs_plain ?_)
      refine thn hA fun us s2 ⟨vs, H2, I2, r2, Lb, st2, y, e, ev, po2, rl2, he, q2⟩ => ?_
      subst ev
      obtain ⟨u, rfl, ru⟩ := vals1 r2
      exact run s2 H2 Lb st2 y u e I2 po2 rl2 he ru q2
    have lstCase : tyV X.K "list" x H1 → (∀ e st, op2 .indx d e st = match e with
        | .p z => (match listP d st with
          | some ds => if (inP z ds).isSome then Res.of st ((idxOf z ds).map fun (j : Nat) => .p (.int (j : Int))) else .bad
          | none => .bad)
        | _ => .bad) → MethodOn X.prog X.w X.A "index" cpos v (backTo cpos (starEach [b] X.env)) (EP X pins σ Q) X.xe s1 := fun ty hop => by
      obtain ⟨h1, h2⟩ := tyV_is I1 r1 ty
      refine key "list" "list.index" PySem.F.plainAttrs_list PySem.F.slot_list_index type_list_index h1 h2 fun s2 H2 Lb st2 y u e I2 po2 rl2 he ru q2 => ?_
      rw [hop] at q2
      cases e with
      | r k => exact q2.elim
      | p z =>
        simp only at q2
        cases el : listP d st2 with
        | none => rw [el] at q2; exact q2.elim
        | some ds =>
          rw [el] at q2
          simp only at q2
          obtain ⟨t, xs, e1, hq, f⟩ := listP_rel rl2 (RD.mono po2 hd) el
          subst e1
          cases r1
          split at q2
          · rename_i hp2
            obtain ⟨j, ej, q3⟩ := Nw.of_map q2
            exact indx_list hu I2 hq f.dp f.lay (Fz.dp _ _ he) ru (Fz.lay _ _ he) hp2 ej (q3.pure rl2 (by exact Fz.int _))
          · exact q2.elim
    cases d with
    | r k =>
      exact lstCase (lst_ty rl1 hd hp) fun e st => by cases e <;> rfl
    | p dd =>
      cases dd with
      | list ds =>
        obtain ⟨t, xs, e1, ht, f⟩ := fz_lst hd
        exact lstCase (e1 ▸ .inl ⟨rfl, xs, ht.sq⟩) fun e st => by cases e <;> rfl
      | tuple ds =>
        obtain ⟨t, xs, e1, ht, f⟩ := fz_tup hd
        subst e1
        cases r1
        obtain ⟨its, rv, hi, _⟩ := I1.tuple ht.sq
        have hdn : ∀ a, Value.ref t = .ref a → ∃ o, s1.heap.get? a = some o ∧ o.dict = none := fun a ea => by
          cases ea
          rcases ht with ⟨o, e, hd0, _⟩ | ⟨o, _, _, lk, _, hd0, _⟩
          · obtain ⟨e2, _⟩ := I1.hok t _ e
            exact ⟨o, e2, hd0⟩
          · exact ⟨o, I1.kIn t o lk, hd0⟩
        refine key "tuple" "tuple.index" PySem.F.plainAttrs_tuple PySem.F.slot_tuple_index PySem.F.type_tuple_index hi.typeIs hdn fun s2 H2 Lb st2 y u e I2 po2 rl2 he ru q2 => ?_
        cases e with
        | r k => exact q2.elim
        | p z =>
          replace q2 : Nw X.K G Lb H2 (if (inP z ds).isSome then Res.of st2 ((idxOf z ds).map fun (j : Nat) => .p (.int (j : Int))) else .bad) (RD X.K G) Q := q2
          split at q2
          · rename_i hp2
            obtain ⟨j, ej, q3⟩ := Nw.of_map q2
            have ht2 := ht.mono po2.keep
            have f2 := FzA.mono po2.keep _ _ f
            exact indx_tup hu I2 ht2.sq f2.dp f2.lay (Fz.dp _ _ he) ru (Fz.lay _ _ he) hp2 ej (q3.pure rl2 (by exact Fz.int _))
          · exact q2.elim
      | _ => cases hp
  · rw [if_neg hp] at q1
    exact q1.elim
end
end Dn
/-! Dn: calls of the program's own functions; freezing. -/
namespace Dn
open PySem PySem.Spec PyProof.Rows L2
/-- what a call of the function number f does -/
def spD (K : PySem.W.Frag) (c : Wc) (Φ : Calls) (f n : Nat) : Sp := fun vs H Q E => vs.length = n ∧ ∃ G L st ds, Rl K G L st H ∧ RDs K G L H vs ds ∧ Aft K (c.to E) G L H [] (Φ f ds st) (RD K G) Q
section
variable {K : PySem.W.Frag} {c : Wc} {G : Off1} {L : Lc} {H : Hp} {σ : Sg} {st : Store}
theorem Aft.toE {α β : Type} {r : Res α} {Rel : Lc → Hp → β → α → Prop} {Q : β → Hp → Prop} (h : Aft K c G L H σ r Rel Q) : Aft K (c.to (fun cls dd H => c.W cls dd σ H)) G L H [] r Rel Q := by
  cases r with
  | ok a st' => exact h
  | ex k fs st' => exact h
  | bad => exact h
/-- a call that works on a store of its own: what the caller's store is meanwhile -/
theorem pure_rl (rl : Rl K G L st H) : Rl K (Off G L) [] [] H := ⟨rfl, fun i j a e => by simp at e, fun i a o e => by simp at e, fun a h => by
  rcases h with h | ⟨i, e⟩
  · exact rl.gtr a h
  · simp at e, fun a ⟨i, e⟩ => by simp at e, fun i e => by simp at e⟩
theorem nil_live {b : Addr} : ¬ Live [] b := fun ⟨i, e⟩ => by simp at e
theorem pure_po {L' : Lc} {H' : Hp} (po : Po [] H L' H') : Po L H L H' := ⟨fun b u e _ => po.kp b u e nil_live, po.st, Nat.le_refl _, fun _ _ _ e => e, fun k b h e => by
  have := (List.getElem?_eq_some_iff.mp e).1
  omega⟩
theorem pure_back {L' : Lc} {H' : Hp} (rl : Rl K G L st H) (po : Po [] H L' H') : Rl K G L st H' where
  len := rl.len
  inj := rl.inj
  obj := fun i a o e1 e2 => (rl.obj i a o e1 e2).mono (pure_po po) fun u e => po.kp a u e nil_live
  gtr := fun a h => by
    obtain ⟨o, e⟩ := rl.gtr a h
    exact po.st a o e
  out := rl.out
  ded := rl.ded
theorem keep_off {O O' : Off1} {H : Hp} (h : ∀ b, O' b → O b) : Keep O H O' H := ⟨fun _ _ e _ => e, fun b x => .inl (h b x)⟩
theorem pure_args {vs : List V} : ∀ {ds : List D} {xs : List PyData}, RDs K G L H vs ds → allP ds = some xs → RDs K (Off G L) [] H vs (xs.map .p) := fun {ds xs} h e => by
  have f := allP_rel h e
  exact mapP_rel (FzA.mono (keep_off fun b z => by
    rcases z with z | z
    · exact z
    · exact absurd z nil_live) _ _ f)
/-- .. and what it hands back -/
theorem pure_ret {L' : Lc} {st' : Store} {H' : Hp} {v : V} {d : D} {x : PyData} (rl' : Rl K (Off G L) L' st' H') (hd : RD K (Off G L) L' H' v d) (e : thaw d st' = some x) : RD K G L H' v (.p x) := by
  have ko : Keep (Off (Off G L) L') H' (Off G L) H' := keep_off fun b z => .inl z
  unfold thaw at e
  split at e
  · cases e
    exact Fz.mono ko _ _ hd
  · split at e
    · rename_i k o ds es
      simp only [Option.map_eq_some_iff] at e
      obtain ⟨xs, e1, rfl⟩ := e
      obtain ⟨a, e2, e3, us, e4, f⟩ := ref_rel rl' hd es (by simp)
      subst e2
      exact .lst (.inl ⟨.inl e4, rl'.out a ⟨k, e3⟩⟩) (FzA.mono ko _ _ (allP_rel f e1))
    · cases e
theorem pure_aft {α : Type} {Φ : Calls} {f : Nat} {vs : List V} {ds : List D} {xs : List PyData} {Q : V → Hp → Prop} (rl : Rl K G L st H) (hv : RDs K G L H vs ds) (e : allP ds = some xs)
    (h : Aft K c G L H σ (runP Φ f xs st) (RD K G) Q) : Aft K c (Off G L) [] H σ (Φ f (xs.map .p) []) (RD K (Off G L)) Q := by
  unfold runP at h
  cases r : Φ f (xs.map .p) [] with
  | ok d st' =>
    rw [r] at h
    simp only at h
    intro v L' H' po rl' hd
    cases t : thaw d st' with
    | none => rw [t] at h; exact h.elim
    | some x =>
      rw [t] at h
      exact h v L H' (pure_po po) (pure_back rl po) (pure_ret rl' hd t)
  | ex k fs st' =>
    rw [r] at h
    intro cls dd L' H' po rl' hx
    exact h cls dd L H' (pure_po po) (pure_back rl po) (c.xm (fun b z => .inl z) hx)
  | bad => rw [r] at h; exact h.elim
end
/-- a way of calling with keywords: how many by place, the keywords' names, where each parameter's value stands -/
abbrev Kw := Nat × List Str × List Nat
def permV {α : Type} (z : α) (pm : List Nat) (l : List α) : List α := pm.map fun i => l.getD i z
def KwB (K : PySem.W.Frag) (fd : FuncData) (ps : List Str) (q : Kw) : Prop := ∀ (s : Shared) (us ws : List Value), K.In s.heap → us.length = q.1 → ws.length = q.2.1.length → BindsTo s fd ⟨us, q.2.1.zip ws⟩ (ps.zip (permV Value.none q.2.2 (us ++ ws)))
/-- a function of the program as the frame X sees it -/
structure FnX (X : Cx) (c : Wc) (Φ : Calls) (f n : Nat) (kw : List Kw) (x : Str) : Prop where
  ex : ∃ (fa : Addr) (fd : FuncData) (ps : List Str) (k : Nat), FnOk X.prog X.w X.K X.mg X.base (L2.CX X.prog X.w) k fa fd ps (spD X.K c Φ f n) ∧ Room k X.A ∧ X.mg x = some (.ref fa) ∧ PySem.W.keepIn X.K (.ref fa) = true ∧ Binds X.K fd ps [] ∧ ∀ q ∈ kw, KwB X.K fd ps q
section
variable {X : Cx} {c : Wc} {pos p : Pos} {x : Str} {e : Expr} {es : List Expr} {rs : Sl → Store → Res (List D)} {Φ : Calls} {f n : Nat}
theorem spD_iff {K : PySem.W.Frag} {c c' : Wc} (h : c.xr = c'.xr) {Φ : Calls} {f n : Nat} : spD K c Φ f n = spD K c' Φ f n := by
  obtain ⟨W, xr, xm⟩ := c
  obtain ⟨W', xr', xm'⟩ := c'
  cases h
  rfl
theorem e_call {pu : Bool} {kw : List Kw} (F : FnX X c Φ f n kw x) (tk : Takes X c.W) (hg : Gl X x) (hdb : (x == ("__debug__" : Str)) = false) (ha : SA X c (e :: es) rs) (hl : (e :: es).length = n) (hs : (e :: es).all simpleE = true)
    (hlen : ∀ env st ds st', rs env st = .ok ds st' → ds.length = (e :: es).length) :
    SE X c (.Call (.Name x p) (e :: es) [] pos) (fun env st => (rs env st).bind fun ds st => callD Φ pu f ds st) := by
  obtain ⟨fa, fd, ps, k, F, hr, hm, hk, hb, _⟩ := F.ex
  rw [List.all_cons, Bool.and_eq_true] at hs
  refine PE.imp (pe_callS F hr hg hm hk hb (fun σ => passAt tk σ) ha hdb (star_of hs.1) (back_of hs.2)) fun σ H Q h => ?_
  obtain ⟨G, L, st, env, rl, re, q⟩ := h
  dsimp only at q
  cases ea : rs env st with
  | bad => rw [ea] at q; exact q.elim
  | ex k fs st' => exact ⟨G, L, st, env, rl, re, by rw [ea] at q ⊢; exact q⟩
  | ok ds st1 =>
    refine ⟨G, L, st, env, rl, re, ?_⟩
    rw [ea] at q ⊢
    intro vs L1 H1 po1 rl1 hv
    have hlv : vs.length = n := by rw [Paired.length hv, hlen env st ds st1 ea, hl]
    have q1 : Aft X.K c G L1 H1 σ (callD Φ pu f ds st1) (RD X.K G) Q := Aft.shift po1 q
    refine ⟨hlv, ?_⟩
    unfold callD at q1
    cases pu with
    | false => exact ⟨G, L1, st1, ds, rl1, hv, Aft.toE q1⟩
    | true =>
      simp only [if_true] at q1
      cases ep : allP ds with
      | none => rw [ep] at q1; exact q1.elim
      | some xs =>
        rw [ep] at q1
        simp only at q1
        exact ⟨Off G L1, [], [], xs.map .p, pure_rl rl1, pure_args hv ep, Aft.toE (pure_aft (α := Unit) rl1 hv ep q1)⟩
/-- nothing happens in Python, but the list will not change any more -/
theorem e_frz {a : Expr} {ra : Sl → Store → Res D} (ha : SE X c a ra) : SE X c a (fun env st => (ra env st).bind fun x st => (op1 .frz x st).nox) := by
  refine PE.imp ha fun σ H Q h => ?_
  obtain ⟨G, L, st, env, rl, re, q⟩ := h
  refine ⟨G, L, st, env, rl, re, (q.bind (RD X.K G)).mono fun x H1 ⟨L1, st1, d, po1, rl1, hd, q1⟩ => ?_⟩
  replace q1 := q1.nw
  unfold op1 at q1
  simp only at q1
  split at q1
  · rename_i k
    cases el : listP (.r k) st1 with
    | none => rw [el] at q1; exact q1.elim
    | some es =>
      rw [el] at q1
      have el2 := el
      unfold listP at el2
      simp only at el2
      split at el2
      · rename_i ds es2
        obtain ⟨b, e2, e3, us, e4, f⟩ := ref_rel rl1 hd es2 (by simp)
        subst e2
        obtain ⟨h1, h2, h3⟩ := rl1.freeze e3
        have f2 := allP_rel f el2
        refine q1 _ _ _ h2 h1 (.lst (.inl ⟨.inl e4, h3⟩) (FzA.mono h2.keep _ _ f2))
      · cases el2
  · exact q1.pure rl1 hd
end
end Dn
/-! Dn: more operators; calls with keywords. -/
namespace Dn
open PySem PySem.Spec PyProof.Rows L2
section
variable {X : Cx} {c : Wc} {a b d : Expr} {ra rb rd : Sl → Store → Res D} {pos apos p cpos : Pos} {x : Str}
theorem o_mul : OpR X (binaryOp .Mult) (rD X.K (op2 .mul)) := by
  refine OpR.imp op_mul fun x y H Q h => ?_
  obtain ⟨G, L, st, d, e, rl, hd, he, q⟩ := h
  unfold op2 at q
  simp only at q
  split at q
  · rename_i i j
    split at q
    · rename_i hm
      refine ⟨i, j, fz_int hd, fz_int he, ?_, q.pure rl (.int _)⟩
      unfold mulOk at hm
      simp only [Bool.or_eq_true, decide_eq_true_eq] at hm
      unfold CMul
      rcases hm with hm | hm
      · left; omega
      · right; omega
    · exact q.elim
  · exact q.elim
theorem o_band : OpR X (binaryOp .BitAnd) (rD X.K (op2 .band)) := by
  refine OpR.imp op_and fun x y H Q h => ?_
  obtain ⟨G, L, st, d, e, rl, hd, he, q⟩ := h
  unfold op2 at q
  simp only at q
  split at q
  · exact ⟨_, _, fz_int hd, fz_int he, q.pure rl (.int _)⟩
  · exact q.elim
theorem o_shr : OpR X (binaryOp .RShift) (rD X.K (op2 .shr)) := by
  refine OpR.imp op_shr fun x y H Q h => ?_
  obtain ⟨G, L, st, d, e, rl, hd, he, q⟩ := h
  unfold op2 at q
  simp only at q
  split at q
  · split at q
    · rename_i hj
      exact ⟨_, _, fz_int hd, fz_int he, hj, q.pure rl (.int _)⟩
    · exact q.elim
  · exact q.elim
theorem up1_eq (n : Nat) : PyProof.Rows.up1 n = upC n := by
  unfold PyProof.Rows.up1 upC
  first | rfl | (split <;> split <;> first | rfl | omega)
theorem e_upper (ha : SE X c a ra) (sa : simpleE a = true) (hline : (apos.endLine == cpos.line) = true) : SE X c (.Call (.Attribute a "upper" apos) [] [] cpos) (fun env st => (ra env st).bind fun x st => (op1 .upper x st).nox) := by
  refine PE.imp (pe_upper ha (base_of sa) hline) fun σ H Q h => ?_
  obtain ⟨G, L, st, env, rl, re, q⟩ := h
  refine ⟨G, L, st, env, rl, re, (q.bind (RD X.K G)).mono fun x H1 ⟨L1, st1, d, po1, rl1, hd, q1⟩ => ?_⟩
  replace q1 := q1.nw
  unfold op1 at q1
  simp only at q1
  split at q1
  · rename_i z
    obtain ⟨y, e, q2⟩ := Nw.of_map q1
    obtain ⟨e1, hz⟩ := fz_str hd
    unfold upS at e
    split at e
    · rename_i hall
      cases e
      rw [Bool.and_eq_true] at hall
      have hl : z.length ≤ 5592405 := of_decide_eq_true hall.2
      have hcc : ∀ c ∈ z.cps.toList, c < 128 := fun c hc => of_decide_eq_true (List.all_eq_true.mp hall.1 c hc)
      have eu : Txt.upper z = ⟨(z.cps.toList.map upC).toArray⟩ := by
        rw [PyProof.Rows.upper_ascii (x := z) fun c hc => hcc c (by first | exact hc | simpa using hc)]
        have : (z.cps.map PyProof.Rows.up1).toList = z.cps.toList.map upC := by
          rw [Array.toList_map]
          exact List.map_congr_left fun n _ => up1_eq n
        rw [← this]
      refine ⟨⟨z, e1⟩, z, e1, rfl, hl, ?_⟩
      rw [eu]
      refine q2.pure rl1 (.str _ (sOk.mk (fun n hn => ?_) ?_))
      · obtain ⟨m, hm, rfl⟩ := List.mem_map.mp hn
        have := hcc m hm
        unfold upC
        split <;> omega
      · rw [List.length_map, str_len, sizeLine_eq]; omega
    · cases e
  · exact q1.elim
/-! ### calls with keywords -/
theorem permV_rel {K : PySem.W.Frag} {G : Off1} {L : Lc} {H : Hp} {vs : List V} {ds : List D} (h : RDs K G L H vs ds) : ∀ {pm : List Nat} {es : List D}, permD pm ds = some es → RDs K G L H (permV V.non pm vs) es
  | [], es, e => by cases e; exact .nil
  | i :: pm, es, e => by
    unfold permD at e
    rw [List.mapM_cons] at e
    cases e1 : ds[i]? with
    | none => rw [e1] at e; cases e
    | some d =>
      rw [e1] at e
      cases e2 : permD pm ds with
      | none =>
        unfold permD at e2
        rw [e2] at e; cases e
      | some r =>
        have e2' := e2
        unfold permD at e2'
        rw [e2'] at e
        cases e
        obtain ⟨v, h1, h2⟩ := h.get e1
        refine .cons ?_ (permV_rel h e2)
        show RD K G L H (vs.getD i V.non) d
        rw [List.getD_eq_getElem?_getD, h1]
        exact h2
theorem permVals : ∀ {pm : List Nat} {vs : List V} {us : List Value}, Vals vs us → Vals (permV V.non pm vs) (permV Value.none pm us)
  | [], _, _, _ => .nil
  | i :: pm, vs, us, r => by
    refine .cons ?_ (permVals (pm := pm) r)
    show RelV (vs.getD i V.non) (us.getD i Value.none)
    rw [List.getD_eq_getElem?_getD, List.getD_eq_getElem?_getD]
    cases e : vs[i]? with
    | none =>
      have hl := r.length
      rw [List.getElem?_eq_none (by have := List.getElem?_eq_none_iff.mp e; omega)]
      rfl
    | some v =>
      obtain ⟨u, h1, h2⟩ := r.get e
      rw [h1]
      exact h2
theorem permD_len {pm : List Nat} {ds es : List D} (h : permD pm ds = some es) : es.length = pm.length := by
  induction pm generalizing es with
  | nil => cases h; rfl
  | cons i pm ih =>
    unfold permD at h
    rw [List.mapM_cons] at h
    cases e1 : ds[i]? with
    | none => rw [e1] at h; cases h
    | some d =>
      rw [e1] at h
      cases e2 : permD pm ds with
      | none =>
        unfold permD at e2
        rw [e2] at h; cases h
      | some r =>
        have e2' := e2
        unfold permD at e2'
        rw [e2'] at h
        cases h
        simp [ih e2]
end
section
variable {X : Cx} {c : Wc} {pos p : Pos} {x : Str} {e : Expr} {es : List Expr} {kws : List Keyword} {rs rs2 : Sl → Store → Res (List D)} {ra : Sl → Store → Res D} {Φ : Calls} {f n : Nat}
abbrev SK (X : Cx) (c : Wc) (kws : List Keyword) (r : Sl → Store → Res (List D)) : Prop := PK X kws (tAr X.K c r)
theorem PK.imp {X : Cx} {e : List Keyword} {t t' : TA} (h : PK X e t) (hi : ∀ σ H Q, t' σ H Q → t σ H Q) : PK X e t' := ⟨fun pos pins s σ H Q I q => h.run pos pins s σ H Q I (hi σ H Q q)⟩
theorem k_nil : SK X c [] (fun _ st => .ok [] st) := by
  refine PK.imp pk_nil fun σ H Q h => ?_
  obtain ⟨G, L, st, env, rl, re, q⟩ := h
  exact q.now rl .nil
theorem k_cons {a : Expr} {nm : Option Str} {kpos : Pos} (ha : SE X c a ra) (hs : SK X c kws rs) : SK X c (⟨nm, a, kpos⟩ :: kws) (fun env st => (ra env st).bind fun d st => (rs env st).bind fun ds st => .ok (d :: ds) st) := by
  refine PK.imp (pk_cons ha hs) fun σ H Q h => ?_
  obtain ⟨G, L, st, env, rl, re, q⟩ := h
  refine ⟨G, L, st, env, rl, re, (q.bind (RD X.K G)).mono fun x H1 ⟨L1, st1, d, po1, rl1, hd, q1⟩ => ?_⟩
  refine ⟨G, L1, st1, env, rl1, re.mono po1, (q1.bind (RDs X.K G)).mono fun y H2 ⟨L2, st2, e, po2, rl2, he, q2⟩ => ?_⟩
  exact q2.now rl2 (.cons (RD.mono po2 hd) he)
def kwNames : List Keyword → Option (List Str)
  | [] => some []
  | ⟨some x, _, _⟩ :: r => (kwNames r).map (x :: ·)
  | ⟨none, _, _⟩ :: _ => none
theorem kwNames_ok {env : Env} : ∀ {kws : List Keyword} {ks : List Str}, kwNames kws = some ks → (backToKw pos (keywordEach kws env)).all (·.1.isSome) = true ∧ (backToKw pos (keywordEach kws env)).filterMap (·.1) = ks ∧ (backToKw pos (keywordEach kws env)).any (·.1.isNone) = false
  | [], ks, h => by cases h; exact ⟨rfl, rfl, rfl⟩
  | ⟨some x, v, q⟩ :: r, ks, h => by
    simp only [kwNames, Option.map_eq_some_iff] at h
    obtain ⟨l, h1, rfl⟩ := h
    obtain ⟨g1, g2, g3⟩ := kwNames_ok (env := env) h1
    refine ⟨?_, ?_, ?_⟩
    · show (true && _) = true
      rw [Bool.true_and]; exact g1
    · show x :: _ = x :: l
      rw [← g2]; rfl
    · show (false || _) = false
      rw [Bool.false_or]; exact g3
  | ⟨none, v, q⟩ :: r, ks, h => by cases h
theorem Vals.app {xs ys : List V} {us ws : List Value} (h : Vals xs us) (h2 : Vals ys ws) : Vals (xs ++ ys) (us ++ ws) := h.append h2
theorem callk_fin {pu : Bool} {ks : List Str} {pm : List Nat} {pins : List (Addr × Obj)} {σ : Sg} {Q : VK} {G : Off1} {m k : Nat} {fa : Addr} {fd : FuncData} {ps : List Str} (tk : Takes X c.W) (F : FnOk X.prog X.w X.K X.mg X.base (L2.CX X.prog X.w) k fa fd ps (spD X.K c Φ f pm.length)) (hr : Room k X.A) (hbq : KwB X.K fd ps (m, ks, pm)) :
    ∀ (s2 : Shared) (H2 : Hp) (vs zs : List V) (us ws : List Value) (Lb : Lc) (st2 : Store) (ds gs : List D), L2.Inv X pins σ H2 s2 → Vals vs us → Vals zs ws → Rl X.K G Lb st2 H2 → RDs X.K G Lb H2 vs ds → RDs X.K G Lb H2 zs gs → ds.length = m → gs.length = ks.length →
      Aft X.K c G Lb H2 σ (match permD pm (ds ++ gs) with
        | some ds => callD Φ pu f ds st2
        | none => .bad) (RD X.K G) Q → wpAny (model X.prog X.w) X.A (call (.ref fa) us (ks.zip ws)) (EP X pins σ Q) X.xe s2 := by
  intro s2 H2 vs zs us ws Lb st2 ds gs I2 rv rz rl2 hv hz l1 l2 q2
  have hvz : RDs X.K G Lb H2 (vs ++ zs) (ds ++ gs) := RDs.app hv hz
  cases ep : permD pm (ds ++ gs) with
  | none => rw [ep] at q2; exact q2.elim
  | some es' =>
    rw [ep] at q2
    simp only at q2
    have hp := permV_rel hvz ep
    have rp : Vals (permV V.non pm (vs ++ zs)) (permV Value.none pm (us ++ ws)) := permVals (rv.append rz)
    have lv : us.length = m := by rw [← rv.length, Paired.length hv, l1]
    have lz : ws.length = ks.length := by rw [← rz.length, Paired.length hz, l2]
    have hb2 := hbq s2 us ws I2.kIn lv lz
    have hsp : spD X.K c Φ f pm.length (permV V.non pm (vs ++ zs)) H2 Q (fun cls dd H => c.W cls dd σ H) := by
      refine ⟨by simp [permV], ?_⟩
      unfold callD at q2
      cases pu with
      | false => exact ⟨G, Lb, st2, es', rl2, hp, Aft.toE q2⟩
      | true =>
        simp only [if_true] at q2
        cases ea : allP es' with
        | none => rw [ea] at q2; exact q2.elim
        | some xs =>
          rw [ea] at q2
          simp only at q2
          exact ⟨Off G Lb, [], [], xs.map .p, pure_rl rl2, pure_args hp ea, Aft.toE (pure_aft (α := Unit) rl2 hp ea q2)⟩
    refine wpAny_call (codeAny_mono (F.run X.A X.stack s2 H2 ⟨us, ks.zip ws⟩ _ _ Q _ hr I2.env0 hb2 rp hsp) fun r s' hq => ?_)
    cases r with
    | error e => exact passAt tk σ pins H2 s2 e s' I2 hq
    | ok fl =>
      cases fl with
      | ret u => exact I2.after hq
      | next => exact False.elim hq
      | brk => exact False.elim hq
      | cont => exact False.elim hq
theorem e_callk {pu : Bool} {kw : List Kw} {ks : List Str} {pm : List Nat} (F : FnX X c Φ f pm.length kw x) (tk : Takes X c.W) (hg : Gl X x) (hdb : (x == ("__debug__" : Str)) = false) (ha : SA X c (e :: es) rs) (hkw : SK X c kws rs2) (hq : ((e :: es).length, ks, pm) ∈ kw) (hks : kwNames kws = some ks) (hs : (e :: es).all simpleE = true)
    (hlen : ∀ env st ds st', rs env st = .ok ds st' → ds.length = (e :: es).length) (hlen2 : ∀ env st ds st', rs2 env st = .ok ds st' → ds.length = ks.length) :
    SE X c (.Call (.Name x p) (e :: es) kws pos) (fun env st => (rs env st).bind fun ds st => (rs2 env st).bind fun gs st => match permD pm (ds ++ gs) with
      | some ds => callD Φ pu f ds st
      | none => .bad) := by
  obtain ⟨fa, fd, ps, k, F, hr, hm, hk, hb, hkb⟩ := F.ex
  have hbq := hkb _ hq
  obtain ⟨n1, n2, n3⟩ := kwNames_ok (pos := pos) (env := X.env) hks
  refine ⟨fun pins s σ H Q I h => ?_⟩
  obtain ⟨G, L, st, env, rl, re, q⟩ := h
  refine wpAny_Call_Name_kw (ld_glob I hg hm ?_ hdb)
  have hs2 := hs
  rw [List.all_cons, Bool.and_eq_true] at hs2
  have hA : tAr X.K c rs σ H (fun vs H1 => ∃ L1 st1 ds, ds.length = (e :: es).length ∧ Rl X.K G L1 st1 H1 ∧ RE X.K G L1 H1 σ env ∧ RDs X.K G L1 H1 vs ds ∧ Aft X.K c G L1 H1 σ ((rs2 env st1).bind fun gs st => match permD pm (ds ++ gs) with
      | some ds => callD Φ pu f ds st
      | none => .bad) (RD X.K G) Q) := by
    refine ⟨G, L, st, env, rl, re, ?_⟩
    dsimp only at q
    cases ea : rs env st with
    | bad => rw [ea] at q; exact q.elim
    | ex kk fs st' => rw [ea] at q; exact q
    | ok ds st1 =>
      rw [ea] at q
      intro vs L1 H1 po1 rl1 hv
      exact ⟨L1, st1, ds, hlen _ _ _ _ ea, rl1, re.mono po1, hv, Aft.shift po1 q⟩
  refine PySem.W.callWith_KW (h₀ := X.base) I.ok.mod.kin hk n1 (thn (ha.run pos pins s σ H _ I hA) fun us s1 ⟨vs, H1, I1, r, L1, st1, ds, hl, rl1, re1, hv, q1⟩ => ?_) (by rw [back_of hs, n3]; rfl) (star_of hs2.1)
  have hB : tAr X.K c rs2 σ H1 (fun zs H2 => ∃ L2 st2 gs, gs.length = ks.length ∧ Rl X.K G L2 st2 H2 ∧ RDs X.K G L2 H2 vs ds ∧ RDs X.K G L2 H2 zs gs ∧ Aft X.K c G L2 H2 σ (match permD pm (ds ++ gs) with
      | some ds => callD Φ pu f ds st2
      | none => .bad) (RD X.K G) Q) := by
    refine ⟨G, L1, st1, env, rl1, re1, ?_⟩
    cases ea : rs2 env st1 with
    | bad => rw [ea] at q1; exact q1.elim
    | ex kk fs st' => rw [ea] at q1; exact q1
    | ok gs st2 =>
      rw [ea] at q1
      intro zs L2 H2 po2 rl2 hz
      exact ⟨L2, st2, gs, hlen2 _ _ _ _ ea, rl2, RDs.mono po2 hv, hz, Aft.shift po2 q1⟩
  refine thn (hkw.run pos pins s1 σ H1 _ I1 hB) fun ws s2 ⟨zs, H2, I2, rz, L2, st2, gs, hl2, rl2, hv2, hz, q2⟩ => ⟨I2.kIn, ?_⟩
  rw [n2]
  exact callk_fin tk F hr hbq s2 H2 vs zs us ws L2 st2 ds gs I2 r rz rl2 hv2 hz hl hl2 q2
theorem e_callk0 {pu : Bool} {kw : List Kw} {ks : List Str} {pm : List Nat} (F : FnX X c Φ f pm.length kw x) (tk : Takes X c.W) (hg : Gl X x) (hdb : (x == ("__debug__" : Str)) = false) (hkw : SK X c kws rs2) (hq : (0, ks, pm) ∈ kw) (hks : kwNames kws = some ks)
    (hlen2 : ∀ env st ds st', rs2 env st = .ok ds st' → ds.length = ks.length) :
    SE X c (.Call (.Name x p) [] kws pos) (fun env st => (rs2 env st).bind fun gs st => match permD pm gs with
      | some ds => callD Φ pu f ds st
      | none => .bad) := by
  obtain ⟨fa, fd, ps, k, F, hr, hm, hk, hb, hkb⟩ := F.ex
  have hbq := hkb _ hq
  obtain ⟨n1, n2, n3⟩ := kwNames_ok (pos := pos) (env := X.env) hks
  refine ⟨fun pins s σ H Q I h => ?_⟩
  obtain ⟨G, L, st, env, rl, re, q⟩ := h
  refine wpAny_Call_Name_kw (ld_glob I hg hm ?_ hdb)
  have hB : tAr X.K c rs2 σ H (fun zs H2 => ∃ L2 st2 gs, gs.length = ks.length ∧ Rl X.K G L2 st2 H2 ∧ RDs X.K G L2 H2 zs gs ∧ Aft X.K c G L2 H2 σ (match permD pm ([] ++ gs) with
      | some ds => callD Φ pu f ds st2
      | none => .bad) (RD X.K G) Q) := by
    refine ⟨G, L, st, env, rl, re, ?_⟩
    dsimp only at q
    cases ea : rs2 env st with
    | bad => rw [ea] at q; exact q.elim
    | ex kk fs st' => rw [ea] at q; exact q
    | ok gs st2 =>
      rw [ea] at q
      intro zs L2 H2 po2 rl2 hz
      exact ⟨L2, st2, gs, hlen2 _ _ _ _ ea, rl2, hz, Aft.shift po2 q⟩
  refine PySem.W.callWith_KW0 (h₀ := X.base) I.ok.mod.kin hk n1 (thn (hkw.run pos pins s σ H _ I hB) fun ws s2 ⟨zs, H2, I2, rz, L2, st2, gs, hl2, rl2, hz, q2⟩ => ⟨I2.kIn, ?_⟩) (by show (false || _) = false; rw [n3]; rfl)
  rw [n2]
  exact callk_fin (m := 0) tk F hr hbq s2 H2 [] zs [] ws L2 st2 [] gs I2 .nil rz rl2 .nil hz rfl hl2 q2
end
end Dn
/-! Dn: what is walked; targets; comprehensions. -/
namespace Dn
open PySem PySem.Spec PyProof.Rows L2
def ItR (K : PySem.W.Frag) (G : Off1) (L : Lc) (H : Hp) (x : V) : It → Prop
  | .one d => RD K G L H x d
  | .two d e => ∃ T a b, x = .ref T ∧ H T = some (.tup [a, b]) ∧ RD K G L H a d ∧ RD K G L H b e
/-- the iterator J walks xs -/
structure Wk (K : PySem.W.Frag) (G : Off1) (L : Lc) (H : Hp) (J : L2.It) (ds : List D) (st0 : Store) (xs : List It) : Prop where
  item : ∀ (i : Nat) (L' : Lc) (st' : Store) (H' : Hp) (it : It) (G' : Off1), Po L H L' H' → (∀ b, G' b → G b ∨ H b = none) → Rl K G' L' st' H' → still ds st0 st' = true → xs[i]? = some it →
    J.go i H' ∧ ∀ x H2, J.yld i H' x H2 → Po L' H' L' H2 ∧ Rl K G' L' st' H2 ∧ ItR K G' L' H2 x it
  stop : ∀ (i : Nat) (L' : Lc) (st' : Store) (H' : Hp) (G' : Off1), Po L H L' H' → (∀ b, G' b → G b ∨ H b = none) → Rl K G' L' st' H' → still ds st0 st' = true → xs.length ≤ i → J.stop i H'
theorem keepG {G G' : Off1} {L L' : Lc} {H H' : Hp} (p : Po L H L' H') (hg : ∀ b, G' b → G b ∨ H b = none) : Keep (Off G L) H (Off G' L') H' where
  kp := fun b u e n => p.kp b u e fun z => n (.inr z)
  no := fun b h => by
    rcases h with h | h
    · rcases hg b h with h | h
      · exact .inl (.inl h)
      · exact .inr h
    · rcases p.live h with r | r
      · exact .inl (.inr r)
      · exact .inr r
theorem RD.monoG {K : PySem.W.Frag} {G G' : Off1} {L L' : Lc} {H H' : Hp} (p : Po L H L' H') (hg : ∀ b, G' b → G b ∨ H b = none) : ∀ {v : V} {d : D}, RD K G L H v d → RD K G' L' H' v d
  | _, .p d, h => Fz.mono (keepG p hg) d _ h
  | v, .r k, h => by
    obtain ⟨a, e, hk, hb⟩ := h
    exact ⟨a, e, Nat.lt_of_lt_of_le hk p.le, fun b z => hb b (p.old k b hk z)⟩
def walkR (k : Nat) (rs : Sl → Store → Res (List D)) : Sl → Store → Res (List D × Store × List It) := fun env st => (rs env st).bind fun ds st => match walkOf k ds st with
  | some xs => .ok (ds, st, xs) st
  | none => .bad
def tI (K : PySem.W.Frag) (c : Wc) (k : Nat) (rs : Sl → Store → Res (List D)) : TI := fun σ H R => ∃ G L st env, Rl K G L st H ∧ RE K G L H σ env ∧ Aft K c G L H σ (walkR k rs env st) (fun L' H' J a => Wk K G L' H' J a.1 a.2.1 a.2.2) R
abbrev SI (X : Cx) (c : Wc) (tg : Expr) (k : Nat) (e : Expr) (rs : Sl → Store → Res (List D)) : Prop := PI X tg e (tI X.K c k rs)
theorem PI.imp {X : Cx} {tg e : Expr} {t t' : TI} (h : PI X tg e t) (hi : ∀ σ H Q, t' σ H Q → t σ H Q) : PI X tg e t' := ⟨fun pins s σ H Q I q => h.run pins s σ H Q I (hi σ H Q q)⟩
theorem PI.or {X : Cx} {tg e : Expr} {t t' : TI} (h : PI X tg e t) (h' : PI X tg e t') : PI X tg e (fun σ H R => t σ H R ∨ t' σ H R) := ⟨fun pins s σ H Q I q => by
  rcases q with q | q
  · exact h.run pins s σ H Q I q
  · exact h'.run pins s σ H Q I q⟩
section
variable {K : PySem.W.Frag} {c : Wc} {G : Off1} {L : Lc} {H : Hp} {σ : Sg} {st : Store}
/-! ### sequences stay -/
inductive SqK (K : PySem.W.Frag) : Bool → Hp → Addr → List V → Prop
  | l {H : Hp} {a : Addr} {xs : List V} (h : SqL K H a xs) : SqK K true H a xs
  | t {H : Hp} {a : Addr} {xs : List V} (h : SqT K H a xs) : SqK K false H a xs
/-- a sequence that a walk leans on: at each later state the same items -/
theorem seq_stay {d : D} {es : List D} {x : V} (rl : Rl K G L st H) (hd : RD K G L H x d) (h : seqD d st = some es) : ∃ a xs, x = .ref a ∧ RDs K G L H xs es ∧ SqK K (isL d st) H a xs ∧ (isL d st = false → isT d = true) ∧
    ∀ (ds : List D) (L' : Lc) (st' : Store) (H' : Hp) (G' : Off1), d ∈ ds → Po L H L' H' → (∀ b, G' b → G b ∨ H b = none) → Rl K G' L' st' H' → still ds st st' = true → ∃ ys, SqK K (isL d st) H' a ys ∧ RDs K G' L' H' ys es := by
  cases d with
  | p d =>
    cases d with
    | list zs =>
      obtain ⟨a, xs, e1, ht, f⟩ := fz_lst hd
      cases h
      exact ⟨a, xs, e1, mapP_rel f, .l ht.sq, fun z => (Bool.noConfusion z), fun ds L' st' H' G' hm po hg rl' hs => ⟨xs, .l (ht.mono (keepG po hg)).sq, mapP_rel (FzA.mono (keepG po hg) _ _ f)⟩⟩
    | tuple zs =>
      obtain ⟨a, xs, e1, ht, f⟩ := fz_tup hd
      cases h
      exact ⟨a, xs, e1, mapP_rel f, .t ht.sq, fun _ => rfl, fun ds L' st' H' G' hm po hg rl' hs => ⟨xs, .t (ht.mono (keepG po hg)).sq, mapP_rel (FzA.mono (keepG po hg) _ _ f)⟩⟩
    | _ => cases h
  | r k =>
    unfold seqD at h
    simp only at h
    split at h
    · rename_i zs e
      cases h
      obtain ⟨a, e2, e3, xs, e4, f⟩ := ref_rel rl hd e (by simp)
      have hi : isL (.r k) st = true := by unfold isL; simp only [e]
      rw [hi]
      refine ⟨a, xs, e2, f, .l (.inl (.inl e4)), fun z => Bool.noConfusion z, fun ds L' st' H' G' hm po hg rl' hs => ?_⟩
      have h1 := List.all_eq_true.mp hs _ hm
      simp only [e] at h1
      split at h1
      · rename_i z1 z2 e5 e6
        have e7 := sameD_eq h1
        simp only [Option.some.injEq, Ob.lst.injEq] at e5
        rw [e5, e7] at *
        obtain ⟨b, g2, g3, ys, g4, f'⟩ := ref_rel rl' (RD.monoG po hg hd) e6 (by simp)
        rw [e2] at g2
        cases g2
        exact ⟨ys, .l (.inl (.inl g4)), f'⟩
      · cases h1
    · cases h
theorem item_one {K : PySem.W.Frag} {G : Off1} {L : Lc} {H : Hp} {ys : List V} {es : List D} {i : Nat} {it : It} (f : RDs K G L H ys es) (e : (es.map It.one)[i]? = some it) : ∃ x d, ys[i]? = some x ∧ it = .one d ∧ es[i]? = some d ∧ RD K G L H x d := by
  rw [List.getElem?_map] at e
  cases e2 : es[i]? with
  | none => rw [e2] at e; cases e
  | some d =>
    rw [e2] at e
    cases e
    obtain ⟨x, h1, h2⟩ := f.get e2
    exact ⟨x, d, h1, rfl, rfl, h2⟩
/-- a list or a tuple, item by item -/
theorem wk_seq {d : D} {es : List D} {x : V} {a : Addr} (rl : Rl K G L st H) (hd : RD K G L H x d) (h : seqD d st = some es) (ex : x = .ref a) : Wk K G L H (if isL d st then Itl K a else Itt K a) [d] st (es.map .one) := by
  obtain ⟨a', xs, e1, f, hq, _, hst⟩ := seq_stay rl hd h
  rw [ex] at e1
  cases e1
  refine ⟨fun i L' st' H' it G' po hg rl' hs e => ?_, fun i L' st' H' G' po hg rl' hs hl => ?_⟩
  · obtain ⟨ys, hy, f'⟩ := hst [d] L' st' H' G' (by simp) po hg rl' hs
    obtain ⟨y, dd, h1, rfl, h3, h4⟩ := item_one f' e
    cases hb : isL d st with
    | true =>
      rw [hb] at hy
      rw [if_pos rfl]
      cases hy with
      | l hq => exact ⟨⟨ys, y, hq, h1⟩, fun z H2 ⟨e2, e3⟩ => by
          subst e2
          have := e3 ys hq
          rw [h1] at this
          cases this
          exact ⟨.refl, rl', h4⟩⟩
    | false =>
      rw [hb] at hy
      rw [if_neg Bool.false_ne_true]
      cases hy with
      | t hq => exact ⟨⟨ys, y, hq, h1⟩, fun z H2 ⟨e2, e3⟩ => by
          subst e2
          have := e3 ys hq
          rw [h1] at this
          cases this
          exact ⟨.refl, rl', h4⟩⟩
  · obtain ⟨ys, hy, f'⟩ := hst [d] L' st' H' G' (by simp) po hg rl' hs
    have hlen := Paired.length f'
    rw [List.length_map] at hl
    cases hb : isL d st with
    | true =>
      rw [hb] at hy
      rw [if_pos rfl]
      cases hy with
      | l hq => exact ⟨ys, hq, by omega⟩
    | false =>
      rw [hb] at hy
      rw [if_neg Bool.false_ne_true]
      cases hy with
      | t hq => exact ⟨ys, hq, by omega⟩
theorem wk_rev {d : D} {es : List D} {x : V} {a : Addr} {xs : List V} (rl : Rl K G L st H) (hd : RD K G L H x d) (h : seqD d st = some es) (ex : x = .ref a) (hxl : xs.length = es.length) : Wk K G L H (if isL d st then Itv K a xs.length else RT.ItvT K a xs.length) [d] st (es.reverse.map .one) := by
  obtain ⟨a', _, e1, f, hq, _, hst⟩ := seq_stay rl hd h
  rw [ex] at e1
  cases e1
  refine ⟨fun i L' st' H' it G' po hg rl' hs e => ?_, fun i L' st' H' G' po hg rl' hs hl => ?_⟩
  · obtain ⟨ys, hy, f'⟩ := hst [d] L' st' H' G' (by simp) po hg rl' hs
    have hlen := Paired.length f'
    obtain ⟨y, dd, h1, rfl, h3, h4⟩ := item_one f'.rev e
    have hi : i < ys.length := by
      have := (List.getElem?_eq_some_iff.mp h1).1
      simpa using this
    rw [List.getElem?_reverse hi] at h1
    have e5 : xs.length - 1 - i = ys.length - 1 - i := by omega
    cases hb : isL d st with
    | true =>
      rw [hb] at hy
      rw [if_pos rfl]
      cases hy with
      | l hq => exact ⟨⟨by omega, ys, y, hq, by rw [e5]; exact h1⟩, fun z H2 ⟨e2, e3⟩ => by
          subst e2
          have := e3 ys hq
          rw [e5, h1] at this
          cases this
          exact ⟨.refl, rl', h4⟩⟩
    | false =>
      rw [hb] at hy
      rw [if_neg Bool.false_ne_true]
      cases hy with
      | t hq => exact ⟨⟨by omega, ys, y, hq, by rw [e5]; exact h1⟩, fun z H2 ⟨e2, e3⟩ => by
          subst e2
          have := e3 ys hq
          rw [e5, h1] at this
          cases this
          exact ⟨.refl, rl', h4⟩⟩
  · rw [List.length_map, List.length_reverse] at hl
    cases hb : isL d st with
    | true => rw [if_pos rfl]; show xs.length ≤ i; omega
    | false => rw [if_neg Bool.false_ne_true]; show xs.length ≤ i; omega
theorem wk_str {z : Str} {x : V} (hd : Fz K (Off G L) H x (.str z)) : Wk K G L H (Its z) [.p (.str z)] st (z.cps.toList.map fun c => .one (.p (.str ⟨#[c]⟩))) := by
  obtain ⟨_, hz⟩ := fz_str hd
  refine ⟨fun i L' st' H' it G' po hg rl' hs e => ?_, fun i L' st' H' G' po hg rl' hs hl => ?_⟩
  · rw [List.getElem?_map] at e
    cases e2 : z.cps.toList[i]? with
    | none => rw [e2] at e; cases e
    | some c =>
      rw [e2] at e
      cases e
      have hc := hz.all c (List.mem_of_getElem? e2)
      have hi : i < z.cps.size := by
        have := (List.getElem?_eq_some_iff.mp e2).1
        simpa using this
      refine ⟨hi, fun y H2 ⟨e3, c', e4, e5⟩ => ?_⟩
      subst e3 e5
      rw [Array.getElem?_toList] at e2
      rw [e2] at e4
      cases e4
      exact ⟨.refl, rl', .str _ (sOk.one hc)⟩
  · rw [List.length_map, Array.length_toList] at hl
    exact hl
theorem rangeI_get (c : Int) : ∀ (n : Nat) (a : Int) (i : Nat) (it : It), (rangeI a c n)[i]? = some it → i < n ∧ it = .one (.p (.int (a + i * c)))
  | 0, a, i, it, e => by simp [rangeI] at e
  | n + 1, a, 0, it, e => by
    simp [rangeI] at e
    exact ⟨by omega, by rw [← e]; simp⟩
  | n + 1, a, i + 1, it, e => by
    simp only [rangeI, List.getElem?_cons_succ] at e
    obtain ⟨h1, h2⟩ := rangeI_get c n (a + c) i it e
    refine ⟨by omega, ?_⟩
    rw [h2]
    have : a + c + (i : Int) * c = a + ((i + 1 : Nat) : Int) * c := by
      rw [Int.natCast_add, Int.add_mul]
      simp
      omega
    rw [this]
theorem rangeI_len (c : Int) : ∀ (n : Nat) (a : Int), (rangeI a c n).length = n
  | 0, _ => rfl
  | n + 1, a => by simp [rangeI, rangeI_len c n]
theorem wk_range {ds : List D} {a : Int} {n : Nat} : Wk K G L H (Itr a n) ds st (rangeI a 1 n) := by
  refine ⟨fun i L' st' H' it G' po hg rl' hs e => ?_, fun i L' st' H' G' po hg rl' hs hl => ?_⟩
  · obtain ⟨h1, rfl⟩ := rangeI_get 1 n a i it e
    refine ⟨h1, fun x H2 ⟨e2, e3⟩ => ?_⟩
    subst e2 e3
    rw [Int.mul_one]
    exact ⟨.refl, rl', .int _⟩
  · rw [rangeI_len] at hl
    exact hl
theorem wk_rangeC {ds : List D} {a c : Int} {n : Nat} : Wk K G L H (Itc a c n) ds st (rangeI a c n) := by
  refine ⟨fun i L' st' H' it G' po hg rl' hs e => ?_, fun i L' st' H' G' po hg rl' hs hl => ?_⟩
  · obtain ⟨h1, rfl⟩ := rangeI_get c n a i it e
    refine ⟨h1, fun x H2 ⟨e2, e3⟩ => ?_⟩
    subst e2 e3
    exact ⟨.refl, rl', .int _⟩
  · rw [rangeI_len] at hl
    exact hl
theorem enumI_get : ∀ (ds : List D) (n i : Nat) (it : It), (enumI n ds)[i]? = some it → ∃ d, ds[i]? = some d ∧ it = .two (.p (.int ((n + i : Nat) : Int))) d
  | [], n, i, it, e => by simp [enumI] at e
  | d :: ds, n, 0, it, e => by
    simp [enumI] at e
    exact ⟨d, rfl, e.symm⟩
  | d :: ds, n, i + 1, it, e => by
    simp only [enumI, List.getElem?_cons_succ] at e
    obtain ⟨d', h1, h2⟩ := enumI_get ds (n + 1) i it e
    refine ⟨d', by simpa using h1, ?_⟩
    rw [h2]
    have : n + 1 + i = n + (i + 1) := by omega
    rw [this]
theorem enumI_len : ∀ (ds : List D) (n : Nat), (enumI n ds).length = ds.length
  | [], _ => rfl
  | d :: ds, n => by simp [enumI, enumI_len ds]
theorem wk_enum {d : D} {es : List D} {x : V} {a : Addr} (rl : Rl K G L st H) (hd : RD K G L H x d) (h : seqD d st = some es) (hl : isL d st = true) (ex : x = .ref a) : Wk K G L H (Ite K a) [d] st (enumI 0 es) := by
  obtain ⟨a', xs, e1, f, hq, _, hst⟩ := seq_stay rl hd h
  rw [ex] at e1
  cases e1
  rw [hl] at hst
  refine ⟨fun i L' st' H' it G' po hg rl' hs e => ?_, fun i L' st' H' G' po hg rl' hs hn => ?_⟩
  · obtain ⟨ys, hy, f'⟩ := hst [d] L' st' H' G' (by simp) po hg rl' hs
    obtain ⟨dd, h1, rfl⟩ := enumI_get es 0 i it e
    obtain ⟨y, h2, h3⟩ := f'.get h1
    cases hy with
    | l hq =>
      refine ⟨⟨ys, y, hq, h2⟩, fun z H2 ⟨T, y', e2, e3, e4, e5⟩ => ?_⟩
      have := e5 ys hq
      rw [h2] at this
      cases this
      subst e4
      have po2 : Po L' H' L' (upd H' T (.tup [.int (i : Nat), y])) := .new1 rl' e3
      exact ⟨po2, rl'.new1 e3, T, _, _, e2, upd_same, by rw [Nat.zero_add]; exact Fz.int _, RD.mono po2 h3⟩
  · obtain ⟨ys, hy, f'⟩ := hst [d] L' st' H' G' (by simp) po hg rl' hs
    have hlen := Paired.length f'
    rw [enumI_len] at hn
    cases hy with
    | l hq => exact ⟨ys, hq, by omega⟩
theorem zipI_get : ∀ (ds es : List D) (i : Nat) (it : It), (zipI ds es)[i]? = some it → ∃ d e, ds[i]? = some d ∧ es[i]? = some e ∧ it = .two d e
  | [], es, i, it, h => by simp [zipI] at h
  | d :: ds, [], i, it, h => by simp [zipI] at h
  | d :: ds, e :: es, 0, it, h => by
    simp [zipI] at h
    exact ⟨d, e, rfl, rfl, h.symm⟩
  | d :: ds, e :: es, i + 1, it, h => by
    simp only [zipI, List.getElem?_cons_succ] at h
    obtain ⟨d', e', h1, h2, h3⟩ := zipI_get ds es i it h
    exact ⟨d', e', by simpa using h1, by simpa using h2, h3⟩
theorem zipI_len : ∀ (ds es : List D), (zipI ds es).length = min ds.length es.length
  | [], es => by simp [zipI]
  | d :: ds, [] => by simp [zipI]
  | d :: ds, e :: es => by simp [zipI, zipI_len ds es]
theorem wk_zip {d e : D} {ds es : List D} {x y : V} {a b : Addr} (rl : Rl K G L st H) (hd : RD K G L H x d) (he : RD K G L H y e) (h1 : seqD d st = some ds) (h2 : seqD e st = some es) (ex : x = .ref a) (ey : y = .ref b) (hk : isL d st = isL e st) :
    Wk K G L H (if isL d st then Itz K a b else RZ.ItzT K a b) [d, e] st (zipI ds es) := by
  obtain ⟨a', xs, e1, f1, q1, _, s1⟩ := seq_stay rl hd h1
  obtain ⟨b', ys, e2, f2, q2, _, s2⟩ := seq_stay rl he h2
  rw [ex] at e1
  rw [ey] at e2
  cases e1
  cases e2
  rw [← hk] at s2
  refine ⟨fun i L' st' H' it G' po hg rl' hs e => ?_, fun i L' st' H' G' po hg rl' hs hn => ?_⟩
  · obtain ⟨us, hu, f1'⟩ := s1 _ L' st' H' G' (by simp) po hg rl' hs
    obtain ⟨ws, hw, f2'⟩ := s2 _ L' st' H' G' (by simp) po hg rl' hs
    obtain ⟨dd, ee, g1, g2, rfl⟩ := zipI_get ds es i it e
    obtain ⟨u, g3, g4⟩ := f1'.get g1
    obtain ⟨w, g5, g6⟩ := f2'.get g2
    have fin : ∀ T, H' T = none → Po L' H' L' (upd H' T (.tup [u, w])) ∧ Rl K G' L' st' (upd H' T (.tup [u, w])) ∧ ItR K G' L' (upd H' T (.tup [u, w])) (.ref T) (.two dd ee) := fun T hT => by
      have po2 : Po L' H' L' (upd H' T (.tup [u, w])) := .new1 rl' hT
      exact ⟨po2, rl'.new1 hT, T, u, w, rfl, upd_same, RD.mono po2 g4, RD.mono po2 g6⟩
    cases hb : isL d st with
    | true =>
      rw [hb] at hu hw
      rw [if_pos rfl]
      cases hu with
      | l hq =>
        cases hw with
        | l hq' =>
          refine ⟨⟨us, ws, u, w, hq, hq', g3, g5⟩, fun z H2 ⟨T, u', w', e2, e3, e4, e5, e6⟩ => ?_⟩
          have := e5 us hq
          rw [g3] at this
          cases this
          have := e6 ws hq'
          rw [g5] at this
          cases this
          subst e4 e2
          exact fin T e3
    | false =>
      rw [hb] at hu hw
      rw [if_neg Bool.false_ne_true]
      cases hu with
      | t hq =>
        cases hw with
        | t hq' =>
          refine ⟨⟨us, ws, u, w, hq, hq', g3, g5⟩, fun z H2 ⟨T, u', w', e2, e3, e4, e5, e6⟩ => ?_⟩
          have := e5 us hq
          rw [g3] at this
          cases this
          have := e6 ws hq'
          rw [g5] at this
          cases this
          subst e4 e2
          exact fin T e3
  · obtain ⟨us, hu, f1'⟩ := s1 _ L' st' H' G' (by simp) po hg rl' hs
    obtain ⟨ws, hw, f2'⟩ := s2 _ L' st' H' G' (by simp) po hg rl' hs
    have l1 := Paired.length f1'
    have l2 := Paired.length f2'
    rw [zipI_len] at hn
    have hn2 : us.length ≤ i ∨ ws.length ≤ i := by omega
    cases hb : isL d st with
    | true =>
      rw [hb] at hu hw
      rw [if_pos rfl]
      cases hu with
      | l hq =>
        cases hw with
        | l hq' => exact ⟨us, ws, hq, hq', hn2⟩
    | false =>
      rw [hb] at hu hw
      rw [if_neg Bool.false_ne_true]
      cases hu with
      | t hq =>
        cases hw with
        | t hq' => exact ⟨us, ws, hq, hq', hn2⟩
end
section
variable {X : Cx} {c : Wc} {tg a b d : Expr} {ra rb : Sl → Store → Res D} {rs : Sl → Store → Res (List D)} {pos p : Pos}
theorem gen_ex {K : PySem.W.Frag} {α β γ : Type} {G : Off1} {L : Lc} {H : Hp} {σ : Sg} {r : Res α} {Rel : Lc → Hp → β → α → Prop} {Rel' : Lc → Hp → γ → α → Prop} {Q : β → Hp → Prop} {Q' : γ → Hp → Prop} (h : Aft K c G L H σ r Rel Q) (hn : ∀ a st, r ≠ .ok a st) :
    Aft K c G L H σ r Rel' Q' := by
  cases r with
  | ok a st => exact absurd rfl (hn a st)
  | ex k fs st => exact h
  | bad => exact h
theorem one_args : (fun env st => (ra env st).bind fun d st => Res.bind (.ok [] st) fun ds st => .ok (d :: ds) st) = (fun env st => (ra env st).bind fun d st => Res.ok [d] st) := rfl
/-- a list, a tuple, a text -/
theorem i_seq (ha : SE X c a ra) : SI X c tg 0 a (fun env st => (ra env st).bind fun d st => Res.ok [d] st) := by
  refine PI.imp (PI.or (pi_list ha) (PI.or (pi_tup ha) (pi_str ha))) fun σ H Q h => ?_
  obtain ⟨G, L, st, env, rl, re, q⟩ := h
  unfold walkR at q
  dsimp only at q
  cases e : ra env st with
  | bad => rw [e] at q; exact q.elim
  | ex k fs st' =>
    refine .inl ⟨G, L, st, env, rl, re, ?_⟩
    rw [e] at q ⊢
    exact q
  | ok x st1 =>
    rw [e] at q
    simp only [Res.bind_ok] at q
    cases ew : walkOf 0 [x] st1 with
    | none => rw [ew] at q; exact q.elim
    | some xs =>
      rw [ew] at q
      simp only at q
      unfold walkOf at ew
      split at ew
      case h_1 z1 z hk hz =>
        cases ew
        cases hz
        refine .inr (.inr ⟨G, L, st, env, rl, re, ?_⟩)
        rw [e]
        intro v L1 H1 po1 rl1 hd
        exact ⟨z, (fz_str hd).1, q _ _ _ po1 rl1 (wk_str hd)⟩
      case h_2 z1 d hn hk hz =>
        cases hz
        simp only [Option.map_eq_some_iff] at ew
        obtain ⟨es, e1, rfl⟩ := ew
        cases hb : isL x st1 with
        | true =>
          refine .inl ⟨G, L, st, env, rl, re, ?_⟩
          rw [e]
          intro v L1 H1 po1 rl1 hd
          obtain ⟨a', us, e2, f, hq, _, _⟩ := seq_stay rl1 hd e1
          have w := wk_seq rl1 hd e1 e2
          rw [hb] at hq w
          cases hq with
          | l hq => exact ⟨a', e2, ⟨us, hq⟩, q _ _ _ po1 rl1 w⟩
        | false =>
          refine .inr (.inl ⟨G, L, st, env, rl, re, ?_⟩)
          rw [e]
          intro v L1 H1 po1 rl1 hd
          obtain ⟨a', us, e2, f, hq, _, _⟩ := seq_stay rl1 hd e1
          have w := wk_seq rl1 hd e1 e2
          rw [hb] at hq w
          cases hq with
          | t hq => exact ⟨a', e2, ⟨us, hq⟩, q _ _ _ po1 rl1 w⟩
      all_goals first | (rename_i hz; cases hz; done) | (rename_i hz1 hz2; cases hz1; done) | (rename_i hz1 hz2 hz3; cases hz1; done) | (cases ew; done)
theorem near_lt {i : Int} (h : near i = true) : -1073741824 < i ∧ i < 1073741824 := by
  unfold near at h
  simpa using h
theorem tAr_walk {K : PySem.W.Frag} {n k : Nat} {σ : Sg} {H : Hp} {R : L2.It → Hp → Prop} {P : List V → Hp → (L2.It → Hp → Prop) → Prop} (hlen : ∀ env st ds st', rs env st = .ok ds st' → ds.length = n)
    (hP : ∀ G L st ds xs vs H R, ds.length = n → Rl K G L st H → RDs K G L H vs ds → walkOf k ds st = some xs → (∀ J, Wk K G L H J ds st xs → R J H) → P vs H R) (h : tI K c k rs σ H R) : tAr K c rs σ H (fun vs H1 => P vs H1 R) := by
  obtain ⟨G, L, st, env, rl, re, q⟩ := h
  refine ⟨G, L, st, env, rl, re, ?_⟩
  unfold walkR at q
  cases e : rs env st with
  | bad => rw [e] at q; exact q.elim
  | ex k fs st' => rw [e] at q; exact q
  | ok ds st1 =>
    rw [e] at q
    simp only [Res.bind_ok] at q
    intro vs L1 H1 po1 rl1 hv
    cases ew : walkOf k ds st1 with
    | none => rw [ew] at q; exact q.elim
    | some xs =>
      rw [ew] at q
      exact hP G L1 st1 ds xs vs H1 R (hlen _ _ _ _ e) rl1 hv ew fun J w => q J L1 H1 po1 rl1 w
theorem i_rng1 (hg : Gl X "range") (hm : X.mg "range" = none) (ha : SA X c [a] rs) (sa : simpleE a = true) (hlen : ∀ env st ds st', rs env st = .ok ds st' → ds.length = 1) : SI X c tg 1 (.Call (.Name "range" p) [a] [] pos) rs := by
  refine PI.imp (pi_range1 hg hm ha (star_of sa)) fun σ H Q h => tAr_walk (P := fun vs H1 R => ∃ j : Int, vs = [.int j] ∧ -(2 ^ 62) ≤ j ∧ j < 2 ^ 62 ∧ R (Itr 0 j.toNat) H1) hlen (fun G L st ds xs vs H R hl rl hv ew q => ?_) h
  match ds, hl with
  | [d], _ =>
    cases hv with
    | cons h1 h2 =>
      cases h2
      unfold walkOf at ew
      split at ew
      case h_3 z1 n hk0 hn =>
        cases hn
        split at ew
        · rename_i hh
          cases ew
          obtain ⟨h3, h4⟩ := near_lt hh
          exact ⟨n, by rw [fz_int h1], by omega, by omega, q _ wk_range⟩
        · cases ew
      all_goals first | (rename_i hz; cases hz; done) | (rename_i hz1 hz2; cases hz1; done) | (rename_i hz1 hz2; cases hz2; done) | (rename_i hz1 hz2 hz3; cases hz1; done) | (cases ew; done)
theorem i_rng2 (hg : Gl X "range") (hm : X.mg "range" = none) (ha : SA X c [a, b] rs) (sa : simpleE a = true) (sb : simpleE b = true) (hlen : ∀ env st ds st', rs env st = .ok ds st' → ds.length = 2) : SI X c tg 1 (.Call (.Name "range" p) [a, b] [] pos) rs := by
  refine PI.imp (pi_range2 hg hm ha (by rw [star_of sa, star_of sb]; rfl) (by rw [star_of sb]; rfl)) fun σ H Q h => tAr_walk (P := fun vs H1 R => ∃ i j : Int, vs = [.int i, .int j] ∧ (-(2 ^ 62) ≤ i ∧ i < 2 ^ 62 ∧ -(2 ^ 62) ≤ j ∧ j < 2 ^ 62) ∧ R (Itr i (j - i).toNat) H1) hlen (fun G L st ds xs vs H R hl rl hv ew q => ?_) h
  match ds, hl with
  | [d, e], _ =>
    cases hv with
    | cons h1 h2 =>
      cases h2 with
      | cons h2 h3 =>
        cases h3
        unfold walkOf at ew
        split at ew
        case h_4 z1 n m hk0 hn =>
          cases hn
          split at ew
          · rename_i hh
            cases ew
            rw [Bool.and_eq_true] at hh
            obtain ⟨h3, h4⟩ := near_lt hh.1
            obtain ⟨h5, h6⟩ := near_lt hh.2
            exact ⟨n, m, by rw [fz_int h1, fz_int h2], ⟨by omega, by omega, by omega, by omega⟩, q _ wk_range⟩
          · cases ew
        all_goals first | (rename_i hz; cases hz; done) | (rename_i hz1 hz2; cases hz1; done) | (rename_i hz1 hz2; cases hz2; done) | (rename_i hz1 hz2 hz3; cases hz1; done) | (cases ew; done)
theorem i_rng3 (hg : Gl X "range") (hm : X.mg "range" = none) (ha : SA X c [a, b, d] rs) (sa : simpleE a = true) (sb : simpleE b = true) (sd : simpleE d = true) (hlen : ∀ env st ds st', rs env st = .ok ds st' → ds.length = 3) : SI X c tg 1 (.Call (.Name "range" p) [a, b, d] [] pos) rs := by
  refine PI.imp (pi_range3 hg hm ha (star_of sa) (back_of (es := [b, d]) (by simp [sb, sd]))) fun σ H Q h => tAr_walk (P := fun vs H1 R => ∃ (i j c : Int) (n : Nat), vs = [.int i, .int j, .int c] ∧ RgC i j c n ∧ R (Itc i c n) H1) hlen (fun G L st ds xs vs H R hl rl hv ew q => ?_) h
  match ds, hl with
  | [d, e, f], _ =>
    cases hv with
    | cons h1 h2 =>
      cases h2 with
      | cons h2 h3 =>
        cases h3 with
        | cons h3 h4 =>
          cases h4
          unfold walkOf at ew
          split at ew
          case h_5 z1 n m k hk0 hn =>
            cases hn
            split at ew
            · rename_i hh
              cases ew
              rw [Bool.and_eq_true, Bool.and_eq_true] at hh
              obtain ⟨g1, g2⟩ := near_lt hh.1.1
              obtain ⟨g3, g4⟩ := near_lt hh.1.2
              have hk : k = -1 := of_decide_eq_true hh.2
              subst hk
              exact ⟨n, m, -1, (n - m).toNat, by rw [fz_int h1, fz_int h2, fz_int h3], RgC.neg (by omega) (by omega) (by omega) (by omega), q _ wk_rangeC⟩
            · cases ew
          all_goals first | (rename_i hz; cases hz; done) | (rename_i hz1 hz2; cases hz1; done) | (rename_i hz1 hz2; cases hz2; done) | (rename_i hz1 hz2 hz3; cases hz1; done) | (cases ew; done)
theorem i_enum {elts : List Expr} {kk : Nat} {tpos : Pos} (hg : Gl X "enumerate") (hm : X.mg "enumerate" = none) (ha : SA X c [a] rs) (sa : simpleE a = true) (hlen : ∀ env st ds st', rs env st = .ok ds st' → ds.length = 1) : SI X c (.Tuple elts kk tpos) 2 (.Call (.Name "enumerate" p) [a] [] pos) rs := by
  refine PI.imp (pi_enum hg hm ha (star_of sa)) fun σ H Q h => tAr_walk (P := fun vs H1 R => ∃ a xs, vs = [.ref a] ∧ SqL X.K H1 a xs ∧ R (Ite X.K a) H1) hlen (fun G L st ds xs vs H R hl rl hv ew q => ?_) h
  match ds, hl with
  | [d], _ =>
    cases hv with
    | cons h1 h2 =>
      cases h2
      unfold walkOf at ew
      split at ew
      case h_6 z1 z2 n hn =>
        cases hn
        split at ew
        · rename_i hb
          simp only [Option.map_eq_some_iff] at ew
          obtain ⟨es, e1, rfl⟩ := ew
          obtain ⟨a', us, e2, f, hq, _, _⟩ := seq_stay rl h1 e1
          rw [hb] at hq
          cases hq with
          | l hq => exact ⟨a', us, by rw [e2], hq, q _ (wk_enum rl h1 e1 hb e2)⟩
        · cases ew
      all_goals first | (rename_i hz; cases hz; done) | (rename_i hz1 hz2; cases hz1; done) | (rename_i hz1 hz2; cases hz2; done) | (rename_i hz1 hz2 hz3; cases hz1; done) | (cases ew; done)
theorem i_zip {elts : List Expr} {kk : Nat} {tpos : Pos} (hg : Gl X "zip") (hm : X.mg "zip" = none) (ha : SA X c [a, b] rs) (sa : simpleE a = true) (sb : simpleE b = true) (hlen : ∀ env st ds st', rs env st = .ok ds st' → ds.length = 2) : SI X c (.Tuple elts kk tpos) 3 (.Call (.Name "zip" p) [a, b] [] pos) rs := by
  refine PI.imp (RZ.pi_zipA hg hm ha (star_of sa) (back_of (es := [b]) (by simp [sb]))) fun σ H Q h => tAr_walk (P := fun vs H1 R => ∃ a b xs ys, vs = [.ref a, .ref b] ∧ ((SqL X.K H1 a xs ∧ SqL X.K H1 b ys ∧ R (Itz X.K a b) H1) ∨ (SqT X.K H1 a xs ∧ SqT X.K H1 b ys ∧ R (RZ.ItzT X.K a b) H1))) hlen (fun G L st ds xs vs H R hl rl hv ew q => ?_) h
  match ds, hl with
  | [d, e], _ =>
    cases hv with
    | cons h1 h2 =>
      cases h2 with
      | cons h2 h3 =>
        cases h3
        unfold walkOf at ew
        split at ew
        case h_7 z1 z2 n m hn =>
          cases hn
          split at ew
          · rename_i hk
            simp only [Option.bind_eq_some_iff, Option.map_eq_some_iff] at ew
            obtain ⟨es, e1, es2, e2, rfl⟩ := ew
            obtain ⟨a', us, e3, f, hq, t1, _⟩ := seq_stay rl h1 e1
            obtain ⟨b', ws, e4, f', hq', t2, _⟩ := seq_stay rl h2 e2
            have hkk : isL d st = isL e st := by
              rw [Bool.or_eq_true, Bool.and_eq_true, Bool.and_eq_true] at hk
              rcases hk with ⟨k1, k2⟩ | ⟨k1, k2⟩
              · rw [k1, k2]
              · have nl : ∀ z : D, isT z = true → isL z st = false := fun z hz => by
                  unfold isT at hz
                  split at hz
                  · rfl
                  · cases hz
                rw [nl d k1, nl e k2]
            have w := wk_zip rl h1 h2 e1 e2 e3 e4 hkk
            refine ⟨a', b', us, ws, by rw [e3, e4], ?_⟩
            rw [← hkk] at hq'
            cases hb : isL d st with
            | true =>
              rw [hb] at hq hq' w
              cases hq with
              | l hq =>
                cases hq' with
                | l hq' => exact .inl ⟨hq, hq', q _ w⟩
            | false =>
              rw [hb] at hq hq' w
              cases hq with
              | t hq =>
                cases hq' with
                | t hq' => exact .inr ⟨hq, hq', q _ w⟩
          · cases ew
        all_goals first | (rename_i hz; cases hz; done) | (rename_i hz1 hz2; cases hz1; done) | (rename_i hz1 hz2; cases hz2; done) | (rename_i hz1 hz2 hz3; cases hz1; done) | (cases ew; done)
theorem i_rev (hg : Gl X "reversed") (hm : X.mg "reversed" = none) (ha : SE X c a ra) (sa : simpleE a = true) : SI X c tg 7 (.Call (.Name "reversed" p) [a] [] pos) (fun env st => (ra env st).bind fun d st => Res.ok [d] st) := by
  refine PI.imp (RT.pi_revA hg hm ha (star_of sa)) fun σ H Q h => ?_
  obtain ⟨G, L, st, env, rl, re, q⟩ := h
  refine ⟨G, L, st, env, rl, re, ?_⟩
  unfold walkR at q
  dsimp only at q
  cases e : ra env st with
  | bad => rw [e] at q; exact q.elim
  | ex k fs st' => rw [e] at q; exact q
  | ok d st1 =>
    rw [e] at q
    simp only [Res.bind_ok] at q
    intro v L1 H1 po1 rl1 hd
    cases ew : walkOf 7 [d] st1 with
    | none => rw [ew] at q; exact q.elim
    | some xs =>
      rw [ew] at q
      simp only at q
      unfold walkOf at ew
      split at ew
      case h_8 z1 z2 n hn =>
        cases hn
        simp only [Option.map_eq_some_iff] at ew
        obtain ⟨es, e1, rfl⟩ := ew
        obtain ⟨a', us, e2, f, hq, _, _⟩ := seq_stay rl1 hd e1
        have w := wk_rev (xs := us) rl1 hd e1 e2 (Paired.length f)
        refine ⟨a', us, e2, ?_⟩
        cases hb : isL d st1 with
        | true =>
          rw [hb] at hq w
          cases hq with
          | l hq => exact .inl ⟨hq, q _ _ _ po1 rl1 w⟩
        | false =>
          rw [hb] at hq w
          cases hq with
          | t hq => exact .inr ⟨hq, q _ _ _ po1 rl1 w⟩
      all_goals first | (rename_i hz; cases hz; done) | (rename_i hz1 hz2; cases hz1; done) | (rename_i hz1 hz2; cases hz2; done) | (rename_i hz1 hz2 hz3; cases hz1; done) | (cases ew; done)
end
end Dn
/-! Dn: targets; list comprehensions. -/
namespace Dn
open PySem PySem.Spec PyProof.Rows L2
def gNames : List Nat → TGs
  | [] => gNil
  | i :: is => gCons (gName i) (gNames is)
def gT (K : PySem.W.Frag) : Tg → TG
  | .one i => gName i
  | .many is => gTup K is.length (gNames is)
theorem wipe_get (σ : Sg) : ∀ (vs : List Nat) (j : Nat), (wipe σ vs)[j]? = if j ∈ vs then (if j < σ.length then some none else none) else σ[j]?
  | [], j => by simp [wipe]
  | v :: vs, j => by
    unfold wipe
    by_cases h : v = j
    · subst h
      rw [if_pos (by simp)]
      by_cases hl : v < σ.length
      · rw [if_pos hl, List.getElem?_set_self (by rw [wipe_length]; exact hl)]
      · rw [if_neg hl, List.getElem?_eq_none (by rw [List.length_set, wipe_length]; omega)]
    · rw [List.getElem?_set_ne h, wipe_get σ vs j]
      by_cases hm : j ∈ vs
      · rw [if_pos hm, if_pos (List.mem_cons_of_mem _ hm)]
      · rw [if_neg hm, if_neg (by simp only [List.mem_cons, not_or]; exact ⟨fun e => h e.symm, hm⟩)]
theorem wipe_set {σ : Sg} {vs : List Nat} {i : Nat} {x : Option V} (h : i ∈ vs) : wipe (σ.set i x) vs = wipe σ vs := by
  apply List.ext_getElem?
  intro j
  rw [wipe_get, wipe_get, List.length_set]
  by_cases hj : j ∈ vs
  · rw [if_pos hj, if_pos hj]
  · rw [if_neg hj, if_neg hj, List.getElem?_set_ne (fun e : i = j => hj (by rw [← e]; exact h))]
theorem wipe_wipe {σ : Sg} {vs : List Nat} : wipe (wipe σ vs) vs = wipe σ vs := by
  apply List.ext_getElem?
  intro j
  rw [wipe_get, wipe_get, wipe_length]
  by_cases hj : j ∈ vs
  · rw [if_pos hj, if_pos hj]
  · rw [if_neg hj, if_neg hj]
    try rw [wipe_get, if_neg hj]
section
variable {K : PySem.W.Frag} {c : Wc} {G : Off1} {L : Lc} {H : Hp} {σ : Sg} {st : Store} {env env' : Sl}
theorem gNames_rel {Q : Sg → Hp → Prop} : ∀ {is : List Nat} {xs : List V} {ds : List D} {σ : Sg} {env : Sl}, RDs K G L H xs ds → setAll is ds env = some env' → RE K G L H σ env →
    (∀ σ', RE K G L H σ' env' → (∀ vs, (∀ i ∈ is, i ∈ vs) → wipe σ' vs = wipe σ vs) → Q σ' H) → gNames is xs σ H Q
  | [], [], [], σ, env, .nil, h, re, q => by
    cases h
    exact ⟨rfl, q σ re fun _ _ => rfl⟩
  | i :: is, x :: xs, d :: ds, σ, env, .cons r rs, h, re, q => by
    unfold setAll at h
    split at h
    · refine ⟨x, xs, rfl, gNames_rel rs h (re.set r) fun σ' re' hw => q σ' re' fun vs hv => ?_⟩
      rw [hw vs fun j hj => hv j (List.mem_cons_of_mem _ hj), wipe_set (hv i (List.mem_cons_self ..))]
    · cases h
  | [], _ :: _, _ :: _, _, _, _, h, _, _ => by cases h
  | _ :: _, [], [], _, _, _, h, _, _ => by cases h
theorem setAll_len : ∀ {is : List Nat} {ds : List D} {env env' : Sl}, setAll is ds env = some env' → is.length = ds.length ∧ env'.length = env.length
  | [], [], env, env', h => by cases h; exact ⟨rfl, rfl⟩
  | i :: is, d :: ds, env, env', h => by
    unfold setAll at h
    split at h
    · obtain ⟨h1, h2⟩ := setAll_len h
      exact ⟨by simp [h1], by rw [h2]; simp⟩
    · cases h
  | [], _ :: _, _, _, h => by cases h
  | _ :: _, [], _, _, h => by cases h
theorem gT_rel {Q : Sg → Hp → Prop} {tg : Tg} {x : V} {it : It} (hx : ItR K G L H x it) (h : bindT tg it env = some env') (re : RE K G L H σ env)
    (q : ∀ σ', RE K G L H σ' env' → (∀ vs, (∀ i ∈ tg.slots, i ∈ vs) → wipe σ' vs = wipe σ vs) → Q σ' H) : gT K tg x σ H Q := by
  unfold bindT at h
  split at h
  · rename_i i d
    have hx : RD K G L H x d := hx
    unfold setAll setAll at h
    split at h
    · cases h
      exact q _ (re.set hx) fun vs hv => wipe_set (hv i (List.mem_cons_self ..))
    · cases h
  · rename_i is d e
    obtain ⟨T, a, b, e1, e2, r1, r2⟩ := hx
    exact ⟨T, [a, b], e1, .inl (.inl e2), by rw [(setAll_len h).1]; rfl, gNames_rel (.cons r1 (.cons r2 .nil)) h re q⟩
  · rename_i is ds
    have hx : Fz K (Off G L) H x (.tuple ds) := hx
    obtain ⟨a, xs, e1, ht, f⟩ := fz_tup hx
    exact ⟨a, xs, e1, ht.sq, by rw [(setAll_len h).1, f.len]; simp, gNames_rel (mapP_rel f) h re q⟩
  · cases h
/-! ### a new list that the block fills: the heap without it -/
def era (H : Hp) (d : Addr) : Hp := fun b => if b = d then none else H b
theorem era_ne {b d : Addr} (h : b ≠ d) : era H d b = H b := if_neg h
theorem era_self {d : Addr} : era H d d = none := if_pos rfl
theorem era_upd {d : Addr} {o : HO} : era (upd H d o) d = era H d := by
  funext b
  by_cases h : b = d
  · subst h; rw [era_self, era_self]
  · rw [era_ne h, era_ne h, upd_ne h]
theorem era_new {d : Addr} {o : HO} (h : H d = none) : era (upd H d o) d = H := by
  funext b
  by_cases e : b = d
  · subst e; rw [era_self, h]
  · rw [era_ne e, upd_ne e]
theorem upd_era {d : Addr} {o : HO} (h : H d = some o) : upd (era H d) d o = H := by
  funext b
  by_cases e : b = d
  · subst e; rw [upd_same, h]
  · rw [upd_ne e, era_ne e]
def Gd (G : Off1) (d : Addr) : Off1 := fun a => G a ∨ a = d
theorem era_keep {d : Addr} : Keep (Off G L) (era H d) (Off (Gd G d) L) H where
  kp := fun b u e _ => by
    by_cases h : b = d
    · subst h; rw [era_self] at e; cases e
    · rwa [era_ne h] at e
  no := fun b h => by
    rcases h with (h | h) | h
    · exact .inl (.inl h)
    · subst h; exact .inr era_self
    · exact .inl (.inr h)
theorem back_keep {d : Addr} : Keep (Off (Gd G d) L) H (Off G L) (era H d) where
  kp := fun b u e n => by
    rw [era_ne fun z => n (.inl (.inr z))]
    exact e
  no := fun b h => by
    rcases h with h | h
    · exact .inl (.inl (.inl h))
    · exact .inl (.inr h)
theorem RD.keep {G' : Off1} {H' : Hp} (k : Keep (Off G L) H (Off G' L) H') : ∀ {v : V} {d : D}, RD K G L H v d → RD K G' L H' v d
  | _, .p d, h => Fz.mono k d _ h
  | _, .r _, h => h
theorem OR.keep {G' : Off1} {H' : Hp} (k : Keep (Off G L) H (Off G' L) H') {a : Addr} {o : Ob} (e : ∀ u, H a = some u → H' a = some u) (h : OR K G L H a o) : OR K G' L H' a o := by
  cases o with
  | lst ds =>
    obtain ⟨xs, h1, h2⟩ := h
    exact ⟨xs, e _ h1, Paired.mono (fun _ _ r => RD.keep k r) h2⟩
  | dic kvs =>
    obtain ⟨xs, h1, h2⟩ := h
    exact ⟨xs, e _ h1, Paired.mono (fun _ _ r => ⟨r.1, RD.keep k r.2⟩) h2⟩
  | gone => trivial
theorem era_in {d : Addr} (r : Rl K G L st (era H d)) (hd : ∃ o, H d = some o) : Rl K (Gd G d) L st H where
  len := r.len
  inj := r.inj
  obj := fun i a o e1 e2 => OR.keep era_keep (fun u e => by
    by_cases h : a = d
    · subst h; rw [era_self] at e; cases e
    · rwa [era_ne h] at e) (r.obj i a o e1 e2)
  gtr := fun a h => by
    rcases h with (h | h) | h
    · obtain ⟨o, e⟩ := r.gtr a (.inl h)
      by_cases z : a = d
      · subst z; exact hd
      · rw [era_ne z] at e; exact ⟨o, e⟩
    · subst h; exact hd
    · obtain ⟨o, e⟩ := r.gtr a (.inr h)
      by_cases z : a = d
      · subst z; exact hd
      · rw [era_ne z] at e; exact ⟨o, e⟩
  out := fun a h z => by
    rcases z with z | z
    · exact r.out a h z
    · subst z
      obtain ⟨o, e⟩ := r.gtr a (.inr h)
      rw [era_self] at e; cases e
  ded := r.ded
theorem era_out {d : Addr} (r : Rl K (Gd G d) L st H) (hg : ¬ G d) : Rl K G L st (era H d) where
  len := r.len
  inj := r.inj
  obj := fun i a o e1 e2 => OR.keep back_keep (fun u e => by
    rw [era_ne fun z => r.out a ⟨i, e1⟩ (.inr z)]
    exact e) (r.obj i a o e1 e2)
  gtr := fun a h => by
    have n : a ≠ d := fun z => by
      subst z
      rcases h with h | h
      · exact hg h
      · exact r.out a h (.inr rfl)
    rw [era_ne n]
    rcases h with h | h
    · exact r.gtr a (.inl (.inl h))
    · exact r.gtr a (.inr h)
  out := fun a h z => r.out a h (.inl z)
  ded := r.ded
theorem era_po {d : Addr} {L' : Lc} {H' : Hp} (po : Po L H L' H') (hd : ∃ o, H d = some o) : Po L (era H d) L' (era H' d) where
  kp := fun b u e n => by
    by_cases h : b = d
    · subst h; rw [era_self] at e; cases e
    · rw [era_ne h] at e ⊢
      exact po.kp b u e n
  st := fun b u e => by
    by_cases h : b = d
    · subst h; rw [era_self] at e; cases e
    · rw [era_ne h] at e ⊢
      exact po.st b u e
  le := po.le
  old := po.old
  new := fun k b h e => by
    by_cases z : b = d
    · subst z; exact era_self
    · rw [era_ne z]; exact po.new k b h e
theorem Nw.nx {α β : Type} {r : Res α} {Rel : Lc → Hp → β → α → Prop} {Q : β → Hp → Prop} (h : Nw K G L H r Rel Q) : Nw K G L H r.nox Rel Q := by
  cases r with
  | ok a st' => exact h
  | ex k fs st' => exact h
  | bad => exact h
theorem Nw.shift {α β : Type} {r : Res α} {Rel : Lc → Hp → β → α → Prop} {Q : β → Hp → Prop} {L1 : Lc} {H1 : Hp} (po : Po L H L1 H1) (h : Nw K G L H r Rel Q) : Nw K G L1 H1 r Rel Q := by
  cases r with
  | ok a st' => exact fun b L2 H2 po2 => h b L2 H2 (po.trans po2)
  | ex k fs st' => exact h
  | bad => exact h
theorem res_assoc {α β γ : Type} (m : Res α) (f : α → Store → Res β) (g : β → Store → Res γ) : (m.bind f).bind g = m.bind fun a st => (f a st).bind g := by
  cases m <;> rfl
theorem Nw.bindA {α β γ δ : Type} {m : Res α} {f : α → Store → Res γ} (Rel1 : Lc → Hp → β → α → Prop) {Rel2 : Lc → Hp → δ → γ → Prop} {Q : δ → Hp → Prop} (h : Nw K G L H ((m.bind f).nox) Rel2 Q) :
    Aft K c.no G L H σ m Rel1 (fun b H1 => ∃ L1 st1 a, m = .ok a st1 ∧ Po L H L1 H1 ∧ Rl K G L1 st1 H1 ∧ Rel1 L1 H1 b a ∧ Nw K G L1 H1 ((f a st1).nox) Rel2 Q) := by
  cases m with
  | ok a st' => exact fun b L' H' po rl re => ⟨L', st', a, rfl, po, rl, re, by
      have h : Nw K G L H ((f a st').nox) Rel2 Q := h
      cases e : (f a st').nox with
      | ok d st2 => rw [e] at h; exact fun b L2 H2 po2 => h b L2 H2 (po.trans po2)
      | ex k fs st2 => rw [e] at h; exact h.elim
      | bad => rw [e] at h; exact h.elim⟩
  | ex k fs st' => exact False.elim h
  | bad => exact h
def compR (m : Bool) (k : Nat) (tg : Tg) (rs : Sl → Store → Res (List D)) (rc re : Sl → Store → Res D) : Sl → Store → Res D := fun env st => (rs env st).bind fun ds st => match walkOf k ds st with
  | some xs => ((compM (fun st1 => still ds st st1) (fun x st1 => match bindT tg x (wipeE env tg.slots) with
      | some env' => (rc env' st1).bind fun c st1 => match truth c with
        | some true => (re env' st1).bind fun d st1 => .ok (some d) st1
        | some false => .ok none st1
        | none => .bad
      | none => .bad) xs st).bind fun ds st => newL m ds st).nox
  | none => .bad
theorem drop_cons {α : Type} {xs : List α} {i : Nat} (h : i < xs.length) : xs.drop i = xs[i] :: xs.drop (i + 1) := List.drop_eq_getElem_cons h
theorem compM_len {ok : Store → Bool} {f : It → Store → Res (Option D)} : ∀ {xs : List It} {st st' : Store} {ds : List D}, compM ok f xs st = .ok ds st' → True := fun _ => trivial
theorem newL_len {m : Bool} {ds : List D} {d : D} {st st' : Store} (h : newL m ds st = .ok d st') : ds.length ≤ sizeLine := by
  unfold newL at h
  split at h
  · cases h
  · omega
end
section
variable {X : Cx} {c : Wc} {tgE elt iter : Expr} {ifs : List Expr} {scope : Scope} {own : List (Str × Nat)} {pos : Pos} {tg : Tg} {k : Nat} {m : Bool} {rs : Sl → Store → Res (List D)} {rc re : Sl → Store → Res D}
theorem comp_core {σ : Sg} {H : Hp} {Q : VK} (h : tE X.K c (compR m k tg rs rc re) σ H Q) : tLc (tI X.K c k rs) (gT X.K tg) (tT X.K c.no rc) (tE X.K c.no re) tg.slots σ H Q := by
  obtain ⟨G, L, st, env, rl, rE, q⟩ := h
  refine ⟨G, L, st, env, rl, rE, ?_⟩
  unfold compR at q
  unfold walkR
  try dsimp only at q ⊢
  cases e : rs env st with
  | bad => rw [e] at q; exact q.elim
  | ex kk fs st' => rw [e] at q; exact q
  | ok ds st1 =>
    rw [e] at q
    simp only [Res.bind_ok] at q ⊢
    cases ew : walkOf k ds st1 with
    | none => rw [ew] at q; exact q.elim
    | some xs =>
      rw [ew] at q
      simp only at q ⊢
      intro J L1 H1 po1 rl1 wk D hD
      have q := q.nw.nx
      generalize hok : (fun st2 => still ds st1 st2) = ok at q
      generalize hf : (fun (x : It) (st1 : Store) => match bindT tg x (wipeE env tg.slots) with
        | some env' => (rc env' st1).bind fun c st1 => match truth c with
          | some true => (re env' st1).bind fun d st1 => Res.ok (some d) st1
          | some false => .ok none st1
          | none => .bad
        | none => .bad) = f at q
      have nG : ¬ G D := fun z => rl1.none hD (.inl z)
      refine ⟨fun i mm H2 => mm = xs.length - i ∧ i ≤ xs.length ∧ ∃ L2 st2 ys zs, H2 D = some (.lst ys) ∧ Po L1 H1 L2 (era H2 D) ∧ Rl X.K G L2 st2 (era H2 D) ∧ RDs X.K G L2 (era H2 D) ys zs ∧
        Nw X.K G L2 (era H2 D) (((compM ok f (xs.drop i) st2).bind fun rest st => newL m (zs ++ rest) st).nox) (RD X.K G) Q, ⟨xs.length, by simp, Nat.zero_le _, L1, st1, [], [], upd_same, ?_, ?_, .nil, ?_⟩, ?_⟩
      · rw [era_new hD]; exact .refl
      · rw [era_new hD]; exact rl1
      · rw [era_new hD]
        simp only [List.drop_zero, List.nil_append]
        have q2 : Nw X.K G L H ((compM ok f xs st1).bind fun ds st => newL m ds st).nox (RD X.K G) Q := q
        cases eq : ((compM ok f xs st1).bind fun ds st => newL m ds st).nox with
        | ok d st3 => rw [eq] at q2; exact fun b L3 H3 po3 => q2 b L3 H3 (po1.trans po3)
        | ex k fs st3 => rw [eq] at q2; exact q2.elim
        | bad => rw [eq] at q2; exact q2.elim
      · rintro i mm H2 ⟨rfl, hi, L2, st2, ys, zs, hD2, po2, rl2, hys, q2⟩
        have hDe : ∃ o, H2 D = some o := ⟨_, hD2⟩
        have rlD := era_in rl2 hDe
        have poD : Po L1 H1 L2 H2 := ⟨fun b u e n => by
            have := po2.kp b u e n
            by_cases z : b = D
            · subst z; rw [hD] at e; cases e
            · rwa [era_ne z] at this, fun b u e => by
            obtain ⟨o, e2⟩ := po2.st b u e
            by_cases z : b = D
            · subst z; rw [hD] at e; cases e
            · rw [era_ne z] at e2; exact ⟨o, e2⟩, po2.le, po2.old, po2.new⟩
        have hgD : ∀ b, Gd G D b → G b ∨ H1 b = none := fun b z => by
          rcases z with z | z
          · exact .inl z
          · subst z; exact .inr hD
        by_cases hlt : i < xs.length
        · rw [drop_cons hlt] at q2
          unfold compM at q2
          cases hk : ok st2 with
          | false => rw [hk] at q2; exact q2.elim
          | true =>
            rw [hk] at q2
            simp only [if_true] at q2
            have hst : still ds st1 st2 = true := by rw [← hok] at hk; exact hk
            obtain ⟨go, yld⟩ := wk.item i L2 st2 H2 _ (Gd G D) poD hgD rlD hst (List.getElem?_eq_getElem hlt)
            refine .inr ⟨go, fun H' => i + 1 ≤ xs.length ∧ ∃ L2 st2 ys zs, H' D = some (.lst ys) ∧ Po L1 H1 L2 (era H' D) ∧ Rl X.K G L2 st2 (era H' D) ∧ RDs X.K G L2 (era H' D) ys zs ∧
              Nw X.K G L2 (era H' D) (((compM ok f (xs.drop (i + 1)) st2).bind fun rest st => newL m (zs ++ rest) st).nox) (RD X.K G) Q, fun H' hN => ⟨xs.length - (i + 1), by omega, rfl, hN⟩, fun x H3 hy => ?_⟩
            obtain ⟨po3, rl3, hit⟩ := yld x H3 hy
            have rE3 : RE X.K (Gd G D) L2 H3 (wipe σ tg.slots) (wipeE env tg.slots) := by
              have k0 : Keep (Off G L) H (Off (Gd G D) L2) H3 := keepG ((po1.trans poD).trans po3) fun b z => by
                rcases z with z | z
                · exact .inl z
                · subst z
                  refine .inr ?_
                  cases ez : H b with
                  | none => rfl
                  | some u =>
                    obtain ⟨u', e'⟩ := po1.st b u ez
                    rw [hD] at e'; cases e'
              have rE' : RE X.K (Gd G D) L2 H3 σ env := ⟨rE.len, fun j d e => by
                obtain ⟨v, h1, h2⟩ := rE.at_ j d e
                exact ⟨v, h1, RD.monoG ((po1.trans poD).trans po3) (fun b z => by
                  rcases z with z | z
                  · exact .inl z
                  · subst z
                    refine .inr ?_
                    cases ez : H b with
                    | none => rfl
                    | some u =>
                      obtain ⟨u', e'⟩ := po1.st b u ez
                      rw [hD] at e'; cases e') h2⟩⟩
              exact rE'.wipe _
            -- the turn's tree
            rw [← hf] at q2
            simp only at q2
            cases eb : bindT tg xs[i] (wipeE env tg.slots) with
            | none => rw [eb] at q2; exact q2.elim
            | some env' =>
              rw [eb] at q2
              simp only at q2
              rw [hf] at q2
              refine gT_rel hit eb rE3 fun σ' rE4 hw => ⟨by rw [hw _ fun i h => h, wipe_wipe], ?_⟩
              have hD3 : H3 D = some (.lst ys) := po3.kp D _ hD2 fun z => rlD.out D z (.inr rfl)
              have nx : ∀ (L4 : Lc) (H4 : Hp) (st4 : Store), Po L2 H3 L4 H4 → Rl X.K (Gd G D) L4 st4 H4 → Nw X.K G L2 (era H2 D) (((compM ok f (xs.drop (i + 1)) st4).bind fun rest st => newL m (zs ++ rest) st).nox) (RD X.K G) Q →
                  i + 1 ≤ xs.length ∧ ∃ L2 st2 ys zs, H4 D = some (.lst ys) ∧ Po L1 H1 L2 (era H4 D) ∧ Rl X.K G L2 st2 (era H4 D) ∧ RDs X.K G L2 (era H4 D) ys zs ∧
                  Nw X.K G L2 (era H4 D) (((compM ok f (xs.drop (i + 1)) st2).bind fun rest st => newL m (zs ++ rest) st).nox) (RD X.K G) Q := fun L4 H4 st4 po4 rl4 q4 => by
                have hD4 : H4 D = some (.lst ys) := po4.kp D _ hD3 fun z => rl3.out D z (.inr rfl)
                have pe : Po L2 (era H2 D) L4 (era H4 D) := era_po (po3.trans po4) hDe
                exact ⟨hlt, L4, st4, ys, zs, hD4, po2.trans pe, era_out rl4 nG, RDs.mono pe hys, q4.shift pe⟩
              cases ec : rc env' st2 with
              | bad => rw [ec] at q2; exact q2.elim
              | ex kk fs st' => rw [ec] at q2; exact q2.elim
              | ok cd st3 =>
                rw [ec] at q2
                simp only [Res.bind_ok] at q2
                refine ⟨Gd G D, L2, st2, env', rl3, rE4, ?_⟩
                unfold rT
                rw [ec]
                simp only [Res.bind_ok]
                cases et : truth cd with
                | none => rw [et] at q2; exact q2.elim
                | some b =>
                  rw [et] at q2
                  intro b' L4 H4 po4 rl4 hb
                  cases hb
                  cases b with
                  | false =>
                    rw [if_neg Bool.false_ne_true]
                    simp only [Res.bind_ok, res_assoc] at q2
                    exact nx L4 H4 st3 po4 rl4 q2
                  | true =>
                    rw [if_pos rfl]
                    refine ⟨Gd G D, L4, st3, env', rl4, rE4.mono po4, ?_⟩
                    cases ed : re env' st3 with
                    | bad => rw [ed] at q2; exact q2.elim
                    | ex kk fs st' => rw [ed] at q2; exact q2.elim
                    | ok d st5 =>
                      rw [ed] at q2
                      simp only [Res.bind_ok, res_assoc] at q2
                      intro y L5 H5 po5 rl5 hy
                      have hD4 : H4 D = some (.lst ys) := po4.kp D _ hD3 fun z => rl3.out D z (.inr rfl)
                      have hD5 : H5 D = some (.lst ys) := po5.kp D _ hD4 fun z => rl4.out D z (.inr rfl)
                      have pe : Po L2 (era H2 D) L5 (era H5 D) := era_po ((po3.trans po4).trans po5) hDe
                      refine ⟨ys, hD5, ?_, hlt, L5, st5, ys ++ [y], zs ++ [d], upd_same, ?_, ?_, ?_, ?_⟩
                      · have hyl := Paired.length hys
                        cases ecm : compM ok f (xs.drop (i + 1)) st5 with
                        | bad => rw [ecm] at q2; exact q2.elim
                        | ex kk fs st' => rw [ecm] at q2; exact q2.elim
                        | ok rest st6 =>
                          rw [ecm] at q2
                          simp only [Res.bind_ok] at q2
                          cases en : newL m (zs ++ d :: rest) st6 with
                          | bad => rw [en] at q2; exact q2.elim
                          | ex kk fs st' => rw [en] at q2; exact q2.elim
                          | ok dd st7 =>
                            have := newL_len en
                            rw [List.length_append, List.length_cons] at this
                            omega
                      · rw [era_upd]; exact po2.trans pe
                      · rw [era_upd]; exact era_out rl5 nG
                      · rw [era_upd]
                        exact RDs.snoc (RDs.mono pe hys) (RD.keep back_keep hy)
                      · rw [era_upd]
                        simp only [List.append_assoc, List.singleton_append]
                        exact q2.shift pe
        · have ei : i = xs.length := by omega
          subst ei
          rw [List.drop_length] at q2
          unfold compM at q2
          cases hk : ok st2 with
          | false => rw [hk] at q2; exact q2.elim
          | true =>
            rw [hk] at q2
            simp only [if_true, Res.bind_ok, List.append_nil] at q2
            have hst : still ds st1 st2 = true := by rw [← hok] at hk; exact hk
            refine .inl ⟨wk.stop _ L2 st2 H2 (Gd G D) poD hgD rlD hst (Nat.le_refl _), ?_⟩
            rw [newL_noex] at q2
            have := (newL_rel q2 rl2 hys).2 D era_self
            rwa [upd_era hD2] at this
end
end Dn
/-! Dn: statements. -/
namespace Dn
open PySem PySem.Spec PyProof.Rows L2
def Goes (K : PySem.W.Frag) (G : Off1) (L : Lc) (H : Hp) (σ : Sg) (D : Ends) : Flow → Prop
  | .nx => D.nx σ H
  | .bk => D.bk σ H
  | .ct => D.ct σ H
  | .rt d => ∀ v, RD K G L H v d → D.rt v H
def AftS (K : PySem.W.Frag) (c : Wc) (G : Off1) (L : Lc) (H : Hp) (σ : Sg) (vs : List Nat) (r : SR) (D : Ends) : Prop := match r with
  | .ok a st' => ∀ σ' L' H', Po L H L' H' → Rl K G L' st' H' → RE K G L' H' σ' a.2 → wipe σ' vs = wipe σ vs → Goes K G L' H' σ' D a.1
  | .ex k fs st' => ∀ cls dd σ' L' H', Po L H L' H' → Rl K G L' st' H' → c.xr k fs (Off G L') H' cls dd → wipe σ' vs = wipe σ vs → c.W cls dd σ' H'
  | .bad => False
def tS (K : PySem.W.Frag) (c : Wc) (vs : List Nat) (r : Sl → Store → SR) : TS := fun D σ H => ∃ G L st env, Rl K G L st H ∧ RE K G L H σ env ∧ AftS K c G L H σ vs (r env st) D
abbrev SS (X : Cx) (c : Wc) (vs : List Nat) (s : Stmt) (r : Sl → Store → SR) : Prop := PS X s (tS X.K c vs r)
abbrev SB (X : Cx) (c : Wc) (vs : List Nat) (ss : List Stmt) (r : Sl → Store → SR) : Prop := PSs X ss (tS X.K c vs r)
theorem PS.imp {X : Cx} {e : Stmt} {t t' : TS} (h : PS X e t) (hi : ∀ D σ H, t' D σ H → t D σ H) : PS X e t' := ⟨fun pins s σ H D I q => h.run pins s σ H D I (hi D σ H q)⟩
theorem PSs.imp {X : Cx} {e : List Stmt} {t t' : TS} (h : PSs X e t) (hi : ∀ D σ H, t' D σ H → t D σ H) : PSs X e t' := ⟨fun pins s σ H D I q => h.run pins s σ H D I (hi D σ H q)⟩
section
variable {K : PySem.W.Frag} {c : Wc} {G : Off1} {L L1 : Lc} {H H1 : Hp} {σ σ1 : Sg} {st : Store} {env : Sl} {vs : List Nat} {D : Ends}
theorem AftS.shift {r : SR} (po : Po L H L1 H1) (w : wipe σ1 vs = wipe σ vs) (h : AftS K c G L H σ vs r D) : AftS K c G L1 H1 σ1 vs r D := by
  cases r with
  | ok a st' => exact fun σ' L' H' po' rl re w' => h σ' L' H' (po.trans po') rl re (w'.trans w)
  | ex k fs st' => exact fun cls dd σ' L' H' po' rl x w' => h cls dd σ' L' H' (po.trans po') rl x (w'.trans w)
  | bad => exact h
/-- an expression first -/
theorem AftS.bindE {α β : Type} {m : Res α} {f : α → Store → SR} (Rel : Lc → Hp → β → α → Prop) (h : AftS K c G L H σ vs (m.bind f) D) : Aft K c G L H σ m Rel (fun b H1 => ∃ L1 st1 a, Po L H L1 H1 ∧ Rl K G L1 st1 H1 ∧ Rel L1 H1 b a ∧ AftS K c G L1 H1 σ vs (f a st1) D) := by
  cases m with
  | ok a st' => exact fun b L' H' po rl re => ⟨L', st', a, po, rl, re, h.shift po rfl⟩
  | ex k fs st' => exact fun cls dd L' H' po rl x => h cls dd σ L' H' po rl x rfl
  | bad => exact h
theorem AftS.now {fl : Flow} (h : AftS K c G L H σ vs (.ok (fl, env) st) D) (rl : Rl K G L st H) (re : RE K G L H σ1 env) (w : wipe σ1 vs = wipe σ vs) : Goes K G L H σ1 D fl := h σ1 L H .refl rl re w
end
section
variable {X : Cx} {c : Wc} {vs : List Nat} {e a b d : Expr} {ra rb rd : Sl → Store → Res D} {rs : Sl → Store → Res (List D)} {pos : Pos} {r1 r2 : Sl → Store → SR} {s : Stmt} {ss s2 : List Stmt}
theorem b_nil : SB X c vs [] (fun env st => .ok (.nx, env) st) := by
  refine PSs.imp pss_nil fun D σ H h => ?_
  obtain ⟨G, L, st, env, rl, re, q⟩ := h
  exact q.now rl re rfl
theorem b_cons (h1 : SS X c vs s r1) (h2 : SB X c vs ss r2) : SB X c vs (s :: ss) (fun env st => (r1 env st).bind fun r st => match r.1 with
    | .nx => r2 r.2 st
    | .bk => .ok (.bk, r.2) st
    | .ct => .ok (.ct, r.2) st
    | .rt d => .ok (.rt d, r.2) st) := by
  refine PSs.imp (pss_cons h1 h2) fun D σ H h => ?_
  obtain ⟨G, L, st, env, rl, re, q⟩ := h
  refine ⟨G, L, st, env, rl, re, ?_⟩
  dsimp only at q
  cases e : r1 env st with
  | bad => rw [e] at q; exact q
  | ex k fs st' => rw [e] at q; exact q
  | ok r st1 =>
    obtain ⟨fl, env1⟩ := r
    rw [e] at q
    simp only [Res.bind_ok] at q
    intro σ' L' H' po rl' re' w
    cases fl with
    | nx => exact ⟨G, L', st1, env1, rl', re', q.shift po w⟩
    | bk => exact (q.shift po w).now rl' re' rfl
    | ct => exact (q.shift po w).now rl' re' rfl
    | rt d => exact (q.shift po w).now rl' re' rfl
theorem s_pass : SS X c vs (.Pass pos) (fun env st => .ok (.nx, env) st) := by
  refine PS.imp ps_pass fun D σ H h => ?_
  obtain ⟨G, L, st, env, rl, re, q⟩ := h
  exact q.now rl re rfl
theorem s_brk : SS X c vs (.Break pos) (fun env st => .ok (.bk, env) st) := by
  refine PS.imp ps_break fun D σ H h => ?_
  obtain ⟨G, L, st, env, rl, re, q⟩ := h
  exact q.now rl re rfl
theorem s_cont : SS X c vs (.Continue pos) (fun env st => .ok (.ct, env) st) := by
  refine PS.imp ps_continue fun D σ H h => ?_
  obtain ⟨G, L, st, env, rl, re, q⟩ := h
  exact q.now rl re rfl
theorem s_retN : SS X c vs (.Return none pos) (fun env st => .ok (.rt (.p .none), env) st) := by
  refine PS.imp ps_retN fun D σ H h => ?_
  obtain ⟨G, L, st, env, rl, re, q⟩ := h
  exact q.now rl re rfl _ Fz.non
theorem s_ret (ha : SE X c a ra) : SS X c vs (.Return (some a) pos) (fun env st => (ra env st).bind fun d st => .ok (.rt d, env) st) := by
  refine PS.imp (ps_ret ha) fun D σ H h => ?_
  obtain ⟨G, L, st, env, rl, re, q⟩ := h
  refine ⟨G, L, st, env, rl, re, (q.bindE (RD X.K G)).mono fun x H1 ⟨L1, st1, d, po1, rl1, hd, q1⟩ => ?_⟩
  exact q1.now rl1 (re.mono po1) rfl _ hd
theorem s_ex (ha : SE X c a ra) (hs : swapsWith a none pos.line X.env = pure false) : SS X c vs (.Expr a pos) (fun env st => (ra env st).bind fun _ st => .ok (.nx, env) st) := by
  refine PS.imp (ps_expr ha hs) fun D σ H h => ?_
  obtain ⟨G, L, st, env, rl, re, q⟩ := h
  refine ⟨G, L, st, env, rl, re, (q.bindE (RD X.K G)).mono fun x H1 ⟨L1, st1, d, po1, rl1, hd, q1⟩ => ?_⟩
  exact q1.now rl1 (re.mono po1) rfl
theorem AftS.of_some {K : PySem.W.Frag} {G : Off1} {L : Lc} {H : Hp} {σ : Sg} {st : Store} {D : Ends} {α : Type} {o : Option α} {f : α → Flow × Sl} (h : AftS K c G L H σ vs (Res.of st (o.map f)) D) : ∃ x, o = some x ∧ AftS K c G L H σ vs (.ok (f x) st) D := by
  cases o with
  | none => exact h.elim
  | some x => exact ⟨x, rfl, h⟩
theorem setE_some {i : Nat} {d : D} {env env' : Sl} (h : setE i d env = some env') : env' = env.set i (some d) := by
  unfold setE at h
  split at h
  · cases h; rfl
  · cases h
theorem s_set {i : Nat} {x : Str} {pos' : Pos} (hi : X.N[i]? = some x) (hv : i ∈ vs) (hN : X.N.Nodup) (hx : Loc X.env.scope x) (hs : swapsWith a (some (.Name x pos')) pos.line X.env = pure false) (hf : X.fn x = true ∨ X.env.scope.names.lookup x = some .local) (ha : SE X c a ra) :
    SS X c vs (.Assign [.Name x pos'] a pos) (fun env st => (ra env st).bind fun d st => Res.of st ((setE i d env).map fun env => (.nx, env))) := by
  refine PS.imp (ps_set hN hi hx ha hs hf) fun D σ H h => ?_
  obtain ⟨G, L, st, env, rl, re, q⟩ := h
  refine ⟨G, L, st, env, rl, re, (q.bindE (RD X.K G)).mono fun x H1 ⟨L1, st1, d, po1, rl1, hd, q1⟩ => ?_⟩
  obtain ⟨env', e, q2⟩ := AftS.of_some q1
  have e2 := setE_some e
  subst e2
  exact q2.now rl1 ((re.mono po1).set hd) (wipe_set hv)
/-- a name = a list comprehension on the same line -/
theorem s_setLc {i : Nat} {y : Str} {py spos : Pos} {tgE elt iter : Expr} {ifs : List Expr} {scope : Scope} {own : List (Str × Nat)} {tg : Tg} {k : Nat} {m : Bool} {rc re : Sl → Store → Res D} (hc : X.calm = true) (hN : X.N.Nodup) (hy : X.N[i]? = some y) (hv : i ∈ vs) (hyl : X.env.scope.names.lookup y = some .local)
    (hsw : swapsWith (.ListComp elt [⟨tgE, iter, ifs, 0⟩] scope pos) (some (.Name y py)) spos.line X.env = pure true) (hi : SI X c tgE k iter rs) (ok : BlkOk X.N X.env.scope scope own) (hown : own.map (·.2) = tg.slots)
    (hg : ∀ (s : Shared) (H : Hp) (C : Addr) (cl : List (Str × Addr)) (fp : List Addr), PG (X.blk s H scope (compEnvC scope cl C X.env) fp) tgE (gT X.K tg)) (ht : ∀ (s : Shared) (H : Hp) (C : Addr) (cl : List (Str × Addr)) (fp : List Addr), PTs (X.blk s H scope (compEnvC scope cl C X.env) fp) ifs (tT X.K c.no rc))
    (he : ∀ (s : Shared) (H : Hp) (C : Addr) (cl : List (Str × Addr)) (fp : List Addr), SE (X.blk s H scope (compEnvC scope cl C X.env) fp) c.no elt re) (hs : ∀ x, foldedSetIterable iter X.env x = pure x) :
    SS X c vs (.Assign [.Name y py] (.ListComp elt [⟨tgE, iter, ifs, 0⟩] scope pos) spos) (fun env st => (compR m k tg rs rc re env st).bind fun d st => Res.of st ((setE i d env).map fun env => (.nx, env))) := by
  refine PS.imp (ps_setLc (te := tE X.K c.no re) hc hN hy hyl hsw hi ok hg ht he hs) fun D σ H h => ?_
  rw [hown]
  obtain ⟨G, L, st, env, rl, re, q⟩ := h
  refine comp_core (m := m) ⟨G, L, st, env, rl, re, (q.bindE (RD X.K G)).mono fun x H1 ⟨L1, st1, d, po1, rl1, hd, q1⟩ => ?_⟩
  obtain ⟨env', e, q2⟩ := AftS.of_some q1
  have e2 := setE_some e
  subst e2
  exact q2.now rl1 ((re.mono po1).set hd) (wipe_set hv)
theorem e_comp {tgE elt iter : Expr} {ifs : List Expr} {scope : Scope} {own : List (Str × Nat)} {tg : Tg} {k : Nat} {m : Bool} {rc re : Sl → Store → Res D} (hc : X.calm = true) (hN : X.N.Nodup) (hi : SI X c tgE k iter rs) (ok : BlkOk X.N X.env.scope scope own) (hown : own.map (·.2) = tg.slots)
    (hg : ∀ (s : Shared) (H : Hp) (C : Addr) (cl : List (Str × Addr)) (fp : List Addr), PG (X.blk s H scope (compEnvC scope cl C X.env) fp) tgE (gT X.K tg)) (ht : ∀ (s : Shared) (H : Hp) (C : Addr) (cl : List (Str × Addr)) (fp : List Addr), PTs (X.blk s H scope (compEnvC scope cl C X.env) fp) ifs (tT X.K c.no rc))
    (he : ∀ (s : Shared) (H : Hp) (C : Addr) (cl : List (Str × Addr)) (fp : List Addr), SE (X.blk s H scope (compEnvC scope cl C X.env) fp) c.no elt re) (hs : ∀ x, foldedSetIterable iter X.env x = pure x) :
    SE X c (.ListComp elt [⟨tgE, iter, ifs, 0⟩] scope pos) (compR m k tg rs rc re) := by
  refine PE.imp (pe_lc (te := tE X.K c.no re) hc hN hi ok hg ht he hs) fun σ H Q h => ?_
  rw [hown]
  exact comp_core h
/-! ### if -/
theorem s_iff {t : Expr} {rt : Sl → Store → Res D} (ht : ST X c t rt) (h1 : SB X c vs ss r1) (h2 : SB X c vs s2 r2) : SS X c vs (.If t ss s2 pos) (fun env st => (rt env st).bind fun k st => match truth k with
    | some true => r1 env st
    | some false => r2 env st
    | none => .bad) := by
  refine PS.imp (ps_if ht h1 h2) fun D σ H h => ?_
  obtain ⟨G, L, st, env, rl, re, q⟩ := h
  refine ⟨G, L, st, env, rl, re, ?_⟩
  dsimp only at q
  unfold rT
  cases e : rt env st with
  | bad => rw [e] at q; exact q
  | ex k fs st' => rw [e] at q; exact fun cls dd L' H' po rl x => q cls dd σ L' H' po rl x rfl
  | ok d st1 =>
    rw [e] at q
    simp only [Res.bind_ok] at q ⊢
    cases et : truth d with
    | none => rw [et] at q; exact q.elim
    | some b =>
      rw [et] at q
      intro b' L1 H1 po1 rl1 hb
      cases hb
      cases b with
      | true =>
        rw [if_pos rfl]
        exact ⟨G, L1, st1, env, rl1, re.mono po1, q.shift po1 rfl⟩
      | false =>
        rw [if_neg Bool.false_ne_true]
        exact ⟨G, L1, st1, env, rl1, re.mono po1, q.shift po1 rfl⟩
/-! ### for, while -/
theorem s_for {tgE iter : Expr} {tg : Tg} {k : Nat} (hp : PassesOwn (model X.prog X.w) X.A X.env X.xe) (hc : X.calm = true) (hi : SI X c tgE k iter rs) (hg : PG X tgE (gT X.K tg)) (hv : ∀ i ∈ tg.slots, i ∈ vs) (hb : SB X c vs ss r1) (hs : ∀ x, foldedSetIterable iter X.env x = pure x) :
    SS X c vs (.For tgE iter ss [] pos) (fun env st => (rs env st).bind fun ds st => match walkOf k ds st with
      | some xs => forM' (fun st1 => still ds st st1) (fun x env1 st1 => match bindT tg x env1 with
        | some env2 => r1 env2 st1
        | none => .bad) xs env st
      | none => .bad) := by
  refine PS.imp (ps_for hp hc hi hg hb hs) fun D σ H h => ?_
  obtain ⟨G, L, st, env, rl, rE, q⟩ := h
  refine ⟨G, L, st, env, rl, rE, ?_⟩
  unfold walkR
  dsimp only at q
  cases e : rs env st with
  | bad => rw [e] at q; exact q.elim
  | ex kk fs st' => rw [e] at q; exact fun cls dd L' H' po rl x => q cls dd σ L' H' po rl x rfl
  | ok ds st1 =>
    rw [e] at q
    simp only [Res.bind_ok] at q ⊢
    cases ew : walkOf k ds st1 with
    | none => rw [ew] at q; exact q.elim
    | some xs =>
      rw [ew] at q
      simp only at q ⊢
      intro J L1 H1 po1 rl1 wk
      generalize hok : (fun st2 => still ds st1 st2) = ok at q
      generalize hf : (fun (x : It) (env1 : Sl) (st1 : Store) => match bindT tg x env1 with
        | some env2 => r1 env2 st1
        | none => .bad) = f at q
      refine ⟨fun i mm σ2 H2 => mm = xs.length - i ∧ i ≤ xs.length ∧ ∃ L2 st2 env2, Po L1 H1 L2 H2 ∧ Rl X.K G L2 st2 H2 ∧ RE X.K G L2 H2 σ2 env2 ∧ wipe σ2 vs = wipe σ vs ∧
        AftS X.K c G L2 H2 σ2 vs (forM' ok f (xs.drop i) env2 st2) D, ⟨xs.length, by simp, Nat.zero_le _, L1, st1, env, .refl, rl1, rE.mono po1, rfl, ?_⟩, ?_⟩
      · simp only [List.drop_zero]
        exact AftS.shift po1 rfl q
      · rintro i mm σ2 H2 ⟨rfl, hi, L2, st2, env2, po2, rl2, re2, w2, q2⟩
        by_cases hlt : i < xs.length
        · rw [drop_cons hlt] at q2
          unfold forM' at q2
          cases hk : ok st2 with
          | false => rw [hk] at q2; exact q2.elim
          | true =>
            rw [hk] at q2
            simp only [if_true] at q2
            have hst : still ds st1 st2 = true := by rw [← hok] at hk; exact hk
            obtain ⟨go, yld⟩ := wk.item i L2 st2 H2 _ G po2 (fun b z => .inl z) rl2 hst (List.getElem?_eq_getElem hlt)
            refine .inr ⟨go, fun σ' H' => i + 1 ≤ xs.length ∧ ∃ L2 st2 env2, Po L1 H1 L2 H' ∧ Rl X.K G L2 st2 H' ∧ RE X.K G L2 H' σ' env2 ∧ wipe σ' vs = wipe σ vs ∧
              AftS X.K c G L2 H' σ' vs (forM' ok f (xs.drop (i + 1)) env2 st2) D, fun σ' H' hN => ⟨xs.length - (i + 1), by omega, rfl, hN⟩, fun x H3 hy => ?_⟩
            obtain ⟨po3, rl3, hit⟩ := yld x H3 hy
            rw [← hf] at q2
            simp only at q2
            cases eb : bindT tg xs[i] env2 with
            | none => rw [eb] at q2; exact q2.elim
            | some env3 =>
              rw [eb] at q2
              simp only at q2
              rw [hf] at q2
              refine gT_rel hit eb (re2.mono po3) fun σ' re4 hw => ?_
              have hw4 := hw vs hv
              refine ⟨G, L2, st2, env3, rl3, re4, ?_⟩
              cases er : r1 env3 st2 with
              | bad => rw [er] at q2; exact q2.elim
              | ex kk fs st' => rw [er] at q2; exact fun cls dd σ5 L5 H5 po5 rl5 x5 w5 => q2 cls dd σ5 L5 H5 (po3.trans po5) rl5 x5 (w5.trans hw4)
              | ok r st5 =>
                obtain ⟨fl, env5⟩ := r
                rw [er] at q2
                simp only [Res.bind_ok] at q2
                intro σ5 L5 H5 po5 rl5 re5 w5
                have q5 := AftS.shift (po3.trans po5) (w5.trans hw4) q2
                have w6 : wipe σ5 vs = wipe σ vs := (w5.trans hw4).trans w2
                cases fl with
                | nx => exact ⟨hlt, L5, st5, env5, po2.trans (po3.trans po5), rl5, re5, w6, q5⟩
                | ct => exact ⟨hlt, L5, st5, env5, po2.trans (po3.trans po5), rl5, re5, w6, q5⟩
                | bk => exact q5.now rl5 re5 rfl
                | rt d => exact q5.now rl5 re5 rfl
        · have ei : i = xs.length := by omega
          subst ei
          rw [List.drop_length] at q2
          unfold forM' at q2
          cases hk : ok st2 with
          | false => rw [hk] at q2; exact q2.elim
          | true =>
            rw [hk] at q2
            simp only [if_true] at q2
            have hst : still ds st1 st2 = true := by rw [← hok] at hk; exact hk
            exact .inl ⟨wk.stop _ L2 st2 H2 G po2 (fun b z => .inl z) rl2 hst (Nat.le_refl _), q2.now rl2 re2 rfl⟩
theorem s_whl {t : Expr} {rt : Sl → Store → Res D} {n : Nat} (hp : PassesOwn (model X.prog X.w) X.A X.env X.xe) (ht : ST X c t rt) (hb : SB X c vs ss r1) : SS X c vs (.While t ss [] pos) (fun env st => whlM rt r1 n env st) := by
  refine PS.imp (ps_while hp ht hb) fun D σ H h => ?_
  obtain ⟨G, L, st, env, rl, rE, q⟩ := h
  refine ⟨fun m σ2 H2 => ∃ L2 st2 env2, Po L H L2 H2 ∧ Rl X.K G L2 st2 H2 ∧ RE X.K G L2 H2 σ2 env2 ∧ wipe σ2 vs = wipe σ vs ∧ AftS X.K c G L2 H2 σ2 vs (whlM rt r1 m env2 st2) D, ⟨n, L, st, env, .refl, rl, rE, rfl, q⟩, ?_⟩
  rintro m σ2 H2 ⟨L2, st2, env2, po2, rl2, re2, w2, q2⟩
  cases m with
  | zero => exact q2.elim
  | succ m =>
    unfold whlM at q2
    refine ⟨G, L2, st2, env2, rl2, re2, ?_⟩
    unfold rT
    cases e : rt env2 st2 with
    | bad => rw [e] at q2; exact q2.elim
    | ex k fs st' => rw [e] at q2; exact fun cls dd L' H' po rl x => q2 cls dd σ2 L' H' po rl x rfl
    | ok d st3 =>
      rw [e] at q2
      simp only [Res.bind_ok] at q2 ⊢
      cases et : truth d with
      | none => rw [et] at q2; exact q2.elim
      | some b =>
        rw [et] at q2
        intro b' L3 H3 po3 rl3 hb
        cases hb
        cases b with
        | false =>
          rw [if_neg Bool.false_ne_true]
          exact (AftS.shift po3 rfl q2).now rl3 (re2.mono po3) rfl
        | true =>
          rw [if_pos rfl]
          refine ⟨fun σ' H' => ∃ L2 st2 env2, Po L H L2 H' ∧ Rl X.K G L2 st2 H' ∧ RE X.K G L2 H' σ' env2 ∧ wipe σ' vs = wipe σ vs ∧ AftS X.K c G L2 H' σ' vs (whlM rt r1 m env2 st2) D, fun σ' H' hN => ⟨m, Nat.lt_succ_self _, hN⟩, ?_⟩
          refine ⟨G, L3, st3, env2, rl3, re2.mono po3, ?_⟩
          simp only at q2
          cases er : r1 env2 st3 with
          | bad => rw [er] at q2; exact q2.elim
          | ex kk fs st' => rw [er] at q2; exact fun cls dd σ5 L5 H5 po5 rl5 x5 w5 => q2 cls dd σ5 L5 H5 (po3.trans po5) rl5 x5 w5
          | ok r st5 =>
            obtain ⟨fl, env5⟩ := r
            rw [er] at q2
            simp only [Res.bind_ok] at q2
            intro σ5 L5 H5 po5 rl5 re5 w5
            have q5 := AftS.shift (po3.trans po5) w5 q2
            cases fl with
            | nx => exact ⟨L5, st5, env5, po2.trans (po3.trans po5), rl5, re5, w5.trans w2, q5⟩
            | ct => exact ⟨L5, st5, env5, po2.trans (po3.trans po5), rl5, re5, w5.trans w2, q5⟩
            | bk => exact q5.now rl5 re5 rfl
            | rt d => exact q5.now rl5 re5 rfl
end
end Dn
/-! Dn: stores into several names, into places; op=. -/
namespace Dn
open PySem PySem.Spec PyProof.Rows L2
section
variable {X : Cx} {c : Wc} {vs : List Nat} {e a b d : Expr} {ra rb rd : Sl → Store → Res D} {rs : Sl → Store → Res (List D)} {pos : Pos} {r1 r2 : Sl → Store → SR} {s : Stmt} {ss s2 : List Stmt}
/-! ### several names -/
/-- names as targets -/
def namesAre (N : List Str) : List Nat → List Expr → Bool
  | [], [] => true
  | i :: is, .Name x _ :: es => decide (N[i]? = some x) && namesAre N is es
  | _, _ => false
theorem targets_ok (hN : X.N.Nodup) : ∀ {is : List Nat} {es : List Expr}, namesAre X.N is es = true → (∀ i ∈ is, ∀ x, X.N[i]? = some x → Loc X.env.scope x ∧ (X.fn x = true ∨ X.env.scope.names.lookup x = some .local)) → PGs X es (gNames is) ∧ (assignEach es X.env).length = is.length ∧ (assignEach es X.env).findIdx? (·.1) = none
  | [], [], _, _ => ⟨pgs_nil, rfl, rfl⟩
  | i :: is, .Name x p :: es, h, hx => by
    have h := Bool.and_eq_true_iff.mp (show (decide (X.N[i]? = some x) && namesAre X.N is es) = true from h)
    have hi := of_decide_eq_true h.1
    obtain ⟨g1, g2, g3⟩ := targets_ok hN h.2 fun j hj => hx j (List.mem_cons_of_mem _ hj)
    obtain ⟨l1, l2⟩ := hx i (List.mem_cons_self ..) x hi
    refine ⟨pgs_cons (pg_name hN hi l1 l2) g1 rfl, ?_, ?_⟩
    · show (assignEach es X.env).length + 1 = is.length + 1
      rw [g2]
    · show List.findIdx? (·.1) ((false, assign (.Name x p) X.env) :: assignEach es X.env) = none
      rw [List.findIdx?_cons]
      simp only [Bool.false_eq_true, if_false]
      rw [g3]
      rfl
theorem pg_many (hc : X.calm = true) (hN : X.N.Nodup) {is : List Nat} {es : List Expr} {k : Nat} (h : namesAre X.N is es = true) (hx : ∀ i ∈ is, ∀ x, X.N[i]? = some x → Loc X.env.scope x ∧ (X.fn x = true ∨ X.env.scope.names.lookup x = some .local)) : PG X (.Tuple es k pos) (gT X.K (.many is)) := by
  obtain ⟨g1, g2, g3⟩ := targets_ok hN h hx
  exact pg_tup hc g1 g2 g3
theorem s_unp {is : List Nat} {es : List Expr} {k : Nat} {pt : Pos} (hc : X.calm = true) (hN : X.N.Nodup) (h : namesAre X.N is es = true) (hx : ∀ i ∈ is, ∀ x, X.N[i]? = some x → Loc X.env.scope x ∧ (X.fn x = true ∨ X.env.scope.names.lookup x = some .local)) (hv : ∀ i ∈ is, i ∈ vs)
    (hs : swapsWithSole [.Tuple es k pt] a pos.line X.env = pure false) (hw : swappedStores [.Tuple es k pt] a X.env = pure none) (ha : SE X c a ra) :
    SS X c vs (.Assign [.Tuple es k pt] a pos) (fun env st => (ra env st).bind fun d st => match d with
      | .p (.tuple ds) => Res.of st ((setAll is (ds.map .p) env).map fun env => (.nx, env))
      | _ => .bad) := by
  refine PS.imp (ps_asg ha (pg_many hc hN h hx) hs hw rfl) fun D σ H h => ?_
  obtain ⟨G, L, st, env, rl, re, q⟩ := h
  refine ⟨G, L, st, env, rl, re, (q.bindE (RD X.K G)).mono fun x H1 ⟨L1, st1, d, po1, rl1, hd, q1⟩ => ?_⟩
  try dsimp only at q1
  split at q1
  · rename_i ds
    obtain ⟨env', e, q2⟩ := AftS.of_some q1
    refine gT_rel (tg := .many is) (it := .one (.p (.tuple ds))) (env' := env') hd e (re.mono po1) fun σ' re' w => ?_
    exact q2.now rl1 re' (w vs hv)
  · exact q1.elim
/-- a, b = x, y -/
theorem s_par2 {i j : Nat} {x y : Str} {px py pt : Pos} {kt k2 : Nat} {pt2 : Pos} (hc : X.calm = true) (hN : X.N.Nodup) (hi : X.N[i]? = some x) (hj : X.N[j]? = some y) (hij : i ≠ j) (hvi : i ∈ vs) (hvj : j ∈ vs)
    (hx : X.env.scope.names.lookup x = some .local) (hy : X.env.scope.names.lookup y = some .local)
    (hw : swappedStores [.Tuple [.Name x px, .Name y py] kt pt] (.Tuple [a, b] k2 pt2) X.env = pure (some [x, y])) (ha : SA X c [a, b] rs) :
    SS X c vs (.Assign [.Tuple [.Name x px, .Name y py] kt pt] (.Tuple [a, b] k2 pt2) pos) (fun env st => (rs env st).bind fun ds st => Res.of st ((setAll [i, j] ds env).map fun env => (.nx, env))) := by
  refine PS.imp (ps_par hc hN hi hj hij hx hy ha hw rfl) fun D σ H h => ?_
  obtain ⟨G, L, st, env, rl, re, q⟩ := h
  refine ⟨G, L, st, env, rl, re, (q.bindE (RDs X.K G)).mono fun us H1 ⟨L1, st1, ds, po1, rl1, hd, q1⟩ => ?_⟩
  obtain ⟨env', e, q2⟩ := AftS.of_some q1
  obtain ⟨hl, _⟩ := setAll_len e
  match ds, hl with
  | [d1, d2], _ =>
    cases hd with
    | cons h1 h2 =>
      cases h2 with
      | cons h2 h3 =>
        cases h3
        unfold setAll setAll setAll at e
        split at e
        · split at e
          · cases e
            exact ⟨_, _, rfl, q2.now rl1 (((re.mono po1).set h1).set h2) (by rw [wipe_set hvj, wipe_set hvi])⟩
          · cases e
        · cases e
theorem s_par3 {i j l : Nat} {x y z : Str} {px py pz pt : Pos} {kt k2 : Nat} {pt2 : Pos} (hc : X.calm = true) (hN : X.N.Nodup) (hi : X.N[i]? = some x) (hj : X.N[j]? = some y) (hl : X.N[l]? = some z) (hij : i ≠ j) (hil : i ≠ l) (hjl : j ≠ l) (hvi : i ∈ vs) (hvj : j ∈ vs) (hvl : l ∈ vs)
    (hx : X.env.scope.names.lookup x = some .local) (hy : X.env.scope.names.lookup y = some .local) (hz : X.env.scope.names.lookup z = some .local)
    (hw : swappedStores [.Tuple [.Name x px, .Name y py, .Name z pz] kt pt] (.Tuple [a, b, d] k2 pt2) X.env = pure (some [x, y, z])) (ha : SA X c [a, b, d] rs) :
    SS X c vs (.Assign [.Tuple [.Name x px, .Name y py, .Name z pz] kt pt] (.Tuple [a, b, d] k2 pt2) pos) (fun env st => (rs env st).bind fun ds st => Res.of st ((setAll [i, j, l] ds env).map fun env => (.nx, env))) := by
  refine PS.imp (ps_par3 hc hN hi hj hl hij hil hjl hx hy hz ha hw rfl) fun D σ H h => ?_
  obtain ⟨G, L, st, env, rl, re, q⟩ := h
  refine ⟨G, L, st, env, rl, re, (q.bindE (RDs X.K G)).mono fun us H1 ⟨L1, st1, ds, po1, rl1, hd, q1⟩ => ?_⟩
  obtain ⟨env', e, q2⟩ := AftS.of_some q1
  obtain ⟨hl, _⟩ := setAll_len e
  match ds, hl with
  | [d1, d2, d3], _ =>
    cases hd with
    | cons h1 h2 =>
      cases h2 with
      | cons h2 h3 =>
        cases h3 with
        | cons h3 h4 =>
          cases h4
          unfold setAll setAll setAll setAll at e
          split at e
          · split at e
            · split at e
              · cases e
                exact ⟨_, _, _, rfl, q2.now rl1 ((((re.mono po1).set h1).set h2).set h3) (by rw [wipe_set hvl, wipe_set hvj, wipe_set hvi])⟩
              · cases e
            · cases e
          · cases e
/-! ### o[i] = v -/
def rSet (K : PySem.W.Frag) : TSet := fun x y z H Q => ∃ G L st d e f st', Rl K G L st H ∧ RD K G L H x d ∧ RD K G L H y e ∧ RD K G L H z f ∧ setIx d e f st = some st' ∧ ∀ L' H', Po L H L' H' → Rl K G L' st' H' → Q H'
theorem p_set (hu : X.A.units + 1 < cLine) : PSet X (rSet X.K) := by
  intro pins s σ H x y z v u w Q I rx ry rz h
  obtain ⟨G, L, st, d, e, f, st', rl, hd, he, hf, hk, q⟩ := h
  exact set_core hu I rx ry rz rl hd he hf hk q
theorem asg_sub {o i : Expr} (hi : simpleE i = true) {env : Env} {pos : Pos} (v : Value) : assign (.Subscript o i pos) env v = (do
      let ov ← holding [v] (eval o env)
      let iv ← holding [v, ov] (eval i env)
      standAt pos
      holding [v, ov, iv] (setItem ov iv v)
      release [v, ov, iv] []) := by
  cases i <;> first | rfl | cases hi
/-- right sides that are no comprehension -/
def notComp : Expr → Bool
  | .ListComp .. => false
  | .SetComp .. => false
  | .DictComp .. => false
  | _ => true
theorem swaps_of {e : Expr} (h : notComp e = true) {t : Option Expr} {l : Nat} {env : Env} : swapsWith e t l env = pure false := by
  cases e <;> first | rfl | cases h
theorem sole_of {e tg : Expr} (h : notComp e = true) {l : Nat} {env : Env} : swapsWithSole [tg] e l env = pure false := swaps_of h
theorem sole_sub {e o i : Expr} {p : Pos} {l : Nat} {env : Env} : swapsWithSole [.Subscript o i p] e l env = pure false := by
  cases e <;> rfl
theorem stores_sub {e o i : Expr} {p : Pos} {env : Env} : swappedStores [.Subscript o i p] e env = pure none := rfl
theorem s_setix {o i : Expr} {p : Pos} (hu : X.A.units + 1 < cLine) (hv : SE X c a ra) (ho : SE X c b rb) (hi : SE X c d rd) (sd : simpleE d = true) :
    SS X c vs (.Assign [.Subscript b d p] a pos) (fun env st => (ra env st).bind fun z st => (rb env st).bind fun x st => (rd env st).bind fun y st => match setIx x y z st with
      | some st => .ok (.nx, env) st
      | none => .bad) := by
  refine PS.imp (ps_asg hv (pg_sub ho hi (p_set hu) (asg_sub sd)) sole_sub stores_sub rfl) fun D σ H h => ?_
  obtain ⟨G, L, st, env, rl, re, q⟩ := h
  refine ⟨G, L, st, env, rl, re, (q.bindE (RD X.K G)).mono fun z H1 ⟨L1, st1, f, po1, rl1, hf, q1⟩ => ?_⟩
  refine ⟨G, L1, st1, env, rl1, re.mono po1, (q1.bindE (RD X.K G)).mono fun x H2 ⟨L2, st2, dx, po2, rl2, hx, q2⟩ => ?_⟩
  refine ⟨G, L2, st2, env, rl2, (re.mono po1).mono po2, (q2.bindE (RD X.K G)).mono fun y H3 ⟨L3, st3, dy, po3, rl3, hy, q3⟩ => ?_⟩
  try dsimp only at q3
  split at q3
  · rename_i st4 e
    refine ⟨G, L3, st3, dx, dy, f, st4, rl3, RD.mono po3 hx, hy, RD.mono (po2.trans po3) hf, e, fun L' H' po' rl' => ?_⟩
    exact (AftS.shift po' rfl q3).now rl' ((re.mono ((po1.trans po2).trans po3)).mono po') rfl
  · exact q3.elim
/-! ### op= -/
theorem ip_any {op : Operator} {o : O2} (h : (op = .Add ∧ o = .add) ∨ (op = .Sub ∧ o = .sub)) : PIp X op (rD X.K (opA o)) := by
  intro pins s σ H x y v u Q I rx ry h2
  obtain ⟨G, L, st, d, e, rl, hd, he, q⟩ := h2
  rcases h with ⟨rfl, rfl⟩ | ⟨rfl, rfl⟩
  · unfold opA at q
    split at q
    · exact iop_add pins s σ H x y v u Q I rx ry ⟨_, _, fz_int hd, fz_int he, q.pure rl (.int _)⟩
    · split at q
      · rename_i hz
        obtain ⟨e1, z1⟩ := fz_str hd
        obtain ⟨e2, z2⟩ := fz_str he
        exact iop_add_str pins s σ H x y v u Q I rx ry ⟨_, _, e1, e2, hz, q.pure rl (.str _ (z1.app z2 hz))⟩
      · exact q.elim
    · rename_i hz; cases hz
    · exact q.elim
  · unfold opA at q
    split at q
    · rename_i hz; cases hz
    · rename_i hz; cases hz
    · exact iop_sub pins s σ H x y v u Q I rx ry ⟨_, _, fz_int hd, fz_int he, q.pure rl (.int _)⟩
    · exact q.elim
theorem s_aug {i : Nat} {x : Str} {op : Operator} {o : O2} {pos' : Pos} (hop : (op = .Add ∧ o = .add) ∨ (op = .Sub ∧ o = .sub)) (hi : X.N[i]? = some x) (hv : i ∈ vs) (hN : X.N.Nodup) (hx : Loc X.env.scope x) (hf : X.fn x = true ∨ X.env.scope.names.lookup x = some .local) (ha : SE X c a ra) :
    SS X c vs (.AugAssign (.Name x pos') op a pos) (fun env st => match env[i]? with
      | some (some x) => (ra env st).bind fun y st => (opA o x y st).nox.bind fun d st => Res.of st ((setE i d env).map fun env => (.nx, env))
      | _ => .bad) := by
  refine PS.imp (ps_aug hN hi hx ha (ip_any hop) hf) fun D σ H h => ?_
  obtain ⟨G, L, st, env, rl, re, q⟩ := h
  dsimp only at q
  split at q
  · rename_i dx e
    obtain ⟨v, h1, h2⟩ := re.at_ i dx e
    refine ⟨v, h1, G, L, st, env, rl, re, (q.bindE (RD X.K G)).mono fun y H1 ⟨L1, st1, dy, po1, rl1, hy, q1⟩ => ?_⟩
    refine ⟨G, L1, st1, dx, dy, rl1, RD.mono po1 h2, hy, Aft.nw (c := c) (σ := σ) ((q1.bindE (RD X.K G)).mono fun z H2 ⟨L2, st2, dz, po2, rl2, hz, q2⟩ => ?_)⟩
    obtain ⟨env', e, q3⟩ := AftS.of_some q2
    have e2 := setE_some e
    subst e2
    exact q3.now rl2 ((re.mono (po1.trans po2)).set hz) (wipe_set hv)
  · exact q.elim
def rGet (K : PySem.W.Frag) : V → V → Hp → VK → Prop := fun x y H Q => ∃ G L st d e r, Rl K G L st H ∧ RD K G L H x d ∧ RD K G L H y e ∧ getM d e st = some r ∧ ∀ v, RD K G L H v r → Q v H
theorem p_get (hu : X.A.units + 1 < cLine) : PGet X (rGet X.K) := by
  intro pins s σ H x y v u Q I rx ry h
  obtain ⟨G, L, st, d, e, r, rl, hd, he, e1, q⟩ := h
  unfold getM at e1
  split at e1
  · unfold getIx at e1
    simp only at e1
    split at e1
    · rename_i ds hst
      split at e1
      · rename_i i
        obtain ⟨j, h3, h4⟩ := Option.bind_eq_some_iff.mp e1
        obtain ⟨a, e2, e3, xs, e4, f⟩ := ref_rel rl hd hst (by simp)
        obtain ⟨w, h5, h6⟩ := f.get h4
        have ei := fz_int he
        subst e2 ei
        cases rx
        obtain ⟨t, rfl⟩ := ry
        obtain ⟨its, rv, pl, hz⟩ := I.list (.inl (.inl e4))
        obtain ⟨z, ew, rw'⟩ := rv.get h5
        have hlx := Paired.length f
        have hl := rv.length
        have hn := line63
        have fin : EP X pins σ Q z s := ⟨w, H, I, rw', q w h6⟩
        unfold ixOf at h3
        split at h3
        · split at h3
          · cases h3
            exact wpAny_getItem_list pl.isList (by assumption) (by omega) (by simpa using ew) fin
          · cases h3
        · split at h3
          · cases h3
            have ej : (i + (its.toArray.size : Int)).toNat = (i + (ds.length : Int)).toNat := by
              rw [List.size_toArray, ← hl, hlx]
            exact wpAny_getItem_list_neg pl.isList (by omega) (by rw [List.size_toArray]; omega) (by omega) (by rw [ej]; simpa using ew) fin
          · cases h3
      · cases e1
    · rename_i kvs hst
      split at e1
      · split at e1
        · rename_i hko
          obtain ⟨qk, e4, hq⟩ := key_rel he hko
          obtain ⟨a, e2, e3, ks, e5, f⟩ := ref_rel rl hd hst (by simp)
          obtain ⟨w, h5, h6⟩ := (dGet_rel hq f).1 _ e1
          subst e4 e2
          cases rx
          exact d_getItem hu I (by rw [← h5]; exact DGet.k e5) ry fun w' s3 I3 rw' => ⟨w, H, I3, rw', q w h6⟩
        · cases e1
      · cases e1
    · cases e1
  · cases e1
theorem aug_sub {o i : Expr} (hi : simpleE i = true) (ov iv new : Value) : augStore i ov iv new = (do holding [new, ov, iv] (setItem ov iv new); release [new, ov, iv] []; pure .next) := by
  cases i <;> first | rfl | cases hi
theorem s_augix {op : Operator} {o : O2} {p : Pos} (hop : (op = .Add ∧ o = .add) ∨ (op = .Sub ∧ o = .sub)) (hu : X.A.units + 1 < cLine) (hv : SE X c a ra) (ho : SE X c b rb) (hi : SE X c d rd) (sd : simpleE d = true) :
    SS X c vs (.AugAssign (.Subscript b d p) op a pos) (fun env st => (rb env st).bind fun x st => (rd env st).bind fun y st => match getM x y st with
      | some old => (ra env st).bind fun z st => (opA o old z st).nox.bind fun d st => (match setIx x y d st with
        | some st => .ok (.nx, env) st
        | none => .bad)
      | none => .bad) := by
  refine PS.imp (ps_augS ho hi (p_get hu) hv (ip_any hop) (p_set hu) (aug_sub (o := b) sd)) fun D σ H h => ?_
  obtain ⟨G, L, st, env, rl, re, q⟩ := h
  refine ⟨G, L, st, env, rl, re, (q.bindE (RD X.K G)).mono fun x H1 ⟨L1, st1, dx, po1, rl1, hx, q1⟩ => ?_⟩
  refine ⟨G, L1, st1, env, rl1, re.mono po1, (q1.bindE (RD X.K G)).mono fun y H2 ⟨L2, st2, dy, po2, rl2, hy, q2⟩ => ?_⟩
  try dsimp only at q2
  split at q2
  · rename_i old e
    refine ⟨G, L2, st2, dx, dy, old, rl2, RD.mono po2 hx, hy, e, fun v hv => ?_⟩
    refine ⟨G, L2, st2, env, rl2, (re.mono po1).mono po2, (q2.bindE (RD X.K G)).mono fun z H3 ⟨L3, st3, dz, po3, rl3, hz, q3⟩ => ?_⟩
    refine ⟨G, L3, st3, old, dz, rl3, RD.mono po3 hv, hz, Aft.nw (c := c) (σ := σ) ((q3.bindE (RD X.K G)).mono fun w H4 ⟨L4, st4, dw, po4, rl4, hw, q4⟩ => ?_)⟩
    try dsimp only at q4
    split at q4
    · rename_i st5 e5
      refine ⟨G, L4, st4, dx, dy, dw, st5, rl4, RD.mono ((po2.trans po3).trans po4) hx, RD.mono (po3.trans po4) hy, hw, e5, fun L' H' po' rl' => ?_⟩
      exact (AftS.shift po' rfl q4).now rl' ((re.mono (((po1.trans po2).trans po3).trans po4)).mono po') rfl
    · exact q4.elim
  · exact q2.elim
end
end Dn
/-! Dn: does a tree of ours stand for a text of the program? -/
namespace Dn
open PySem PySem.Spec PyProof.Rows L2
structure Cn where
  fns : List (Str × Nat × Nat × List Kw)
  blt : List Str
  cst : List (Str × PyData)
def isVis (sc : Scope) (x : Str) : Bool := match sc.names.lookup x with
  | some .local => true
  | some .cell => true
  | some .free => true
  | _ => false
def isLoc (sc : Scope) (x : Str) : Bool := match sc.names.lookup x with
  | some .local => true
  | some .cell => true
  | _ => false
def isLocal (sc : Scope) (x : Str) : Bool := decide (sc.names.lookup x = some .local)
def isGl (sc : Scope) (x : Str) : Bool := decide (sc.names.lookup x = some .globalImplicit)
def fnOk (fb : Option Scope) (x : Str) : Bool := match fb with
  | none => true
  | some s => s.names.lookup x == some .cell
def plainN (x : Str) : Bool := !(x == ("__debug__" : Str)) && !(x == ("__classdict__" : Str)) && !(x == ("__name__" : Str))
/-- a built-in name that nothing hides -/
def isB (cn : Cn) (sc : Scope) (x : Str) : Bool := isGl sc x && cn.blt.contains x
def constOf : PyData → Option Const
  | .none => some .none
  | .bool b => some (.bool b)
  | .int i => some (.int i)
  | .str s => if PyData.strOk s && decide (s.length ≤ sizeLine) then some (.str s) else none
  | _ => none
def opOf : O2 → Option Operator
  | .add => some .Add
  | .sub => some .Sub
  | .mul => some .Mult
  | .mod => some .Mod
  | .fdv => some .FloorDiv
  | .pow => some .Pow
  | .shl => some .LShift
  | .shr => some .RShift
  | .band => some .BitAnd
  | _ => none
def cmpOf : O2 → Option CmpOp
  | .eq => some .Eq
  | .ne => some .NotEq
  | .lt => some .Lt
  | .le => some .LtE
  | .gt => some .Gt
  | .ge => some .GtE
  | .inn => some .In
  | .nin => some .NotIn
  | _ => none
def methOf : O2 → Option Str
  | .app => some "append"
  | .ext => some "extend"
  | .popi => some "pop"
  | _ => none
def blt1 : O1 → Option Str
  | .len => some "len"
  | .abs => some "abs"
  | .all => some "all"
  | .any => some "any"
  | .sum => some "sum"
  | .srt => some "sorted"
  | .mx => some "max"
  | .mn => some "min"
  | _ => none
def ty1 : O1 → Option Str
  | .int => some "int"
  | .tup => some "tuple"
  | .lst _ => some "list"
  | _ => none
def tyS : Ty → Option Str
  | .str => some "str"
  | .tuple => some "tuple"
  | .list => some "list"
  | .int => some "int"
  | .bool => some "bool"
  | .dict => some "dict"
  | .none => none
def blt2 : O2 → Option Str
  | .mx2 => some "max"
  | .mn2 => some "min"
  | _ => none
def m0 : O1 → Option Str
  | .pop => some "pop"
  | .rev => some "reverse"
  | _ => none
def sameLine (a b : Pos) : Bool := a.endLine == b.line
def chkTg (N : List Str) (sc : Scope) (fb : Option Scope) (tg : Tg) (e : Expr) : Bool := (tg.slots.all fun i => match N[i]? with
    | some x => isLoc sc x && (fnOk fb x || isLocal sc x)
    | none => false) && (match tg, e with
  | .one i, .Name x _ => decide (N[i]? = some x)
  | .many is, .Tuple es _ _ => namesAre N is es
  | _, _ => false)
def ownOf (N : List Str) (is : List Nat) : List (Str × Nat) := is.map fun i => (N.getD i "", i)
mutual
def chkE (cn : Cn) (N : List Str) : E → Scope → Option Scope → Expr → Bool
  | .var i, sc, _, e => (match e with
    | .Name x _ => decide (N[i]? = some x) && isVis sc x && plainN x
    | _ => false)
  | .c d, _, _, e => (match e with
    | .Constant k _ _ => decide (constOf d = some k)
    | _ => false)
  | .g _ _, _, _, _ => false
  | .o1 o a, sc, fb, e => (match o with
    | .nt => (match e with
      | .UnaryOp .Not x _ => chkE cn N a sc fb x
      | _ => false)
    | .neg => (match e with
      | .UnaryOp .USub x _ => chkE cn N a sc fb x
      | _ => false)
    | .isN => (match e with
      | .Compare x [.Is] [.Constant .none _ _] _ => chkE cn N a sc fb x
      | _ => false)
    | .niN => (match e with
      | .Compare x [.IsNot] [.Constant .none _ _] _ => chkE cn N a sc fb x
      | _ => false)
    | .isin ts => (match ts with
      | [t] => (match e with
        | .Call (.Name f _) [x, .Name y _] [] _ => decide (f = "isinstance") && isB cn sc f && isB cn sc y && decide (tyS t = some y) && plainN y && chkE cn N a sc fb x && simpleE x
        | _ => false)
      | _ => false)
    | .frz => chkE cn N a sc fb e
    | .upper => (match e with
      | .Call (.Attribute x m ap) [] [] cp => decide (m = "upper") && sameLine ap cp && chkE cn N a sc fb x && simpleE x
      | _ => false)
    | o => (match e with
      | .Call (.Name f _) [x] [] _ => isB cn sc f && (decide (blt1 o = some f) || decide (ty1 o = some f)) && chkE cn N a sc fb x && simpleE x
      | .Call (.Attribute x m ap) [] [] cp => decide (m0 o = some m) && sameLine ap cp && chkE cn N a sc fb x && simpleE x
      | _ => false))
  | .o2 o a b, sc, fb, e => (match e with
    | .BinOp x op y _ => decide (opOf o = some op) && chkE cn N a sc fb x && chkE cn N b sc fb y
    | .Compare x [op] [y] _ => decide (cmpOf o = some op) && chkE cn N a sc fb x && chkE cn N b sc fb y && simpleE y
    | .Subscript x y _ => decide (o = .ix) && chkE cn N a sc fb x && chkE cn N b sc fb y && simpleE y
    | .Call f args [] cp => (match f, args with
      | .Attribute x m ap, [y] => (decide (methOf o = some m) || (decide (o = .indx) && decide (m = "index"))) && sameLine ap cp && chkE cn N a sc fb x && simpleE x && chkE cn N b sc fb y && simpleE y
      | .Name f _, [x, y] => isB cn sc f && decide (blt2 o = some f) && chkE cn N a sc fb x && simpleE x && chkE cn N b sc fb y && simpleE y
      | _, _ => false)
    | _ => false)
  | .o3 o a b d, sc, fb, e => (match e with
    | .Call (.Attribute x m ap) [y, z] [] cp => decide (o = .ins) && decide (m = "insert") && sameLine ap cp && chkE cn N a sc fb x && simpleE x && chkE cn N b sc fb y && simpleE y && chkE cn N d sc fb z && simpleE z
    | _ => false)
  | .an es, sc, fb, e => (match e with
    | .BoolOp .And xs _ => !es.isEmpty && chkA cn N es sc fb xs
    | _ => false)
  | .orr es, sc, fb, e => (match e with
    | .BoolOp .Or xs _ => !es.isEmpty && chkA cn N es sc fb xs
    | _ => false)
  | .ite t a b, sc, fb, e => (match e with
    | .IfExp t' x y _ => chkT cn N t sc fb t' && chkE cn N a sc fb x && chkE cn N b sc fb y
    | _ => false)
  | .chain o o' a b d, sc, fb, e => (match e with
    | .Compare x [op, op'] [y, z] _ => decide (cmpOf o = some op) && decide (cmpOf o' = some op') && chkE cn N a sc fb x && chkE cn N b sc fb y && simpleE y && chkE cn N d sc fb z && simpleE z
    | _ => false)
  | .tup es, sc, fb, e => (match e with
    | .Tuple xs _ _ => chkA cn N es sc fb xs && xs.all simpleE
    | _ => false)
  | .lst _ es, sc, fb, e => (match e with
    | .List xs _ => chkA cn N es sc fb xs && xs.all simpleE
    | _ => false)
  | .dic kvs, _, _, e => (match e with
    | .Dict [] [] _ => kvs.isEmpty
    | _ => false)
  | .sl _ a lo hi, sc, fb, e => (match e with
    | .Subscript x (.Slice l h none _) _ => chkE cn N a sc fb x && chkO cn N lo sc fb l && chkO cn N hi sc fb h
    | _ => false)
  | .rv _ a, sc, fb, e => (match e with
    | .Subscript x (.Slice none none (some (.UnaryOp .USub (.Constant (.int 1) _ _) _)) _) _ => chkE cn N a sc fb x
    | _ => false)
  | .call _ f es, sc, fb, e => (match e with
    | .Call (.Name x _) xs [] _ => isGl sc x && plainN x && (cn.fns.any fun q => decide (q.1 = x) && decide (q.2.1 = f) && decide (q.2.2.1 = es.length)) && chkA cn N es sc fb xs && xs.all simpleE
    | _ => false)
  | .callk _ f pm es, sc, fb, e => (match e with
    | .Call (.Name x _) xs kws _ => isGl sc x && plainN x && (match kwNames kws with
      | some ks => (cn.fns.any fun q => decide (q.1 = x) && decide (q.2.1 = f) && decide (q.2.2.1 = pm.length) && q.2.2.2.any fun w => decide (w = (xs.length, ks, pm)))
      | none => false) && chkA cn N es sc fb (xs ++ kws.map (·.value)) && xs.all simpleE
    | _ => false)
  | .comp _ elt tg k its ifs, sc, fb, e => (match e with
    | .ListComp elt' [⟨tgE, iter, ifs', 0⟩] scope _ => chkW cn N its k sc fb iter && (match k, tgE with
        | 2, .Tuple .. => true
        | 2, _ => false
        | 3, .Tuple .. => true
        | 3, _ => false
        | _, _ => true) && blkC N sc scope (ownOf N tg.slots) && (tg.slots.all fun i => (N[i]?).isSome) && chkTg N (relS scope sc) (some scope) tg tgE && chkE cn N elt (relS scope sc) (some scope) elt' && chkTs cn N ifs (relS scope sc) (some scope) ifs' && decide (ifs.length ≤ 1) && simpleE iter
    | _ => false)
def chkA (cn : Cn) (N : List Str) : List E → Scope → Option Scope → List Expr → Bool
  | [], _, _, xs => xs.isEmpty
  | a :: es, sc, fb, xs => (match xs with
    | x :: xs => chkE cn N a sc fb x && chkA cn N es sc fb xs
    | [] => false)
def chkO (cn : Cn) (N : List Str) : Option E → Scope → Option Scope → Option Expr → Bool
  | none, _, _, x => (match x with
    | none => true
    | some _ => false)
  | some a, sc, fb, x => (match x with
    | some x => chkE cn N a sc fb x
    | none => false)
/-- as a test -/
def chkT (cn : Cn) (N : List Str) : E → Scope → Option Scope → Expr → Bool
  | .o1 o a, sc, fb, e => (match e with
    | .UnaryOp .Not x _ => decide (o = .nt) && chkT cn N a sc fb x
    | .Compare x [op] [.Constant .none _ _] _ => ((decide (o = .isN) && decide (op = .Is)) || (decide (o = .niN) && decide (op = .IsNot))) && chkE cn N a sc fb x
    | .Call (.Name f p) [x, .Name y p2] [] pos => (match o with
      | .isin [t] => decide (f = "isinstance") && isB cn sc f && isB cn sc y && decide (tyS t = some y) && plainN y && chkE cn N a sc fb x && simpleE x
      | _ => false)
    | .Call (.Name f p) [x] [] pos => isB cn sc f && decide (blt1 o = some f) && chkE cn N a sc fb x && simpleE x
    | _ => false)
  | .o2 o a b, sc, fb, e => (match e with
    | .Compare x [op] [y] _ => decide (cmpOf o = some op) && chkE cn N a sc fb x && chkE cn N b sc fb y && simpleE y
    | .Subscript x y _ => decide (o = .ix) && chkE cn N a sc fb x && chkE cn N b sc fb y && simpleE y
    | _ => false)
  | .chain o o' a b d, sc, fb, e => (match e with
    | .Compare x [op, op'] [y, z] _ => decide (cmpOf o = some op) && decide (cmpOf o' = some op') && chkE cn N a sc fb x && chkE cn N b sc fb y && simpleE y && chkE cn N d sc fb z && simpleE z
    | _ => false)
  | .an es, sc, fb, e => (match e with
    | .BoolOp .And xs _ => !es.isEmpty && chkTs cn N es sc fb xs
    | _ => false)
  | .orr es, sc, fb, e => (match e with
    | .BoolOp .Or xs _ => !es.isEmpty && chkTs cn N es sc fb xs
    | _ => false)
  | .var i, sc, _, e => (match e with
    | .Name x _ => decide (N[i]? = some x) && isVis sc x && plainN x
    | _ => false)
  | .c d, _, _, e => (match e with
    | .Constant k _ _ => decide (constOf d = some k)
    | _ => false)
  | .call _ f es, sc, fb, e => (match e with
    | .Call (.Name x _) xs [] _ => isGl sc x && plainN x && (cn.fns.any fun q => decide (q.1 = x) && decide (q.2.1 = f) && decide (q.2.2.1 = es.length)) && chkA cn N es sc fb xs && xs.all simpleE
    | _ => false)
  | _, _, _, _ => false
def chkTs (cn : Cn) (N : List Str) : List E → Scope → Option Scope → List Expr → Bool
  | [], _, _, xs => xs.isEmpty
  | a :: es, sc, fb, xs => (match xs with
    | x :: xs => chkT cn N a sc fb x && chkTs cn N es sc fb xs
    | [] => false)
/-- what is walked -/
def chkW (cn : Cn) (N : List Str) : List E → Nat → Scope → Option Scope → Expr → Bool
  | [], _, _, _, _ => false
  | a :: rest, k, sc, fb, e => (match k with
    | 0 => rest.isEmpty && chkE cn N a sc fb e
    | 1 => (match e with
      | .Call (.Name f _) (x :: xs) [] _ => decide (f = "range") && isB cn sc f && decide (rest.length ≤ 2) && chkE cn N a sc fb x && chkA cn N rest sc fb xs && (x :: xs).all simpleE
      | _ => false)
    | 2 => (match e with
      | .Call (.Name f _) [x] [] _ => decide (f = "enumerate") && isB cn sc f && rest.isEmpty && chkE cn N a sc fb x && simpleE x
      | _ => false)
    | 3 => (match e with
      | .Call (.Name f _) (x :: xs) [] _ => decide (f = "zip") && isB cn sc f && decide (rest.length = 1) && chkE cn N a sc fb x && chkA cn N rest sc fb xs && (x :: xs).all simpleE
      | _ => false)
    | 7 => (match e with
      | .Call (.Name f _) [x] [] _ => decide (f = "reversed") && isB cn sc f && rest.isEmpty && chkE cn N a sc fb x && simpleE x
      | _ => false)
    | _ => false)
end
end Dn
/-! Dn: what is checked is so. -/
namespace Dn
open PySem PySem.Spec PyProof.Rows L2
structure Gx (cn : Cn) (N : List Str) (Φ : Calls) (X : Cx) (c : Wc) (sc : Scope) (fb : Option Scope) : Prop where
  hN : X.N = N
  nd : N.Nodup
  hsc : X.env.scope = sc
  kind : sc.kind = .function
  fn : ∀ x, fnOk fb x = true → X.fn x = true
  calm : X.calm = true
  un : X.A.units + 150 < cLine
  tk : Takes X c.W
  fns : ∀ q ∈ cn.fns, FnX X c Φ q.2.1 q.2.2.1 q.2.2.2 q.1
  blt : ∀ x ∈ cn.blt, X.mg x = none
section
variable {cn : Cn} {N : List Str} {Φ : Calls} {X : Cx} {c : Wc} {sc : Scope} {fb : Option Scope}
theorem vis_of {x : Str} (h : isVis sc x = true) : Vis sc x := by
  unfold isVis at h
  unfold Vis
  split at h <;> first | (rename_i e; rw [e]; simp; done) | cases h
theorem loc_of {x : Str} (h : isLoc sc x = true) : L2.Loc sc x := by
  unfold isLoc at h
  unfold L2.Loc
  split at h <;> first | (rename_i e; rw [e]; simp; done) | cases h
theorem plain_of {x : Str} (h : plainN x = true) : (x == ("__debug__" : Str)) = false ∧ (x == ("__classdict__" : Str)) = false ∧ x ≠ "__name__" := by
  unfold plainN at h
  simp only [Bool.and_eq_true, Bool.not_eq_true'] at h
  exact ⟨h.1.1, h.1.2, fun e => by rw [e] at h; exact absurd h.2 (by decide)⟩
theorem Gx.gl (g : Gx cn N Φ X c sc fb) {x : Str} (h : isGl sc x = true) : Gl X x := by
  unfold Gl Env.kindOf
  rw [g.hsc]
  exact of_decide_eq_true h
theorem Gx.isB (g : Gx cn N Φ X c sc fb) {x : Str} (h : Dn.isB cn sc x = true) : Gl X x ∧ X.mg x = none := by
  unfold Dn.isB at h
  rw [Bool.and_eq_true] at h
  exact ⟨g.gl h.1, g.blt x (by simpa using h.2)⟩
theorem bin_any {o : O2} {op : Operator} (h : opOf o = some op) : OpR X (binaryOp op) (rD X.K (op2 o)) ∧ ∀ x st, pre o x st = true := by
  cases o <;> first | (cases h; done) | skip
  all_goals (cases h; refine ⟨?_, fun _ _ => rfl⟩)
  · exact o_add
  · exact o_sub
  · exact o_mul
  · exact o_mod
  · exact o_fdv
  · exact o_pow
  · exact o_shl
  · exact o_band
  · exact o_shr
theorem cmp_any (hu : X.A.units + 150 < cLine) {o : O2} {op : CmpOp} (h : cmpOf o = some op) : OpR X (compareOp op) (rD X.K (op2 o)) ∧ ∀ x st, pre o x st = true := by
  cases o <;> first | (cases h; done) | skip
  all_goals (cases h; refine ⟨?_, fun _ _ => rfl⟩)
  · exact o_eq (by omega)
  · exact o_ne (by omega)
  · exact o_lt
  · exact o_le
  · exact o_gt
  · exact o_ge
  · exact o_in (by omega)
  · exact o_nin (by omega)
theorem const_ok {d : PyData} {k : Const} (h : constOf d = some k) {j : Nat} {pos : Pos} : SE X c (.Constant k j pos) (fun _ st => .ok (.p d) st) := by
  unfold constOf at h
  split at h
  · cases h; exact e_cst pe_non fun _ _ => .non
  · cases h; exact e_cst pe_bl fun _ _ => .bl _
  · cases h; exact e_cst pe_int fun _ _ => .int _
  · split at h
    · rename_i hh
      cases h
      rw [Bool.and_eq_true] at hh
      exact e_cst pe_str fun _ _ => .str _ ⟨hh.1, of_decide_eq_true hh.2⟩
    · cases h
  · cases h
theorem evs_len {es : List E} : ∀ {env : Sl} {st st' : Store} {ds : List D}, evs Φ es env st = .ok ds st' → ds.length = es.length := by
  induction es with
  | nil => intro env st st' ds h; cases h; rfl
  | cons e es ih =>
    intro env st st' ds h
    unfold evs at h
    cases e1 : ev Φ e env st with
    | bad => rw [e1] at h; cases h
    | ex k fs s => rw [e1] at h; cases h
    | ok d s =>
      rw [e1] at h
      simp only [Res.bind_ok] at h
      cases e2 : evs Φ es env s with
      | bad => rw [e2] at h; cases h
      | ex k fs s => rw [e2] at h; cases h
      | ok r s2 =>
        rw [e2] at h
        simp only [Res.bind_ok] at h
        cases h
        simp [ih e2]
theorem evs_app {es fs : List E} : ∀ {env : Sl} {st : Store}, evs Φ (es ++ fs) env st = (evs Φ es env st).bind fun ds st => (evs Φ fs env st).bind fun gs st => .ok (ds ++ gs) st := by
  induction es with
  | nil =>
    intro env st
    show evs Φ fs env st = (evs Φ fs env st).bind fun gs st => .ok gs st
    cases evs Φ fs env st <;> rfl
  | cons e es ih =>
    intro env st
    show (ev Φ e env st).bind _ = Res.bind ((ev Φ e env st).bind _) _
    rw [res_assoc]
    cases ev Φ e env st with
    | bad => rfl
    | ex k fs s => rfl
    | ok d s =>
      simp only [Res.bind_ok]
      rw [show es.append fs = es ++ fs from rfl, ih, res_assoc, res_assoc]
      cases evs Φ es env s with
      | bad => rfl
      | ex k fs s => rfl
      | ok d s =>
        simp only [Res.bind_ok]
        rw [res_assoc]
        cases evs Φ fs env s <;> rfl
theorem SE.to {e : Expr} {r r' : Sl → Store → Res D} (h : SE X c e r) (he : r = r') : SE X c e r' := he ▸ h
theorem tT_yes {σ : Sg} {H : Hp} {Q : Bool → Hp → Prop} {K : PySem.W.Frag} (h : tT K c (fun _ st => .ok (bz true) st) σ H Q) : Q true H := by
  obtain ⟨G, L, st, env, rl, re, q⟩ := h
  exact q true L H .refl rl rfl
/-- blocks -/
theorem Gx.blk (g : Gx cn N Φ X c sc fb) {scope : Scope} (hk : scope.kind = .function) (s : Shared) (H : Hp) (C : Addr) (cl : List (Str × Addr)) (fp : List Addr) : Gx cn N Φ (X.blk s H scope (compEnvC scope cl C X.env) fp) c.no (relS scope sc) (some scope) where
  hN := g.hN
  nd := g.nd
  hsc := by rw [← g.hsc]; rfl
  kind := hk
  fn := fun x h => h
  calm := g.calm
  un := g.un
  tk := fun u s' ⟨_, _, _, _, _, _, _, _, _, _, _, _, _, _, _, _, w⟩ => w
  fns := fun q hq => ⟨by
    obtain ⟨fa, fd, ps, k, h⟩ := (g.fns q hq).ex
    exact ⟨fa, fd, ps, k, h⟩⟩
  blt := g.blt
end
end Dn
namespace Dn
open PySem PySem.Spec PyProof.Rows L2
section
variable {cn : Cn} {N : List Str} {Φ : Calls} {X : Cx} {c : Wc} {sc : Scope} {fb : Option Scope} {x y z : Expr} {ra rb rd : Sl → Store → Res D} {pos p ap cp p2 : Pos} {f m : Str}
theorem o1_blt (hc : X.calm = true) {o : O1} (hb : blt1 o = some f) (hB : Gl X f ∧ X.mg f = none) (ha : SE X c x ra) (sx : simpleE x = true) : SE X c (.Call (.Name f p) [x] [] pos) (fun env st => (ra env st).bind fun x st => (op1 o x st).nox) := by
  cases o <;> first | (cases hb; done) | skip
  all_goals cases hb
  · exact e_blt1 c_len hB.1 hB.2 (by decide +kernel) (by decide) (by decide) ha sx
  · exact e_blt1 c_abs hB.1 hB.2 (by decide +kernel) (by decide) (by decide) ha sx
  · exact e_blt1 (c_all hc) hB.1 hB.2 (by decide +kernel) (by decide) (by decide) ha sx
  · exact e_blt1 (c_any hc) hB.1 hB.2 (by decide +kernel) (by decide) (by decide) ha sx
  · exact e_blt1 (c_sum hc) hB.1 hB.2 (by decide +kernel) (by decide) (by decide) ha sx
  · exact e_blt1 c_srt hB.1 hB.2 (by decide +kernel) (by decide) (by decide) ha sx
  · exact e_blt1 (c_mn hc) hB.1 hB.2 (by decide +kernel) (by decide) (by decide) ha sx
  · exact e_blt1 (c_mx hc) hB.1 hB.2 (by decide +kernel) (by decide) (by decide) ha sx
theorem o1_ty {o : O1} (hb : ty1 o = some f) (hB : Gl X f ∧ X.mg f = none) (ha : SE X c x ra) (sx : simpleE x = true) : SE X c (.Call (.Name f p) [x] [] pos) (fun env st => (ra env st).bind fun x st => (op1 o x st).nox) := by
  cases o <;> first | (cases hb; done) | skip
  all_goals cases hb
  · exact e_ty1 c_int hB.1 hB.2 (by decide +kernel) (by decide) (by decide) ha sx
  · exact e_ty1 c_tup hB.1 hB.2 (by decide +kernel) (by decide) (by decide) ha sx
  · exact e_ty1 (c_lst _) hB.1 hB.2 (by decide +kernel) (by decide) (by decide) ha sx
theorem type_list_reverse : typeOf (.builtin "list.reverse") = pure (.type "method_descriptor") := by show builtinType _ = _; rw [builtinType_eq_fast]; kernel_rfl
theorem type_list_extend : typeOf (.builtin "list.extend") = pure (.type "method_descriptor") := by show builtinType _ = _; rw [builtinType_eq_fast]; kernel_rfl
theorem type_list_insert : typeOf (.builtin "list.insert") = pure (.type "method_descriptor") := by show builtinType _ = _; rw [builtinType_eq_fast]; kernel_rfl
theorem isLst_no {o : O1} (ho : o = .pop ∨ o = .rev) (x : D) (st : Store) (h : isLst x st = false) : op1 o x st = .bad := by
  unfold isLst at h
  cases x with
  | p d => rcases ho with rfl | rfl <;> rfl
  | r k =>
    simp only at h
    split at h
    · cases h
    · rename_i hn
      rcases ho with rfl | rfl <;> unfold op1 <;> simp only <;> split <;> first | rfl | (rename_i ds e; exact absurd e (hn ds))
theorem o1_m0 {o : O1} (hb : m0 o = some m) (hl : sameLine ap cp = true) (ha : SE X c x ra) (sx : simpleE x = true) : SE X c (.Call (.Attribute x m ap) [] [] cp) (fun env st => (ra env st).bind fun x st => (op1 o x st).nox) := by
  cases o <;> first | (cases hb; done) | skip
  all_goals cases hb
  · exact e_m0 PySem.F.slot_list_pop PySem.F.type_list_pop m_pop (isLst_no (.inl rfl)) ha sx hl
  · exact e_m0 PySem.F.slot_list_reverse type_list_reverse m_rev (isLst_no (.inr rfl)) ha sx hl
theorem isi_any {t : Ty} {f yn : Str} (hf : f = "isinstance") (hB : Gl X f ∧ X.mg f = none) (hY : Gl X yn ∧ X.mg yn = none) (ht : tyS t = some yn) (hp : plainN yn = true) (ha : SE X c x ra) (sx : simpleE x = true) :
    SE X c (.Call (.Name f p) [x, .Name yn p2] [] pos) (fun env st => (ra env st).bind fun x st => (op1 (.isin [t]) x st).nox) := by
  subst hf
  obtain ⟨h1, h2, h3⟩ := plain_of hp
  cases t <;> first | (cases ht; done) | skip
  all_goals cases ht
  · exact e_isi1 (u := .str) (by decide) hB.1 hB.2 hY.1 hY.2 (by decide +kernel) h3 h1 ha sx
  · exact e_isi1 (u := .tuple) (by decide) hB.1 hB.2 hY.1 hY.2 (by decide +kernel) h3 h1 ha sx
  · exact e_isi1 (u := .list) (by decide) hB.1 hB.2 hY.1 hY.2 (by decide +kernel) h3 h1 ha sx
  · exact e_isi1 (u := .int) (by decide) hB.1 hB.2 hY.1 hY.2 (by decide +kernel) h3 h1 ha sx
  · exact e_isi1 (u := .bool) (by decide) hB.1 hB.2 hY.1 hY.2 (by decide +kernel) h3 h1 ha sx
  · exact e_isi1 (u := .dict) (by decide) hB.1 hB.2 hY.1 hY.2 (by decide +kernel) h3 h1 ha sx
theorem o2_m1 {o : O2} (hb : methOf o = some m) (hl : sameLine ap cp = true) (ha : SE X c x ra) (sx : simpleE x = true) (hb2 : SE X c y rb) (sy : simpleE y = true) :
    SE X c (.Call (.Attribute x m ap) [y] [] cp) (fun env st => (ra env st).bind fun x st => if pre o x st then (rb env st).bind fun y st => (op2 o x y st).nox else .bad) := by
  cases o <;> first | (cases hb; done) | skip
  all_goals cases hb
  · exact e_m1 PySem.F.slot_list_append PySem.F.type_list_append m_app ha sx hb2 sy hl
  · exact e_m1 PySem.F.slot_list_extend type_list_extend m_ext ha sx hb2 sy hl
  · exact e_m1 PySem.F.slot_list_pop PySem.F.type_list_pop m_popi ha sx hb2 sy hl
theorem o2_blt (hc : X.calm = true) {o : O2} (hb : blt2 o = some f) (hB : Gl X f ∧ X.mg f = none) (ha : SE X c x ra) (sx : simpleE x = true) (hb2 : SE X c y rb) (sy : simpleE y = true) :
    SE X c (.Call (.Name f p) [x, y] [] pos) (fun env st => (ra env st).bind fun x st => if pre o x st then (rb env st).bind fun y st => (op2 o x y st).nox else .bad) := by
  cases o <;> first | (cases hb; done) | skip
  all_goals cases hb
  · exact e_blt2 (c_mx2 hc) hB.1 hB.2 (by decide +kernel) (by decide) (by decide) ha sx hb2 sy
  · exact e_blt2 (c_mn2 hc) hB.1 hB.2 (by decide +kernel) (by decide) (by decide) ha sx hb2 sy
/-- a call without arguments -/
theorem e_call0 {pu : Bool} {kw : List Kw} {k : Nat} (F : FnX X c Φ k 0 kw f) (tk : Takes X c.W) (hg : Gl X f) (hdb : (f == ("__debug__" : Str)) = false) : SE X c (.Call (.Name f p) [] [] pos) (fun env st => callD Φ pu k [] st) := by
  obtain ⟨fa, fd, ps, kk, F, hr, hm, hk, hb, _⟩ := F.ex
  refine ⟨fun pins s σ H Q I h => ?_⟩
  obtain ⟨G, L, st, env, rl, re, q⟩ := h
  refine wpAny_Call_Name_kw (ld_glob I hg hm ?_ hdb)
  refine PySem.W.callWith_K0 I.kIn hk (run_fnS (us := []) (vs := []) (E := fun σ => WE c.W σ) F hr hb (passAt tk σ) I .nil ⟨rfl, ?_⟩)
  dsimp only at q
  unfold callD at q
  cases pu with
  | false => exact ⟨G, L, st, [], rl, .nil, Aft.toE q⟩
  | true =>
    have q : Aft X.K c G L H σ (runP Φ k [] st) (RD X.K G) Q := q
    exact ⟨Off G L, [], [], [], pure_rl rl, .nil, Aft.toE (pure_aft (α := Unit) (ds := []) (xs := []) rl .nil rfl q)⟩
end
end Dn
namespace Dn
open PySem PySem.Spec PyProof.Rows L2
theorem fn_any {cn : Cn} {N : List Str} {Φ : Calls} {X : Cx} {c : Wc} {sc : Scope} {fb : Option Scope} (g : Gx cn N Φ X c sc fb) {x : Str} {f n : Nat} (h : (cn.fns.any fun q => decide (q.1 = x) && decide (q.2.1 = f) && decide (q.2.2.1 = n)) = true) : ∃ kw, FnX X c Φ f n kw x := by
  obtain ⟨q, hq, h⟩ := List.any_eq_true.mp h
  simp only [Bool.and_eq_true, decide_eq_true_eq] at h
  obtain ⟨⟨rfl, rfl⟩, rfl⟩ := h
  exact ⟨_, g.fns q hq⟩
theorem fn_anyk {cn : Cn} {N : List Str} {Φ : Calls} {X : Cx} {c : Wc} {sc : Scope} {fb : Option Scope} (g : Gx cn N Φ X c sc fb) {x : Str} {f n : Nat} {w : Kw} (h0 : (cn.fns.any fun q => decide (q.1 = x) && decide (q.2.1 = f) && decide (q.2.2.1 = n) && q.2.2.2.any fun v => decide (v = w)) = true) : ∃ kw, FnX X c Φ f n kw x ∧ w ∈ kw := by
  obtain ⟨q, hq, h⟩ := List.any_eq_true.mp h0
  rw [Bool.and_eq_true, Bool.and_eq_true, Bool.and_eq_true] at h
  obtain ⟨v, hv, e⟩ := List.any_eq_true.mp h.2
  have e1 := of_decide_eq_true h.1.1.1
  have e2 := of_decide_eq_true h.1.1.2
  have e3 := of_decide_eq_true h.1.2
  have e4 := of_decide_eq_true e
  subst e1 e2 e3 e4
  exact ⟨_, g.fns q hq, hv⟩
theorem chkA_len {cn : Cn} {N : List Str} {sc : Scope} {fb : Option Scope} : ∀ {es : List E} {xs : List Expr}, chkA cn N es sc fb xs = true → es.length = xs.length
  | [], xs, h => by
    unfold chkA at h
    cases xs with
    | nil => rfl
    | cons _ _ => cases h
  | a :: es, xs, h => by
    unfold chkA at h
    cases xs with
    | nil => cases h
    | cons x xs =>
      rw [Bool.and_eq_true] at h
      simp [chkA_len h.2]
theorem chkTs_len {cn : Cn} {N : List Str} {sc : Scope} {fb : Option Scope} : ∀ {es : List E} {xs : List Expr}, chkTs cn N es sc fb xs = true → es.length = xs.length
  | [], xs, h => by
    unfold chkTs at h
    cases xs with
    | nil => rfl
    | cons _ _ => cases h
  | a :: es, xs, h => by
    unfold chkTs at h
    cases xs with
    | nil => cases h
    | cons x xs =>
      rw [Bool.and_eq_true] at h
      simp [chkTs_len h.2]
theorem chkA_app {cn : Cn} {N : List Str} {sc : Scope} {fb : Option Scope} : ∀ {es : List E} {xs ys : List Expr}, chkA cn N es sc fb (xs ++ ys) = true → ∃ as bs, es = as ++ bs ∧ chkA cn N as sc fb xs = true ∧ chkA cn N bs sc fb ys = true
  | es, [], ys, h => ⟨[], es, rfl, rfl, h⟩
  | [], x :: xs, ys, h => by cases h
  | a :: es, x :: xs, ys, h => by
    unfold chkA at h
    have h : (chkE cn N a sc fb x && chkA cn N es sc fb (xs ++ ys)) = true := h
    rw [Bool.and_eq_true] at h
    obtain ⟨as, bs, rfl, h1, h2⟩ := chkA_app h.2
    exact ⟨a :: as, bs, rfl, by unfold chkA; rw [Bool.and_eq_true]; exact ⟨h.1, h1⟩, h2⟩
theorem own_snd (N : List Str) : ∀ is : List Nat, (ownOf N is).map (·.2) = is
  | [] => rfl
  | i :: is => by
    show i :: (ownOf N is).map (·.2) = i :: is
    rw [own_snd N is]
theorem folded_of {e : Expr} (h : simpleE e = true) {env : Env} (x : Value) : foldedSetIterable e env x = pure x := by
  cases e <;> first | rfl | cases h
theorem tg_ok {cn : Cn} {N : List Str} {Φ : Calls} {X : Cx} {c : Wc} {sc : Scope} {fb : Option Scope} (g : Gx cn N Φ X c sc fb) {tg : Tg} {e : Expr} (h : chkTg N sc fb tg e = true) : PG X e (gT X.K tg) := by
  unfold chkTg at h
  rw [Bool.and_eq_true] at h
  have hl : ∀ i ∈ tg.slots, ∀ x, X.N[i]? = some x → L2.Loc X.env.scope x ∧ (X.fn x = true ∨ X.env.scope.names.lookup x = some .local) := fun i hi x hx => by
    have := List.all_eq_true.mp h.1 i hi
    rw [← g.hN, hx] at this
    simp only [Bool.and_eq_true, Bool.or_eq_true] at this
    rw [g.hsc]
    refine ⟨loc_of this.1, ?_⟩
    rcases this.2 with z | z
    · exact .inl (g.fn x z)
    · exact .inr (of_decide_eq_true z)
  have h2 := h.2
  split at h2
  · rename_i i x p
    have e := of_decide_eq_true h2
    rw [← g.hN] at e
    obtain ⟨l1, l2⟩ := hl i (List.mem_cons_self ..) x e
    exact pg_name (by rw [g.hN]; exact g.nd) e l1 l2
  · rename_i is es k p
    rw [← g.hN] at h2
    exact pg_many g.calm (by rw [g.hN]; exact g.nd) h2 hl
  · cases h2
theorem val_name {x : Str} {p : Pos} {env : Env} (whole : Sem Value) : isTrue (.Name x p) env whole = (do let v ← whole; standAt (Expr.Name x p).pos; holding [v] (truthy v)) := rfl
theorem val_call {f : Expr} {as : List Expr} {ks : List Keyword} {p : Pos} {env : Env} (whole : Sem Value) : isTrue (.Call f as ks p) env whole = (do let v ← whole; standAt (Expr.Call f as ks p).pos; holding [v] (truthy v)) := rfl
theorem val_sub {a b : Expr} {p : Pos} {env : Env} (whole : Sem Value) : isTrue (.Subscript a b p) env whole = (do let v ← whole; standAt (Expr.Subscript a b p).pos; holding [v] (truthy v)) := rfl
theorem val_const {k : Const} {j : Nat} {p : Pos} {env : Env} (whole : Sem Value) : isTrue (.Constant k j p) env whole = (do let v ← whole; standAt (Expr.Constant k j p).pos; holding [v] (truthy v)) := rfl
theorem PTs.imp {X : Cx} {e : List Expr} {t t' : TT} (h : PTs X e t) (hi : ∀ σ H Q, t' σ H Q → t σ H Q) : PTs X e t' := ⟨fun pins s σ H Q I q => h.run pins s σ H Q I (hi σ H Q q)⟩
theorem kwNames_len : ∀ {kws : List Keyword} {ks : List Str}, kwNames kws = some ks → kws.length = ks.length
  | [], ks, h => by cases h; rfl
  | ⟨some x, v, q⟩ :: r, ks, h => by
    simp only [kwNames, Option.map_eq_some_iff] at h
    obtain ⟨l, h1, rfl⟩ := h
    simp [kwNames_len h1]
  | ⟨none, v, q⟩ :: r, ks, h => by cases h
mutual
theorem okE {cn : Cn} {N : List Str} {Φ : Calls} : ∀ (a : E) {X : Cx} {c : Wc} {sc : Scope} {fb : Option Scope} (g : Gx cn N Φ X c sc fb) (e : Expr), chkE cn N a sc fb e = true → SE X c e (fun env st => ev Φ a env st)
  | .var i, X, c, sc, fb, g, e, h => by
    unfold chkE at h
    split at h
    · simp only [Bool.and_eq_true, decide_eq_true_eq] at h
      obtain ⟨h1, h2, _⟩ := plain_of h.2
      exact e_var (by rw [g.hN]; exact h.1.1) (by rw [g.hsc]; exact vis_of h.1.2) h1 h2
    · cases h
  | .c d, X, c, sc, fb, g, e, h => by
    unfold chkE at h
    split at h
    · exact const_ok (of_decide_eq_true h)
    · cases h
  | .g x d, X, c, sc, fb, g, e, h => by cases h
  | .o1 o a, X, c, sc, fb, g, e, h => by
    unfold chkE at h
    split at h
    · split at h
      · exact e_not (okE a g _ h)
      · cases h
    · split at h
      · exact e_neg (okE a g _ h)
      · cases h
    · split at h
      · exact e_isN (okE a g _ h)
      · cases h
    · split at h
      · exact e_niN (okE a g _ h)
      · cases h
    · split at h
      · split at h
        · simp only [Bool.and_eq_true, decide_eq_true_eq] at h
          obtain ⟨⟨⟨⟨⟨⟨h1, h2⟩, h3⟩, h4⟩, h5⟩, h6⟩, h7⟩ := h
          exact isi_any h1 (g.isB h2) (g.isB h3) h4 h5 (okE a g _ h6) h7
        · cases h
      · cases h
    · exact e_frz (okE a g _ h)
    · split at h
      · simp only [Bool.and_eq_true, decide_eq_true_eq] at h
        obtain ⟨⟨⟨h1, h2⟩, h3⟩, h4⟩ := h
        subst h1
        exact e_upper (okE a g _ h3) h4 h2
      · cases h
    · split at h
      · simp only [Bool.and_eq_true, Bool.or_eq_true, decide_eq_true_eq] at h
        obtain ⟨⟨⟨h1, h2⟩, h3⟩, h4⟩ := h
        rcases h2 with h2 | h2
        · exact o1_blt g.calm h2 (g.isB h1) (okE a g _ h3) h4
        · exact o1_ty h2 (g.isB h1) (okE a g _ h3) h4
      · simp only [Bool.and_eq_true, decide_eq_true_eq] at h
        obtain ⟨⟨⟨h1, h2⟩, h3⟩, h4⟩ := h
        exact o1_m0 h1 h2 (okE a g _ h3) h4
      · cases h
  | .o2 o a b, X, c, sc, fb, g, e, h => by
    unfold chkE at h
    split at h
    · simp only [Bool.and_eq_true, decide_eq_true_eq] at h
      obtain ⟨⟨h1, h2⟩, h3⟩ := h
      obtain ⟨r, hp⟩ := bin_any (X := X) h1
      refine (e_bin r (okE a g _ h2) (okE b g _ h3)).to ?_
      funext env st
      show _ = (ev Φ a env st).bind fun x st => if pre o x st then (ev Φ b env st).bind fun y st => (op2 o x y st).nox else .bad
      simp only [hp, if_true]
    · simp only [Bool.and_eq_true, decide_eq_true_eq] at h
      obtain ⟨⟨⟨h1, h2⟩, h3⟩, h4⟩ := h
      obtain ⟨r, hp⟩ := cmp_any g.un h1
      refine (e_cmp r (okE a g _ h2) (okE b g _ h3) (marks_of h4)).to ?_
      funext env st
      show _ = (ev Φ a env st).bind fun x st => if pre o x st then (ev Φ b env st).bind fun y st => (op2 o x y st).nox else .bad
      simp only [hp, if_true]
    · simp only [Bool.and_eq_true, decide_eq_true_eq] at h
      obtain ⟨⟨⟨h1, h2⟩, h3⟩, h4⟩ := h
      subst h1
      exact e_ix (o_ix (by have := g.un; omega)) (okE a g _ h2) (okE b g _ h3) (plainIx_of h4)
    · split at h
      · simp only [Bool.and_eq_true, Bool.or_eq_true, decide_eq_true_eq] at h
        obtain ⟨⟨⟨⟨⟨h1, h2⟩, h3⟩, h4⟩, h5⟩, h6⟩ := h
        rcases h1 with h1 | ⟨h1, h1'⟩
        · exact o2_m1 h1 h2 (okE a g _ h3) h4 (okE b g _ h5) h6
        · subst h1 h1'
          exact e_indx (by have := g.un; omega) (okE a g _ h3) h4 (okE b g _ h5) h6 h2
      · simp only [Bool.and_eq_true, decide_eq_true_eq] at h
        obtain ⟨⟨⟨⟨⟨h1, h2⟩, h3⟩, h4⟩, h5⟩, h6⟩ := h
        exact o2_blt g.calm h2 (g.isB h1) (okE a g _ h3) h4 (okE b g _ h5) h6
      · cases h
    · cases h
  | .o3 o a b d, X, c, sc, fb, g, e, h => by
    unfold chkE at h
    split at h
    · simp only [Bool.and_eq_true, decide_eq_true_eq] at h
      obtain ⟨⟨⟨⟨⟨⟨⟨⟨h1, h2⟩, h3⟩, h4⟩, h5⟩, h6⟩, h7⟩, h8⟩, h9⟩ := h
      subst h1 h2
      exact e_m2 PySem.F.slot_list_insert type_list_insert m_ins (okE a g _ h4) h5 (okE b g _ h6) h7 (okE d g _ h8) h9 h3
    · cases h
  | .an es, X, c, sc, fb, g, e, h => by
    unfold chkE at h
    split at h
    · simp only [Bool.and_eq_true, Bool.not_eq_true'] at h
      exact okAn es g _ _ h.1 h.2
    · cases h
  | .orr es, X, c, sc, fb, g, e, h => by
    unfold chkE at h
    split at h
    · simp only [Bool.and_eq_true, Bool.not_eq_true'] at h
      exact okOr es g _ _ h.1 h.2
    · cases h
  | .ite t a b, X, c, sc, fb, g, e, h => by
    unfold chkE at h
    split at h
    · simp only [Bool.and_eq_true] at h
      exact e_ite (okT t g _ h.1.1) (okE a g _ h.1.2) (okE b g _ h.2)
    · cases h
  | .chain o o' a b d, X, c, sc, fb, g, e, h => by
    unfold chkE at h
    split at h
    · simp only [Bool.and_eq_true, decide_eq_true_eq] at h
      obtain ⟨⟨⟨⟨⟨⟨h1, h2⟩, h3⟩, h4⟩, h5⟩, h6⟩, h7⟩ := h
      obtain ⟨r, hp⟩ := cmp_any g.un h1
      obtain ⟨r', hp'⟩ := cmp_any g.un h2
      exact e_chain r r' (okE a g _ h3) (okE b g _ h4) (okE d g _ h6) (marks_of h7)
    · cases h
  | .tup es, X, c, sc, fb, g, e, h => by
    unfold chkE at h
    split at h
    · simp only [Bool.and_eq_true] at h
      exact e_tup (okA es g _ h.1 h.2)
    · cases h
  | .lst m es, X, c, sc, fb, g, e, h => by
    unfold chkE at h
    split at h
    · simp only [Bool.and_eq_true] at h
      exact e_lst (okA es g _ h.1 h.2)
    · cases h
  | .dic kvs, X, c, sc, fb, g, e, h => by
    unfold chkE at h
    split at h
    · cases kvs with
      | nil => exact e_dic0
      | cons _ _ => cases h
    · cases h
  | .sl m a lo hi, X, c, sc, fb, g, e, h => by
    unfold chkE at h
    split at h
    · simp only [Bool.and_eq_true] at h
      exact e_sl (okE a g _ h.1.1) (okO lo g _ h.1.2) (okO hi g _ h.2)
    · cases h
  | .rv m a, X, c, sc, fb, g, e, h => by
    unfold chkE at h
    split at h
    · exact e_rv (okE a g _ h)
    · cases h
  | .call pu f es, X, c, sc, fb, g, e, h => by
    unfold chkE at h
    split at h
    · rename_i x p xs pos
      simp only [Bool.and_eq_true] at h
      obtain ⟨⟨⟨⟨h1, h2⟩, h3⟩, h4⟩, h5⟩ := h
      obtain ⟨kw, F⟩ := fn_any g h3
      obtain ⟨p1, p2, _⟩ := plain_of h2
      have hl := chkA_len h4
      cases xs with
      | nil =>
        cases es with
        | nil => exact e_call0 F g.tk (g.gl h1) p1
        | cons _ _ => cases hl
      | cons x' xs' =>
        exact e_call F g.tk (g.gl h1) p1 (okA es g _ h4 h5) hl.symm h5 fun env st ds st' he => by rw [evs_len he, hl]
    · cases h
  | .callk pu f pm es, X, c, sc, fb, g, e, h => by
    unfold chkE at h
    split at h
    · rename_i x p xs kws pos
      simp only [Bool.and_eq_true] at h
      obtain ⟨⟨⟨⟨h1, h2⟩, h3⟩, h4⟩, h5⟩ := h
      obtain ⟨p1, p2, _⟩ := plain_of h2
      split at h3
      · rename_i ks hks
        obtain ⟨kw, F, hm⟩ := fn_anyk g h3
        obtain ⟨hA, hK⟩ := okK es g xs kws h4 h5
        have hl := chkA_len h4
        rw [List.length_append, List.length_map] at hl
        have hkl : kws.length = ks.length := kwNames_len hks
        have hev : (fun env st => ev Φ (.callk pu f pm es) env st) = fun env st => (evs Φ (es.take xs.length) env st).bind fun ds st => (evs Φ (es.drop xs.length) env st).bind fun gs st => match permD pm (ds ++ gs) with
            | some ds => callD Φ pu f ds st
            | none => .bad := by
          funext env st
          show (evs Φ es env st).bind _ = _
          rw [← List.take_append_drop xs.length es, evs_app, res_assoc]
          rw [List.take_append_drop xs.length es]
          cases evs Φ (es.take xs.length) env st with
          | bad => rfl
          | ex k fs s => rfl
          | ok ds s =>
            simp only [Res.bind_ok, res_assoc]
            first | done | rfl
        rw [hev]
        have l2 : ∀ env st ds st', evs Φ (es.drop xs.length) env st = .ok ds st' → ds.length = ks.length := fun env st ds st' he => by rw [evs_len he, List.length_drop]; omega
        cases xs with
        | nil => exact e_callk0 F g.tk (g.gl h1) p1 hK hm hks l2
        | cons x' xs' => exact e_callk F g.tk (g.gl h1) p1 hA hK hm hks h5 (fun env st ds st' he => by rw [evs_len he, List.length_take]; omega) l2
      · cases h3
    · cases h
  | .comp m elt tg k its ifs, X, c, sc, fb, g, e, h => by
    unfold chkE at h
    split at h
    · rename_i elt' tgE iter ifs' scope pos
      simp only [Bool.and_eq_true, decide_eq_true_eq] at h
      obtain ⟨⟨⟨⟨⟨⟨⟨⟨h1, h2⟩, h3⟩, h4⟩, h5⟩, h6⟩, h7⟩, h8⟩, h9⟩ := h
      have hb := blkOk_by h3
      have gb := fun s H C cl fp => g.blk (scope := scope) hb.kind s H C cl fp
      have hi := okW its k g tgE iter h2 h1
      refine (e_comp (m := m) (own := ownOf N tg.slots) (rc := fun env st => evAn Φ ifs env st) (re := fun env st => ev Φ elt env st) g.calm (by rw [g.hN]; exact g.nd) hi (by rw [g.hN, g.hsc]; exact hb) (own_snd N _) (fun s H C cl fp => tg_ok (gb s H C cl fp) h5) (fun s H C cl fp => ?_) (fun s H C cl fp => okE elt (gb s H C cl fp) _ h6) (folded_of h9)).to rfl
      exact okIfs ifs (gb s H C cl fp) _ h7 h8
    · cases h
theorem okA {cn : Cn} {N : List Str} {Φ : Calls} : ∀ (es : List E) {X : Cx} {c : Wc} {sc : Scope} {fb : Option Scope} (g : Gx cn N Φ X c sc fb) (xs : List Expr), chkA cn N es sc fb xs = true → xs.all simpleE = true → SA X c xs (fun env st => evs Φ es env st)
  | [], X, c, sc, fb, g, xs, h, _ => by
    unfold chkA at h
    cases xs with
    | nil => exact a_nil
    | cons _ _ => cases h
  | a :: es, X, c, sc, fb, g, xs, h, hs => by
    unfold chkA at h
    cases xs with
    | nil => cases h
    | cons x xs =>
      simp only [Bool.and_eq_true] at h
      rw [List.all_cons, Bool.and_eq_true] at hs
      exact a_cons (okE a g _ h.1) (okA es g _ h.2 hs.2) (star_of hs.1)
/-- arguments by place, then by name -/
theorem okK {cn : Cn} {N : List Str} {Φ : Calls} : ∀ (es : List E) {X : Cx} {c : Wc} {sc : Scope} {fb : Option Scope} (g : Gx cn N Φ X c sc fb) (xs : List Expr) (kws : List Keyword), chkA cn N es sc fb (xs ++ kws.map (·.value)) = true → xs.all simpleE = true →
    SA X c xs (fun env st => evs Φ (es.take xs.length) env st) ∧ SK X c kws (fun env st => evs Φ (es.drop xs.length) env st)
  | [], X, c, sc, fb, g, xs, kws, h, hs => by
    cases xs with
    | nil =>
      cases kws with
      | nil => exact ⟨a_nil, k_nil⟩
      | cons _ _ => cases h
    | cons _ _ => cases h
  | a :: es, X, c, sc, fb, g, xs, kws, h, hs => by
    cases xs with
    | nil =>
      cases kws with
      | nil => cases h
      | cons kw kws =>
        obtain ⟨nm, v, kp⟩ := kw
        have h : (chkE cn N a sc fb v && chkA cn N es sc fb (kws.map (·.value))) = true := by unfold chkA at h; exact h
        rw [Bool.and_eq_true] at h
        exact ⟨a_nil, k_cons (okE a g _ h.1) (okK es g [] kws h.2 rfl).2⟩
    | cons x xs =>
      have h : (chkE cn N a sc fb x && chkA cn N es sc fb (xs ++ kws.map (·.value))) = true := by unfold chkA at h; exact h
      rw [Bool.and_eq_true] at h
      rw [List.all_cons, Bool.and_eq_true] at hs
      obtain ⟨q1, q2⟩ := okK es g xs kws h.2 hs.2
      exact ⟨a_cons (okE a g _ h.1) q1 (star_of hs.1), q2⟩
theorem okO {cn : Cn} {N : List Str} {Φ : Calls} : ∀ (a : Option E) {X : Cx} {c : Wc} {sc : Scope} {fb : Option Scope} (g : Gx cn N Φ X c sc fb) (e : Option Expr), chkO cn N a sc fb e = true → SO X c e (fun env st => evO Φ a env st)
  | none, X, c, sc, fb, g, e, h => by
    unfold chkO at h
    cases e with
    | none => exact o_none
    | some _ => cases h
  | some a, X, c, sc, fb, g, e, h => by
    unfold chkO at h
    cases e with
    | none => cases h
    | some x => exact o_some (okE a g _ h)
theorem okAn {cn : Cn} {N : List Str} {Φ : Calls} : ∀ (es : List E) {X : Cx} {c : Wc} {sc : Scope} {fb : Option Scope} (g : Gx cn N Φ X c sc fb) (xs : List Expr) (pos : Pos), es.isEmpty = false → chkA cn N es sc fb xs = true → SE X c (.BoolOp .And xs pos) (fun env st => evAn Φ es env st)
  | [], X, c, sc, fb, g, xs, pos, hn, h => by cases hn
  | a :: es, X, c, sc, fb, g, xs, pos, _, h => by
    unfold chkA at h
    cases xs with
    | nil => cases h
    | cons x xs =>
      simp only [Bool.and_eq_true] at h
      cases es with
      | nil =>
        have h2 := h.2
        unfold chkA at h2
        cases xs with
        | nil => exact e_one (okE a g _ h.1)
        | cons _ _ => cases h2
      | cons b es =>
        have h2 := chkA_len h.2
        cases xs with
        | nil => cases h2
        | cons y ys => exact e_and (okE a g _ h.1) (okAn (b :: es) g (y :: ys) pos rfl h.2)
theorem okOr {cn : Cn} {N : List Str} {Φ : Calls} : ∀ (es : List E) {X : Cx} {c : Wc} {sc : Scope} {fb : Option Scope} (g : Gx cn N Φ X c sc fb) (xs : List Expr) (pos : Pos), es.isEmpty = false → chkA cn N es sc fb xs = true → SE X c (.BoolOp .Or xs pos) (fun env st => evOr Φ es env st)
  | [], X, c, sc, fb, g, xs, pos, hn, h => by cases hn
  | a :: es, X, c, sc, fb, g, xs, pos, _, h => by
    unfold chkA at h
    cases xs with
    | nil => cases h
    | cons x xs =>
      simp only [Bool.and_eq_true] at h
      cases es with
      | nil =>
        have h2 := h.2
        unfold chkA at h2
        cases xs with
        | nil => exact e_one (okE a g _ h.1)
        | cons _ _ => cases h2
      | cons b es =>
        have h2 := chkA_len h.2
        cases xs with
        | nil => cases h2
        | cons y ys => exact e_or (okE a g _ h.1) (okOr (b :: es) g (y :: ys) pos rfl h.2)
theorem okT {cn : Cn} {N : List Str} {Φ : Calls} : ∀ (a : E) {X : Cx} {c : Wc} {sc : Scope} {fb : Option Scope} (g : Gx cn N Φ X c sc fb) (e : Expr), chkT cn N a sc fb e = true → ST X c e (fun env st => ev Φ a env st)
  | .o1 o a, X, c, sc, fb, g, e, h => by
    unfold chkT at h
    split at h
    · simp only [Bool.and_eq_true, decide_eq_true_eq] at h
      obtain ⟨rfl, h2⟩ := h
      exact t_not (okT a g _ h2)
    · simp only [Bool.and_eq_true, Bool.or_eq_true, decide_eq_true_eq] at h
      obtain ⟨h1, h2⟩ := h
      rcases h1 with ⟨rfl, rfl⟩ | ⟨rfl, rfl⟩
      · exact t_isN (okE a g _ h2)
      · exact t_niN (okE a g _ h2)
    · split at h
      · simp only [Bool.and_eq_true, decide_eq_true_eq] at h
        obtain ⟨⟨⟨⟨⟨⟨h1, h2⟩, h3⟩, h4⟩, h5⟩, h6⟩, h7⟩ := h
        exact t_val (isi_any h1 (g.isB h2) (g.isB h3) h4 h5 (okE a g _ h6) h7) val_call
      · cases h
    · simp only [Bool.and_eq_true, decide_eq_true_eq] at h
      obtain ⟨⟨⟨h1, h2⟩, h3⟩, h4⟩ := h
      exact t_val (o1_blt g.calm h2 (g.isB h1) (okE a g _ h3) h4) val_call
    · cases h
  | .o2 o a b, X, c, sc, fb, g, e, h => by
    unfold chkT at h
    split at h
    · simp only [Bool.and_eq_true, decide_eq_true_eq] at h
      obtain ⟨⟨⟨h1, h2⟩, h3⟩, h4⟩ := h
      obtain ⟨r, hp⟩ := cmp_any g.un h1
      have e1 : (fun env st => ev Φ (.o2 o a b) env st) = fun env st => (ev Φ a env st).bind fun x st => (ev Φ b env st).bind fun y st => (op2 o x y st).nox := by
        funext env st
        show ((ev Φ a env st).bind fun x st => if pre o x st then (ev Φ b env st).bind fun y st => (op2 o x y st).nox else .bad) = _
        simp only [hp, if_true]
      rw [e1]
      exact t_cmp r (okE a g _ h2) (okE b g _ h3) (marks_of h4)
    · simp only [Bool.and_eq_true, decide_eq_true_eq] at h
      obtain ⟨⟨⟨h1, h2⟩, h3⟩, h4⟩ := h
      subst h1
      exact t_val (e_ix (o_ix (by have := g.un; omega)) (okE a g _ h2) (okE b g _ h3) (plainIx_of h4)) val_sub
    · cases h
  | .chain o o' a b d, X, c, sc, fb, g, e, h => by
    unfold chkT at h
    split at h
    · simp only [Bool.and_eq_true, decide_eq_true_eq] at h
      obtain ⟨⟨⟨⟨⟨⟨h1, h2⟩, h3⟩, h4⟩, h5⟩, h6⟩, h7⟩ := h
      obtain ⟨r, hp⟩ := cmp_any g.un h1
      obtain ⟨r', hp'⟩ := cmp_any g.un h2
      exact t_chain r r' (okE a g _ h3) (okE b g _ h4) (okE d g _ h6) (marks_of h7)
    · cases h
  | .an es, X, c, sc, fb, g, e, h => by
    unfold chkT at h
    split at h
    · simp only [Bool.and_eq_true, Bool.not_eq_true'] at h
      exact (okWAn es g _ _ h.1 h.2).pt
    · cases h
  | .orr es, X, c, sc, fb, g, e, h => by
    unfold chkT at h
    split at h
    · simp only [Bool.and_eq_true, Bool.not_eq_true'] at h
      exact (okWOr es g _ _ h.1 h.2).pt
    · cases h
  | .var i, X, c, sc, fb, g, e, h => by
    unfold chkT at h
    split at h
    · rename_i x p
      have h' : chkE cn N (.var i) sc fb (.Name x p) = true := by unfold chkE; exact h
      simp only [Bool.and_eq_true, decide_eq_true_eq] at h
      obtain ⟨h1, h2, _⟩ := plain_of h.2
      exact t_val (e_var (by rw [g.hN]; exact h.1.1) (by rw [g.hsc]; exact vis_of h.1.2) h1 h2) val_name
    · cases h
  | .c d, X, c, sc, fb, g, e, h => by
    unfold chkT at h
    split at h
    · exact t_val (const_ok (of_decide_eq_true h)) val_const
    · cases h
  | .call pu f es, X, c, sc, fb, g, e, h => by
    unfold chkT at h
    split at h
    · rename_i x p xs pos
      simp only [Bool.and_eq_true] at h
      obtain ⟨⟨⟨⟨h1, h2⟩, h3⟩, h4⟩, h5⟩ := h
      obtain ⟨kw, F⟩ := fn_any g h3
      obtain ⟨p1, p2, _⟩ := plain_of h2
      have hl := chkA_len h4
      cases xs with
      | nil =>
        cases es with
        | nil => exact t_val (e_call0 F g.tk (g.gl h1) p1) val_call
        | cons _ _ => cases hl
      | cons x' xs' =>
        exact t_val (e_call F g.tk (g.gl h1) p1 (okA es g _ h4 h5) hl.symm h5 fun env st ds st' he => by rw [evs_len he, hl]) val_call
    · cases h
  | .g .., _, _, _, _, _, _, h => by cases h
  | .o3 .., _, _, _, _, _, _, h => by cases h
  | .ite .., _, _, _, _, _, _, h => by cases h
  | .tup .., _, _, _, _, _, _, h => by cases h
  | .lst .., _, _, _, _, _, _, h => by cases h
  | .dic .., _, _, _, _, _, _, h => by cases h
  | .sl .., _, _, _, _, _, _, h => by cases h
  | .rv .., _, _, _, _, _, _, h => by cases h
  | .callk .., _, _, _, _, _, _, h => by cases h
  | .comp .., _, _, _, _, _, _, h => by cases h
theorem okWAn {cn : Cn} {N : List Str} {Φ : Calls} : ∀ (es : List E) {X : Cx} {c : Wc} {sc : Scope} {fb : Option Scope} (g : Gx cn N Φ X c sc fb) (xs : List Expr) (pos : Pos), es.isEmpty = false → chkTs cn N es sc fb xs = true → SW X c (.BoolOp .And xs pos) (fun env st => evAn Φ es env st)
  | [], X, c, sc, fb, g, xs, pos, hn, h => by cases hn
  | a :: es, X, c, sc, fb, g, xs, pos, _, h => by
    unfold chkTs at h
    cases xs with
    | nil => cases h
    | cons x xs =>
      simp only [Bool.and_eq_true] at h
      cases es with
      | nil =>
        have h2 := h.2
        unfold chkTs at h2
        cases xs with
        | nil => exact w_one (.inl rfl) (okT a g _ h.1)
        | cons _ _ => cases h2
      | cons b es =>
        have h2 := chkTs_len h.2
        cases xs with
        | nil => cases h2
        | cons y ys => exact w_and (okT a g _ h.1) (okWAn (b :: es) g (y :: ys) pos rfl h.2)
theorem okWOr {cn : Cn} {N : List Str} {Φ : Calls} : ∀ (es : List E) {X : Cx} {c : Wc} {sc : Scope} {fb : Option Scope} (g : Gx cn N Φ X c sc fb) (xs : List Expr) (pos : Pos), es.isEmpty = false → chkTs cn N es sc fb xs = true → SW X c (.BoolOp .Or xs pos) (fun env st => evOr Φ es env st)
  | [], X, c, sc, fb, g, xs, pos, hn, h => by cases hn
  | a :: es, X, c, sc, fb, g, xs, pos, _, h => by
    unfold chkTs at h
    cases xs with
    | nil => cases h
    | cons x xs =>
      simp only [Bool.and_eq_true] at h
      cases es with
      | nil =>
        have h2 := h.2
        unfold chkTs at h2
        cases xs with
        | nil => exact w_one (.inr rfl) (okT a g _ h.1)
        | cons _ _ => cases h2
      | cons b es =>
        have h2 := chkTs_len h.2
        cases xs with
        | nil => cases h2
        | cons y ys => exact w_or (okT a g _ h.1) (okWOr (b :: es) g (y :: ys) pos rfl h.2)
theorem okIfs {cn : Cn} {N : List Str} {Φ : Calls} : ∀ (es : List E) {X : Cx} {c : Wc} {sc : Scope} {fb : Option Scope} (g : Gx cn N Φ X c sc fb) (xs : List Expr), chkTs cn N es sc fb xs = true → es.length ≤ 1 → PTs X xs (tT X.K c (fun env st => evAn Φ es env st))
  | [], X, c, sc, fb, g, xs, h, _ => by
    unfold chkTs at h
    cases xs with
    | nil => exact PTs.imp pts_nil fun σ H Q q => tT_yes q
    | cons _ _ => cases h
  | [a], X, c, sc, fb, g, xs, h, _ => by
    unfold chkTs at h
    cases xs with
    | nil => cases h
    | cons x xs =>
      simp only [Bool.and_eq_true] at h
      have h2 := h.2
      unfold chkTs at h2
      cases xs with
      | nil => exact pts_one (okT a g _ h.1)
      | cons _ _ => cases h2
  | _ :: _ :: _, _, _, _, _, _, _, _, hl => by simp at hl
theorem okW {cn : Cn} {N : List Str} {Φ : Calls} : ∀ (its : List E) (k : Nat) {X : Cx} {c : Wc} {sc : Scope} {fb : Option Scope} (g : Gx cn N Φ X c sc fb) (tgE e : Expr), (match k, tgE with
        | 2, .Tuple .. => true
        | 2, _ => false
        | 3, .Tuple .. => true
        | 3, _ => false
        | _, _ => true) = true → chkW cn N its k sc fb e = true → SI X c tgE k e (fun env st => evs Φ its env st)
  | [], k, X, c, sc, fb, g, tgE, e, ht, h => by cases h
  | a :: rest, k, X, c, sc, fb, g, tgE, e, ht, h => by
    unfold chkW at h
    split at h
    · simp only [Bool.and_eq_true] at h
      cases rest with
      | nil => exact i_seq (okE a g _ h.2)
      | cons _ _ => cases h.1
    · split at h
      · rename_i f p x xs pos
        simp only [Bool.and_eq_true, decide_eq_true_eq] at h
        obtain ⟨⟨⟨⟨⟨rfl, h2⟩, h3⟩, h4⟩, h5⟩, h6⟩ := h
        obtain ⟨b1, b2⟩ := g.isB h2
        have hA : SA X c (x :: xs) (fun env st => evs Φ (a :: rest) env st) := by
          rw [List.all_cons, Bool.and_eq_true] at h6
          exact a_cons (okE a g _ h4) (okA rest g _ h5 h6.2) (star_of h6.1)
        have hl := chkA_len h5
        rw [List.all_cons, Bool.and_eq_true] at h6
        match rest, xs, hl, h3, hA, h6 with
        | [], [], _, _, hA, h6 => exact i_rng1 b1 b2 hA h6.1 fun env st ds st' he => evs_len he
        | [b], [y], _, _, hA, h6 =>
          have h7 := h6.2
          simp only [List.all_cons, List.all_nil, Bool.and_true] at h7
          exact i_rng2 b1 b2 hA h6.1 h7 fun env st ds st' he => evs_len he
        | [b, d], [y, z], _, _, hA, h6 =>
          have h7 := h6.2
          simp only [List.all_cons, List.all_nil, Bool.and_true, Bool.and_eq_true] at h7
          exact i_rng3 b1 b2 hA h6.1 h7.1 h7.2 fun env st ds st' he => evs_len he
        | _ :: _ :: _ :: _, _, _, hh, _, _ => simp at hh
      · cases h
    · split at h
      · rename_i f p x pos
        simp only [Bool.and_eq_true, decide_eq_true_eq] at h
        obtain ⟨⟨⟨⟨rfl, h2⟩, h3⟩, h4⟩, h5⟩ := h
        obtain ⟨b1, b2⟩ := g.isB h2
        cases rest with
        | nil =>
          have hA := a_cons (okE (Φ := Φ) a g _ h4) a_nil (star_of h5)
          cases tgE with
          | Tuple elts kk tp => exact i_enum b1 b2 hA h5 fun env st ds st' he => evs_len (es := [a]) he
          | _ => cases ht
        | cons _ _ => cases h3
      · cases h
    · split at h
      · rename_i f p x xs pos
        simp only [Bool.and_eq_true, decide_eq_true_eq] at h
        obtain ⟨⟨⟨⟨⟨rfl, h2⟩, h3⟩, h4⟩, h5⟩, h6⟩ := h
        obtain ⟨b1, b2⟩ := g.isB h2
        have hA : SA X c (x :: xs) (fun env st => evs Φ (a :: rest) env st) := by
          rw [List.all_cons, Bool.and_eq_true] at h6
          exact a_cons (okE a g _ h4) (okA rest g _ h5 h6.2) (star_of h6.1)
        have hl := chkA_len h5
        rw [List.all_cons, Bool.and_eq_true] at h6
        match rest, xs, hl, h3, hA, h6 with
        | [b], [y], _, _, hA, h6 =>
          have h7 := h6.2
          simp only [List.all_cons, List.all_nil, Bool.and_true] at h7
          cases tgE with
          | Tuple elts kk tp => exact i_zip b1 b2 hA h6.1 h7 fun env st ds st' he => evs_len he
          | _ => cases ht
      · cases h
    · split at h
      · rename_i f p x pos
        simp only [Bool.and_eq_true, decide_eq_true_eq] at h
        obtain ⟨⟨⟨⟨rfl, h2⟩, h3⟩, h4⟩, h5⟩ := h
        obtain ⟨b1, b2⟩ := g.isB h2
        cases rest with
        | nil => exact i_rev b1 b2 (okE a g _ h4) h5
        | cons _ _ => cases h3
      · cases h
    · cases h
end
end Dn
namespace Dn
open PySem PySem.Spec PyProof.Rows L2
def isComp : E → Bool
  | .comp .. => true
  | _ => false
def isStar : Expr → Bool
  | .Starred .. => true
  | _ => false
/-- does the compiler store this comprehension's list early? -/
def swB (sc : Scope) (x : Str) (p : Pos) : Expr → Bool
  | .ListComp _ _ s pos => isLocal sc x && (p.line == pos.line) && !(s.names.any fun (n, k) => n == x && (k == .local || k == .cell))
  | _ => false
def storesNone (es : List Expr) : Expr → Bool
  | .Tuple vs _ _ => !(es.length == 2 || es.length == 3) || vs.all (foldedForSure 8)
  | _ => true
def parOk (sc : Scope) (N : List Str) (is : List Nat) (ts vs : List Expr) : Bool :=
  namesAre N is ts && (is.all fun i => match N[i]? with
    | some x => isLocal sc x
    | none => false) && decide is.Nodup && (ts.all fun t => t.pos.line == ((ts.head?.map (·.pos.line)).getD 0)) && !(vs.any isStar) && !(vs.all (foldedForSure 8)) && !(vs.all (constantsAlone 8)) && decide (vs.length = ts.length)
def slotsOk (N : List Str) (sc : Scope) (is : List Nat) : Bool := is.all fun i => match N[i]? with
  | some x => isLoc sc x
  | none => false
def augOp : O2 → Option Operator
  | .add => some .Add
  | .sub => some .Sub
  | _ => none
mutual
def chkS (cn : Cn) (N : List Str) (sc : Scope) : S → Stmt → Bool
  | .set i a, s => (match s with
    | .Assign [.Name x p] v pos => decide (N[i]? = some x) && isLoc sc x && chkE cn N a sc none v && (notComp v || (isComp a && (match v with
        | .ListComp .. => true
        | _ => false)))
    | _ => false)
  | .unp is a, s => (match s with
    | .Assign [.Tuple es _ _] v pos => namesAre N is es && slotsOk N sc is && chkE cn N a sc none v && notComp v && storesNone es v
    | _ => false)
  | .par is as, s => (match s with
    | .Assign [.Tuple ts _ _] (.Tuple vs _ _) pos => parOk sc N is ts vs && (decide (is.length = 2) || decide (is.length = 3)) && chkA cn N as sc none vs && vs.all simpleE
    | _ => false)
  | .setix o i v, s => (match s with
    | .Assign [.Subscript o' i' _] v' pos => chkE cn N o sc none o' && chkE cn N i sc none i' && simpleE i' && chkE cn N v sc none v'
    | _ => false)
  | .aug i o a, s => (match s with
    | .AugAssign (.Name x _) op v pos => decide (N[i]? = some x) && isLoc sc x && decide (augOp o = some op) && chkE cn N a sc none v
    | _ => false)
  | .augix o i op a, s => (match s with
    | .AugAssign (.Subscript o' i' _) op' v pos => chkE cn N o sc none o' && chkE cn N i sc none i' && simpleE i' && decide (augOp op = some op') && chkE cn N a sc none v
    | _ => false)
  | .ex a, s => (match s with
    | .Expr e _ => chkE cn N a sc none e && notComp e
    | _ => false)
  | .ret a, s => (match s with
    | .Return (some e) _ => chkE cn N a sc none e
    | _ => false)
  | .retN, s => (match s with
    | .Return none _ => true
    | _ => false)
  | .iff t a b, s => (match s with
    | .If t' a' b' _ => chkT cn N t sc none t' && chkB cn N sc a a' && chkB cn N sc b b'
    | _ => false)
  | .for_ tg k its body, s => (match s with
    | .For tgE iter ss [] _ => chkW cn N its k sc none iter && (match k, tgE with
        | 2, .Tuple .. => true
        | 2, _ => false
        | 3, .Tuple .. => true
        | 3, _ => false
        | _, _ => true) && chkTg N sc none tg tgE && simpleE iter && chkB cn N sc body ss
    | _ => false)
  | .whl t body, s => (match s with
    | .While t' ss [] _ => chkT cn N t sc none t' && chkB cn N sc body ss
    | _ => false)
  | .brk, s => (match s with
    | .Break _ => true
    | _ => false)
  | .cont, s => (match s with
    | .Continue _ => true
    | _ => false)
  | .pass, s => (match s with
    | .Pass _ => true
    | _ => false)
  | .raise _ _, _ => false
  | .try_ _ _ _ _, _ => false
def chkB (cn : Cn) (N : List Str) (sc : Scope) : List S → List Stmt → Bool
  | [], ss => ss.isEmpty
  | a :: as, ss => (match ss with
    | s :: ss => chkS cn N sc a s && chkB cn N sc as ss
    | [] => false)
end
theorem sw_lc {elt : Expr} {gs : List Comprehension} {s : Scope} {pos p : Pos} {x : Str} {l : Nat} {env : Env} {sc : Scope} (hk : env.scope.kind = .function) (hs : env.scope = sc) : swapsWith (.ListComp elt gs s pos) (some (.Name x p)) l env = pure (swB sc x p (.ListComp elt gs s pos)) := by
  have hb : env.blockKind = .function := by unfold Env.blockKind; rw [hk]; rfl
  have e : (env.kindOf x == some .local) = isLocal sc x := by
    unfold Env.kindOf isLocal
    rw [hs]
    rw [Bool.eq_iff_iff]
    simp
  unfold swapsWith swB
  simp only [hb, e, Expr.pos]
  rfl
theorem stores_none {es : List Expr} {k : Nat} {pt : Pos} {v : Expr} {env : Env} (h : storesNone es v = true) : swappedStores [.Tuple es k pt] v env = pure none := by
  cases v with
  | Tuple vs k2 p2 =>
    unfold storesNone at h
    simp only [Bool.or_eq_true, Bool.not_eq_true'] at h
    unfold swappedStores
    simp only
    split
    · rfl
    · rename_i hc
      rcases h with h | h
      · exact absurd (by simp [h]) hc
      · split
        · rfl
        · split
          · rfl
          · first | rfl | (rw [if_pos h]; rfl) | (rw [if_pos h]; done)
  | _ => rfl
section
variable {cn : Cn} {N : List Str} {Φ : Calls} {X : Cx} {c : Wc} {sc : Scope}
theorem slot_ok (g : Gx cn N Φ X c sc none) {i : Nat} {x : Str} (h : N[i]? = some x) (hl : isLoc sc x = true) : X.N[i]? = some x ∧ i ∈ List.range N.length ∧ X.N.Nodup ∧ L2.Loc X.env.scope x ∧ (X.fn x = true ∨ X.env.scope.names.lookup x = some .local) :=
  ⟨by rw [g.hN]; exact h, List.mem_range.mpr (List.getElem?_eq_some_iff.mp h).1, by rw [g.hN]; exact g.nd, by rw [g.hsc]; exact loc_of hl, .inl (g.fn x rfl)⟩
theorem slots_ok (g : Gx cn N Φ X c sc none) {is : List Nat} (h : slotsOk N sc is = true) : (∀ i ∈ is, ∀ x, X.N[i]? = some x → L2.Loc X.env.scope x ∧ (X.fn x = true ∨ X.env.scope.names.lookup x = some .local)) ∧ ∀ i ∈ is, i ∈ List.range N.length := by
  refine ⟨fun i hi x hx => ?_, fun i hi => ?_⟩
  · have := List.all_eq_true.mp h i hi
    rw [← g.hN, hx] at this
    exact ⟨by rw [g.hsc]; exact loc_of this, .inl (g.fn x rfl)⟩
  · have := List.all_eq_true.mp h i hi
    cases e : N[i]? with
    | none => rw [e] at this; cases this
    | some x => exact List.mem_range.mpr (List.getElem?_eq_some_iff.mp e).1
theorem Gx.nd_inj {Φ : Calls} {fb : Option Scope} (g : Gx cn N Φ X c sc fb) {i j : Nat} {x : Str} (e1 : N[i]? = some x) (e2 : N[j]? = some x) : i = j := nodup_ix g.nd e1 e2
theorem names_cons {i : Nat} {is : List Nat} {ts : List Expr} (h : namesAre N (i :: is) ts = true) : ∃ x p r, ts = .Name x p :: r ∧ N[i]? = some x ∧ namesAre N is r = true := by
  cases ts with
  | nil => cases h
  | cons t r =>
    cases t with
    | Name x p =>
      have h := Bool.and_eq_true_iff.mp (show (decide (N[i]? = some x) && namesAre N is r) = true from h)
      exact ⟨x, p, r, rfl, of_decide_eq_true h.1, h.2⟩
    | _ => cases h
theorem names_nil {ts : List Expr} (h : namesAre N [] ts = true) : ts = [] := by
  cases ts with
  | nil => rfl
  | cons t r => cases h
theorem dups2 {x y : Str} (h : x ≠ y) : ([x, y] : List Str).eraseDups.length = 2 := by
  have hb : (y == x) = false := by simpa using fun e => h e.symm
  simp [List.eraseDups, List.eraseDupsBy, List.eraseDupsBy.loop, hb]
theorem dups3 {x y z : Str} (h : x ≠ y) (h2 : x ≠ z) (h3 : y ≠ z) : ([x, y, z] : List Str).eraseDups.length = 3 := by
  have hb : (y == x) = false := by simpa using fun e => h e.symm
  have hb2 : (z == x) = false := by simpa using fun e => h2 e.symm
  have hb3 : (z == y) = false := by simpa using fun e => h3 e.symm
  simp [List.eraseDups, List.eraseDupsBy, List.eraseDupsBy.loop, hb, hb2, hb3]
theorem any_star {vs : List Expr} : (vs.any fun | .Starred .. => true | _ => false) = vs.any isStar := by
  congr 1
theorem par2_stores {x y : Str} {px py pt p2 : Pos} {k k2 : Nat} {vs : List Expr} {env : Env} (hk : env.blockKind = .function) (hx : env.kindOf x = some .local) (hy : env.kindOf y = some .local) (hl : (py.line == px.line) = true) (hne : x ≠ y)
    (h5 : vs.any isStar = false) (h6 : vs.all (foldedForSure 8) = false) (h7 : vs.all (constantsAlone 8) = false) (h8 : vs.length = 2) : swappedStores [.Tuple [.Name x px, .Name y py] k pt] (.Tuple vs k2 p2) env = pure (some [x, y]) := by
  have hl' : py.line = px.line := by simpa using hl
  have hd := dups2 hne
  unfold swappedStores
  simp only [any_star, hk, h5, h6, h7, h8]
  simp only [List.filterMap, Expr.pos, List.head?, Option.map, Option.getD, hx, hy, hl']
  simp
  rw [if_neg, if_pos hd]
  rintro ⟨z, hz, e⟩
  have := List.any_eq_false.mp h5 z hz
  exact this (by cases z <;> first | rfl | cases e)
theorem par3_stores {x y z : Str} {px py pz pt p2 : Pos} {k k2 : Nat} {vs : List Expr} {env : Env} (hk : env.blockKind = .function) (hx : env.kindOf x = some .local) (hy : env.kindOf y = some .local) (hz : env.kindOf z = some .local) (hl : (py.line == px.line) = true) (hl2 : (pz.line == px.line) = true) (hne : x ≠ y) (hne2 : x ≠ z) (hne3 : y ≠ z)
    (h5 : vs.any isStar = false) (h6 : vs.all (foldedForSure 8) = false) (h7 : vs.all (constantsAlone 8) = false) (h8 : vs.length = 3) : swappedStores [.Tuple [.Name x px, .Name y py, .Name z pz] k pt] (.Tuple vs k2 p2) env = pure (some [x, y, z]) := by
  have hl' : py.line = px.line := by simpa using hl
  have hl2' : pz.line = px.line := by simpa using hl2
  have hd := dups3 hne hne2 hne3
  unfold swappedStores
  simp only [any_star, hk, h5, h6, h7, h8]
  simp only [List.filterMap, Expr.pos, List.head?, Option.map, Option.getD, hx, hy, hz, hl', hl2']
  simp
  rw [if_neg, if_pos hd]
  rintro ⟨z, hz, e⟩
  have := List.any_eq_false.mp h5 z hz
  exact this (by cases z <;> first | rfl | cases e)
theorem par_ok (g : Gx cn N Φ X c sc none) {is : List Nat} {ts vs : List Expr} {as : List E} {k k2 : Nat} {pt p2 pos : Pos} (h : parOk sc N is ts vs = true) (hl : is.length = 2 ∨ is.length = 3) (ha : chkA cn N as sc none vs = true) (hs : vs.all simpleE = true) :
    SS X c (List.range N.length) (.Assign [.Tuple ts k pt] (.Tuple vs k2 p2) pos) (fun env st => exS Φ (.par is as) env st) := by
  unfold parOk at h
  simp only [Bool.and_eq_true, Bool.not_eq_true', decide_eq_true_eq] at h
  obtain ⟨⟨⟨⟨⟨⟨⟨h1, h2⟩, h3⟩, h4⟩, h5⟩, h6⟩, h7⟩, h8⟩ := h
  have hb : X.env.blockKind = .function := by unfold Env.blockKind; rw [g.hsc, g.kind]; rfl
  have loc : ∀ i ∈ is, ∀ x, N[i]? = some x → X.env.scope.names.lookup x = some .local := fun i hi x hx => by
    have := List.all_eq_true.mp h2 i hi
    rw [hx] at this
    rw [g.hsc]
    exact of_decide_eq_true this
  have hA := okA (Φ := Φ) as g vs ha hs
  have inj : ∀ {i j : Nat} {x y : Str}, N[i]? = some x → N[j]? = some y → i ≠ j → x ≠ y := fun {i j x y} e1 e2 n e => by
    subst e
    exact n (g.nd_inj e1 e2)
  rcases hl with hl | hl
  · match is, hl with
    | [i, j], _ =>
      obtain ⟨x, px, r1, rfl, e1, h1⟩ := names_cons h1
      obtain ⟨y, py, r2, rfl, e2, h1⟩ := names_cons h1
      have := names_nil h1
      subst this
      match vs, h8 with
      | [a, b], _ =>
        have hij : i ≠ j := by simpa using h3
        have l1 := loc i (by simp) x e1
        have l2 := loc j (by simp) y e2
        have hl4 : (py.line == px.line) = true := List.all_eq_true.mp h4 (.Name y py) (by simp)
        exact s_par2 g.calm (by rw [g.hN]; exact g.nd) (by rw [g.hN]; exact e1) (by rw [g.hN]; exact e2) hij (List.mem_range.mpr (List.getElem?_eq_some_iff.mp e1).1) (List.mem_range.mpr (List.getElem?_eq_some_iff.mp e2).1) l1 l2
          (par2_stores hb l1 l2 hl4 (inj e1 e2 hij) h5 h6 h7 rfl) hA
  · match is, hl with
    | [i, j, l], _ =>
      obtain ⟨x, px, r1, rfl, e1, h1⟩ := names_cons h1
      obtain ⟨y, py, r2, rfl, e2, h1⟩ := names_cons h1
      obtain ⟨z, pz, r3, rfl, e3, h1⟩ := names_cons h1
      have := names_nil h1
      subst this
      match vs, h8 with
      | [a, b, d], _ =>
        have hn : (¬ i = j ∧ ¬ i = l) ∧ ¬ j = l := by simpa using h3
        have l1 := loc i (by simp) x e1
        have l2 := loc j (by simp) y e2
        have l3 := loc l (by simp) z e3
        have hl4 : (py.line == px.line) = true := List.all_eq_true.mp h4 (.Name y py) (by simp)
        have hl5 : (pz.line == px.line) = true := List.all_eq_true.mp h4 (.Name z pz) (by simp)
        exact s_par3 g.calm (by rw [g.hN]; exact g.nd) (by rw [g.hN]; exact e1) (by rw [g.hN]; exact e2) (by rw [g.hN]; exact e3) hn.1.1 hn.1.2 hn.2 (List.mem_range.mpr (List.getElem?_eq_some_iff.mp e1).1) (List.mem_range.mpr (List.getElem?_eq_some_iff.mp e2).1) (List.mem_range.mpr (List.getElem?_eq_some_iff.mp e3).1) l1 l2 l3
          (par3_stores hb l1 l2 l3 hl4 hl5 (inj e1 e2 hn.1.1) (inj e1 e3 hn.1.2) (inj e2 e3 hn.2) h5 h6 h7 rfl) hA
theorem aug_any {o : O2} {op : Operator} (h : augOp o = some op) : (op = .Add ∧ o = .add) ∨ (op = .Sub ∧ o = .sub) := by
  cases o <;> first | (cases h; done) | skip
  · cases h; exact .inl ⟨rfl, rfl⟩
  · cases h; exact .inr ⟨rfl, rfl⟩
mutual
theorem okS : ∀ (a : S) (g : Gx cn N Φ X c sc none) (hp : PassesOwn (model X.prog X.w) X.A X.env X.xe) (s : Stmt), chkS cn N sc a s = true → SS X c (List.range N.length) s (fun env st => exS Φ a env st)
  | .set i a, g, hp, s, h => by
    unfold chkS at h
    split at h
    · rename_i x p v pos
      simp only [Bool.and_eq_true, decide_eq_true_eq] at h
      obtain ⟨⟨⟨h1, h2⟩, h3⟩, h4⟩ := h
      obtain ⟨s1, s2, s3, s4, s5⟩ := slot_ok g h1 h2
      have hk : X.env.scope.kind = .function := by rw [g.hsc]; exact g.kind
      by_cases hn : notComp v = true
      · exact s_set s1 s2 s3 s4 (swaps_of hn) s5 (okE a g v h3)
      · have hn : notComp v = false := by simpa using hn
        rw [hn] at h4
        simp only [Bool.false_or, Bool.and_eq_true] at h4
        obtain ⟨h5, h6⟩ := h4
        split at h6
        · rename_i elt0 gens0 scope0 pos0 hEq0
          have hsw := sw_lc (elt := elt0) (gs := gens0) (s := scope0) (pos := pos0) (p := p) (x := x) (l := pos.line) hk g.hsc
          cases hb : swB sc x p (.ListComp elt0 gens0 scope0 pos0) with
          | false =>
            rw [hb] at hsw
            exact s_set s1 s2 s3 s4 hsw s5 (okE a g _ h3)
          | true =>
            rw [hb] at hsw
            have hloc : X.env.scope.names.lookup x = some .local := by
              unfold swB at hb
              simp only [Bool.and_eq_true] at hb
              rw [g.hsc]
              exact of_decide_eq_true hb.1.1
            cases a with
            | comp m elt tg k its ifs =>
              unfold chkE at h3
              split at h3
              · rename_i e0 elt' tgE iter ifs' scope pos' hEq
                cases hEq
                simp only [Bool.and_eq_true, decide_eq_true_eq] at h3
                obtain ⟨⟨⟨⟨⟨⟨⟨⟨h1, h2⟩, h3⟩, h4⟩, h5⟩, h6⟩, h7⟩, h8⟩, h9⟩ := h3
                have hb := blkOk_by h3
                have gb := fun s H C cl fp => g.blk (scope := scope0) hb.kind s H C cl fp
                have hi := okW (Φ := Φ) its k g tgE iter h2 h1
                exact s_setLc (m := m) (own := ownOf N tg.slots) (rc := fun env st => evAn Φ ifs env st) (re := fun env st => ev Φ elt env st) g.calm s3 s1 s2 hloc hsw hi (by rw [g.hN, g.hsc]; exact hb) (own_snd N _) (fun s H C cl fp => tg_ok (gb s H C cl fp) h5) (fun s H C cl fp => okIfs ifs (gb s H C cl fp) _ h7 h8) (fun s H C cl fp => okE elt (gb s H C cl fp) _ h6) (folded_of h9)
              · cases h3
            | _ => cases h5
        · cases h6
    · cases h
  | .unp is a, g, hp, s, h => by
    unfold chkS at h
    split at h
    · simp only [Bool.and_eq_true] at h
      obtain ⟨⟨⟨⟨h1, h2⟩, h3⟩, h4⟩, h5⟩ := h
      obtain ⟨q1, q2⟩ := slots_ok g h2
      exact s_unp g.calm (by rw [g.hN]; exact g.nd) (by rw [g.hN]; exact h1) q1 q2 (sole_of h4) (stores_none h5) (okE a g _ h3)
    · cases h
  | .par is as, g, hp, s, h => by
    unfold chkS at h
    split at h
    · simp only [Bool.and_eq_true, Bool.or_eq_true, decide_eq_true_eq] at h
      obtain ⟨⟨⟨h1, h2⟩, h3⟩, h4⟩ := h
      exact par_ok g h1 h2 h3 h4
    · cases h
  | .setix o i v, g, hp, s, h => by
    unfold chkS at h
    split at h
    · simp only [Bool.and_eq_true] at h
      obtain ⟨⟨⟨h1, h2⟩, h3⟩, h4⟩ := h
      exact s_setix (o := .Name "x" ⟨0, 0, 0, 0⟩) (i := .Name "x" ⟨0, 0, 0, 0⟩) (by have := g.un; omega) (okE v g _ h4) (okE o g _ h1) (okE i g _ h2) h3
    · cases h
  | .aug i o a, g, hp, s, h => by
    unfold chkS at h
    split at h
    · simp only [Bool.and_eq_true, decide_eq_true_eq] at h
      obtain ⟨⟨⟨h1, h2⟩, h3⟩, h4⟩ := h
      obtain ⟨s1, s2, s3, s4, s5⟩ := slot_ok g h1 h2
      exact s_aug (aug_any h3) s1 s2 s3 s4 s5 (okE a g _ h4)
    · cases h
  | .augix o i op a, g, hp, s, h => by
    unfold chkS at h
    split at h
    · simp only [Bool.and_eq_true, decide_eq_true_eq] at h
      obtain ⟨⟨⟨⟨h1, h2⟩, h3⟩, h4⟩, h5⟩ := h
      exact s_augix (aug_any h4) (by have := g.un; omega) (okE a g _ h5) (okE o g _ h1) (okE i g _ h2) h3
    · cases h
  | .ex a, g, hp, s, h => by
    unfold chkS at h
    split at h
    · simp only [Bool.and_eq_true] at h
      exact s_ex (okE a g _ h.1) (swaps_of h.2)
    · cases h
  | .ret a, g, hp, s, h => by
    unfold chkS at h
    split at h
    · exact s_ret (okE a g _ h)
    · cases h
  | .retN, g, hp, s, h => by
    unfold chkS at h
    split at h
    · exact s_retN
    · cases h
  | .iff t a b, g, hp, s, h => by
    unfold chkS at h
    split at h
    · simp only [Bool.and_eq_true] at h
      exact s_iff (okT t g _ h.1.1) (okB a g hp _ h.1.2) (okB b g hp _ h.2)
    · cases h
  | .for_ tg k its body, g, hp, s, h => by
    unfold chkS at h
    split at h
    · simp only [Bool.and_eq_true] at h
      obtain ⟨⟨⟨⟨h1, h2⟩, h3⟩, h4⟩, h5⟩ := h
      have hv : ∀ i ∈ tg.slots, i ∈ List.range N.length := fun i hi => by
        unfold chkTg at h3
        rw [Bool.and_eq_true] at h3
        have := List.all_eq_true.mp h3.1 i hi
        cases e : N[i]? with
        | none => rw [e] at this; cases this
        | some x => exact List.mem_range.mpr (List.getElem?_eq_some_iff.mp e).1
      exact s_for hp g.calm (okW its k g _ _ h2 h1) (tg_ok g h3) hv (okB body g hp _ h5) (folded_of h4)
    · cases h
  | .whl t body, g, hp, s, h => by
    unfold chkS at h
    split at h
    · simp only [Bool.and_eq_true] at h
      exact s_whl (n := fuel) hp (okT t g _ h.1) (okB body g hp _ h.2)
    · cases h
  | .brk, g, hp, s, h => by
    unfold chkS at h
    split at h
    · exact s_brk
    · cases h
  | .cont, g, hp, s, h => by
    unfold chkS at h
    split at h
    · exact s_cont
    · cases h
  | .pass, g, hp, s, h => by
    unfold chkS at h
    split at h
    · exact s_pass
    · cases h
  | .raise _ _, g, hp, s, h => by cases h
  | .try_ _ _ _ _, g, hp, s, h => by cases h
theorem okB : ∀ (as : List S) (g : Gx cn N Φ X c sc none) (hp : PassesOwn (model X.prog X.w) X.A X.env X.xe) (ss : List Stmt), chkB cn N sc as ss = true → SB X c (List.range N.length) ss (fun env st => exB Φ as env st)
  | [], g, hp, ss, h => by
    unfold chkB at h
    cases ss with
    | nil => exact b_nil
    | cons _ _ => cases h
  | a :: as, g, hp, ss, h => by
    unfold chkB at h
    cases ss with
    | nil => cases h
    | cons s ss =>
      simp only [Bool.and_eq_true] at h
      exact b_cons (okS a g hp s h.1) (okB as g hp ss h.2)
end
end
end Dn
/-! Dn: a whole program. -/
namespace Dn
open PySem PySem.Spec PyProof.Rows L2
/-- a def: our tree of it, where it stands -/
structure Fr where
  d : FDef
  st : Stmt
  kw : List Kw
def Fr.ps (r : Fr) : List Str := r.d.N.take r.d.pars
def Fr.dd (r : Fr) : He.DefD := ⟨(r.d.nm, none), r.d.nm, r.d.nm, defArgs r.st, defBody r.st, defScope r.st, [], []⟩
abbrev FnP (K : PySem.W.Frag) (r : Fr) (f : Addr) (fd : FuncData) : Prop := FunD K r.d.nm r.d.nm (defArgs r.st) (defBody r.st) (defScope r.st) [] [] f fd
def cnOf (frs : List Fr) (blt : List Str) : Cn := ⟨frs.zipIdx.map fun q => (q.1.d.nm, q.2, q.1.d.pars, q.1.kw), blt, []⟩
def scB (N ps : List Str) (sc : Scope) : Bool := decide (sc.kind = .function) && !sc.isCoroutine && !sc.isGenerator && decide N.Nodup && decide (N.take ps.length = ps) && (ps.all fun x => isLoc sc x) && (sc.names.all fun y => !decide (y.2 = .free))
theorem scB_ok {N ps : List Str} {sc : Scope} (h : scB N ps sc = true) : FnScope N ps sc := by
  unfold scB at h
  simp only [Bool.and_eq_true, Bool.not_eq_true', decide_eq_true_eq, List.all_eq_true] at h
  obtain ⟨⟨⟨⟨⟨⟨h1, h2⟩, h3⟩, h4⟩, h5⟩, h6⟩, h7⟩ := h
  exact ⟨h1, h2, h3, h4, h5, fun x hx => loc_of (h6 x hx), fun y hy => by have := h7 y hy; simpa using this⟩
/-- what is asked of a def's text -/
def Fr.ok (cn : Cn) (r : Fr) : Bool := chkB cn r.d.N (defScope r.st) r.d.body (defBody r.st) && scB r.d.N r.ps (defScope r.st) && decide (r.d.pars ≤ r.d.N.length)
/-- .. and of its parameters -/
structure BdOk (r : Fr) : Prop where
  pos : ∀ (kV doc pm : Value) (an : Option Addr) (cdv ct : Value) (us : List Value), us.length = r.ps.length → bindArgs (PySem.W.fnOf r.d.nm r.d.nm (defArgs r.st) (defBody r.st) (defScope r.st) .none kV doc pm an cdv ct) ⟨us, []⟩ = pure (r.ps.zip us)
  kw : ∀ q ∈ r.kw, ∀ (kV doc pm : Value) (an : Option Addr) (cdv ct : Value) (us ws : List Value), us.length = q.1 → ws.length = q.2.1.length →
    bindArgs (PySem.W.fnOf r.d.nm r.d.nm (defArgs r.st) (defBody r.st) (defScope r.st) .none kV doc pm an cdv ct) ⟨us, q.2.1.zip ws⟩ = pure (r.ps.zip (permV Value.none q.2.2 (us ++ ws)))
section
variable {P : Program} {w : World} {K : PySem.W.Frag} {mg : Str → Option Value} {base : Heap}
theorem FnP.kwB {r : Fr} {f : Addr} {fd : FuncData} (F : FnP K r f fd) (b : BdOk r) {q : Kw} (hq : q ∈ r.kw) : KwB K fd r.ps q := by
  obtain ⟨oc, od, dV, kV, doc, pm, an, cdv, ct, osl, rfl, lk, hcd, hD, hK⟩ := F.ex
  rcases hD with ⟨_, rfl⟩ | ⟨e, _⟩
  · exact fun s us ws _ h1 h2 => BindsTo.of_eq (b.kw q hq kV doc pm an cdv ct us ws h1 h2)
  · exact absurd rfl e
theorem start_re {G : Off1} {L : Lc} {H : Hp} {vs : List V} {ds : List D} {N : List Str} (h : RDs K G L H vs ds) : RE K G L H (L2.start N vs) (ds.map some ++ List.replicate (N.length - ds.length) none) := by
  have hl := Paired.length h
  unfold L2.start
  rw [hl]
  refine ⟨by simp [hl], fun i d e => ?_⟩
  by_cases hi : i < ds.length
  · rw [List.getElem?_append_left (by simpa using hi), List.getElem?_map] at e
    cases e2 : ds[i]? with
    | none => rw [e2] at e; cases e
    | some d' =>
      rw [e2] at e
      cases e
      obtain ⟨v, h1, h2⟩ := h.get e2
      refine ⟨v, ?_, h2⟩
      rw [List.getElem?_append_left (by simpa [hl] using hi), List.getElem?_map, h1]
      rfl
  · rw [List.getElem?_append_right (by simpa using hi), List.getElem?_replicate] at e
    split at e <;> cases e
theorem one_fn {frs : List Fr} {blt : List Str} {c : Wc} {k : Nat} (hok : ∀ r ∈ frs, r.ok (cnOf frs blt) = true) (hb : ∀ r ∈ frs, BdOk r) (hK : ∀ r ∈ frs, ∃ f fd, FnP K r f fd ∧ mg r.d.nm = some (.ref f)) (hblt : ∀ x ∈ blt, mg x = none)
    (ih : ∀ (i : Nat) (r : Fr) (f : Addr) (fd : FuncData), frs[i]? = some r → FnP K r f fd → FnOk P w K mg base (L2.CX P w) k f fd r.ps (spD K c (callF (frs.map (·.d)) k) i r.d.pars))
    {i : Nat} {r : Fr} {f : Addr} {fd : FuncData} (hi : frs[i]? = some r) (F : FnP K r f fd) : FnOk P w K mg base (L2.CX P w) (k + 1) f fd r.ps (spD K c (callF (frs.map (·.d)) (k + 1)) i r.d.pars) := by
  have hr := hok r (List.mem_of_getElem? hi)
  unfold Fr.ok at hr
  simp only [Bool.and_eq_true, decide_eq_true_eq] at hr
  obtain ⟨⟨h1, h2⟩, h3⟩ := hr
  have S := scB_ok h2
  have hps : r.ps.length = r.d.pars := by unfold Fr.ps; rw [List.length_take]; omega
  refine FunD.ok F S (fun vs H Q E h => by rw [hps]; exact h.1) fun cdv A outer s H vs Q E hroom hsp => ?_
  have g : Gx (cnOf frs blt) r.d.N (callF (frs.map (·.d)) k) (cxOf (L2.CX P w) P w K mg base r.d.N r.d.nm (defScope r.st) f cdv A outer s H E) (c.to E) (defScope r.st) none :=
    { hN := rfl
      nd := S.nd
      hsc := rfl
      kind := S.kind
      fn := fun _ _ => rfl
      calm := rfl
      un := by have := hroom.un; show (A.deeper _).units + 150 < cLine; omega
      tk := takes_of rfl rfl rfl rfl
      fns := fun q hq => by
        unfold cnOf at hq
        obtain ⟨⟨r', j⟩, hm, e⟩ := List.mem_map.mp hq
        subst e
        have hj : frs[j]? = some r' := by
          have := List.mem_zipIdx_iff_getElem?.mp hm
          simpa using this
        have hmem := List.mem_of_getElem? hj
        obtain ⟨f', fd', F', hm'⟩ := hK r' hmem
        have bd := hb r' hmem
        have hr' := hok r' hmem
        unfold Fr.ok at hr'
        simp only [Bool.and_eq_true, decide_eq_true_eq] at hr'
        refine ⟨f', fd', r'.ps, k, ih j r' f' fd' hj F', hroom, hm', F'.kp, F'.bindsN bd.pos, fun q hq => FnP.kwB F' bd hq⟩
      blt := hblt }
  refine ⟨_, okB r.d.body g (passes_of rfl) _ h1, ?_⟩
  obtain ⟨hl, G, L, st, ds, rl, hv, q⟩ := hsp
  have hdl : ds.length = r.d.pars := by rw [← Paired.length hv, hl]
  refine ⟨G, L, st, startE r.d ds, rl, ?_, ?_⟩
  · unfold startE
    rw [← hdl]
    exact start_re hv
  · have e : callF (frs.map (·.d)) (k + 1) i ds st = bodyR (callF (frs.map (·.d)) k) r.d ds st := by
      show (match (frs.map Fr.d)[i]? with
        | some d' => bodyR (callF (frs.map Fr.d) k) d' ds st
        | none => .bad) = _
      rw [List.getElem?_map, hi]
      rfl
    rw [e] at q
    unfold bodyR at q
    rw [if_pos ⟨hdl, h3⟩] at q
    cases eb : exB (callF (frs.map (·.d)) k) r.d.body (startE r.d ds) st with
    | bad => rw [eb] at q; exact q.elim
    | ex kk fs st' =>
      rw [eb] at q
      show AftS K (c.to E) G L H (L2.start r.d.N vs) (List.range r.d.N.length) (exB (callF (frs.map (·.d)) k) r.d.body (startE r.d ds) st) _
      rw [eb]
      exact fun cls dd σ' L' H' po rl' x _ => q cls dd L' H' po rl' x
    | ok a st' =>
      obtain ⟨fl, env'⟩ := a
      rw [eb] at q
      simp only [Res.bind_ok] at q
      show AftS K (c.to E) G L H (L2.start r.d.N vs) (List.range r.d.N.length) (exB (callF (frs.map (·.d)) k) r.d.body (startE r.d ds) st) _
      rw [eb]
      intro σ' L' H' po rl' re' _
      cases fl with
      | nx => exact q .non L' H' po rl' Fz.non
      | rt d => exact fun v hd => q v L' H' po rl' hd
      | bk => exact q.elim
      | ct => exact q.elim
theorem all_fns {frs : List Fr} {blt : List Str} {c : Wc} (hok : ∀ r ∈ frs, r.ok (cnOf frs blt) = true) (hb : ∀ r ∈ frs, BdOk r) (hK : ∀ r ∈ frs, ∃ f fd, FnP K r f fd ∧ mg r.d.nm = some (.ref f)) (hblt : ∀ x ∈ blt, mg x = none) :
    ∀ (k i : Nat) (r : Fr) (f : Addr) (fd : FuncData), frs[i]? = some r → FnP K r f fd → FnOk P w K mg base (L2.CX P w) k f fd r.ps (spD K c (callF (frs.map (·.d)) k) i r.d.pars)
  | 0, i, r, f, fd, hi, F => by
    have no : ∀ vs H Q E, ¬ spD K c (callF (frs.map (·.d)) 0) i r.d.pars vs H Q E := fun vs H Q E h => by
      obtain ⟨_, G, L, st, ds, _, _, q⟩ := h
      exact q
    exact ⟨fun vs H Q E h => absurd h (no vs H Q E), fun A outer s H args us vs Q E _ _ _ _ h => absurd h (no vs H Q E)⟩
  | k + 1, i, r, f, fd, hi, F => one_fn hok hb hK hblt (all_fns hok hb hK hblt k) hi F
/-! ### the law -/
def wcNo : Wc := ⟨fun _ _ _ _ => False, fun _ _ _ _ _ _ => False, fun _ h => h⟩
theorem law_sp {F : List FDef} {k i : Nat} {st' : Store} {H : Hp} {a : Addr} {ns : List Int} {E : XK} (hS : SqL K H a (ns.map V.int)) (h : callF F k i [.p (.list (ns.map .int))] [] = .ok (.p (.bool true)) st') :
    spD K wcNo (callF F k) i 1 [.ref a] H (fun v _ => v = .bl true) E := by
  refine ⟨rfl, fun _ => False, [], [], [.p (.list (ns.map .int))], ⟨rfl, fun i j a e => by simp at e, fun i a o e => by simp at e, fun a z => by rcases z with z | ⟨i, e⟩; exact z.elim; simp at e, fun a ⟨i, e⟩ => by simp at e, fun i e => by simp at e⟩, .cons ?_ .nil, ?_⟩
  · refine .lst ?_ (fz_ints _ ns)
    rcases hS with hS | hS
    · exact .inl ⟨hS, fun z => by rcases z with z | ⟨i, e⟩; exact z; simp at e⟩
    · exact .inr (.inr hS)
  · rw [h]
    intro v L' H' po rl hd
    exact fz_bool hd
end
end Dn
namespace Dn
open PySem PySem.Spec PyProof.Rows L2
def faOf (frs : List Fr) (blt : List Str) : List He.Fa := frs.map (fun r => .glo r.d.nm) ++ blt.map .free
theorem prog_facts {K : PySem.W.Frag} {h : Heap} {mg : Str → Option Value} {frs : List Fr} {blt : List Str} (X : K.In h) (G : h.Ns mainGlobals mg) (c : He.SaysD (faOf frs blt) (frs.map Fr.dd) K) :
    (∀ r ∈ frs, ∃ f fd, FnP K r f fd ∧ mg r.d.nm = some (.ref f)) ∧ ∀ x ∈ blt, mg x = none := by
  refine ⟨fun r hr => ?_, fun x hx => ?_⟩
  · obtain ⟨i, hi⟩ := List.mem_iff_getElem?.mp hr
    obtain ⟨fd, F⟩ := c.def_ i (d := r.dd) (by rw [List.getElem?_map, hi]; rfl)
    have hm : (He.Fa.glo r.d.nm) ∈ faOf frs blt := List.mem_append_left _ (List.mem_map.mpr ⟨r, hr, rfl⟩)
    obtain ⟨j, hj⟩ := List.mem_iff_getElem?.mp hm
    exact ⟨_, fd, F, He.glo_ok X G (c.fact j hj)⟩
  · have hm : (He.Fa.free x) ∈ faOf frs blt := List.mem_append_right _ (List.mem_map.mpr ⟨x, hx, rfl⟩)
    obtain ⟨j, hj⟩ := List.mem_iff_getElem?.mp hm
    exact He.free_ok X G (c.fact j hj)
/-- what the walk's end asks for -/
theorem law_facts {P : Program} {w : World} {K : PySem.W.Frag} {h : Heap} {mg : Str → Option Value} {fa : Addr} {frs : List Fr} {blt : List Str} {i n k : Nat} {r : Fr} (X : K.In h) (G : h.Ns mainGlobals mg) (c : He.SaysD (faOf frs blt) (frs.map Fr.dd) K)
    (hok : frs.all (Fr.ok (cnOf frs blt)) = true) (hb : ∀ r ∈ frs, BdOk r) (hi : frs[i]? = some r) (hp : r.ps = [("script" : Str)]) (hp1 : r.d.pars = 1) (hfa : mg r.d.nm = some (.ref fa))
    (law : ∀ ns : List Int, ns.length ≤ n → ∃ st', callF (frs.map (·.d)) k i [.p (.list (ns.map .int))] [] = .ok (.p (.bool true)) st') :
    ∃ (K : PySem.W.Frag) (fd : FuncData) (sp : Sp), K.In h ∧ (∀ (s : Shared) (u : Value), BindsTo s fd ⟨[u], []⟩ [("script", u)]) ∧
        (∀ (H : Hp) (a : Addr) (ns : List Int), ns.length ≤ n → Only H → SqL K H a (ns.map V.int) → sp [.ref a] H (fun v _ => v = .bl true) fun _ _ _ => False) ∧
        ∀ base : Heap, K.In base → base.Ns mainGlobals mg → FnOk P w K mg base (L2.CX P w) k fa fd [("script" : Str)] sp := by
  obtain ⟨h1, h2⟩ := prog_facts X G c
  obtain ⟨f, fd, F, hm⟩ := h1 r (List.mem_of_getElem? hi)
  rw [hfa] at hm
  cases hm
  have bd := hb r (List.mem_of_getElem? hi)
  refine ⟨K, fd, spD K wcNo (callF (frs.map (·.d)) k) i 1, X, fun s u => ?_, fun H a ns hl _ hS => ?_, fun base _ _ => ?_⟩
  · have := FunD.bindsA (ps := r.ps) F bd.pos s [u] (by rw [hp]; rfl)
    rw [hp] at this
    exact this
  · obtain ⟨st', e⟩ := law ns hl
    exact law_sp hS e
  · have := all_fns (P := P) (w := w) (base := base) (c := wcNo) (fun r hr => List.all_eq_true.mp hok r hr) hb h1 h2 k i r fa fd hi F
    rw [hp, hp1] at this
    exact this
end Dn
namespace Dn
open PySem PySem.Spec PyProof.Rows L2
/-- the end of the walk, what a call may let out told by the world -/
theorem walkD {l : PySem.W.OpenLaw} {num lev : Nat} {pr : Program} {lo : List Str} {XQ : (Str → Option Value) → Heap → Prop} {YQ : World → Heap → Prop} {df : DefRec}
    (em : l.most = some num) (le : num ≤ sizeLine) (nd : df.params.defaults = []) (room : Room lev callerA)
    (facts : ∀ (w : World) (mg : Str → Option Value) (at_ : Addr) (hp : Heap), YQ w hp → hp.Ns mainGlobals mg → mg df.name = some (.ref at_) →
      ∃ (K : PySem.W.Frag) (fd : FuncData) (sp : Sp), K.In hp ∧ (∀ (s : Shared) (u : Value), BindsTo s fd ⟨[u], []⟩ [("script", u)]) ∧
        (∀ (H : Hp) (a : Addr) (ns : List Int), ns.length ≤ num → Only H → SqL K H a (ns.map V.int) → sp [.ref a] H (fun v _ => v = .bl true) fun _ _ _ => False) ∧
        ∀ b0 : Heap, K.In b0 → b0.Ns mainGlobals mg → FnOk l.prog w K mg b0 (L2.CX l.prog w) lev at_ fd [("script" : Str)] sp) :
    PySem.W.WalkO pr lo XQ YQ l.row.toRowW df [] (fun f vs => PySem.call f vs) := by
  refine Att.attach_call em nd fun w t0 t1 mg mb at_ ob pm cdv dcv la us ns G Y io ie ic ig iobj iints ilen iz => ?_
  obtain ⟨K, fd, sp, KX, hb, hsp, hF⟩ := facts w mg at_ _ Y G.T.g ig
  exact law_call KX G.T.g G.T.b G.T.builtins G.T.nolimit iz iobj iints (Nat.le_trans ilen le) room hF hb (fun H hO hS => hsp H la ns ilen hO hS) fun H e s' ⟨_, _, _, _, _, _, _, _, _, _, _, _, z⟩ => z
end Dn
namespace Dn
theorem all_nil {α : Type} {P : α → Prop} : ∀ r ∈ ([] : List α), P r := fun r hr => absurd hr (List.not_mem_nil)
theorem all_cons {α : Type} {P : α → Prop} {a : α} {l : List α} (h : P a) (hl : ∀ r ∈ l, P r) : ∀ r ∈ a :: l, P r := fun r hr => by
  rcases List.mem_cons.mp hr with rfl | hr
  · exact h
  · exact hl r hr
end Dn
/-! Dn: plain laws: what a tree does, told by what is wished of its end. -/
namespace Dn
open PySem
/-- it ends well, with Q -/
def wpR {α : Type} (r : Res α) (Q : α → Store → Prop) : Prop := match r with
  | .ok a st => Q a st
  | _ => False
@[simp] theorem wpR_ok {α : Type} {a : α} {st : Store} {Q : α → Store → Prop} : wpR (.ok a st) Q = Q a st := rfl
@[simp] theorem wpR_bind {α β : Type} {m : Res α} {f : α → Store → Res β} {Q : β → Store → Prop} : wpR (m.bind f) Q = wpR m (fun a st => wpR (f a st) Q) := by
  cases m <;> rfl
@[simp] theorem wpR_nox {α : Type} {m : Res α} {Q : α → Store → Prop} : wpR m.nox Q = wpR m Q := by
  cases m <;> rfl
@[simp] theorem wpR_of {α : Type} {st : Store} {o : Option α} {Q : α → Store → Prop} : wpR (Res.of st o) Q = ∃ a, o = some a ∧ Q a st := by
  cases o <;> simp [Res.of, wpR]
theorem wpR_mono {α : Type} {r : Res α} {Q Q' : α → Store → Prop} (h : wpR r Q) (hi : ∀ a st, Q a st → Q' a st) : wpR r Q' := by
  cases r with
  | ok a st => exact hi _ _ h
  | ex c fs st => exact h.elim
  | bad => exact h.elim
theorem wpR_eq {α : Type} {r : Res α} {a : α} {st : Store} {Q : α → Store → Prop} (h : r = .ok a st) (q : Q a st) : wpR r Q := by rw [h]; exact q
theorem wpR_out {α : Type} {r : Res α} {Q : α → Store → Prop} (h : wpR r Q) : ∃ a st, r = .ok a st ∧ Q a st := by
  cases r with
  | ok a st => exact ⟨a, st, rfl, h⟩
  | ex c fs st => exact h.elim
  | bad => exact h.elim
/-! ### the tree's readings, one step each -/
section
variable {Φ : Calls} {env : Sl} {st : Store} {Q : D → Store → Prop} {QS : Flow × Sl → Store → Prop} {a b c : E} {es : List E} {s : S} {ss : List S}
@[simp] theorem truth_bz (b : Bool) : truth (bz b) = some b := rfl
@[simp] theorem truth_b (b : Bool) : truth (.p (.bool b)) = some b := rfl
/-- a test's two ways -/
theorem wpR_truth {α : Type} {d : D} {b : Bool} {t f : Res α} {Q : α → Store → Prop} (h : truth d = some b) : wpR (match truth d with
    | some true => t
    | some false => f
    | none => .bad) Q = if b then wpR t Q else wpR f Q := by
  rw [h]
  cases b <;> rfl
/-- what goes on behind a statement -/
def goOn (Φ : Calls) (ss : List S) (QS : Flow × Sl → Store → Prop) (r : Flow × Sl) (st : Store) : Prop := match r.1 with
  | .nx => wpR (exB Φ ss r.2 st) QS
  | .bk => QS (.bk, r.2) st
  | .ct => QS (.ct, r.2) st
  | .rt d => QS (.rt d, r.2) st
@[simp] theorem goOn_nx : goOn Φ ss QS (.nx, env) st = wpR (exB Φ ss env st) QS := rfl
@[simp] theorem goOn_bk : goOn Φ ss QS (.bk, env) st = QS (.bk, env) st := rfl
@[simp] theorem goOn_ct : goOn Φ ss QS (.ct, env) st = QS (.ct, env) st := rfl
@[simp] theorem goOn_rt {d : D} : goOn Φ ss QS (.rt d, env) st = QS (.rt d, env) st := rfl
theorem wp_cons : wpR (exB Φ (s :: ss) env st) QS = wpR (exS Φ s env st) (goOn Φ ss QS) := by
  show wpR ((exS Φ s env st).bind _) QS = _
  rw [wpR_bind]
  congr 1
  funext r st'
  obtain ⟨fl, e⟩ := r
  cases fl <;> rfl
theorem wp_nil : wpR (exB Φ [] env st) QS = QS (.nx, env) st := rfl
theorem wp_set {i : Nat} : wpR (exS Φ (.set i a) env st) QS = wpR (ev Φ a env st) (fun d st => ∃ e, setE i d env = some e ∧ QS (.nx, e) st) := by
  show wpR ((ev Φ a env st).bind _) QS = _
  rw [wpR_bind]
  congr 1
  funext d st'
  rw [wpR_of]
  apply propext
  constructor
  · rintro ⟨a, h1, h2⟩
    simp only [Option.map_eq_some_iff] at h1
    obtain ⟨e, h1, rfl⟩ := h1
    exact ⟨e, h1, h2⟩
  · rintro ⟨e, h1, h2⟩
    exact ⟨_, by rw [h1]; rfl, h2⟩
theorem wp_ret : wpR (exS Φ (.ret a) env st) QS = wpR (ev Φ a env st) (fun d st => QS (.rt d, env) st) := by
  show wpR ((ev Φ a env st).bind _) QS = _
  rw [wpR_bind]
  rfl
theorem wp_ex : wpR (exS Φ (.ex a) env st) QS = wpR (ev Φ a env st) (fun _ st => QS (.nx, env) st) := by
  show wpR ((ev Φ a env st).bind _) QS = _
  rw [wpR_bind]
  rfl
theorem wp_iff {t : List S} {f : List S} : wpR (exS Φ (.iff a t f) env st) QS = wpR (ev Φ a env st) (fun d st => ∃ b, truth d = some b ∧ wpR (exB Φ (if b then t else f) env st) QS) := by
  show wpR ((ev Φ a env st).bind _) QS = _
  rw [wpR_bind]
  congr 1
  funext d st'
  cases e : truth d with
  | none => simp [wpR]
  | some b => cases b <;> simp
end
/-! ### loops -/
section
variable {ok : Store → Bool} {f : It → Sl → Store → SR} {QS : Flow × Sl → Store → Prop}
/-- a loop with an invariant by what is still to come; the body goes on (or breaks, returns) -/
theorem wp_for (P : List It → Sl → Store → Prop) (h : ∀ x xs env st, P (x :: xs) env st → ok st = true ∧ wpR (f x env st) (fun r st => match r.1 with
    | .nx => P xs r.2 st
    | .ct => P xs r.2 st
    | .bk => QS (.nx, r.2) st
    | .rt d => QS (.rt d, r.2) st)) (hd : ∀ env st, P [] env st → ok st = true ∧ QS (.nx, env) st) : ∀ (xs : List It) (env : Sl) (st : Store), P xs env st → wpR (forM' ok f xs env st) QS
  | [], env, st, p => by
    obtain ⟨h1, h2⟩ := hd env st p
    unfold forM'
    rw [if_pos h1]
    exact h2
  | x :: xs, env, st, p => by
    obtain ⟨h1, h2⟩ := h x xs env st p
    unfold forM'
    rw [if_pos h1, wpR_bind]
    refine wpR_mono h2 fun r st' q => ?_
    obtain ⟨fl, e⟩ := r
    cases fl with
    | nx => exact wp_for P h hd xs e st' q
    | ct => exact wp_for P h hd xs e st' q
    | bk => exact q
    | rt d => exact q
/-- a comprehension whose turns change nothing -/
theorem compM_pure {f : It → Store → Res (Option D)} {g : It → Option D} {st : Store} (hok : ok st = true) : ∀ {xs : List It}, (∀ x ∈ xs, f x st = .ok (g x) st) → compM ok f xs st = .ok (xs.filterMap g) st
  | [], _ => by unfold compM; rw [hok]; rfl
  | x :: xs, h => by
    unfold compM
    rw [hok, h x (by simp)]
    simp only [if_true, Res.bind_ok]
    rw [compM_pure hok fun y hy => h y (by simp [hy])]
    cases e : g x <;> simp [e]
/-- .. with an invariant: what has come, by what is still to come -/
theorem wp_comp {f : It → Store → Res (Option D)} {Q : List D → Store → Prop} (P : List It → List D → Store → Prop) (h : ∀ x xs acc st, P (x :: xs) acc st → ok st = true ∧ wpR (f x st) (fun o st => P xs (acc ++ o.toList) st))
    (hd : ∀ acc st, P [] acc st → ok st = true ∧ Q acc st) : ∀ (xs : List It) (acc : List D) (st : Store), P xs acc st → wpR (compM ok f xs st) (fun ds st => Q (acc ++ ds) st)
  | [], acc, st, p => by
    obtain ⟨h1, h2⟩ := hd acc st p
    unfold compM
    rw [if_pos h1]
    simpa using h2
  | x :: xs, acc, st, p => by
    obtain ⟨h1, h2⟩ := h x xs acc st p
    unfold compM
    rw [if_pos h1, wpR_bind]
    refine wpR_mono h2 fun o st' q => ?_
    rw [wpR_bind]
    refine wpR_mono (wp_comp P h hd xs _ st' q) fun ds st'' q2 => ?_
    cases o with
    | none => simpa using q2
    | some d => simpa using q2
end
/-! ### calls -/
theorem callF_eq {F : List FDef} {f n : Nat} {d : FDef} {args : List D} {st : Store} (h : F[f]? = some d) : callF F (n + 1) f args st = bodyR (callF F n) d args st := by
  show (match F[f]? with
    | some d => bodyR (callF F n) d args st
    | none => .bad) = _
  rw [h]
/-- a body's end -/
def endB (Q : D → Store → Prop) (r : Flow × Sl) (st : Store) : Prop := match r.1 with
  | .rt v => Q v st
  | .nx => Q (.p .none) st
  | _ => False
@[simp] theorem endB_rt {Q : D → Store → Prop} {v : D} {env : Sl} {st : Store} : endB Q (.rt v, env) st = Q v st := rfl
@[simp] theorem endB_nx {Q : D → Store → Prop} {env : Sl} {st : Store} : endB Q (.nx, env) st = Q (.p .none) st := rfl
theorem wp_call {F : List FDef} {f n : Nat} {d : FDef} {args : List D} {st : Store} {Q : D → Store → Prop} (h : F[f]? = some d) (hl : args.length = d.pars ∧ d.pars ≤ d.N.length) : wpR (callF F (n + 1) f args st) Q = wpR (exB (callF F n) d.body (startE d args) st) (endB Q) := by
  rw [callF_eq h]
  unfold bodyR
  rw [if_pos hl, wpR_bind]
  congr 1
  funext r st'
  obtain ⟨fl, e⟩ := r
  cases fl <;> rfl
/-- a pure function: f of these data is v -/
def Gives (F : List FDef) (n f : Nat) (xs : List PyData) (v : PyData) : Prop := ∃ d st', callF F n f (xs.map .p) [] = .ok d st' ∧ thaw d st' = some v
theorem Gives.of {F : List FDef} {n f : Nat} {xs : List PyData} {v : PyData} (h : wpR (callF F n f (xs.map .p) []) (fun d st => thaw d st = some v)) : Gives F n f xs v := wpR_out h
theorem Gives.run {F : List FDef} {n f : Nat} {xs : List PyData} {v : PyData} (h : Gives F n f xs v) (st : Store) : callD (callF F n) true f (xs.map .p) st = .ok (.p v) st := by
  obtain ⟨d, st', e1, e2⟩ := h
  have hp : ∀ l : List PyData, allP (l.map .p) = some l := fun l => by
    induction l with
    | nil => rfl
    | cons a l ih => simp [allP, ih]
  unfold callD
  simp only [if_true, hp]
  unfold runP
  rw [e1]
  simp [e2]
/-! ### equal data, members -/
@[simp] theorem eqD_int (a b : Int) : eqD (.int a) (.int b) = some (decide (a = b)) := by
  unfold eqD
  rw [if_pos (by simp [PyData.depth])]
  simp [PyData.eqv]
  rfl
@[simp] theorem eqD_str (a b : Str) : eqD (.str a) (.str b) = some (decide (a = b)) := by
  unfold eqD
  rw [if_pos (by simp [PyData.depth])]
  simp [PyData.eqv]
  rfl
theorem depth_strs : ∀ xs : List Str, PyData.depthAll (xs.map .str) ≤ 1
  | [] => by decide
  | s :: r => by
    have := depth_strs r
    simp [PyData.depthAll, PyData.depth]
    omega
theorem depth_ints : ∀ xs : List Int, PyData.depthAll (xs.map .int) ≤ 1
  | [] => by decide
  | s :: r => by
    have := depth_ints r
    simp [PyData.depthAll, PyData.depth]
    omega
theorem eqv_str (a b : Str) : PyData.eqv (.str a) (.str b) = decide (a = b) := by
  simp [PyData.eqv]
  rfl
theorem eqv_int (a b : Int) : PyData.eqv (.int a) (.int b) = decide (a = b) := by
  simp [PyData.eqv]
  rfl
@[simp] theorem inP_str (xs : List Str) (s : Str) : inP (.str s) (xs.map .str) = some (decide (s ∈ xs)) := by
  unfold inP
  have := depth_strs xs
  rw [if_pos (by simp [PyData.depth])]
  congr 1
  rw [List.any_map, Bool.eq_iff_iff]
  simp [eqv_str]
@[simp] theorem inP_int (xs : List Int) (s : Int) : inP (.int s) (xs.map .int) = some (decide (s ∈ xs)) := by
  unfold inP
  rw [if_pos (by simp [PyData.depth])]
  congr 1
  rw [List.any_map, Bool.eq_iff_iff]
  simp [eqv_int]
@[simp] theorem boolsOf_map (bs : List Bool) : boolsOf (bs.map .bool) = some bs := by
  induction bs with
  | nil => rfl
  | cons b bs ih => simp [boolsOf, ih]
@[simp] theorem intsOf_map (bs : List Int) : intsOf (bs.map .int) = some bs := by
  induction bs with
  | nil => rfl
  | cons b bs ih => simp [intsOf, ih]
@[simp] theorem strsOf_map (bs : List Str) : strsOf (bs.map .str) = some bs := by
  induction bs with
  | nil => rfl
  | cons b bs ih => simp [strsOf, ih]
@[simp] theorem allP_maps (l : List PyData) : allP (l.map .p) = some l := allP_map l
theorem idxOf_str {xs : List Str} (s : Str) : ∀ {i : Nat}, xs.Nodup → xs[i]? = some s → Dn.idxOf (.str s) (xs.map .str) = some i := by
  induction xs with
  | nil => intro i _ h; simp at h
  | cons x xs ih =>
    intro i hn h
    rw [List.nodup_cons] at hn
    cases i with
    | zero =>
      simp at h
      subst h
      simp [Dn.idxOf, eqv_str]
    | succ i =>
      simp at h
      have hx : x ≠ s := fun e => hn.1 (e ▸ List.mem_of_getElem? h)
      simp [Dn.idxOf, eqv_str, hx, ih hn.2 h]
/-- a comprehension whose turns change nothing -/
theorem ev_comp {Φ : Calls} {env : Sl} {st : Store} {elt : E} {tg : Tg} {k : Nat} {its ifs : List E} {ds : List D} {items : List It} {c : It → Bool} {g : It → PyData} (h1 : evs Φ its env st = .ok ds st) (h2 : walkOf k ds st = some items) (h3 : still ds st st = true)
    (h4 : ∀ x ∈ items, ∃ e, bindT tg x (wipeE env tg.slots) = some e ∧ evAn Φ ifs e st = .ok (bz (c x)) st ∧ (c x = true → ev Φ elt e st = .ok (.p (g x)) st)) (hl : items.length ≤ sizeLine) :
    ev Φ (.comp false elt tg k its ifs) env st = .ok (.p (.list ((items.filter c).map g))) st := by
  show (evs Φ its env st).bind _ = _
  rw [h1]
  simp only [Res.bind_ok, h2]
  rw [compM_pure (g := fun x => if c x then some (.p (g x)) else none) h3]
  · simp only [Res.bind_ok]
    have e : (items.filterMap fun x => if c x = true then some (D.p (g x)) else none) = ((items.filter c).map g).map .p := by
      clear h4 hl h2
      induction items with
      | nil => rfl
      | cons x xs ih =>
        by_cases hc : c x = true
        · simp [hc, ih]
        · simp [hc, ih]
    rw [e]
    unfold newL
    rw [if_neg]
    · show (Res.of st ((allP (((items.filter c).map g).map D.p)).map fun xs => D.p (.list xs))).nox = _
      rw [allP_map]
      rfl
    · have := List.length_filter_le c items
      simp
      omega
  · intro x hx
    obtain ⟨e, q1, q2, q3⟩ := h4 x hx
    rw [q1]
    simp only [q2, Res.bind_ok, truth_bz]
    cases hc : c x with
    | true => simp [q3 hc]
    | false => simp
/-- .. over a sequence of data -/
theorem ev_compS {Φ : Calls} {env : Sl} {st : Store} {elt : E} {tg : Tg} {its ifs : List E} {d : D} {xs : List PyData} {c : PyData → Bool} {g : PyData → PyData} (h1 : evs Φ its env st = .ok [d] st) (h2 : d = .p (.tuple xs) ∨ d = .p (.list xs))
    (h4 : ∀ x ∈ xs, ∃ e, bindT tg (.one (.p x)) (wipeE env tg.slots) = some e ∧ evAn Φ ifs e st = .ok (bz (c x)) st ∧ (c x = true → ev Φ elt e st = .ok (.p (g x)) st)) (hl : xs.length ≤ sizeLine) :
    ev Φ (.comp false elt tg 0 its ifs) env st = .ok (.p (.list ((xs.filter c).map g))) st := by
  have hw : walkOf 0 [d] st = some (xs.map fun x => .one (.p x)) := by
    rcases h2 with rfl | rfl <;> simp [walkOf, seqD]
  have hs : still [d] st st = true := by
    rcases h2 with rfl | rfl <;> rfl
  rw [ev_comp (c := fun | .one (.p x) => c x | _ => false) (g := fun | .one (.p x) => g x | _ => .none) h1 hw hs]
  · congr 3
    clear h4 hl hw h1 h2 hs
    induction xs with
    | nil => rfl
    | cons x xs ih =>
      by_cases hc : c x = true
      · simp [hc] at ih ⊢
        exact ih
      · simp [hc] at ih ⊢
        exact ih
  · intro it hit
    obtain ⟨x, hx, rfl⟩ := List.mem_map.mp hit
    exact h4 x hx
  · simpa using hl
/-! ### one step each (comprehensions, loops, calls stay) -/
section
variable {Φ : Calls} {env : Sl} {st : Store} {a b c : E} {es : List E} {s : S} {ss : List S}
@[simp] theorem ev_var {i : Nat} : ev Φ (.var i) env st = (match env[i]? with
    | some (some d) => .ok d st
    | _ => .bad) := rfl
@[simp] theorem ev_c {d : PyData} : ev Φ (.c d) env st = .ok (.p d) st := rfl
@[simp] theorem ev_o1 {o : O1} : ev Φ (.o1 o a) env st = (ev Φ a env st).bind fun x st => (op1 o x st).nox := rfl
@[simp] theorem ev_o2 {o : O2} : ev Φ (.o2 o a b) env st = (ev Φ a env st).bind fun x st => if pre o x st then (ev Φ b env st).bind fun y st => (op2 o x y st).nox else .bad := rfl
@[simp] theorem ev_o3 {o : O3} : ev Φ (.o3 o a b c) env st = (ev Φ a env st).bind fun x st => if isLst x st then (ev Φ b env st).bind fun y st => (ev Φ c env st).bind fun z st => (op3 o x y z st).nox else .bad := rfl
@[simp] theorem ev_an : ev Φ (.an es) env st = evAn Φ es env st := rfl
@[simp] theorem ev_orr : ev Φ (.orr es) env st = evOr Φ es env st := rfl
@[simp] theorem ev_ite : ev Φ (.ite c a b) env st = (ev Φ c env st).bind fun x st => match truth x with
    | some true => ev Φ a env st
    | some false => ev Φ b env st
    | none => .bad := rfl
@[simp] theorem ev_tup : ev Φ (.tup es) env st = (evs Φ es env st).bind fun ds st => Res.of st ((allP ds).bind fun xs => if xs.length ≤ sizeLine then some (.p (.tuple xs)) else none) := rfl
@[simp] theorem ev_lst {m : Bool} : ev Φ (.lst m es) env st = (evs Φ es env st).bind fun ds st => newL m ds st := rfl
@[simp] theorem ev_sl {m : Bool} {lo hi : Option E} : ev Φ (.sl m a lo hi) env st = (ev Φ a env st).bind fun x st => (evO Φ lo env st).bind fun l st => (evO Φ hi env st).bind fun h st => (asNew m (cutD x l h st) st).nox := rfl
@[simp] theorem ev_rv {m : Bool} : ev Φ (.rv m a) env st = (ev Φ a env st).bind fun x st => (asNew m (revD x st) st).nox := rfl
@[simp] theorem ev_call {pu : Bool} {f : Nat} : ev Φ (.call pu f es) env st = (evs Φ es env st).bind fun ds st => callD Φ pu f ds st := rfl
@[simp] theorem ev_callk {pu : Bool} {f : Nat} {ps : List Nat} : ev Φ (.callk pu f ps es) env st = (evs Φ es env st).bind fun ds st => match permD ps ds with
    | some ds => callD Φ pu f ds st
    | none => .bad := rfl
@[simp] theorem evs_nil : evs Φ [] env st = .ok [] st := rfl
@[simp] theorem evs_cons : evs Φ (a :: es) env st = (ev Φ a env st).bind fun d st => (evs Φ es env st).bind fun ds st => .ok (d :: ds) st := rfl
@[simp] theorem evO_none : evO Φ none env st = .ok none st := rfl
@[simp] theorem evO_some : evO Φ (some a) env st = (ev Φ a env st).bind fun d st => match d with
    | .p (.int i) => .ok (some i) st
    | _ => .bad := rfl
@[simp] theorem evAn_nil : evAn Φ [] env st = .ok (bz true) st := rfl
@[simp] theorem evAn_one : evAn Φ [a] env st = ev Φ a env st := rfl
@[simp] theorem evAn_two : evAn Φ (a :: b :: es) env st = (ev Φ a env st).bind fun x st => match truth x with
    | some true => evAn Φ (b :: es) env st
    | some false => .ok (bz false) st
    | none => .bad := rfl
@[simp] theorem evOr_one : evOr Φ [a] env st = ev Φ a env st := rfl
@[simp] theorem evOr_two : evOr Φ (a :: b :: es) env st = (ev Φ a env st).bind fun x st => match truth x with
    | some true => .ok (bz true) st
    | some false => evOr Φ (b :: es) env st
    | none => .bad := rfl
@[simp] theorem exB_nil : exB Φ [] env st = .ok (.nx, env) st := rfl
@[simp] theorem exB_cons : exB Φ (s :: ss) env st = (exS Φ s env st).bind fun r st => match r.1 with
    | .nx => exB Φ ss r.2 st
    | .bk => .ok (.bk, r.2) st
    | .ct => .ok (.ct, r.2) st
    | .rt d => .ok (.rt d, r.2) st := rfl
@[simp] theorem exS_set {i : Nat} : exS Φ (.set i a) env st = (ev Φ a env st).bind fun d st => Res.of st ((setE i d env).map fun env => (.nx, env)) := rfl
@[simp] theorem exS_par {is : List Nat} : exS Φ (.par is es) env st = (evs Φ es env st).bind fun ds st => Res.of st ((setAll is ds env).map fun env => (.nx, env)) := rfl
@[simp] theorem exS_ret : exS Φ (.ret a) env st = (ev Φ a env st).bind fun d st => .ok (.rt d, env) st := rfl
@[simp] theorem exS_ex : exS Φ (.ex a) env st = (ev Φ a env st).bind fun _ st => .ok (.nx, env) st := rfl
@[simp] theorem exS_iff {t f : List S} : exS Φ (.iff a t f) env st = (ev Φ a env st).bind fun k st => match truth k with
    | some true => exB Φ t env st
    | some false => exB Φ f env st
    | none => .bad := rfl
@[simp] theorem exS_unp {is : List Nat} : exS Φ (.unp is a) env st = (ev Φ a env st).bind fun d st => match d with
    | .p (.tuple ds) => Res.of st ((setAll is (ds.map .p) env).map fun env => (.nx, env))
    | _ => .bad := rfl
@[simp] theorem exS_setix : exS Φ (.setix a b c) env st = (ev Φ c env st).bind fun d st => (ev Φ a env st).bind fun x st => (ev Φ b env st).bind fun y st => match setIx x y d st with
    | some st => .ok (.nx, env) st
    | none => .bad := rfl
@[simp] theorem exS_pass : exS Φ .pass env st = .ok (.nx, env) st := rfl
@[simp] theorem exS_brk : exS Φ .brk env st = .ok (.bk, env) st := rfl
@[simp] theorem exS_cont : exS Φ .cont env st = .ok (.ct, env) st := rfl
@[simp] theorem exS_for {tg : Tg} {k : Nat} {its : List E} {body : List S} : exS Φ (.for_ tg k its body) env st = (evs Φ its env st).bind fun ds st => match walkOf k ds st with
    | some xs => forM' (fun st1 => still ds st st1) (fun x env1 st1 => match bindT tg x env1 with
      | some env2 => exB Φ body env2 st1
      | none => .bad) xs env st
    | none => .bad := rfl
end
@[simp] theorem boolsOf_mapf {α : Type} (f : α → Bool) (xs : List α) : boolsOf (xs.map fun y => .bool (f y)) = some (xs.map f) := by
  induction xs with
  | nil => rfl
  | cons b bs ih => simp [boolsOf, ih]
/-- no tests -/
theorem ev_compS0 {Φ : Calls} {env : Sl} {st : Store} {elt : E} {tg : Tg} {its : List E} {d : D} {xs : List PyData} {g : PyData → PyData} (h1 : evs Φ its env st = .ok [d] st) (h2 : d = .p (.tuple xs) ∨ d = .p (.list xs))
    (h4 : ∀ x ∈ xs, ∃ e, bindT tg (.one (.p x)) (wipeE env tg.slots) = some e ∧ ev Φ elt e st = .ok (.p (g x)) st) (hl : xs.length ≤ sizeLine) :
    ev Φ (.comp false elt tg 0 its []) env st = .ok (.p (.list (xs.map g))) st := by
  rw [ev_compS (c := fun _ => true) (g := g) h1 h2 (fun x hx => by obtain ⟨e, q1, q2⟩ := h4 x hx; exact ⟨e, q1, rfl, fun _ => q2⟩) hl, List.filter_eq_self.mpr fun _ _ => rfl]
theorem ev_comp0 {Φ : Calls} {env : Sl} {st : Store} {elt : E} {tg : Tg} {k : Nat} {its : List E} {ds : List D} {items : List It} {g : It → PyData} (h1 : evs Φ its env st = .ok ds st) (h2 : walkOf k ds st = some items) (h3 : still ds st st = true)
    (h4 : ∀ x ∈ items, ∃ e, bindT tg x (wipeE env tg.slots) = some e ∧ ev Φ elt e st = .ok (.p (g x)) st) (hl : items.length ≤ sizeLine) :
    ev Φ (.comp false elt tg k its []) env st = .ok (.p (.list (items.map g))) st := by
  rw [ev_comp (c := fun _ => true) (g := g) h1 h2 h3 (fun x hx => by obtain ⟨e, q1, q2⟩ := h4 x hx; exact ⟨e, q1, rfl, fun _ => q2⟩) hl, List.filter_eq_self.mpr fun _ _ => rfl]
/-- a pure call, in the middle of things -/
theorem callD_pure {F : List FDef} {n f : Nat} {xs : List PyData} {v : PyData} {ds : List D} {st : Store} (h : Gives F n f xs v) (hd : ds = xs.map .p) : callD (callF F n) true f ds st = .ok (.p v) st := by
  subst hd
  exact h.run st
inductive All2 {α β : Type} (R : α → β → Prop) : List α → List β → Prop
  | nil : All2 R [] []
  | cons {a : α} {b : β} {as : List α} {bs : List β} (h : R a b) (t : All2 R as bs) : All2 R (a :: as) (b :: bs)
/-- a comprehension's turn -/
def compF (Φ : Calls) (elt : E) (tg : Tg) (ifs : List E) (env : Sl) : It → Store → Res (Option D) := fun x st1 => match bindT tg x (wipeE env tg.slots) with
  | some env' => (evAn Φ ifs env' st1).bind fun c st1 => match truth c with
    | some true => (ev Φ elt env' st1).bind fun d st1 => .ok (some d) st1
    | some false => .ok none st1
    | none => .bad
  | none => .bad
theorem ev_compF {Φ : Calls} {env : Sl} {st : Store} {elt : E} {tg : Tg} {k : Nat} {its ifs : List E} {ds : List D} {items : List It} {m : Bool} (h1 : evs Φ its env st = .ok ds st) (h2 : walkOf k ds st = some items) :
    ev Φ (.comp m elt tg k its ifs) env st = ((compM (fun st1 => still ds st st1) (compF Φ elt tg ifs env) items st).bind fun ds st => newL m ds st).nox := by
  have h0 : ev Φ (.comp m elt tg k its ifs) env st = (evs Φ its env st).bind fun ds st => match walkOf k ds st with
    | some xs => ((compM (fun st1 => still ds st st1) (compF Φ elt tg ifs env) xs st).bind fun ds st => newL m ds st).nox
    | none => .bad := rfl
  rw [h0, h1]
  simp only [Res.bind_ok, h2]
theorem compF_at {Φ : Calls} {env e : Sl} {st : Store} {elt : E} {tg : Tg} {ifs : List E} {x : It} (h : bindT tg x (wipeE env tg.slots) = some e) : compF Φ elt tg ifs env x st = (evAn Φ ifs e st).bind fun c st1 => match truth c with
    | some true => (ev Φ elt e st1).bind fun d st1 => .ok (some d) st1
    | some false => .ok none st1
    | none => .bad := by
  unfold compF
  rw [h]
/-- a comprehension, item by item -/
theorem ev_compL {Φ : Calls} {env : Sl} {st : Store} {elt : E} {tg : Tg} {k : Nat} {its ifs : List E} {ds : List D} {items : List It} {rs : List (Option PyData)} (h1 : evs Φ its env st = .ok ds st) (h2 : walkOf k ds st = some items) (h3 : still ds st st = true)
    (h4 : All2 (fun x r => ∃ e, bindT tg x (wipeE env tg.slots) = some e ∧ evAn Φ ifs e st = .ok (bz r.isSome) st ∧ ∀ v, r = some v → ev Φ elt e st = .ok (.p v) st) items rs) (hl : items.length ≤ sizeLine) :
    ev Φ (.comp false elt tg k its ifs) env st = .ok (.p (.list (rs.filterMap id))) st := by
  rw [ev_compF h1 h2]
  have key : ∀ {items : List It} {rs : List (Option PyData)}, All2 (fun x r => ∃ e, bindT tg x (wipeE env tg.slots) = some e ∧ evAn Φ ifs e st = .ok (bz r.isSome) st ∧ ∀ v, r = some v → ev Φ elt e st = .ok (.p v) st) items rs →
      compM (fun st1 => still ds st st1) (compF Φ elt tg ifs env) items st = .ok ((rs.filterMap id).map .p) st ∧ (rs.filterMap id).length ≤ items.length := by
    intro items rs h
    induction h with
    | nil =>
      refine ⟨?_, Nat.le_refl _⟩
      unfold compM
      rw [if_pos h3]
      rfl
    | @cons x r xs rs hh t ih =>
      obtain ⟨e, q1, q2, q3⟩ := hh
      obtain ⟨i1, i2⟩ := ih
      unfold compM
      rw [if_pos h3, compF_at q1]
      simp only [q2, Res.bind_ok, truth_bz]
      cases r with
      | none =>
        simp only [Option.isSome_none, Res.bind_ok, i1]
        exact ⟨rfl, by simpa using Nat.le_succ_of_le i2⟩
      | some v =>
        simp only [Option.isSome_some, q3 v rfl, Res.bind_ok, i1]
        exact ⟨rfl, by simpa using i2⟩
  obtain ⟨k1, k2⟩ := key h4
  rw [k1]
  simp only [Res.bind_ok]
  unfold newL
  rw [if_neg (by simp; omega)]
  show (Res.of st ((allP ((rs.filterMap id).map D.p)).map fun xs => D.p (.list xs))).nox = _
  rw [allP_map]
  rfl
/-! ### places -/
theorem ixOf_nat (n i : Nat) : ixOf n (i : Int) = if i < n then some i else none := by
  unfold ixOf
  rw [if_pos (Int.natCast_nonneg i)]
  by_cases h : i < n
  · rw [if_pos (by omega), if_pos h]
    simp
  · rw [if_neg (by omega), if_neg h]
theorem bind_ix {α : Type} (xs : List α) (i : Nat) : ((ixOf xs.length (i : Int)).bind fun j => xs[j]?) = xs[i]? := by
  rw [ixOf_nat]
  by_cases h : i < xs.length
  · rw [if_pos h]; rfl
  · rw [if_neg h, List.getElem?_eq_none (by omega)]; rfl
theorem getIx_tup {xs : List PyData} {i : Nat} {st : Store} : getIx (.p (.tuple xs)) (.p (.int (i : Int))) st = xs[i]?.map .p := by
  show ((ixOf xs.length (i : Int)).bind fun j => xs[j]?).map D.p = _
  rw [bind_ix]
theorem getIx_lst {xs : List PyData} {i : Nat} {st : Store} : getIx (.p (.list xs)) (.p (.int (i : Int))) st = xs[i]?.map .p := by
  show ((ixOf xs.length (i : Int)).bind fun j => xs[j]?).map D.p = _
  rw [bind_ix]
@[simp] theorem getIx_0 {x : PyData} {xs : List PyData} {st : Store} : getIx (.p (.tuple (x :: xs))) (.p (.int 0)) st = some (.p x) := getIx_tup (i := 0)
@[simp] theorem getIx_1 {x y : PyData} {xs : List PyData} {st : Store} : getIx (.p (.tuple (x :: y :: xs))) (.p (.int 1)) st = some (.p y) := getIx_tup (i := 1)
@[simp] theorem getIx_l0 {x : PyData} {xs : List PyData} {st : Store} : getIx (.p (.list (x :: xs))) (.p (.int 0)) st = some (.p x) := getIx_lst (i := 0)
@[simp] theorem getIx_l1 {x y : PyData} {xs : List PyData} {st : Store} : getIx (.p (.list (x :: y :: xs))) (.p (.int 1)) st = some (.p y) := getIx_lst (i := 1)
theorem ixOf_last (n : Nat) (h : 0 < n) : ixOf n (-1) = some (n - 1) := by
  unfold ixOf
  rw [if_neg (by decide), if_pos (by omega)]
  congr 1
  omega
theorem getIx_last {xs : List PyData} {x : PyData} {st : Store} : getIx (.p (.tuple (xs ++ [x]))) (.p (.int (-1))) st = some (.p x) := by
  show ((ixOf (xs ++ [x]).length (-1)).bind fun j => (xs ++ [x])[j]?).map D.p = _
  rw [ixOf_last _ (by simp)]
  simp
@[simp] theorem op2_ix {x y : D} {st : Store} : op2 .ix x y st = Res.of st (getIx x y st) := rfl
@[simp] theorem pre_ix {x : D} {st : Store} : pre .ix x st = true := rfl
theorem indx_str {states : List Str} {x : Str} {m : Nat} {st : Store} (hn : states.Nodup) (h : states[m]? = some x) : op2 .indx (.p (.tuple (states.map .str))) (.p (.str x)) st = .ok (.p (.int m)) st := by
  show (if (inP (.str x) (states.map .str)).isSome then Res.of st ((Dn.idxOf (.str x) (states.map .str)).map fun (j : Nat) => D.p (.int (j : Int))) else .bad) = _
  rw [inP_str, idxOf_str x hn h]
  rfl
@[simp] theorem wipeE_nil {env : Sl} : wipeE env [] = env := rfl
@[simp] theorem wipeE_cons {env : Sl} {v : Nat} {vs : List Nat} : wipeE env (v :: vs) = (wipeE env vs).set v none := rfl
@[simp] theorem slots_one {i : Nat} : (Tg.one i).slots = [i] := rfl
@[simp] theorem slots_many {is : List Nat} : (Tg.many is).slots = is := rfl
theorem le_line {n : Nat} (h : n ≤ 1000000) : n ≤ sizeLine := by rw [sizeLine_eq]; omega
@[simp] theorem listP_list {ds : List PyData} {st : Store} : listP (.p (.list ds)) st = some ds := rfl
@[simp] theorem cut_1 {α : Type} {xs : List α} : cut xs (some 1) none = xs.drop 1 := by
  unfold cut clip
  simp only [show ¬ ((1 : Int) < 0) by decide, if_false]
  cases xs with
  | nil => rfl
  | cons x xs =>
    have : min (1 : Int).toNat (x :: xs).length = 1 := by simp
    rw [this]
    exact List.take_of_length_le (by simp)
@[simp] theorem cutD_tup {ds : List PyData} {lo hi : Option Int} {st : Store} : cutD (.p (.tuple ds)) lo hi st = some (.p (.tuple (cut ds lo hi))) := rfl
@[simp] theorem cutD_list {ds : List PyData} {lo hi : Option Int} {st : Store} : cutD (.p (.list ds)) lo hi st = some (.p (.list (cut ds lo hi))) := rfl
@[simp] theorem asNew_tup {ds : List PyData} {st : Store} : asNew false (some (.p (.tuple ds))) st = .ok (.p (.tuple ds)) st := rfl
@[simp] theorem allP_mapc {α : Type} (f : α → PyData) (l : List α) : allP (l.map (D.p ∘ f)) = some (l.map f) := by
  have := allP_map (l.map f)
  rwa [List.map_map] at this
theorem allP_app : ∀ {xs ys : List D} {a b : List PyData}, allP xs = some a → allP ys = some b → allP (xs ++ ys) = some (a ++ b)
  | [], ys, a, b, h, h2 => by cases h; exact h2
  | .p d :: xs, ys, a, b, h, h2 => by
    simp only [allP, Option.map_eq_some_iff] at h
    obtain ⟨l, h1, rfl⟩ := h
    simp [allP, allP_app h1 h2]
  | .r _ :: xs, ys, a, b, h, h2 => by cases h
@[simp] theorem allP_mapc2 {α β : Type} (f : α → PyData) (g : β → PyData) (l : List α) (m : List β) : allP (l.map (D.p ∘ f) ++ m.map (D.p ∘ g)) = some (l.map f ++ m.map g) := allP_app (allP_mapc f l) (allP_mapc g m)
theorem getIx_tsucc {xs : List PyData} {i : Nat} {st : Store} : getIx (.p (.tuple xs)) (.p (.int ((i : Int) + 1))) st = xs[i + 1]?.map .p := by
  have := getIx_tup (xs := xs) (i := i + 1) (st := st)
  simpa using this
theorem rangeI_cons {a c : Int} {n : Nat} {x : It} {xs : List It} (h : x :: xs = rangeI a c n) : ∃ m, n = m + 1 ∧ x = .one (.p (.int a)) ∧ xs = rangeI (a + c) c m := by
  cases n with
  | zero => cases h
  | succ m =>
    simp only [rangeI, List.cons.injEq] at h
    exact ⟨m, rfl, h.1, h.2⟩
theorem rangeI_nil {a c : Int} {n : Nat} (h : [] = rangeI a c n) : n = 0 := by
  cases n with
  | zero => rfl
  | succ m => cases h
theorem idxOf_nodup {α : Type} [BEq α] [LawfulBEq α] {l : List α} {i : Nat} {x : α} (hn : l.Nodup) (h : l[i]? = some x) : l.idxOf x = i := by
  have hm := List.mem_of_getElem? h
  have h1 : l[l.idxOf x]? = some x := by
    rw [List.getElem?_eq_getElem (List.idxOf_lt_length_of_mem hm)]
    simp
  have hi := (List.getElem?_eq_some_iff.mp h).1
  exact (List.getElem?_inj (List.idxOf_lt_length_of_mem hm) hn).mp (h1.trans h.symm)
@[simp] theorem still_p {d : PyData} {st st' : Store} : still [.p d] st st' = true := rfl
theorem walk_list {xs : List PyData} {st : Store} : walkOf 0 [.p (.list xs)] st = some (xs.map fun x => .one (.p x)) := by
  simp [walkOf, seqD]
theorem walk_tup {xs : List PyData} {st : Store} : walkOf 0 [.p (.tuple xs)] st = some (xs.map fun x => .one (.p x)) := by
  simp [walkOf, seqD]
theorem near_of {i : Int} (h : -1000000000 ≤ i) (h2 : i ≤ 1000000000) : near i = true := by
  unfold near
  rw [Bool.and_eq_true, decide_eq_true_eq, decide_eq_true_eq]
  exact ⟨by omega, by omega⟩
theorem walk_range {n : Int} {st : Store} (h : n ≤ 1000000000) (h0 : 0 ≤ n) : walkOf 1 [.p (.int n)] st = some (rangeI 0 1 n.toNat) := by
  show (if near n then some (rangeI 0 1 n.toNat) else none) = _
  rw [if_pos (near_of (by omega) h)]
/-! ### two-place operations -/
section
variable {st : Store} {i j : Int} {a b : PyData} {x y : D} {xs ys : List PyData} {u v : Str} {k : Nat}
@[simp] theorem op2_add_i : op2 .add (.p (.int i)) (.p (.int j)) st = .ok (.p (.int (i + j))) st := rfl
@[simp] theorem op2_add_s : op2 .add (.p (.str u)) (.p (.str v)) st = if u.length + v.length ≤ sizeLine then .ok (.p (.str (u ++ v))) st else .bad := rfl
@[simp] theorem op2_add_t : op2 .add (.p (.tuple xs)) (.p (.tuple ys)) st = if xs.length + ys.length ≤ sizeLine then .ok (.p (.tuple (xs ++ ys))) st else .bad := rfl
@[simp] theorem op2_sub_i : op2 .sub (.p (.int i)) (.p (.int j)) st = .ok (.p (.int (i - j))) st := rfl
@[simp] theorem op2_mul_i : op2 .mul (.p (.int i)) (.p (.int j)) st = if mulOk i j then .ok (.p (.int (i * j))) st else .bad := rfl
@[simp] theorem op2_mod_i : op2 .mod (.p (.int i)) (.p (.int j)) st = if 0 < j then .ok (.p (.int (i % j))) st else .bad := rfl
@[simp] theorem op2_eq_p : op2 .eq (.p a) (.p b) st = Res.of st ((eqD a b).map bz) := rfl
@[simp] theorem op2_ne_p : op2 .ne (.p a) (.p b) st = Res.of st ((eqD a b).map fun k => bz (!k)) := rfl
@[simp] theorem op2_lt_i : op2 .lt (.p (.int i)) (.p (.int j)) st = .ok (bz (decide (i < j))) st := rfl
@[simp] theorem op2_le_i : op2 .le (.p (.int i)) (.p (.int j)) st = .ok (bz (decide (i ≤ j))) st := rfl
@[simp] theorem op2_gt_i : op2 .gt (.p (.int i)) (.p (.int j)) st = .ok (bz (decide (j < i))) st := rfl
@[simp] theorem op2_ge_i : op2 .ge (.p (.int i)) (.p (.int j)) st = .ok (bz (decide (j ≤ i))) st := rfl
@[simp] theorem op2_inn : op2 .inn x y st = Res.of st ((inD x y st).map bz) := rfl
@[simp] theorem op2_nin : op2 .nin x y st = Res.of st ((inD x y st).map fun k => bz (!k)) := rfl
@[simp] theorem op2_app : op2 .app (.r k) y st = (match st[k]? with
    | some (.lst ds) => if ds.length < sizeLine then .ok (.p .none) (st.set k (.lst (ds ++ [y]))) else .bad
    | _ => .bad) := rfl
@[simp] theorem op2_ext : op2 .ext (.r k) y st = (match st[k]? with
    | some (.lst ds) => match listP y st with
      | some es => if ds.length + es.length ≤ sizeLine then .ok (.p .none) (st.set k (.lst (ds ++ es.map .p))) else .bad
      | none => .bad
    | _ => .bad) := rfl
end
@[simp] theorem eqD_bool (a b : Bool) : eqD (.bool a) (.bool b) = some (a == b) := by
  unfold eqD
  rw [if_pos (by simp [PyData.depth])]
  simp [PyData.eqv]
/-- a loop's turn -/
def forF (Φ : Calls) (tg : Tg) (body : List S) : It → Sl → Store → SR := fun x env1 st1 => match bindT tg x env1 with
  | some env2 => exB Φ body env2 st1
  | none => .bad
theorem forF_at {Φ : Calls} {tg : Tg} {body : List S} {x : It} {env e : Sl} {st : Store} (h : bindT tg x env = some e) : forF Φ tg body x env st = exB Φ body e st := by
  unfold forF
  rw [h]
/-- a for statement, what it walks known -/
theorem exS_forE {Φ : Calls} {tg : Tg} {k : Nat} {its : List E} {body : List S} {env : Sl} {st st1 : Store} {ds : List D} {items : List It} (h1 : evs Φ its env st = .ok ds st1) (h2 : walkOf k ds st1 = some items) :
    exS Φ (.for_ tg k its body) env st = forM' (fun st2 => still ds st1 st2) (forF Φ tg body) items env st1 := by
  have h0 : exS Φ (.for_ tg k its body) env st = (evs Φ its env st).bind fun ds st => match walkOf k ds st with
    | some xs => forM' (fun st2 => still ds st st2) (forF Φ tg body) xs env st
    | none => .bad := rfl
  rw [h0, h1]
  simp only [Res.bind_ok, h2]
theorem wp_iffB {Φ : Calls} {env : Sl} {st : Store} {c : E} {t f : List S} {QS : Flow × Sl → Store → Prop} (b : Bool) (h : ev Φ c env st = .ok (.p (.bool b)) st) : wpR (exS Φ (.iff c t f) env st) QS = wpR (exB Φ (if b then t else f) env st) QS := by
  rw [wp_iff, h]
  apply propext
  constructor
  · rintro ⟨b', h1, h2⟩
    cases h1
    exact h2
  · exact fun h => ⟨b, rfl, h⟩
theorem walk_range2 {a b : Int} {st : Store} (h : -1000000000 ≤ a) (h2 : a ≤ 1000000000) (h3 : -1000000000 ≤ b) (h4 : b ≤ 1000000000) : walkOf 1 [.p (.int a), .p (.int b)] st = some (rangeI a 1 (b - a).toNat) := by
  show (if near a && near b then some (rangeI a 1 (b - a).toNat) else none) = _
  rw [near_of h h2, near_of h3 h4]
  rfl
end Dn
namespace Lw
open PySem Dn
def b_is_pair : List S := [.iff (.orr [.o1 .nt (.o1 (.isin [.tuple]) (.var 1)), .o2 .ne (.o1 .len (.var 1)) (.c (.int 2))]) [.ret (.c (.bool false))] [],
    .ret (.o1 .all (.comp false (.an [.o1 (.isin [.str]) (.var 2), .o2 .inn (.var 2) (.o2 .ix (.var 0) (.c (.int 0)))]) (.one 2) 0 [.var 1] []))]
def b_is_follower : List S := [.set 3 (.comp false (.tup [.o2 .indx (.o2 .ix (.var 0) (.c (.int 0))) (.var 6), .o2 .indx (.o2 .ix (.var 0) (.c (.int 0))) (.var 7)]) (.many [6, 7]) 3 [.var 1, .var 2] []),
    .set 4 (.comp false (.var 5) (.one 5) 0 [.var 3] [.o2 .ne (.o2 .ix (.var 5) (.c (.int 0))) (.o2 .ix (.var 5) (.c (.int 1)))]),
    .ret (.an [.o2 .eq (.o1 .len (.var 4)) (.c (.int 1)), .o2 .lt (.o2 .ix (.o2 .ix (.var 4) (.c (.int 0))) (.c (.int 0))) (.o2 .ix (.o2 .ix (.var 4) (.c (.int 0))) (.c (.int 1)))])]
def b_is_story : List S := [.iff (.orr [.o1 .nt (.o1 (.isin [.tuple]) (.var 1)), .o2 .eq (.o1 .len (.var 1)) (.c (.int 0)), .o1 .nt (.o1 .all (.comp false (.call true 0 [.var 0, .var 4]) (.one 4) 0 [.var 1] []))]) [.ret (.c (.bool false))] [],
    .ret (.o1 .all (.comp false (.call true 1 [.var 0, .var 2, .var 3]) (.many [2, 3]) 3 [.var 1, .sl false (.var 1) (.some (.c (.int 1))) .none] []))]
def b_side_path : List S := [.set 2 (.tup [.o2 .ix (.o2 .ix (.var 0) (.c (.int 0))) (.var 1)]),
    .for_ (.one 3) 0 [.sl false (.var 0) (.some (.c (.int 1))) .none] [.iff (.o2 .ne (.o2 .ix (.var 3) (.var 1)) (.o2 .ix (.var 2) (.o1 .neg (.c (.int 1))))) [.set 2 (.o2 .add (.var 2) (.tup [.o2 .ix (.var 3) (.var 1)]))] []],
    .ret (.var 2)]
def b_story_paths : List S := [.ret (.tup [.call true 3 [.var 0, .c (.int 0)], .call true 3 [.var 0, .c (.int 1)]])]
def b_longer_stories : List S := [.iff (.an [.o2 .eq (.o1 .len (.var 1)) (.c (.int 1)), .o2 .eq (.o1 .len (.var 2)) (.c (.int 1))]) [.ret (.lst false [.var 0])] [],
    .set 3 (.lst true []),
    .iff (.o2 .gt (.o1 .len (.var 1)) (.c (.int 1))) [.ex (.o2 .ext (.var 3) (.call true 5 [.o2 .add (.var 0) (.tup [.tup [.o2 .ix (.var 1) (.c (.int 1)), .o2 .ix (.var 2) (.c (.int 0))]]), .sl false (.var 1) (.some (.c (.int 1))) .none, .var 2]))] [],
    .iff (.o2 .gt (.o1 .len (.var 2)) (.c (.int 1))) [.ex (.o2 .ext (.var 3) (.call true 5 [.o2 .add (.var 0) (.tup [.tup [.o2 .ix (.var 1) (.c (.int 0)), .o2 .ix (.var 2) (.c (.int 1))]]), .var 1, .sl false (.var 2) (.some (.c (.int 1))) .none]))] [],
    .ret (.var 3)]
def b_stories_of : List S := [.ret (.o1 .tup (.call true 5 [.tup [.tup [.o2 .ix (.var 0) (.c (.int 0)), .o2 .ix (.var 1) (.c (.int 0))]], .var 0, .var 1]))]
def b_mirror_story : List S := [.ret (.o1 .tup (.comp false (.tup [.var 2, .var 1]) (.many [1, 2]) 0 [.var 0] []))]
def b__law_field : List S := [.par [2, 3] [.lst true [], .c (.int 10007)],
    .for_ (.one 1) 0 [.sl false (.var 0) .none (.some (.c (.int 57)))] [.set 4 (.o2 .mod (.o1 .abs (.o1 .int (.var 1))) (.o2 .shl (.c (.int 1)) (.c (.int 1500)))),
    .set 3 (.o2 .mod (.o1 .int (.o2 .add (.o2 .add (.o2 .add (.o2 .mul (.var 3) (.c (.int 30307))) (.o2 .mod (.var 4) (.c (.int 1000423)))) (.o2 .mul (.c (.int 3)) (.o1 .int (.o2 .lt (.o1 .int (.var 1)) (.c (.int 0)))))) (.c (.int 7)))) (.c (.int 2147483629))),
    .for_ (.one 5) 1 [.c (.int 114)] [.iff (.orr [.an [.o2 .lt (.var 4) (.o2 .pow (.c (.int 10)) (.c (.int 18))), .o2 .eq (.var 5) (.c (.int 0))], .o2 .eq (.var 4) (.c (.int 0))]) [.brk] [],
    .ex (.o2 .app (.var 2) (.o2 .mod (.o1 .int (.var 4)) (.c (.int 9829)))),
    .set 4 (.o2 .fdv (.var 4) (.c (.int 9829)))]],
    .ret (.lst true [.var 3, .rv true (.var 2), .c (.int 0), .dic []])]
def b__law_furrow : List S := [.iff (.o2 .gt (.o1 .len (.o2 .ix (.var 0) (.c (.int 1)))) (.c (.int 0))) [.ret (.o1 .pop (.o2 .ix (.var 0) (.c (.int 1))))] [],
    .setix (.var 0) (.c (.int 2)) (.o2 .add (.o2 .ix (.var 0) (.c (.int 2))) (.c (.int 1))),
    .setix (.var 0) (.c (.int 0)) (.o2 .mod (.o1 .int (.o2 .add (.o2 .add (.o2 .mul (.o2 .ix (.var 0) (.c (.int 0))) (.c (.int 44497))) (.o2 .mul (.o2 .ix (.var 0) (.c (.int 2))) (.c (.int 24007)))) (.c (.int 5)))) (.c (.int 2147483629))),
    .ret (.o1 .int (.o2 .fdv (.o2 .ix (.var 0) (.c (.int 0))) (.c (.int 101))))]
def b__law_sow : List S := [.iff (.o2 .nin (.var 1) (.o2 .ix (.var 0) (.c (.int 3)))) [.setix (.o2 .ix (.var 0) (.c (.int 3))) (.var 1) (.tup [.o2 .mod (.o1 .int (.call false 9 [.var 0])) (.c (.int 10)), .o2 .mod (.o1 .int (.call false 9 [.var 0])) (.c (.int 353))])] [],
    .unp [3, 4] (.o2 .ix (.o2 .ix (.var 0) (.c (.int 3))) (.var 1)),
    .iff (.o2 .lt (.var 3) (.c (.int 2))) [.ret (.o2 .mul (.o2 .sub (.var 2) (.c (.int 1))) (.var 3))] [],
    .ret (.o2 .mod (.o1 .int (.ite (.o2 .eq (.var 3) (.c (.int 9))) (.var 4) (.call false 9 [.var 0]))) (.var 2))]
def b__law_match : List S := [.set 2 (.lst true [.tup [.var 0, .var 1]]),
    .for_ (.one 3) 1 [.c (.int 500000)] [.iff (.o2 .eq (.o1 .len (.var 2)) (.c (.int 0))) [.ret (.c (.bool true))] [],
    .unp [4, 5] (.o1 .pop (.var 2)),
    .iff (.o1 .isN (.var 5)) [.iff (.o1 .niN (.var 4)) [.ret (.c (.bool false))] []] [.iff (.o1 (.isin [.bool]) (.var 5)) [.iff (.orr [.o1 .nt (.o1 (.isin [.bool]) (.var 4)), .o2 .ne (.var 4) (.var 5)]) [.ret (.c (.bool false))] []] [.iff (.o1 (.isin [.int]) (.var 5)) [.iff (.orr [.o1 .nt (.o1 (.isin [.int]) (.var 4)), .o1 (.isin [.bool]) (.var 4), .o2 .ne (.var 4) (.var 5)]) [.ret (.c (.bool false))] []] [.iff (.o1 (.isin [.str]) (.var 5)) [.iff (.orr [.o1 .nt (.o1 (.isin [.str]) (.var 4)), .o2 .ne (.var 4) (.var 5)]) [.ret (.c (.bool false))] []] [.iff (.orr [.o2 .ne (.o1 (.isin [.tuple]) (.var 5)) (.o1 (.isin [.tuple]) (.var 4)), .o2 .ne (.o1 (.isin [.list]) (.var 5)) (.o1 (.isin [.list]) (.var 4)), .o2 .ne (.o1 .len (.var 4)) (.o1 .len (.var 5))]) [.ret (.c (.bool false))] [],
    .ex (.o2 .ext (.var 2) (.comp false (.tup [.o2 .ix (.var 4) (.var 6), .o2 .ix (.var 5) (.var 6)]) (.one 6) 1 [.o1 .len (.var 5)] []))]]]]],
    .ret (.c (.bool false))]
def b__law_set : List S := [.set 3 (.o1 .tup (.comp false (.var 4) (.one 4) 0 [.var 1] [.o2 .gt (.call false 10 [.var 0, .var 2, .c (.int 3)]) (.c (.int 0))])),
    .ret (.ite (.o2 .gt (.o1 .len (.var 3)) (.c (.int 0))) (.var 3) (.tup [.o2 .ix (.var 1) (.call false 10 [.var 0, .c (.str "one"), .o1 .len (.var 1)])]))]
def b__law_book : List S := [.set 1 (.lst true [.c (.str "dry"), .c (.str "lit"), .c (.str "ash"), .c (.str "a"), .c (.str "b9"), .c (.str "q"), .c (.str "zzzzzzzz"), .c (.str "up"), .c (.str "s0"), .c (.str "k"), .c (.str "x1")]),
    .set 2 (.o2 .ix (.tup [.c (.int 2), .c (.int 3), .c (.int 3), .c (.int 3), .c (.int 4)]) (.call false 10 [.var 0, .c (.str "states"), .c (.int 5)])),
    .set 3 (.o1 .tup (.comp false (.o2 .popi (.var 1) (.call false 10 [.var 0, .c (.str "state"), .o1 .len (.var 1)])) (.one 11) 1 [.var 2] [])),
    .iff (.o2 .eq (.var 2) (.c (.int 4))) [.set 8 (.o1 .tup (.comp false (.tup [.o2 .ix (.var 3) (.call false 10 [.var 0, .c (.str "start"), .c (.int 3)])]) (.one 11) 1 [.c (.int 3)] []))] [.set 8 (.o1 .tup (.comp false (.call false 12 [.var 0, .ite (.o2 .gt (.call false 10 [.var 0, .c (.str "low"), .c (.int 3)]) (.c (.int 0))) (.sl false (.var 3) .none (.some (.c (.int 2)))) (.var 3), .c (.str "begin")]) (.one 11) 1 [.c (.int 3)] []))],
    .set 4 (.lst true [.c (.str "a"), .c (.str "catch"), .c (.str "out"), .c (.str "r1"), .c (.str "r2"), .c (.str "dry"), .c (.str "go"), .c (.str "zz"), .c (.str "m"), .c (.str "lit")]),
    .set 5 (.o1 .srt (.comp false (.o2 .popi (.var 4) (.call false 10 [.var 0, .c (.str "rule"), .o1 .len (.var 4)])) (.one 11) 1 [.o2 .add (.c (.int 1)) (.call false 10 [.var 0, .c (.str "rules"), .c (.int 5)])] [])),
    .set 6 (.lst true []),
    .for_ (.one 7) 0 [.var 5] [.set 9 (.call false 10 [.var 0, .c (.str "here"), .o2 .sub (.var 2) (.c (.int 1))]),
    .set 10 (.o2 .add (.o2 .add (.var 9) (.c (.int 1))) (.call false 10 [.var 0, .c (.str "next"), .o2 .sub (.o2 .sub (.var 2) (.c (.int 1))) (.var 9)])),
    .ex (.o2 .app (.var 6) (.tup [.var 7, .o2 .ix (.var 3) (.var 9), .o2 .ix (.var 3) (.var 10), .call false 12 [.var 0, .o2 .add (.var 3) (.tup [.c (.str "wall")]), .c (.str "left")], .call false 12 [.var 0, .o2 .add (.var 3) (.tup [.c (.str "wall")]), .c (.str "right")]]))],
    .ret (.tup [.var 3, .var 8, .o1 .tup (.var 6)])]
def b__law_way : List S := [.set 2 (.o1 .tup (.comp false (.var 3) (.one 3) 0 [.var 1] [.o2 .eq (.call false 10 [.var 0, .c (.str "on path"), .c (.int 2)]) (.c (.int 0))])),
    .ret (.ite (.o2 .gt (.o1 .len (.var 2)) (.c (.int 0))) (.var 2) (.tup [.o2 .ix (.var 1) (.call false 10 [.var 0, .c (.str "alone"), .o1 .len (.var 1)])]))]
def b__law_both : List S := [.set 2 (.lst false [.tup [.tup [.o2 .ix (.var 0) (.c (.int 0)), .o2 .ix (.var 1) (.c (.int 0))]]]),
    .for_ (.one 3) 1 [.o2 .sub (.o2 .add (.o1 .len (.var 0)) (.o1 .len (.var 1))) (.c (.int 2))] [.set 4 (.lst true []),
    .for_ (.one 5) 0 [.var 2] [.par [6, 7] [.o2 .indx (.var 0) (.o2 .ix (.o2 .ix (.var 5) (.o1 .neg (.c (.int 1)))) (.c (.int 0))), .o2 .indx (.var 1) (.o2 .ix (.o2 .ix (.var 5) (.o1 .neg (.c (.int 1)))) (.c (.int 1)))],
    .iff (.o2 .lt (.o2 .add (.var 6) (.c (.int 1))) (.o1 .len (.var 0))) [.ex (.o2 .app (.var 4) (.o2 .add (.var 5) (.tup [.tup [.o2 .ix (.var 0) (.o2 .add (.var 6) (.c (.int 1))), .o2 .ix (.o2 .ix (.var 5) (.o1 .neg (.c (.int 1)))) (.c (.int 1))]])))] [],
    .iff (.o2 .lt (.o2 .add (.var 7) (.c (.int 1))) (.o1 .len (.var 1))) [.ex (.o2 .app (.var 4) (.o2 .add (.var 5) (.tup [.tup [.o2 .ix (.o2 .ix (.var 5) (.o1 .neg (.c (.int 1)))) (.c (.int 0)), .o2 .ix (.var 1) (.o2 .add (.var 7) (.c (.int 1)))]])))] []],
    .set 2 (.o1 .frz (.var 4))],
    .ret (.o1 .tup (.var 2))]
def b__law_is_right : List S := [.iff (.orr [.o1 .nt (.o1 (.isin [.tuple]) (.var 1)), .o2 .eq (.o1 .len (.var 1)) (.c (.int 0))]) [.ret (.c (.bool false))] [],
    .set 2 (.lst true []),
    .for_ (.one 3) 0 [.var 1] [.iff (.orr [.o1 .nt (.o1 (.isin [.tuple]) (.var 3)), .o2 .ne (.o1 .len (.var 3)) (.c (.int 2)), .o2 .gt (.o1 .len (.comp false (.c (.int 1)) (.one 6) 0 [.var 3] [.orr [.o1 .nt (.o1 (.isin [.str]) (.var 6)), .o2 .nin (.var 6) (.var 0)]])) (.c (.int 0))]) [.ret (.c (.bool false))] [],
    .ex (.o2 .app (.var 2) (.comp false (.o2 .indx (.var 0) (.var 6)) (.one 6) 0 [.var 3] []))],
    .for_ (.one 4) 1 [.c (.int 1), .o1 .len (.var 2)] [.set 5 (.o1 .srt (.comp false (.o2 .sub (.o2 .ix (.o2 .ix (.var 2) (.var 4)) (.var 7)) (.o2 .ix (.o2 .ix (.var 2) (.o2 .sub (.var 4) (.c (.int 1)))) (.var 7))) (.one 7) 0 [.tup [.c (.int 0), .c (.int 1)]] [])),
    .iff (.orr [.o2 .ne (.o2 .ix (.var 5) (.c (.int 0))) (.c (.int 0)), .o2 .le (.o2 .ix (.var 5) (.c (.int 1))) (.c (.int 0))]) [.ret (.c (.bool false))] []],
    .ret (.c (.bool true))]
def b__law_bent : List S := [.set 3 (.call false 10 [.var 0, .c (.str "at"), .o1 .len (.var 2)]),
    .set 4 (.o2 .ix (.var 2) (.var 3)),
    .set 5 (.o2 .ix (.var 1) (.call false 10 [.var 0, .c (.str "any"), .o1 .len (.var 1)])),
    .set 6 (.o2 .ix (.lst false [.c (.str "wall"), .o2 .add (.var 5) (.c (.str "x")), .c (.str ""), .c .none, .c (.bool true), .c (.int 0), .tup [.var 5], .o1 .upper (.var 5)]) (.call false 10 [.var 0, .c (.str "odd"), .c (.int 8)])),
    .set 7 (.lst true [.o1 (.lst false) (.var 2), .tup [], .c .none, .o2 .ix (.var 2) (.c (.int 0)), .c (.str "story"), .o2 .add (.var 2) (.tup [.tup []]), .o2 .add (.var 2) (.tup [.c .none]), .tup [.var 2], .o2 .add (.o2 .add (.sl false (.var 2) .none (.some (.var 3))) (.tup [.o1 (.lst false) (.var 4)])) (.sl false (.var 2) (.some (.o2 .add (.var 3) (.c (.int 1)))) .none)]),
    .set 7 (.comp true (.o2 .ix (.var 7) (.call false 10 [.var 0, .c (.str "shape"), .c (.int 9)])) (.one 9) 1 [.c (.int 3)] []),
    .for_ (.one 8) 0 [.tup [.tup [.var 6, .o2 .ix (.var 4) (.c (.int 1))], .tup [.o2 .ix (.var 4) (.c (.int 0)), .var 6], .tup [.var 5, .o2 .ix (.var 4) (.c (.int 1))], .tup [.o2 .ix (.var 4) (.c (.int 0)), .var 5], .rv false (.var 4), .o2 .add (.var 4) (.tup [.var 5]), .sl false (.var 4) .none (.some (.c (.int 1))), .tup [.var 5, .var 5]]] [.ex (.o2 .app (.var 7) (.o2 .add (.o2 .add (.sl false (.var 2) .none (.some (.var 3))) (.tup [.var 8])) (.sl false (.var 2) (.some (.o2 .add (.var 3) (.c (.int 1)))) .none)))],
    .ret (.o2 .add (.var 7) (.lst false [.o2 .add (.sl false (.var 2) .none (.some (.var 3))) (.sl false (.var 2) (.some (.o2 .add (.var 3) (.c (.int 1)))) .none), .o2 .add (.var 2) (.tup [.var 4]), .rv false (.var 2), .o2 .add (.o2 .add (.sl false (.var 2) .none (.some (.var 3))) (.tup [.var 4])) (.sl false (.var 2) (.some (.var 3)) .none), .o2 .add (.o2 .add (.sl false (.var 2) .none (.some (.var 3))) (.sl false (.var 2) (.some (.o2 .add (.var 3) (.c (.int 1)))) .none)) (.tup [.var 4])]))]
def b__law_asked : List S := [.set 2 (.o2 .ix (.var 1) (.c (.int 0))),
    .par [8, 9] [.call false 14 [.var 0, .var 2], .call false 14 [.var 0, .var 2]],
    .set 3 (.call true 15 [.var 8, .var 9]),
    .iff (.o1 .nt (.call true 11 [.tup [.call true 6 [.var 8, .var 9], .callk true 6 [0, 1] [.var 9, .var 8]], .tup [.var 3, .call true 15 [.var 9, .var 8]]])) [.ret (.c (.bool false))] [],
    .set 4 (.o2 .ix (.var 3) (.call false 10 [.var 0, .c (.str "story"), .o1 .len (.var 3)])),
    .set 5 (.o1 .tup (.comp false (.rv false (.var 10)) (.one 10) 0 [.var 4] [])),
    .set 6 (.tup [.call true 2 [.var 1, .var 4], .call true 4 [.var 4], .call true 7 [.var 4], .callk true 7 [0] [.var 5], .callk true 4 [0] [.var 5]]),
    .iff (.o1 .nt (.call true 11 [.var 6, .tup [.c (.bool true), .tup [.var 8, .var 9], .var 5, .var 4, .tup [.var 9, .var 8]]])) [.ret (.c (.bool false))] [],
    .for_ (.one 7) 0 [.call false 17 [.var 0, .var 2, .var 4]] [.iff (.o1 .nt (.call true 11 [.call true 2 [.var 1, .var 7], .call true 16 [.var 2, .var 7]])) [.ret (.c (.bool false))] []],
    .ret (.c (.bool true))]
def b__law_by_hand : List S := [.set 0 (.tup [.tup [.c (.str "dry"), .c (.str "lit"), .c (.str "ash")], .tup [.tup [.c (.str "lit")], .tup [.c (.str "dry")], .tup [.c (.str "dry")]], .tup [.tup [.c (.str "catch"), .c (.str "dry"), .c (.str "lit"), .tup [.c (.str "lit")], .tup [.c (.str "dry"), .c (.str "wall")]]]]),
    .set 1 (.tup [.tup [.c (.str "lit"), .c (.str "dry")], .tup [.c (.str "lit"), .c (.str "lit")], .tup [.c (.str "ash"), .c (.str "lit")]]),
    .set 2 (.tup [.call true 4 [.var 1], .o1 .len (.call true 6 [.tup [.c (.str "lit"), .c (.str "ash")], .tup [.c (.str "dry"), .c (.str "lit")]]), .call true 7 [.tup [.tup [.c (.str "lit"), .c (.str "dry")], .tup [.c (.str "ash"), .c (.str "dry")]]], .callk true 2 [1, 0] [.var 1, .var 0]]),
    .iff (.o1 .nt (.call true 11 [.var 2, .tup [.tup [.tup [.c (.str "lit"), .c (.str "ash")], .tup [.c (.str "dry"), .c (.str "lit")]], .c (.int 2), .tup [.tup [.c (.str "dry"), .c (.str "lit")], .tup [.c (.str "dry"), .c (.str "ash")]], .c (.bool true)]])) [.ret (.c (.bool false))] [],
    .set 2 (.tup [.call true 2 [.var 0, .sl false (.var 1) .none (.some (.c (.int 1)))], .call true 2 [.var 0, .tup [.tup [.c (.str "dry"), .c (.str "dry")], .tup [.c (.str "ash"), .c (.str "dry")]]], .call true 2 [.var 0, .tup [.tup [.c (.str "dry"), .c (.str "dry")], .tup [.c (.str "lit"), .c (.str "lit")]]]]),
    .set 2 (.o2 .add (.var 2) (.tup [.call true 2 [.var 0, .o2 .add (.var 1) (.sl false (.var 1) (.some (.c (.int 2))) .none)], .call true 2 [.var 0, .tup [.tup [.c (.str "lit"), .c (.str "dry")], .tup [.c (.str "dry"), .c (.str "dry")]]]])),
    .set 3 (.tup [.c (.bool true), .c (.bool true), .c (.bool false), .c (.bool false), .c (.bool false)]),
    .set 4 (.call true 6 [.tup [.c (.str "dry"), .c (.str "lit"), .c (.str "ash")], .tup [.c (.str "lit"), .c (.str "ash")]]),
    .set 5 (.tup [.tup [.c (.str "dry"), .c (.str "lit")], .tup [.c (.str "lit"), .c (.str "lit")], .tup [.c (.str "ash"), .c (.str "lit")], .tup [.c (.str "ash"), .c (.str "ash")]]),
    .ret (.call true 11 [.o2 .add (.var 2) (.tup [.o1 .len (.var 4), .o2 .ix (.var 4) (.c (.int 0)), .o2 .ix (.var 4) (.c (.int 2)), .call true 6 [.tup [.c (.str "q")], .tup [.c (.str "q")]]]), .o2 .add (.var 3) (.tup [.c (.int 3), .var 5, .tup [.tup [.c (.str "dry"), .c (.str "lit")], .tup [.c (.str "dry"), .c (.str "ash")], .tup [.c (.str "lit"), .c (.str "ash")], .tup [.c (.str "ash"), .c (.str "ash")]], .tup [.tup [.tup [.c (.str "q"), .c (.str "q")]]]])])]
def b_law : List S := [.set 1 (.call false 8 [.var 0]),
    .iff (.o1 .nt (.call true 19 [])) [.ret (.c (.bool false))] [],
    .for_ (.one 2) 1 [.c (.int 4)] [.iff (.o1 .nt (.call false 18 [.var 1, .call false 13 [.var 1]])) [.ret (.c (.bool false))] []],
    .set 3 (.tup [.c (.str "d"), .c (.str "c"), .c (.str "b"), .c (.str "a")]),
    .set 4 (.tup [.var 3, .tup [.tup [.c (.str "d")], .tup [.c (.str "c")], .tup [.c (.str "d")]], .tup []]),
    .set 5 (.call true 15 [.var 3, .var 3]),
    .ret (.call true 11 [.tup [.call true 6 [.var 3, .var 3], .o1 .len (.var 5), .call true 2 [.var 4, .o2 .ix (.var 5) (.call false 10 [.var 1, .c (.str "far"), .c (.int 20)])]], .tup [.var 5, .c (.int 20), .c (.bool true)]])]
abbrev d_is_pair : FDef := ⟨"is_pair", ["book", "thing", "state"], 2, b_is_pair⟩
abbrev d_is_follower : FDef := ⟨"is_follower", ["book", "one", "other", "ranks", "unlike", "pair", "here", "there"], 3, b_is_follower⟩
abbrev d_is_story : FDef := ⟨"is_story", ["book", "thing", "one", "other", "pair"], 2, b_is_story⟩
abbrev d_side_path : FDef := ⟨"side_path", ["story", "side", "path", "pair"], 2, b_side_path⟩
abbrev d_story_paths : FDef := ⟨"story_paths", ["story"], 1, b_story_paths⟩
abbrev d_longer_stories : FDef := ⟨"longer_stories", ["story", "one", "other", "found"], 3, b_longer_stories⟩
abbrev d_stories_of : FDef := ⟨"stories_of", ["one", "other"], 2, b_stories_of⟩
abbrev d_mirror_story : FDef := ⟨"mirror_story", ["story", "here", "there"], 1, b_mirror_story⟩
abbrev d__law_field : FDef := ⟨"_law_field", ["script", "cell", "seeds", "mixed", "size", "lap"], 1, b__law_field⟩
abbrev d__law_furrow : FDef := ⟨"_law_furrow", ["field"], 1, b__law_furrow⟩
abbrev d__law_sow : FDef := ⟨"_law_sow", ["field", "place", "many", "way", "own"], 3, b__law_sow⟩
abbrev d__law_match : FDef := ⟨"_law_match", ["told", "due", "rows", "lap", "left", "right", "k"], 2, b__law_match⟩
abbrev d__law_set : FDef := ⟨"_law_set", ["field", "things", "habit", "told", "thing"], 3, b__law_set⟩
abbrev d__law_book : FDef := ⟨"_law_book", ["field", "names", "many", "states", "calls", "used", "rules", "name", "starts", "here", "there", "lap"], 1, b__law_book⟩
abbrev d__law_way : FDef := ⟨"_law_way", ["field", "states", "told", "state"], 2, b__law_way⟩
abbrev d__law_both : FDef := ⟨"_law_both", ["one", "other", "rows", "lap", "longer", "row", "left", "right"], 2, b__law_both⟩
abbrev d__law_is_right : FDef := ⟨"_law_is_right", ["states", "thing", "ranks", "pair", "at", "rises", "state", "side"], 2, b__law_is_right⟩
abbrev d__law_bent : FDef := ⟨"_law_bent", ["field", "states", "story", "at", "pair", "state", "odd", "told", "news", "lap"], 3, b__law_bent⟩
abbrev d__law_asked : FDef := ⟨"_law_asked", ["field", "book", "states", "due", "story", "turned", "told", "thing", "one", "other", "pair"], 2, b__law_asked⟩
abbrev d__law_by_hand : FDef := ⟨"_law_by_hand", ["fire", "story", "told", "due", "rows", "least"], 0, b__law_by_hand⟩
abbrev d_law : FDef := ⟨"law", ["script", "field", "lap", "states", "book", "due"], 1, b_law⟩
def F : List FDef := [d_is_pair, d_is_follower, d_is_story, d_side_path, d_story_paths, d_longer_stories, d_stories_of, d_mirror_story, d__law_field, d__law_furrow, d__law_sow, d__law_match, d__law_set, d__law_book, d__law_way, d__law_both, d__law_is_right, d__law_bent, d__law_asked, d__law_by_hand, d_law]
abbrev f_is_pair : Nat := 0
abbrev f_is_follower : Nat := 1
abbrev f_is_story : Nat := 2
abbrev f_side_path : Nat := 3
abbrev f_story_paths : Nat := 4
abbrev f_longer_stories : Nat := 5
abbrev f_stories_of : Nat := 6
abbrev f_mirror_story : Nat := 7
abbrev f__law_field : Nat := 8
abbrev f__law_furrow : Nat := 9
abbrev f__law_sow : Nat := 10
abbrev f__law_match : Nat := 11
abbrev f__law_set : Nat := 12
abbrev f__law_book : Nat := 13
abbrev f__law_way : Nat := 14
abbrev f__law_both : Nat := 15
abbrev f__law_is_right : Nat := 16
abbrev f__law_bent : Nat := 17
abbrev f__law_asked : Nat := 18
abbrev f__law_by_hand : Nat := 19
abbrev f_law : Nat := 20
end Lw
namespace Lw
open PySem Dn
/-! ### right pairs, right stories -/
def okS (states : List Str) : PyData → Bool
  | .str s => decide (s ∈ states)
  | _ => false
def isPair (states : List Str) : PyData → Bool
  | .tuple ds => decide (ds.length = 2) && ds.all (okS states)
  | _ => false
def flat : PyData → Bool
  | .dict _ => false
  | _ => true
abbrev bk (states : List Str) (rest : List PyData) : PyData := .tuple (.tuple (states.map .str) :: rest)
theorem ok_okS {Φ : Calls} {states : List Str} {rest : List PyData} {y : PyData} {z : Option D} {st : Store} (hy : flat y = true) :
    ev Φ (.an [.o1 (.isin [.str]) (.var 2), .o2 .inn (.var 2) (.o2 .ix (.var 0) (.c (.int 0)))]) [some (.p (bk states rest)), z, some (.p y)] st = .ok (.p (.bool (okS states y))) st := by
  cases y <;> first | (cases hy; done) | rfl | skip
  simp [op1, op2, tyOf, isTy, pre, truth, bz, getIx, ixOf, inD, okS]
theorem is_pair_ok (n : Nat) {states : List Str} {rest : List PyData} {x : PyData} (hx : flat x = true) (hy : ∀ ds, x = .tuple ds → ∀ y ∈ ds, flat y = true) :
    Gives F (n + 1) f_is_pair [bk states rest, x] (.bool (isPair states x)) := by
  refine ⟨.p (.bool (isPair states x)), [], ?_, rfl⟩
  rw [callF_eq (d := d_is_pair) rfl]
  cases x with
  | tuple ds =>
    by_cases hl : ds.length = 2
    · have hc := ev_compS0 (Φ := callF F n) (env := [some (.p (bk states rest)), some (.p (.tuple ds)), none]) (st := []) (tg := .one 2) (its := [.var 1]) (elt := .an [.o1 (.isin [.str]) (.var 2), .o2 .inn (.var 2) (.o2 .ix (.var 0) (.c (.int 0)))]) (xs := ds) (g := fun y => .bool (okS states y)) rfl (.inl rfl)
        (fun y hy' => ⟨_, rfl, ok_okS (hy ds rfl y hy')⟩) (by rw [hl]; decide)
      have h2 : eqD (.int ((ds.length : Nat) : Int)) (.int 2) = some true := by rw [eqD_int, hl]; rfl
      simp [bodyR, b_is_pair, startE, op1, op2, pre, tyOf, isTy, h2, truth, bz, -evAn_one, -evAn_two, -ev_an] at hc ⊢
      simp [hc, listP, isPair, hl]
    · have h2 : eqD (.int ((ds.length : Nat) : Int)) (.int 2) = some false := by rw [eqD_int]; simp; omega
      simp [bodyR, b_is_pair, startE, op1, op2, pre, tyOf, isTy, h2, truth, bz, isPair, hl]
  | dict _ => cases hx
  | _ => rfl
/-- one pair behind another, by the states' places -/
def folB (a b c d : Nat) : Bool := (decide (a < c) && decide (b = d)) || (decide (a = c) && decide (b < d))
theorem is_follower_ok (n : Nat) {states : List Str} {rest : List PyData} {a b c d : Str} {i j k l : Nat} (hn : states.Nodup) (ha : states[i]? = some a) (hb : states[j]? = some b) (hc : states[k]? = some c) (hd : states[l]? = some d) :
    Gives F (n + 1) f_is_follower [bk states rest, .tuple [.str a, .str b], .tuple [.str c, .str d]] (.bool (folB i j k l)) := by
  refine ⟨.p (.bool (folB i j k l)), [], ?_, rfl⟩
  rw [callF_eq (d := d_is_follower) rfl]
  have e1 : ev (callF F n) (.comp false (.tup [.o2 .indx (.o2 .ix (.var 0) (.c (.int 0))) (.var 6), .o2 .indx (.o2 .ix (.var 0) (.c (.int 0))) (.var 7)]) (.many [6, 7]) 3 [.var 1, .var 2] [])
      [some (.p (bk states rest)), some (.p (.tuple [.str a, .str b])), some (.p (.tuple [.str c, .str d])), none, none, none, none, none] [] = .ok (.p (.list [.tuple [.int i, .int k], .tuple [.int j, .int l]])) [] := by
    refine ev_compL (rs := [some (.tuple [.int i, .int k]), some (.tuple [.int j, .int l])]) (ds := [.p (.tuple [.str a, .str b]), .p (.tuple [.str c, .str d])]) (items := [.two (.p (.str a)) (.p (.str c)), .two (.p (.str b)) (.p (.str d))]) rfl rfl rfl
      (.cons ⟨_, rfl, rfl, fun v hv => ?_⟩ (.cons ⟨_, rfl, rfl, fun v hv => ?_⟩ .nil)) (le_line (by simp))
    · cases hv
      simp [indx_str hn ha, indx_str hn hc, setAll, wipeE, pre, allP, sizeLine_eq]
    · cases hv
      simp [indx_str hn hb, indx_str hn hd, setAll, wipeE, pre, allP, sizeLine_eq]
  have e2 : ev (callF F n) (.comp false (.var 5) (.one 5) 0 [.var 3] [.o2 .ne (.o2 .ix (.var 5) (.c (.int 0))) (.o2 .ix (.var 5) (.c (.int 1)))])
      [some (.p (bk states rest)), some (.p (.tuple [.str a, .str b])), some (.p (.tuple [.str c, .str d])), some (.p (.list [.tuple [.int i, .int k], .tuple [.int j, .int l]])), none, none, none, none] [] =
      .ok (.p (.list ([if i = k then none else some (.tuple [.int i, .int k]), if j = l then none else some (.tuple [.int j, .int l])].filterMap id))) [] := by
    refine ev_compL (ds := [.p (.list [.tuple [.int i, .int k], .tuple [.int j, .int l]])]) (items := [.one (.p (.tuple [.int i, .int k])), .one (.p (.tuple [.int j, .int l]))]) rfl rfl rfl
      (.cons ⟨_, rfl, ?_, fun v hv => ?_⟩ (.cons ⟨_, rfl, ?_, fun v hv => ?_⟩ .nil)) (le_line (by simp))
    · by_cases h : i = k
      · simp [h, pre, op2]
      · have h' : ¬ ((i : Int) = k) := by omega
        simp [h, h', pre, op2]
    · by_cases h : i = k <;> simp [h] at hv; subst hv; simp [wipeE]
    · by_cases h : j = l
      · simp [h, pre, op2]
      · have h' : ¬ ((j : Int) = l) := by omega
        simp [h, h', pre, op2]
    · by_cases h : j = l <;> simp [h] at hv; subst hv; simp [wipeE]
  simp [bodyR, b_is_follower, startE, e1, setE, e2]
  by_cases h1 : i = k <;> by_cases h2 : j = l <;> simp [h1, h2, op1, op2, pre, cmpI, truth, bz, folB]
/-! ### a right story -/
/-- no dict within -/
def nd1 : PyData → Bool
  | .dict _ => false
  | .tuple ds => ds.all flat
  | _ => true
def nd2 : PyData → Bool
  | .dict _ => false
  | .tuple ds => ds.all nd1
  | _ => true
theorem nd1_flat {x : PyData} (h : nd1 x = true) : flat x = true := by
  cases x <;> first | rfl | cases h
def place (states : List Str) (s : Str) : Nat := states.idxOf s
/-- one thing behind another -/
def fol (states : List Str) : PyData → PyData → Bool
  | .tuple [.str a, .str b], .tuple [.str c, .str d] => folB (place states a) (place states b) (place states c) (place states d)
  | _, _ => false
def chain (states : List Str) : List PyData → Bool
  | x :: y :: r => fol states x y && chain states (y :: r)
  | _ => true
def isStory (states : List Str) : PyData → Bool
  | .tuple ds => !ds.isEmpty && ds.all (isPair states) && chain states ds
  | _ => false
theorem pair_strs {states : List Str} {x : PyData} (h : isPair states x = true) : ∃ a b, x = .tuple [.str a, .str b] ∧ a ∈ states ∧ b ∈ states := by
  cases x with
  | tuple ds =>
    unfold isPair at h
    rw [Bool.and_eq_true, decide_eq_true_eq] at h
    match ds, h with
    | [x, y], h =>
      simp only [List.all_cons, List.all_nil, Bool.and_true, Bool.and_eq_true] at h
      cases x <;> first | (cases h.2.1; done) | skip
      cases y <;> first | (cases h.2.2; done) | skip
      exact ⟨_, _, rfl, by simpa [okS] using h.2.1, by simpa [okS] using h.2.2⟩
  | _ => cases h
theorem place_get {states : List Str} {s : Str} (h : s ∈ states) : states[place states s]? = some s := by
  unfold place
  rw [List.getElem?_eq_getElem (List.idxOf_lt_length_of_mem h)]
  simp
theorem fol_ok (n : Nat) {states : List Str} {rest : List PyData} {x y : PyData} (hn : states.Nodup) (hx : isPair states x = true) (hy : isPair states y = true) : Gives F (n + 1) f_is_follower [bk states rest, x, y] (.bool (fol states x y)) := by
  obtain ⟨a, b, rfl, ha, hb⟩ := pair_strs hx
  obtain ⟨c, d, rfl, hc, hd⟩ := pair_strs hy
  exact is_follower_ok n hn (place_get ha) (place_get hb) (place_get hc) (place_get hd)
def folI (states : List Str) : Dn.It → Bool
  | .two (.p x) (.p y) => fol states x y
  | _ => false
theorem zip_chain {states : List Str} : ∀ {ds : List PyData}, ((zipI (ds.map .p) ((ds.drop 1).map .p)).map (folI states)).all id = chain states ds
  | [] => rfl
  | [x] => rfl
  | x :: y :: r => by
    have := zip_chain (states := states) (ds := y :: r)
    simp [zipI, chain, folI] at this ⊢
    rw [← this]
theorem zip_mem : ∀ {xs ys : List PyData} {it : It}, it ∈ zipI (xs.map .p) (ys.map .p) → ∃ x y, it = .two (.p x) (.p y) ∧ x ∈ xs ∧ y ∈ ys
  | [], _, _, h => by simp [zipI] at h
  | _ :: _, [], _, h => by simp [zipI] at h
  | x :: xs, y :: ys, it, h => by
    simp only [List.map_cons, zipI, List.mem_cons] at h
    rcases h with rfl | h
    · exact ⟨x, y, rfl, by simp, by simp⟩
    · obtain ⟨a, b, e, h1, h2⟩ := zip_mem h
      exact ⟨a, b, e, by simp [h1], by simp [h2]⟩
theorem zip_le : ∀ (xs ys : List D), (zipI xs ys).length ≤ xs.length
  | [], _ => by simp [zipI]
  | _ :: _, [] => by simp [zipI]
  | x :: xs, y :: ys => by simpa [zipI] using zip_le xs ys
theorem is_story_ok (n : Nat) {states : List Str} {rest : List PyData} {x : PyData} (hn : states.Nodup) (hx : nd2 x = true) (hl : ∀ ds, x = .tuple ds → ds.length ≤ 1000) :
    Gives F (n + 2) f_is_story [bk states rest, x] (.bool (isStory states x)) := by
  refine ⟨.p (.bool (isStory states x)), [], ?_, rfl⟩
  rw [callF_eq (d := d_is_story) rfl]
  cases x with
  | tuple ds =>
    have hlen := hl ds rfl
    have hnd : ∀ y ∈ ds, nd1 y = true := fun y hy => List.all_eq_true.mp hx y hy
    have hc := ev_compS0 (Φ := callF F (n + 1)) (env := [some (.p (bk states rest)), some (.p (.tuple ds)), none, none, none]) (st := []) (tg := .one 4) (its := [.var 1]) (elt := .call true 0 [.var 0, .var 4]) (xs := ds) (g := fun y => .bool (isPair states y)) rfl (.inl rfl)
      (fun y hy => ⟨_, rfl, by
        simp only [ev_call, evs_cons, evs_nil, ev_var]
        exact callD_pure (is_pair_ok n (nd1_flat (hnd y hy)) fun es e z hz => by
          subst e
          exact List.all_eq_true.mp (hnd _ hy) z hz) rfl⟩) (le_line (by omega))
    by_cases h0 : ds = []
    · subst h0
      rfl
    · have h1 : eqD (.int ((ds.length : Nat) : Int)) (.int 0) = some false := by
        rw [eqD_int]
        have : ds.length ≠ 0 := by simpa using h0
        simp; omega
      by_cases hp : ds.all (isPair states) = true
      · have hc2 := ev_comp0 (Φ := callF F (n + 1)) (env := [some (.p (bk states rest)), some (.p (.tuple ds)), none, none, none]) (st := []) (tg := .many [2, 3]) (k := 3) (its := [.var 1, .sl false (.var 1) (some (.c (.int 1))) none]) (elt := .call true 1 [.var 0, .var 2, .var 3]) (ds := [.p (.tuple ds), .p (.tuple (ds.drop 1))])
          (items := zipI (ds.map .p) ((ds.drop 1).map .p)) (g := fun x => .bool (folI states x)) (by simp) rfl rfl (fun it hit => by
              obtain ⟨x, y, rfl, h1, h2⟩ := zip_mem hit
              refine ⟨_, rfl, ?_⟩
              simp only [ev_call, evs_cons, evs_nil, ev_var]
              exact callD_pure (fol_ok n hn (List.all_eq_true.mp hp x h1) (List.all_eq_true.mp hp y (List.mem_of_mem_drop h2))) rfl) (le_line (by have := zip_le (ds.map D.p) ((ds.drop 1).map D.p); simp at this ⊢; omega))
        have hz := zip_chain (states := states) (ds := ds)
        simp at hz hc2
        simp [bodyR, b_is_story, startE, op1, op2, pre, tyOf, isTy, truth, bz, h1, hc, hp, hc2, isStory, h0, hz]
      · have hp' : ds.all (isPair states) = false := by simpa using hp
        simp [bodyR, b_is_story, startE, op1, op2, pre, tyOf, isTy, truth, bz, h1, hc, hp', isStory, h0]
  | dict _ => cases hx
  | _ => rfl
end Lw
namespace Lw
open PySem Dn
abbrev Sy := List (Str × Str)
def eP (p : Str × Str) : PyData := .tuple [.str p.1, .str p.2]
abbrev eS (s : Sy) : PyData := .tuple (s.map eP)
abbrev eW (w : List Str) : PyData := .tuple (w.map .str)
def sel (k : Bool) (p : Str × Str) : Str := if k then p.2 else p.1
def kI (k : Bool) : Int := if k then 1 else 0
/-- a path that goes on -/
def extP (p : List Str) (l : Str) : List Str → List Str
  | [] => p
  | a :: r => if a = l then extP p l r else extP (p ++ [a]) a r
theorem sel_ix (k : Bool) (p : Str × Str) (st : Store) : getIx (.p (eP p)) (.p (.int (kI k))) st = some (.p (.str (sel k p))) := by
  cases k <;> simp [eP, kI, sel]
def pSide (k : Bool) (x : Str × Str) (r : Sy) (items : List Dn.It) (env : Sl) (st : Store) : Prop :=
  ∃ (p : List Str) (l : Str) (q : Sy) (z : Option D), items = q.map (fun y => .one (.p (eP y))) ∧ env = [some (.p (eS (x :: r))), some (.p (.int (kI k))), some (.p (eW (p ++ [l]))), z] ∧ st = [] ∧ p.length + q.length ≤ 2000 ∧
    extP (p ++ [l]) l (q.map (sel k)) = extP [sel k x] (sel k x) (r.map (sel k))
theorem side_path_ok (n : Nat) (k : Bool) (x : Str × Str) (r : Sy) (hl : r.length ≤ 1000) : Gives F (n + 1) f_side_path [eS (x :: r), .int (kI k)] (eW (extP [sel k x] (sel k x) (r.map (sel k)))) := by
  refine Gives.of ?_
  rw [wp_call (d := d_side_path) rfl ⟨rfl, by decide⟩]
  have h0 := sel_ix k x []
  simp [eS, b_side_path, startE, pre, h0, allP, setE, walkOf, seqD, sizeLine_eq]
  refine wp_for (pSide k x r) ?_ ?_ _ _ _ ⟨[], sel k x, r, none, rfl, rfl, rfl, by simp; omega, rfl⟩
  · rintro it items env st ⟨p, l, q, z, e1, rfl, rfl, hq, e2⟩
    cases q with
    | nil => cases e1
    | cons y q =>
      simp only [List.map_cons, List.cons.injEq] at e1
      obtain ⟨rfl, rfl⟩ := e1
      refine ⟨rfl, ?_⟩
      have h1 := sel_ix k y []
      have h2 : getIx (.p (eW (p ++ [l]))) (.p (.int (-1))) [] = some (.p (.str l)) := by
        show getIx (.p (.tuple ((p ++ [l]).map .str))) _ _ = _
        rw [List.map_append]
        exact getIx_last
      have hq' : p.length + (q.length + 1) ≤ 2000 := hq
      by_cases hc : sel k y = l
      · simp [bindT, setAll, pre, op1, op2, h1, h2, hc, truth, bz]
        refine ⟨p, l, q, some (.p (eP y)), rfl, by simp, rfl, by omega, ?_⟩
        rw [← e2]
        simp [extP, hc]
      · have hp : p.length ≤ 16777214 := by omega
        simp [bindT, setAll, pre, op1, op2, h1, h2, hc, truth, bz, allP, setE, sizeLine_eq, hp]
        refine ⟨p ++ [l], sel k y, q, some (.p (eP y)), rfl, by simp, rfl, by simp; omega, ?_⟩
        rw [← e2]
        simp [extP, hc]
  · rintro env st ⟨p, l, q, z, e1, rfl, rfl, hq, e2⟩
    cases q with
    | nil =>
      refine ⟨rfl, ?_⟩
      simp [extP] at e2
      simp [thaw, ← e2]
    | cons y q => cases e1
theorem story_paths_ok (n : Nat) (x : Str × Str) (r : Sy) (hl : r.length ≤ 1000) : Gives F (n + 2) f_story_paths [eS (x :: r)] (.tuple [eW (extP [x.1] x.1 (r.map (·.1))), eW (extP [x.2] x.2 (r.map (·.2)))]) := by
  refine Gives.of ?_
  rw [wp_call (d := d_story_paths) rfl ⟨rfl, by decide⟩]
  have h0 : callD (callF F (n + 1)) true 3 [.p (eS (x :: r)), .p (.int 0)] [] = .ok (.p (eW (extP [x.1] x.1 (r.map (·.1))))) [] := callD_pure (side_path_ok n false x r hl) rfl
  have h1 : callD (callF F (n + 1)) true 3 [.p (eS (x :: r)), .p (.int 1)] [] = .ok (.p (eW (extP [x.2] x.2 (r.map (·.2))))) [] := callD_pure (side_path_ok n true x r hl) rfl
  simp [b_story_paths, startE, h0, h1, allP, sizeLine_eq, thaw]
theorem mirror_ok (n : Nat) (s : Sy) (hl : s.length ≤ 1000) : Gives F (n + 1) f_mirror_story [eS s] (eS (s.map fun p => (p.2, p.1))) := by
  refine Gives.of ?_
  rw [wp_call (d := d_mirror_story) rfl ⟨rfl, by decide⟩]
  have hc := ev_comp0 (Φ := callF F n) (env := [some (.p (eS s)), none, none]) (st := []) (tg := .many [1, 2]) (k := 0) (its := [.var 0]) (elt := .tup [.var 2, .var 1]) (ds := [.p (eS s)]) (items := (s.map eP).map fun x => .one (.p x))
    (g := fun
      | .one (.p (.tuple [a, b])) => .tuple [b, a]
      | _ => .none) rfl (by simp [walkOf, seqD]) rfl (fun it hit => by
        obtain ⟨x, hx, rfl⟩ := List.mem_map.mp hit
        obtain ⟨p, hp, rfl⟩ := List.mem_map.mp hx
        exact ⟨_, rfl, rfl⟩) (le_line (by simp; omega))
  simp [b_mirror_story, startE, hc, op1, thaw]
  intro a b hab
  rfl
end Lw
namespace Lw
open PySem Dn
/-- all stories from here on, the left one's steps first -/
def lon : Nat → Sy → List Str → List Str → List Sy
  | n + 1, s, a :: r, b :: q => if r = [] ∧ q = [] then [s] else (match r with
    | [] => []
    | a' :: r' => lon n (s ++ [(a', b)]) (a' :: r') (b :: q)) ++ (match q with
    | [] => []
    | b' :: q' => lon n (s ++ [(a, b')]) (a :: r) (b' :: q'))
  | _, _, _, _ => []
theorem lon_le : ∀ (n : Nat) (s : Sy) (a : Str) (r : List Str) (b : Str) (q : List Str), (lon n s (a :: r) (b :: q)).length ≤ 2 ^ (r.length + q.length)
  | 0, _, _, _, _, _ => by simp [lon]
  | n + 1, s, a, r, b, q => by
    unfold lon
    split
    · have := Nat.one_le_two_pow (n := r.length + q.length)
      simpa using this
    · cases r with
      | nil =>
        cases q with
        | nil => simp
        | cons b' q' =>
          have := lon_le n (s ++ [(a, b')]) a [] b' q'
          refine Nat.le_trans (by simpa using this) (Nat.pow_le_pow_right (by omega) (by simp))
      | cons a' r' =>
        have h1 := lon_le n (s ++ [(a', b)]) a' r' b q
        cases q with
        | nil =>
          refine Nat.le_trans (by simpa using h1) (Nat.pow_le_pow_right (by omega) (by simp))
        | cons b' q' =>
          have h2 := lon_le n (s ++ [(a, b')]) a (a' :: r') b' q'
          rw [List.length_append]
          simp only [List.length_cons] at h1 h2 ⊢
          rw [show r'.length + 1 + (q'.length + 1) = (r'.length + (q'.length + 1)) + 1 by omega, Nat.pow_succ, Nat.mul_two]
          rw [show r'.length + 1 + q'.length = r'.length + (q'.length + 1) by omega] at h2
          exact Nat.add_le_add h1 h2
/-- so many steps are enough -/
theorem lon_eq : ∀ (n m : Nat) (s : Sy) (a : Str) (r : List Str) (b : Str) (q : List Str), r.length + q.length < n → r.length + q.length < m → lon n s (a :: r) (b :: q) = lon m s (a :: r) (b :: q)
  | 0, _, _, _, _, _, _, h, _ => by omega
  | _ + 1, 0, _, _, _, _, _, _, h => by omega
  | n + 1, m + 1, s, a, r, b, q, h, h2 => by
    unfold lon
    split
    · rfl
    · congr 1
      · cases r with
        | nil => rfl
        | cons a' r' => exact lon_eq n m _ a' r' b q (by simp at h; omega) (by simp at h2; omega)
      · cases q with
        | nil => rfl
        | cons b' q' => exact lon_eq n m _ a r b' q' (by simp at h; omega) (by simp at h2; omega)
theorem longer_ok : ∀ (n : Nat) (s : Sy) (a : Str) (r : List Str) (b : Str) (q : List Str), r.length + q.length < n → r.length + q.length ≤ 12 → s.length + (r.length + q.length) ≤ 100 → Gives F n f_longer_stories [eS s, eW (a :: r), eW (b :: q)] (.list ((lon n s (a :: r) (b :: q)).map eS))
  | 0, s, a, r, b, q, h, _, _ => by omega
  | n + 1, s, a, r, b, q, h, h2, h3 => by
    refine Gives.of ?_
    rw [wp_call (d := d_longer_stories) rfl ⟨rfl, by decide⟩]
    have hs : s.length + 1 ≤ 16777216 := by omega
    have hp : ∀ k, k ≤ 12 → 2 ^ k ≤ 2 ^ 12 := fun k hk => Nat.pow_le_pow_right (by omega) hk
    cases r with
    | nil =>
      cases q with
      | nil => simp [eW, b_longer_stories, startE, pre, op1, op2, truth, bz, newL, allP, thaw, lon, sizeLine_eq]
      | cons b' q' =>
        have ih := longer_ok n (s ++ [(a, b')]) a [] b' q' (by simp at h ⊢; omega) (by simp at h2 ⊢; omega) (by simp at h3 ⊢; omega)
        have hc : ∀ st, callD (callF F n) true 5 [.p (.tuple (s.map eP ++ [.tuple [.str a, .str b']])), .p (.tuple [.str a]), .p (.tuple (.str b' :: q'.map .str))] st = .ok (.p (.list ((lon n (s ++ [(a, b')]) [a] (b' :: q')).map eS))) st := fun st => callD_pure ih (by simp [eS, eW, eP])
        have hl := Nat.le_trans (lon_le n (s ++ [(a, b')]) a [] b' q') (hp _ (by simp at h2 ⊢; omega))
        have f1 : ¬ ((q'.length : Int) + 1 + 1 = 1) := by omega
        have f2 : (1 : Int) < (q'.length : Int) + 1 + 1 := by omega
        have f3 : (lon n (s ++ [(a, b')]) [a] (b' :: q')).length ≤ 16777216 := by omega
        simp [eS, eW, b_longer_stories, startE, pre, op1, op2, cmpI, truth, bz, newL, allP, thaw, sizeLine_eq, Dn.alloc, setE, hs, hc, isLst, f1, f2, f3, lon]
    | cons a' r' =>
      have ih := longer_ok n (s ++ [(a', b)]) a' r' b q (by simp at h ⊢; omega) (by simp at h2 ⊢; omega) (by simp at h3 ⊢; omega)
      have hc : ∀ st, callD (callF F n) true 5 [.p (.tuple (s.map eP ++ [.tuple [.str a', .str b]])), .p (.tuple (.str a' :: r'.map .str)), .p (.tuple (.str b :: q.map .str))] st = .ok (.p (.list ((lon n (s ++ [(a', b)]) (a' :: r') (b :: q)).map eS))) st := fun st => callD_pure ih (by simp [eS, eW, eP])
      have hl := Nat.le_trans (lon_le n (s ++ [(a', b)]) a' r' b q) (hp _ (by simp at h2 ⊢; omega))
      have f1 : ¬ ((r'.length : Int) + 1 + 1 = 1) := by omega
      have f2 : (1 : Int) < (r'.length : Int) + 1 + 1 := by omega
      have f3 : (lon n (s ++ [(a', b)]) (a' :: r') (b :: q)).length ≤ 16777216 := by omega
      cases q with
      | nil =>
        simp only [List.map_nil] at hc
        simp [eS, eW, b_longer_stories, startE, pre, op1, op2, cmpI, truth, bz, newL, allP, thaw, sizeLine_eq, Dn.alloc, setE, hs, hc, isLst, f1, f2, f3, lon]
      | cons b' q' =>
        have ih' := longer_ok n (s ++ [(a, b')]) a (a' :: r') b' q' (by simp at h ⊢; omega) (by simp at h2 ⊢; omega) (by simp at h3 ⊢; omega)
        have hc' : ∀ st, callD (callF F n) true 5 [.p (.tuple (s.map eP ++ [.tuple [.str a, .str b']])), .p (.tuple (.str a :: .str a' :: r'.map .str)), .p (.tuple (.str b' :: q'.map .str))] st = .ok (.p (.list ((lon n (s ++ [(a, b')]) (a :: a' :: r') (b' :: q')).map eS))) st := fun st => callD_pure ih' (by simp [eS, eW, eP])
        have hl' := Nat.le_trans (lon_le n (s ++ [(a, b')]) a (a' :: r') b' q') (hp _ (by simp at h2 ⊢; omega))
        have g2 : (1 : Int) < (q'.length : Int) + 1 + 1 := by omega
        have g3 : (lon n (s ++ [(a', b)]) (a' :: r') (b :: b' :: q')).length + (lon n (s ++ [(a, b')]) (a :: a' :: r') (b' :: q')).length ≤ 16777216 := by omega
        simp only [List.map_cons] at hc
        simp [eS, eW, b_longer_stories, startE, pre, op1, op2, cmpI, truth, bz, newL, allP, thaw, sizeLine_eq, Dn.alloc, setE, hs, hc, hc', isLst, f1, f2, f3, g2, g3, lon]
theorem stories_of_ok (n : Nat) (a : Str) (r : List Str) (b : Str) (q : List Str) (h : r.length + q.length < n) (h2 : r.length + q.length ≤ 12) : Gives F (n + 1) f_stories_of [eW (a :: r), eW (b :: q)] (.tuple ((lon 13 [(a, b)] (a :: r) (b :: q)).map eS)) := by
  refine Gives.of ?_
  rw [wp_call (d := d_stories_of) rfl ⟨rfl, by decide⟩, lon_eq 13 n _ a r b q (by omega) h]
  have hc := callD_pure (st := []) (ds := [.p (.tuple [.tuple [.str a, .str b]]), .p (.tuple (.str a :: r.map .str)), .p (.tuple (.str b :: q.map .str))]) (longer_ok n [(a, b)] a r b q h h2 (by simp; omega)) rfl
  simp [eS, eW, b_stories_of, startE, pre, allP, sizeLine_eq, hc, op1, thaw]
/-! ### the law's own putting together -/
def stepR (w v : List Str) (row : Sy) : List Sy := match row.getLast? with
  | none => []
  | some (x, y) => (match w[w.idxOf x + 1]? with
    | some x' => [row ++ [(x', y)]]
    | none => []) ++ (match v[v.idxOf y + 1]? with
    | some y' => [row ++ [(x, y')]]
    | none => [])
def iterR (w v : List Str) : Nat → List Sy → List Sy
  | 0, rows => rows
  | t + 1, rows => iterR w v t (rows.flatMap (stepR w v))
theorem iterR_app (w v : List Str) : ∀ (t : Nat) (r s : List Sy), iterR w v t (r ++ s) = iterR w v t r ++ iterR w v t s
  | 0, r, s => rfl
  | t + 1, r, s => by
    unfold iterR
    rw [List.flatMap_append, iterR_app w v t]
theorem iterR_nil (w v : List Str) : ∀ t : Nat, iterR w v t [] = []
  | 0 => rfl
  | t + 1 => by
    unfold iterR
    exact iterR_nil w v t
/-- step by step, or one after another: the same stories in the same sequence -/
theorem iter_lon {w v : List Str} (hw : w.Nodup) (hv : v.Nodup) : ∀ (t n i j : Nat) (s : Sy) (x y : Str) (r q : List Str), w.drop i = x :: r → v.drop j = y :: q → r.length + q.length = t → t < n → iterR w v t [s ++ [(x, y)]] = lon n (s ++ [(x, y)]) (x :: r) (y :: q)
  | 0, n + 1, i, j, s, x, y, r, q, hi, hj, ht, _ => by
    have hr : r = [] := List.length_eq_zero_iff.mp (by omega)
    have hq : q = [] := List.length_eq_zero_iff.mp (by omega)
    subst hr hq
    simp [iterR, lon]
  | t + 1, n + 1, i, j, s, x, y, r, q, hi, hj, ht, hn => by
    have gx : w[i]? = some x := by rw [← List.head?_drop, hi]; rfl
    have gy : v[j]? = some y := by rw [← List.head?_drop, hj]; rfl
    have ix := idxOf_nodup hw gx
    have iy := idxOf_nodup hv gy
    have dr : w.drop (i + 1) = r := by rw [← List.tail_drop, hi]; rfl
    have dq : v.drop (j + 1) = q := by rw [← List.tail_drop, hj]; rfl
    have nx : w[i + 1]? = r.head? := by rw [← List.head?_drop, dr]
    have ny : v[j + 1]? = q.head? := by rw [← List.head?_drop, dq]
    have ne : ¬ (r = [] ∧ q = []) := fun ⟨a, b⟩ => by subst a b; simp at ht
    show iterR w v t ([s ++ [(x, y)]].flatMap (stepR w v)) = _
    unfold lon
    rw [if_neg ne]
    have hs : [s ++ [(x, y)]].flatMap (stepR w v) = (match r.head? with
      | some x' => [s ++ [(x, y)] ++ [(x', y)]]
      | none => []) ++ (match q.head? with
      | some y' => [s ++ [(x, y)] ++ [(x, y')]]
      | none => []) := by
      simp only [List.flatMap_cons, List.flatMap_nil, List.append_nil, stepR, List.getLast?_append, List.getLast?_singleton, Option.some_or, ix, iy, nx, ny]
    rw [hs, iterR_app]
    congr 1
    · cases r with
      | nil => exact iterR_nil w v t
      | cons x' r' => exact iter_lon hw hv t n (i + 1) j (s ++ [(x, y)]) x' y r' q dr hj (by simp at ht ⊢; omega) (by omega)
    · cases q with
      | nil => exact iterR_nil w v t
      | cons y' q' => exact iter_lon hw hv t n i (j + 1) (s ++ [(x, y)]) x y' r q' hi dq (by simp at ht ⊢; omega) (by omega)
end Lw
namespace Lw
open PySem Dn
/-- a row that has begun -/
def RowOk (w v : List Str) (m : Nat) (row : Sy) : Prop := ∃ (s : Sy) (i j : Nat) (x y : Str), row = s ++ [(x, y)] ∧ w[i]? = some x ∧ v[j]? = some y ∧ s.length ≤ m
theorem stepR_ok {w v : List Str} {m : Nat} {row : Sy} (h : RowOk w v m row) (hw : w.Nodup) (hv : v.Nodup) : ∀ r ∈ stepR w v row, RowOk w v (m + 1) r := by
  obtain ⟨s, i, j, x, y, rfl, h1, h2, h3⟩ := h
  have ix := idxOf_nodup hw h1
  have iy := idxOf_nodup hv h2
  intro r hr
  simp only [stepR, List.getLast?_append, List.getLast?_singleton, Option.some_or, ix, iy, List.mem_append] at hr
  rcases hr with hr | hr
  · cases e : w[i + 1]? with
    | none => rw [e] at hr; cases hr
    | some x' =>
      rw [e] at hr
      simp only [List.mem_singleton] at hr
      exact ⟨s ++ [(x, y)], i + 1, j, x', y, hr, e, h2, by simp; omega⟩
  · cases e : v[j + 1]? with
    | none => rw [e] at hr; cases hr
    | some y' =>
      rw [e] at hr
      simp only [List.mem_singleton] at hr
      exact ⟨s ++ [(x, y)], i, j + 1, x, y', hr, h1, e, by simp; omega⟩
theorem stepR_le (w v : List Str) (row : Sy) : (stepR w v row).length ≤ 2 := by
  unfold stepR
  split
  · simp
  · rw [List.length_append]
    have h1 : ∀ (o : Option Str) (f : Str → List Sy), (∀ x, (f x).length = 1) → (match o with
      | some x => f x
      | none => []).length ≤ 1 := fun o f hf => by cases o <;> simp [hf]
    refine Nat.add_le_add (h1 _ (fun x' => [row ++ [(x', _)]]) fun _ => rfl) (h1 _ (fun y' => [row ++ [(_, y')]]) fun _ => rfl)
theorem flat_le (w v : List Str) : ∀ rows : List Sy, (rows.flatMap (stepR w v)).length ≤ 2 * rows.length
  | [] => by simp
  | r :: rows => by
    have h1 := stepR_le w v r
    have h2 := flat_le w v rows
    rw [List.flatMap_cons, List.length_append, List.length_cons]
    omega
/-- one lap's inner loop -/
def pIn (w v : List Str) (rows : List Sy) (lap : D) (k : Nat) (st0 : Store) (m : Nat) (items : List Dn.It) (env : Sl) (st : Store) : Prop :=
  ∃ (acc q : List Sy) (z1 z2 z3 : Option D), items = q.map (fun y => .one (.p (eS y))) ∧ env = [some (.p (eW w)), some (.p (eW v)), some (.p (.list (rows.map eS))), some lap, some (.r k), z1, z2, z3] ∧ st = st0.set k (.lst (acc.map (D.p ∘ eS))) ∧ k < st0.length ∧
    acc ++ q.flatMap (stepR w v) = rows.flatMap (stepR w v) ∧ (∀ r ∈ q, RowOk w v m r) ∧ acc.length + 2 * q.length ≤ 2 * rows.length
theorem row_last {s : Sy} {x y : Str} {st : Store} : getIx (.p (.tuple ((s ++ [(x, y)]).map eP))) (.p (.int (-1))) st = some (.p (.tuple [.str x, .str y])) := by
  rw [List.map_append]
  exact getIx_last
theorem pIn_next {w v : List Str} {rows : List Sy} {lap : D} {k : Nat} {st0 : Store} {m : Nat} {acc q new : List Sy} {row : Sy} {z1 z2 z3 : Option D} (hk : k < st0.length) (e2 : acc ++ (row :: q).flatMap (stepR w v) = rows.flatMap (stepR w v)) (hq : ∀ r ∈ row :: q, RowOk w v m r)
    (hl : acc.length + 2 * (q.length + 1) ≤ 2 * rows.length) (hs : stepR w v row = new) :
    pIn w v rows lap k st0 m (q.map fun y => .one (.p (eS y))) [some (.p (eW w)), some (.p (eW v)), some (.p (.list (rows.map eS))), some lap, some (.r k), z1, z2, z3] (st0.set k (.lst ((acc ++ new).map (D.p ∘ eS)))) := by
  have h2 := stepR_le w v row
  rw [hs] at h2
  refine ⟨acc ++ new, q, z1, z2, z3, rfl, rfl, rfl, hk, ?_, fun r hr => hq r (List.mem_cons_of_mem _ hr), by simp; omega⟩
  rw [← e2, List.flatMap_cons, hs, List.append_assoc]
theorem in_turn {Φ : Calls} {w v : List Str} {rows : List Sy} {lap : D} {k : Nat} {st0 : Store} {m : Nat} (hw : w.Nodup) (hv : v.Nodup) (hm : m ≤ 1000) (hr : rows.length ≤ 1000000) (it : Dn.It) (items : List Dn.It) (env : Sl) (st : Store) (h : pIn w v rows lap k st0 m (it :: items) env st) :
    wpR (match bindT (.one 5) it env with
      | some env2 => exB Φ [.par [6, 7] [.o2 .indx (.var 0) (.o2 .ix (.o2 .ix (.var 5) (.o1 .neg (.c (.int 1)))) (.c (.int 0))), .o2 .indx (.var 1) (.o2 .ix (.o2 .ix (.var 5) (.o1 .neg (.c (.int 1)))) (.c (.int 1)))],
    .iff (.o2 .lt (.o2 .add (.var 6) (.c (.int 1))) (.o1 .len (.var 0))) [.ex (.o2 .app (.var 4) (.o2 .add (.var 5) (.tup [.tup [.o2 .ix (.var 0) (.o2 .add (.var 6) (.c (.int 1))), .o2 .ix (.o2 .ix (.var 5) (.o1 .neg (.c (.int 1)))) (.c (.int 1))]])))] [],
    .iff (.o2 .lt (.o2 .add (.var 7) (.c (.int 1))) (.o1 .len (.var 1))) [.ex (.o2 .app (.var 4) (.o2 .add (.var 5) (.tup [.tup [.o2 .ix (.o2 .ix (.var 5) (.o1 .neg (.c (.int 1)))) (.c (.int 0)), .o2 .ix (.var 1) (.o2 .add (.var 7) (.c (.int 1)))]])))] []] env2 st
      | none => .bad) (fun r st => r.1 = .nx ∧ pIn w v rows lap k st0 m items r.2 st) := by
  obtain ⟨acc, q, z1, z2, z3, e1, rfl, rfl, hk, e2, hq, hl⟩ := h
  cases q with
  | nil => cases e1
  | cons row q =>
    simp only [List.map_cons, List.cons.injEq] at e1
    obtain ⟨rfl, rfl⟩ := e1
    obtain ⟨s, i, j, x, y, rfl, g1, g2, g3⟩ := hq _ (List.mem_cons_self ..)
    have hx := fun st => indx_str (st := st) hw g1
    have hy := fun st => indx_str (st := st) hv g2
    have hlast : ∀ st, getIx (.p (.tuple (s.map eP ++ [eP (x, y)]))) (.p (.int (-1))) st = some (.p (.tuple [.str x, .str y])) := fun st => getIx_last
    have ix := idxOf_nodup hw g1
    have iy := idxOf_nodup hv g2
    have hsl : s.length + 1 + 1 ≤ 16777216 := by omega
    have hst : stepR w v (s ++ [(x, y)]) = (match w[i + 1]? with
      | some x' => [s ++ [(x, y)] ++ [(x', y)]]
      | none => []) ++ (match v[j + 1]? with
      | some y' => [s ++ [(x, y)] ++ [(x, y')]]
      | none => []) := by
      simp only [stepR, List.getLast?_append, List.getLast?_singleton, Option.some_or, ix, iy]
      first | done | rfl
    simp only [List.length_cons] at hl
    have l0 : ∀ (xs : List D), (st0.set k (.lst xs))[k]? = some (.lst xs) := fun xs => by rw [List.getElem?_set_self hk]
    have a1 : acc.length < 16777216 := by omega
    have a2 : acc.length + 1 < 16777216 := by omega
    cases e3 : w[i + 1]? with
    | none =>
      have c1 : ¬ ((i : Int) + 1 < (w.length : Int)) := by
        have := List.getElem?_eq_none_iff.mp e3
        omega
      cases e4 : v[j + 1]? with
      | none =>
        have c2 : ¬ ((j : Int) + 1 < (v.length : Int)) := by
          have := List.getElem?_eq_none_iff.mp e4
          omega
        rw [e3, e4] at hst
        have fin := pIn_next (z1 := some (.p (eS (s ++ [(x, y)])))) (z2 := some (.p (.int i))) (z3 := some (.p (.int j))) (lap := lap) hk e2 hq hl hst
        simp [eS, eW] at fin
        simp [bindT, setAll, eS, eW, pre, hlast, hx, hy, op1, c1, c2, truth, bz]
        exact fin
      | some y' =>
        have c2 : (j : Int) + 1 < (v.length : Int) := by
          have := (List.getElem?_eq_some_iff.mp e4).1
          omega
        have gy : ∀ st, getIx (.p (.tuple (v.map .str))) (.p (.int ((j : Int) + 1))) st = some (.p (.str y')) := fun st => by rw [getIx_tsucc, List.getElem?_map, e4]; rfl
        rw [e3, e4] at hst
        have fin := pIn_next (z1 := some (.p (eS (s ++ [(x, y)])))) (z2 := some (.p (.int i))) (z3 := some (.p (.int j))) (lap := lap) hk e2 hq hl hst
        simp [eS, eW, eP] at fin
        simp [bindT, setAll, eS, eW, eP, pre, hlast, hx, hy, op1, c1, c2, truth, bz, isLst, l0, gy, allP, sizeLine_eq, hsl, a1] at hlast ⊢
        try simp [hlast]
        exact fin
    | some x' =>
      have c1 : (i : Int) + 1 < (w.length : Int) := by
        have := (List.getElem?_eq_some_iff.mp e3).1
        omega
      have gx : ∀ st, getIx (.p (.tuple (w.map .str))) (.p (.int ((i : Int) + 1))) st = some (.p (.str x')) := fun st => by rw [getIx_tsucc, List.getElem?_map, e3]; rfl
      cases e4 : v[j + 1]? with
      | none =>
        have c2 : ¬ ((j : Int) + 1 < (v.length : Int)) := by
          have := List.getElem?_eq_none_iff.mp e4
          omega
        rw [e3, e4] at hst
        have fin := pIn_next (z1 := some (.p (eS (s ++ [(x, y)])))) (z2 := some (.p (.int i))) (z3 := some (.p (.int j))) (lap := lap) hk e2 hq hl hst
        simp [eS, eW, eP] at fin
        simp [bindT, setAll, eS, eW, eP, pre, hlast, hx, hy, op1, c1, c2, truth, bz, isLst, l0, gx, allP, sizeLine_eq, hsl, a1] at hlast ⊢
        try simp [hlast, gx, l0, isLst, hsl, a1]
        exact fin
      | some y' =>
        have c2 : (j : Int) + 1 < (v.length : Int) := by
          have := (List.getElem?_eq_some_iff.mp e4).1
          omega
        have gy : ∀ st, getIx (.p (.tuple (v.map .str))) (.p (.int ((j : Int) + 1))) st = some (.p (.str y')) := fun st => by rw [getIx_tsucc, List.getElem?_map, e4]; rfl
        rw [e3, e4] at hst
        have fin := pIn_next (z1 := some (.p (eS (s ++ [(x, y)])))) (z2 := some (.p (.int i))) (z3 := some (.p (.int j))) (lap := lap) hk e2 hq hl hst
        simp [eS, eW, eP] at fin
        simp [bindT, setAll, eS, eW, eP, pre, hlast, hx, hy, op1, c1, c2, truth, bz, isLst, l0, gx, gy, allP, sizeLine_eq, hsl, a1] at hlast ⊢
        simp [hlast, gx, gy, l0, isLst, hsl, a1, a2]
        exact fin
end Lw
namespace Lw
open PySem Dn
def pOut (w v : List Str) (N : Nat) (tgt : List Sy) (items : List Dn.It) (env : Sl) (st : Store) : Prop :=
  ∃ (rows : List Sy) (c : Int) (m M : Nat) (z3 z4 z5 z6 z7 : Option D), items = rangeI c 1 m ∧ env = [some (.p (eW w)), some (.p (eW v)), some (.p (.list (rows.map eS))), z3, z4, z5, z6, z7] ∧
    iterR w v m rows = tgt ∧ (∀ r ∈ rows, RowOk w v M r) ∧ rows.length * 2 ^ m ≤ 2 ^ N ∧ M + m ≤ 100
theorem both_ok (n : Nat) {a b : Str} {r q : List Str} (hw : (a :: r).Nodup) (hv : (b :: q).Nodup) (hl : r.length + q.length ≤ 12) :
    Gives F (n + 1) f__law_both [eW (a :: r), eW (b :: q)] (.tuple ((iterR (a :: r) (b :: q) (r.length + q.length) [[(a, b)]]).map eS)) := by
  refine Gives.of ?_
  rw [wp_call (d := d__law_both) rfl ⟨rfl, by decide⟩]
  have h1 : ((r.length : Int) + 1 + ((q.length : Int) + 1) - 2) = ((r.length + q.length : Nat) : Int) := by omega
  have h2 : near ((r.length : Int) + (q.length : Int)) = true := near_of (by omega) (by omega)
  have hwr : ∀ st, walkOf 1 [.p (.int ((r.length : Int) + 1 + ((q.length : Int) + 1) - 2))] st = some (rangeI 0 1 (r.length + q.length)) := fun st => by
    rw [h1, walk_range (by omega) (by omega), Int.toNat_natCast]
  simp [b__law_both, startE, pre, eW, op1, allP, sizeLine_eq, newL, setE, hwr]
  refine wp_for (pOut (a :: r) (b :: q) (r.length + q.length) (iterR (a :: r) (b :: q) (r.length + q.length) [[(a, b)]])) ?_ ?_ _ _ _ ⟨[[(a, b)]], 0, r.length + q.length, 0, none, none, none, none, none, rfl, rfl, rfl, ?_, by simp, by omega⟩
  · rintro it items env st ⟨rows, c, m, M, z3, z4, z5, z6, z7, e1, rfl, e2, e3, e4, e5⟩
    obtain ⟨m, rfl, rfl, rfl⟩ := rangeI_cons e1
    refine ⟨rfl, ?_⟩
    have hp : 2 ^ (r.length + q.length) ≤ 2 ^ 12 := Nat.pow_le_pow_right (by omega) hl
    have hm1 : 1 ≤ 2 ^ m := Nat.one_le_two_pow
    have hrl : rows.length ≤ 4096 := by
      have : rows.length * 1 ≤ rows.length * 2 ^ (m + 1) := Nat.mul_le_mul_left _ Nat.one_le_two_pow
      omega
    simp only [bindT, setAll, exB_cons, exS_set, ev_lst, evs_nil, newL, Dn.alloc]
    simp [setE, walk_list]
    refine wp_for (pIn (a :: r) (b :: q) rows (.p (.int c)) st.length (st ++ [.lst []]) M) (fun x xs env' st' h => ⟨rfl, ?_⟩) (fun env' st' h => ⟨rfl, ?_⟩) _ _ _ ⟨[], rows, z5, z6, z7, ?_, ?_, ?_, ?_, ?_, e3, ?_⟩
    · refine wpR_mono (in_turn (Φ := callF F n) hw hv (by omega) (by omega) x xs env' st' h) fun rr st2 ⟨f1, f2⟩ => ?_
      rw [f1]
      exact f2
    · obtain ⟨acc, qq, y1, y2, y3, f1, rfl, rfl, hk, f2, f3, f4⟩ := h
      cases qq with
      | cons _ _ => cases f1
      | nil =>
        have l0 : ∀ (xs : List D), ((st ++ [Ob.lst []]).set st.length (.lst xs))[st.length]? = some (.lst xs) := fun xs => by rw [List.getElem?_set_self hk]
        simp only [List.flatMap_nil, List.append_nil] at f2
        simp [op1, listP, l0, setE]
        refine ⟨acc, 0 + c + 1 - 0, m, M + 1, _, _, _, _, _, ?_, rfl, ?_, ?_, ?_, by omega⟩
        · simp
        · rw [f2]; exact e2
        · rw [f2]
          intro rr hrr
          obtain ⟨row, h1, h2⟩ := List.mem_flatMap.mp hrr
          exact stepR_ok (e3 row h1) hw hv rr h2
        · rw [f2]
          have := flat_le (a :: r) (b :: q) rows
          refine Nat.le_trans (Nat.mul_le_mul_right _ this) ?_
          rw [Nat.pow_succ] at e4
          rw [Nat.mul_comm 2 rows.length, Nat.mul_assoc, Nat.mul_comm 2]
          exact e4
    · rfl
    · rfl
    · simp
    · simp
    · rfl
    · simp
  · rintro env st ⟨rows, c, m, M, z3, z4, z5, z6, z7, e1, rfl, e2, e3, e4, e5⟩
    have := rangeI_nil e1
    subst this
    refine ⟨rfl, ?_⟩
    simp [iterR] at e2
    simp [op1, thaw, e2]
  · intro row hrow
    simp at hrow
    exact ⟨[], 0, 0, a, b, by simp [hrow], rfl, rfl, by simp⟩
/-- both ways are one -/
theorem both_is (n : Nat) {a b : Str} {r q : List Str} (hw : (a :: r).Nodup) (hv : (b :: q).Nodup) (hl : r.length + q.length ≤ 12) :
    Gives F (n + 1) f__law_both [eW (a :: r), eW (b :: q)] (.tuple ((lon 13 [(a, b)] (a :: r) (b :: q)).map eS)) := by
  have h := both_ok n hw hv hl
  rw [show [(a, b)] = ([] : Sy) ++ [(a, b)] from rfl, iter_lon hw hv (r.length + q.length) 13 0 0 [] a b r q rfl rfl rfl (by omega)] at h
  exact h
end Lw
namespace Lw
open PySem Dn
/-! ### the law's own comparing -/
mutual
def plain : PyData → Bool
  | .tuple ds => plainA ds
  | .list _ => false
  | .dict _ => false
  | _ => true
def plainA : List PyData → Bool
  | [] => true
  | d :: r => plain d && plainA r
end
mutual
def wt : PyData → Nat
  | .tuple ds => 1 + wtA ds
  | _ => 1
def wtA : List PyData → Nat
  | [] => 0
  | d :: r => wt d + wtA r
end
theorem plainA_all : ∀ {ds : List PyData}, plainA ds = true → ∀ d ∈ ds, plain d = true
  | [], _, d, h => by cases h
  | x :: r, h, d, hd => by
    unfold plainA at h
    rw [Bool.and_eq_true] at h
    rcases List.mem_cons.mp hd with rfl | hd
    · exact h.1
    · exact plainA_all h.2 d hd
theorem wtA_app : ∀ (xs ys : List PyData), wtA (xs ++ ys) = wtA xs + wtA ys
  | [], ys => by simp [wtA]
  | x :: xs, ys => by simp [wtA, wtA_app xs ys]; omega
theorem wtA_len : ∀ (xs : List PyData), xs.length ≤ wtA xs
  | [] => by simp
  | x :: xs => by
    have := wtA_len xs
    have h1 : 1 ≤ wt x := by cases x <;> simp [wt]
    simp [wtA]
    omega
abbrev dup (x : PyData) : PyData := .tuple [x, x]
def pM (told due : PyData) (items : List Dn.It) (env : Sl) (st : Store) : Prop :=
  ∃ (xs : List PyData) (c : Int) (m : Nat) (z3 z4 z5 z6 : Option D), items = rangeI c 1 m ∧ env = [some (.p told), some (.p due), some (.r 0), z3, z4, z5, z6] ∧ st = [.lst (xs.map (D.p ∘ dup))] ∧ (∀ x ∈ xs, plain x = true) ∧ wtA xs < m ∧ m ≤ 500000
def gDup (ds : List PyData) : Dn.It → PyData
  | .one (.p (.int i)) => (match ds[i.toNat]? with
    | some x => dup x
    | none => .none)
  | _ => .none
theorem rangeI_dup (ds : List PyData) : ∀ (es : List PyData) (k : Nat), ds.drop k = es → (rangeI (k : Int) 1 es.length).map (gDup ds) = es.map dup
  | [], k, h => rfl
  | e :: es, k, h => by
    have hk : ds[k]? = some e := by rw [← List.head?_drop, h]; rfl
    have hd : ds.drop (k + 1) = es := by rw [← List.tail_drop, h]; rfl
    have ih := rangeI_dup ds es (k + 1) hd
    simp only [List.length_cons, rangeI, List.map_cons]
    rw [show ((k : Int) + 1) = ((k + 1 : Nat) : Int) by simp, ih]
    simp [gDup, hk]
theorem mem_rangeI : ∀ {n : Nat} {a : Int} {it : Dn.It}, it ∈ rangeI a 1 n → ∃ i : Int, it = .one (.p (.int i)) ∧ a ≤ i ∧ i < a + n
  | 0, a, it, h => by cases h
  | n + 1, a, it, h => by
    simp only [rangeI, List.mem_cons] at h
    rcases h with rfl | h
    · exact ⟨a, rfl, by omega, by omega⟩
    · obtain ⟨i, h1, h2, h3⟩ := mem_rangeI h
      exact ⟨i, h1, by omega, by omega⟩
theorem rangeI_len' (c : Int) : ∀ (n : Nat) (a : Int), (rangeI a c n).length = n
  | 0, _ => rfl
  | n + 1, a => by simp [rangeI, rangeI_len' c n]
theorem pop_last {xs : List PyData} {y : PyData} {st : Store} : op1 .pop (.r 0) [.lst ((xs ++ [y]).map (D.p ∘ dup))] = .ok (.p (dup y)) [.lst (xs.map (D.p ∘ dup))] := by
  simp [op1]
theorem ext_at {us : List D} {zs : List PyData} (h : us.length + zs.length ≤ sizeLine) : op2 .ext (.r 0) (.p (.list zs)) [.lst us] = .ok (.p .none) [.lst (us ++ zs.map D.p)] := by
  rw [op2_ext]
  exact if_pos h
theorem ev_ext {Φ : Nat → List D → Store → Res D} {x : Nat} {cmp : E} {env : Sl} {us : List D} {zs : List PyData} (h2 : env[x]? = some (some (.r 0))) (hc : ev Φ cmp env [.lst us] = .ok (.p (.list zs)) [.lst us])
    (hl : us.length + zs.length ≤ sizeLine) : ev Φ (.o2 .ext (.var x) cmp) env [.lst us] = .ok (.p .none) [.lst (us ++ zs.map D.p)] := by
  rw [ev_o2, ev_var, h2]
  simp only [Res.bind_ok]
  rw [if_pos (show pre .ext (.r 0) [.lst us] = true from rfl), hc, Res.bind_ok, ext_at hl]
  rfl
theorem match_ok (n : Nat) (x : PyData) (hx : plain x = true) (hw : wt x < 499990) : Gives F (n + 1) f__law_match [x, x] (.bool true) := by
  refine Gives.of ?_
  rw [wp_call (d := d__law_match) rfl ⟨rfl, by decide⟩]
  obtain ⟨N, hN, hr⟩ : ∃ N : Nat, N = 500000 ∧ ∀ st, walkOf 1 [.p (.int 500000)] st = some (rangeI 0 1 N) := ⟨(500000 : Int).toNat, by omega, fun st => walk_range (by omega) (by omega)⟩
  show wpR (exB (callF F n) b__law_match [some (.p x), some (.p x), none, none, none, none, none] []) _
  unfold b__law_match
  rw [wp_cons, exS_set]
  have hrows : ev (callF F n) (.lst true [.tup [.var 0, .var 1]]) [some (.p x), some (.p x), none, none, none, none, none] [] = .ok (.r 0) [.lst [.p (dup x)]] := by
    simp [newL, Dn.alloc, allP, sizeLine_eq]
  rw [hrows]
  simp only [Res.bind_ok, setE, List.length_cons, List.length_nil, List.set_cons_succ, List.set_cons_zero]
  show wpR (exB (callF F n) _ [some (.p x), some (.p x), some (.r 0), none, none, none, none] [.lst [.p (dup x)]]) _
  rw [wp_cons, exS_forE (ds := [.p (.int 500000)]) (st1 := [.lst [.p (dup x)]]) rfl (hr _)]
  refine wp_for (pM x x) ?_ ?_ _ _ _ ⟨[x], 0, N, none, none, none, none, rfl, rfl, rfl, by simpa using hx, by simp [wtA]; omega, by omega⟩
  · rintro it items env st ⟨xs, c, m, z3, z4, z5, z6, e1, rfl, rfl, e2, e3, e4⟩
    obtain ⟨m, rfl, rfl, rfl⟩ := rangeI_cons e1
    refine ⟨rfl, ?_⟩
    rw [forF_at (e := [some (.p x), some (.p x), some (.r 0), some (.p (.int c)), z4, z5, z6]) rfl]
    rcases List.eq_nil_or_concat xs with rfl | ⟨ys, y, rfl⟩
    · simp [bindT, setAll, op1, truth, bz, pre, thaw]
    · simp only [List.concat_eq_append] at e2 e3 ⊢
      have hl : ((((ys ++ [y]).map (D.p ∘ dup)).length : Nat) : Int) = (ys.length : Int) + 1 := by simp
      have hl0 : ¬ ((ys.length : Int) + 1 = 0) := by omega
      have hy : plain y = true := e2 y (by simp)
      have hys : ∀ z ∈ ys, plain z = true := fun z hz => e2 z (by simp [hz])
      rw [wtA_app] at e3
      have hwy : wtA [y] = wt y := by simp [wtA]
      have hyl := wtA_len ys
      cases y with
      | list _ => cases hy
      | dict _ => cases hy
      | tuple ds =>
        have hwd := wtA_len ds
        simp only [wt] at hwy
        have hc := ev_comp0 (Φ := callF F n) (env := [some (.p x), some (.p x), some (.r 0), some (.p (.int c)), some (.p (.tuple ds)), some (.p (.tuple ds)), z6]) (st := [.lst (ys.map (D.p ∘ dup))]) (tg := .one 6) (k := 1) (its := [.o1 .len (.var 5)]) (elt := .tup [.o2 .ix (.var 4) (.var 6), .o2 .ix (.var 5) (.var 6)]) (ds := [.p (.int ds.length)]) (items := rangeI 0 1 ds.length) (g := gDup ds) rfl
          (by rw [walk_range (by omega) (by omega), Int.toNat_natCast]) rfl (fun it hit => by
            obtain ⟨i, rfl, h1, h2⟩ := mem_rangeI hit
            obtain ⟨i, rfl⟩ := Int.eq_ofNat_of_zero_le h1
            have hi : i < ds.length := by omega
            have hg : ∀ st, getIx (.p (.tuple ds)) (.p (.int (i : Int))) st = some (.p ds[i]) := fun st => by rw [getIx_tup, List.getElem?_eq_getElem hi]; rfl
            refine ⟨_, rfl, ?_⟩
            simp [gDup, hg, allP, sizeLine_eq, hi]) (le_line (by rw [rangeI_len']; omega))
        have hd0 := rangeI_dup ds ds 0 rfl
        simp only [Int.ofNat_zero, Int.natCast_zero] at hd0
        rw [hd0] at hc
        have hlen0 : ((((ys ++ [PyData.tuple ds]).map (D.p ∘ dup)).length : Nat) : Int) = (ys.length : Int) + 1 := by simp
        rw [wp_cons, wp_iffB false (by simp [op1, hl0, pre]; rfl)]
        show wpR (exB (callF F n) [] _ _) _
        rw [wp_nil, goOn_nx, wp_cons]
        have t2 : exS (callF F n) (.unp [4, 5] (.o1 .pop (.var 2))) [some (.p x), some (.p x), some (.r 0), some (.p (.int c)), z4, z5, z6] [.lst ((ys ++ [PyData.tuple ds]).map (D.p ∘ dup))] =
            .ok (.nx, [some (.p x), some (.p x), some (.r 0), some (.p (.int c)), some (.p (.tuple ds)), some (.p (.tuple ds)), z6]) [.lst (ys.map (D.p ∘ dup))] := by
          simp [op1, setAll]
        rw [t2]
        show wpR (exB (callF F n) [_] _ _) _
        rw [wp_cons, wp_iffB false rfl]
        show wpR (exB (callF F n) [_] _ _) _
        rw [wp_cons, wp_iffB false rfl]
        show wpR (exB (callF F n) [_] _ _) _
        rw [wp_cons, wp_iffB false rfl]
        show wpR (exB (callF F n) [_] _ _) _
        rw [wp_cons, wp_iffB false rfl]
        show wpR (exB (callF F n) [_, _] _ _) _
        rw [wp_cons, wp_iffB false (by simp [op1, pre, truth, bz, tyOf, isTy])]
        show wpR (exB (callF F n) [] _ _) _
        rw [wp_nil, goOn_nx, wp_cons, wp_ex]
        have hz : (ys.map (D.p ∘ dup)).length + (ds.map dup).length ≤ 1000000 := by rw [List.length_map, List.length_map]; omega
        have t3 := ev_ext (x := 2) (us := ys.map (D.p ∘ dup)) (zs := ds.map dup) (env := [some (.p x), some (.p x), some (.r 0), some (.p (.int c)), some (.p (.tuple ds)), some (.p (.tuple ds)), z6]) rfl hc (le_line hz)
        rw [List.map_map, ← List.map_append] at t3
        rw [t3]
        refine ⟨ys ++ ds, c + 1, m, _, _, _, _, rfl, rfl, rfl, fun z hz => ?_, by rw [wtA_app]; omega, by omega⟩
        rcases List.mem_append.mp hz with hz | hz
        · exact hys z hz
        · have hy' : plainA ds = true := by rw [plain] at hy; exact hy
          exact plainA_all hy' z hz
      | _ =>
        simp only [wt] at hwy
        simp [bindT, setAll, op1, truth, bz, pre, thaw, hl0, tyOf, isTy, setE]
        exact ⟨ys, c + 1, m, _, _, _, _, rfl, rfl, by simp, hys, by omega, by omega⟩
  · rintro env st ⟨xs, c, m, z3, z4, z5, z6, e1, rfl, rfl, e2, e3, e4⟩
    have := rangeI_nil e1
    omega
end Lw
namespace Lw
open PySem Dn
abbrev Up (states : List Str) (w : List Str) : Prop := w.Pairwise fun a b => place states a < place states b
theorem Up.nodup {states w : List Str} (h : Up states w) : w.Nodup := List.Pairwise.imp (fun {a b} h e => by subst e; omega) h
theorem isPair_eP {states : List Str} {x y : Str} (hx : x ∈ states) (hy : y ∈ states) : isPair states (eP (x, y)) = true := by
  simp [isPair, eP, okS, hx, hy]
theorem fol_eP {states : List Str} {a b c d : Str} : fol states (eP (a, b)) (eP (c, d)) = folB (place states a) (place states b) (place states c) (place states d) := rfl
/-- what each story is -/
theorem lon_good {states : List Str} : ∀ (n : Nat) (s : Sy) (x : Str) (r : List Str) (y : Str) (q : List Str) (story : Sy), story ∈ lon n s (x :: r) (y :: q) → Up states (x :: r) → Up states (y :: q) → (∀ z ∈ x :: r, z ∈ states) → (∀ z ∈ y :: q, z ∈ states) →
    ∃ t : Sy, story = s ++ t ∧ (∀ p, extP p x (t.map (·.1)) = p ++ r) ∧ (∀ p, extP p y (t.map (·.2)) = p ++ q) ∧ chain states (eP (x, y) :: t.map eP) = true ∧ (∀ z ∈ t, isPair states (eP z) = true) ∧ t.length = r.length + q.length
  | 0, s, x, r, y, q, story, h, _, _, _, _ => by simp [lon] at h
  | n + 1, s, x, r, y, q, story, h, hx, hy, mx, my => by
    unfold lon at h
    by_cases he : r = [] ∧ q = []
    · rw [if_pos he] at h
      obtain ⟨rfl, rfl⟩ := he
      simp at h
      exact ⟨[], by simp [h], by simp [extP], by simp [extP], rfl, by simp, rfl⟩
    · rw [if_neg he, List.mem_append] at h
      rcases h with h | h
      · cases r with
        | nil => cases h
        | cons x' r' =>
          have hx' := List.pairwise_cons.mp hx
          obtain ⟨t, h1, h2, h3, h4, h5, h6⟩ := lon_good n (s ++ [(x', y)]) x' r' y q story h hx'.2 hy (fun z hz => mx z (List.mem_cons_of_mem _ hz)) my
          have hlt := hx'.1 x' (by simp)
          have hne : x' ≠ x := fun e => by rw [e] at hlt; omega
          refine ⟨(x', y) :: t, by rw [h1]; simp, fun p => ?_, fun p => ?_, ?_, fun z hz => ?_, by simp [h6]; omega⟩
          · simp only [List.map_cons, extP]
            rw [if_neg hne, h2]
            simp
          · simp only [List.map_cons, extP, if_true]
            exact h3 p
          · show (fol states (eP (x, y)) (eP (x', y)) && chain states (eP (x', y) :: t.map eP)) = true
            rw [h4, fol_eP]
            simp [folB, hlt]
          · rcases List.mem_cons.mp hz with rfl | hz
            · exact isPair_eP (mx _ (by simp)) (my _ (by simp))
            · exact h5 z hz
      · cases q with
        | nil => cases h
        | cons y' q' =>
          have hy' := List.pairwise_cons.mp hy
          obtain ⟨t, h1, h2, h3, h4, h5, h6⟩ := lon_good n (s ++ [(x, y')]) x r y' q' story h hx hy'.2 mx (fun z hz => my z (List.mem_cons_of_mem _ hz))
          have hlt := hy'.1 y' (by simp)
          have hne : y' ≠ y := fun e => by rw [e] at hlt; omega
          refine ⟨(x, y') :: t, by rw [h1]; simp, fun p => ?_, fun p => ?_, ?_, fun z hz => ?_, by simp [h6]; omega⟩
          · simp only [List.map_cons, extP, if_true]
            exact h2 p
          · simp only [List.map_cons, extP]
            rw [if_neg hne, h3]
            simp
          · show (fol states (eP (x, y)) (eP (x, y')) && chain states (eP (x, y') :: t.map eP)) = true
            rw [h4, fol_eP]
            simp [folB, hlt]
          · rcases List.mem_cons.mp hz with rfl | hz
            · exact isPair_eP (mx _ (by simp)) (my _ (by simp))
            · exact h5 z hz
theorem lon_ne {n : Nat} {s : Sy} {x y : Str} {r q : List Str} (h : r.length + q.length < n) : lon n s (x :: r) (y :: q) ≠ [] := by
  induction n generalizing s x y r q with
  | zero => omega
  | succ n ih =>
    unfold lon
    split
    · simp
    · rename_i hne
      cases r with
      | cons x' r' =>
        have := ih (s := s ++ [(x', y)]) (x := x') (y := y) (r := r') (q := q) (by simp at h; omega)
        simp [this]
      | nil =>
        cases q with
        | nil => simp at hne
        | cons y' q' =>
          have := ih (s := s ++ [(x, y')]) (x := x) (y := y') (r := []) (q := q') (by simp at h ⊢; omega)
          simp [this]
/-- a whole story: right, its sides the paths -/
theorem story_good {states : List Str} {x y : Str} {r q : List Str} {story : Sy} (h : story ∈ lon 13 [(x, y)] (x :: r) (y :: q)) (hx : Up states (x :: r)) (hy : Up states (y :: q)) (mx : ∀ z ∈ x :: r, z ∈ states) (my : ∀ z ∈ y :: q, z ∈ states) :
    ∃ t : Sy, story = (x, y) :: t ∧ extP [x] x (t.map (·.1)) = x :: r ∧ extP [y] y (t.map (·.2)) = y :: q ∧ isStory states (eS story) = true ∧ t.length = r.length + q.length ∧ (∀ z ∈ story, z.1 ∈ states ∧ z.2 ∈ states) := by
  obtain ⟨t, h1, h2, h3, h4, h5, h6⟩ := lon_good 13 _ x r y q story h hx hy mx my
  subst h1
  have hp0 := isPair_eP (mx x (by simp)) (my y (by simp))
  refine ⟨t, rfl, h2 _, h3 _, ?_, h6, fun z hz => ?_⟩
  · have ha : ((t.map eP).all (isPair states)) = true := by
      rw [List.all_map, List.all_eq_true]
      exact fun z hz => h5 z hz
    show (!(eP (x, y) :: t.map eP).isEmpty && (eP (x, y) :: t.map eP).all (isPair states) && chain states (eP (x, y) :: t.map eP)) = true
    rw [h4, List.all_cons, hp0, ha]
    rfl
  · rcases List.mem_cons.mp hz with rfl | hz
    · exact ⟨mx _ (by simp), my _ (by simp)⟩
    · have := h5 z hz
      simp [isPair, eP, okS] at this
      exact this
end Lw
namespace Lw
open PySem Dn
def rk (states : List Str) (p : Str × Str) : PyData := .list [.int (place states p.1), .int (place states p.2)]
theorem pairs_all {states : List Str} : ∀ {ds : List PyData}, ds.all (isPair states) = true → ∃ s : Sy, ds = s.map eP ∧ ∀ z ∈ s, z.1 ∈ states ∧ z.2 ∈ states
  | [], _ => ⟨[], rfl, by simp⟩
  | d :: ds, h => by
    rw [List.all_cons, Bool.and_eq_true] at h
    obtain ⟨a, b, rfl, ha, hb⟩ := pair_strs h.1
    obtain ⟨s, rfl, hs⟩ := pairs_all h.2
    refine ⟨(a, b) :: s, rfl, fun z hz => ?_⟩
    rcases List.mem_cons.mp hz with rfl | hz
    · exact ⟨ha, hb⟩
    · exact hs z hz
/-- the words of a pair that are none -/
theorem bad_words {Φ : Calls} {states : List Str} {env : Sl} {es : List PyData} {st : Store} (h0 : env[0]? = some (some (.p (eW states)))) (h3 : env[3]? = some (some (.p (.tuple es)))) (hl : env.length = 8) (hf : ∀ y ∈ es, flat y = true) (hn : es.length ≤ 1000) :
    ev Φ (.comp false (.c (.int 1)) (.one 6) 0 [.var 3] [.orr [.o1 .nt (.o1 (.isin [.str]) (.var 6)), .o2 .nin (.var 6) (.var 0)]]) env st = .ok (.p (.list ((es.filter fun y => !okS states y).map fun _ => .int 1))) st := by
  refine ev_compS (d := .p (.tuple es)) (by simp [h3]) (.inl rfl) (fun y hy => ⟨(env.set 6 none).set 6 (some (.p y)), ?_, ?_, fun _ => rfl⟩) (le_line (by omega))
  · simp [bindT, setAll, hl]
  · have g0 : ((env.set 6 none).set 6 (some (.p y)))[0]? = some (some (.p (eW states))) := by simp [h0]
    have g6 : ((env.set 6 none).set 6 (some (.p y)))[6]? = some (some (.p y)) := by simp [hl]
    have hfy := hf y hy
    simp only [evAn_one, ev_orr, evOr_two, evOr_one, ev_o1, ev_o2, ev_var, g0, g6]
    cases y <;> first | (cases hfy; done) | (simp [op1, tyOf, isTy, truth, bz, okS, pre, inD]; done)
theorem pos_filter {es : List PyData} {f : PyData → Bool} : decide ((0 : Int) < ((((es.filter fun y => !f y).map fun _ => PyData.int 1).length : Nat) : Int)) = !es.all f := by
  rw [List.length_map]
  cases h : es.all f with
  | true =>
    have : es.filter (fun y => !f y) = [] := List.filter_eq_nil_iff.mpr fun a ha => by simpa using List.all_eq_true.mp h a ha
    simp [this]
  | false =>
    obtain ⟨a, ha, hb⟩ := List.all_eq_false.mp h
    have : a ∈ es.filter (fun y => !f y) := List.mem_filter.mpr ⟨ha, by simpa using hb⟩
    have := List.length_pos_of_mem this
    have h2 : (0 : Int) < (((es.filter fun y => !f y).length : Nat) : Int) := by omega
    rw [decide_eq_true h2]
    rfl
theorem ranks_ok {Φ : Calls} {states : List Str} {env : Sl} {a b : Str} {st : Store} (hn : states.Nodup) (h0 : env[0]? = some (some (.p (eW states)))) (h3 : env[3]? = some (some (.p (eP (a, b))))) (hl : env.length = 8) (ha : a ∈ states) (hb : b ∈ states) :
    ev Φ (.comp false (.o2 .indx (.var 0) (.var 6)) (.one 6) 0 [.var 3] []) env st = .ok (.p (rk states (a, b))) st := by
  have key : ∀ (y : Str), y ∈ states → ∃ e, bindT (.one 6) (.one (.p (.str y))) (wipeE env (Tg.one 6).slots) = some e ∧ ev Φ (.o2 .indx (.var 0) (.var 6)) e st = .ok (.p (.int (place states y))) st := fun y hy => by
    refine ⟨(env.set 6 none).set 6 (some (.p (.str y))), by simp [bindT, setAll, hl], ?_⟩
    have g0 : ((env.set 6 none).set 6 (some (.p (.str y))))[0]? = some (some (.p (eW states))) := by simp [h0]
    have g6 : ((env.set 6 none).set 6 (some (.p (.str y))))[6]? = some (some (.p (.str y))) := by simp [hl]
    simp only [ev_o2, ev_var, g0, g6]
    simp [pre, indx_str hn (place_get hy)]
  obtain ⟨e1, q1, q2⟩ := key a ha
  obtain ⟨e2, q3, q4⟩ := key b hb
  exact ev_compL (rs := [some (.int (place states a)), some (.int (place states b))]) (ds := [.p (eP (a, b))]) (items := [.one (.p (.str a)), .one (.p (.str b))]) (by simp [h3]) rfl rfl
    (.cons ⟨e1, q1, rfl, fun v hv => by cases hv; exact q2⟩ (.cons ⟨e2, q3, rfl, fun v hv => by cases hv; exact q4⟩ .nil)) (le_line (by simp))
def pR1 (states : List Str) (ds : List PyData) (items : List Dn.It) (env : Sl) (st : Store) : Prop :=
  ∃ (s : Sy) (q : List PyData) (z3 z4 z5 z6 z7 : Option D), items = q.map (fun y => .one (.p y)) ∧ env = [some (.p (eW states)), some (.p (.tuple ds)), some (.r 0), z3, z4, z5, z6, z7] ∧ st = [.lst (s.map (D.p ∘ rk states))] ∧ ds = s.map eP ++ q ∧ (∀ z ∈ s, z.1 ∈ states ∧ z.2 ∈ states)
def pR2 (states : List Str) (s : Sy) (items : List Dn.It) (env : Sl) (st : Store) : Prop :=
  ∃ (c m : Nat) (z3 z4 z5 z6 z7 : Option D), items = rangeI ((c + 1 : Nat) : Int) 1 m ∧ env = [some (.p (eW states)), some (.p (eS s)), some (.r 0), z3, z4, z5, z6, z7] ∧ st = [.lst (s.map (D.p ∘ rk states))] ∧ c + 1 + m = s.length ∧ chain states ((s.drop c).map eP) = chain states (s.map eP)
theorem srt2 (u v : Int) (st : Store) : op1 .srt (.p (.list [.int u, .int v])) st = .ok (.p (.list (if u ≤ v then [.int u, .int v] else [.int v, .int u]))) st := by
  by_cases h : u ≤ v <;> simp [op1, listP, intsOf, srtL, insL, h]
theorem fol_rises {a b c d : Nat} : folB a b c d = !(decide ((if ((c : Int) - a) ≤ ((d : Int) - b) then ((c : Int) - a) else ((d : Int) - b)) ≠ 0) || decide ((if ((c : Int) - a) ≤ ((d : Int) - b) then ((d : Int) - b) else ((c : Int) - a)) ≤ 0)) := by
  unfold folB
  rw [Bool.eq_iff_iff]
  by_cases h : ((c : Int) - a) ≤ ((d : Int) - b) <;> simp only [h, if_true, if_false, Bool.or_eq_true, Bool.and_eq_true, decide_eq_true_eq, Bool.not_eq_true', Bool.or_eq_false_iff, decide_eq_false_iff_not] <;> omega
/-- one step of the second walk -/
theorem rises_ok {Φ : Calls} {states : List Str} {s : Sy} {env : Sl} {i : Nat} {p p' : Str × Str} {st : Store} (h2 : env[2]? = some (some (.r 0))) (h4 : env[4]? = some (some (.p (.int ((i + 1 : Nat) : Int))))) (hl : env.length = 8) (hs : st = [.lst (s.map (D.p ∘ rk states))]) (hp : s[i]? = some p) (hp' : s[i + 1]? = some p') :
    ev Φ (.o1 .srt (.comp false (.o2 .sub (.o2 .ix (.o2 .ix (.var 2) (.var 4)) (.var 7)) (.o2 .ix (.o2 .ix (.var 2) (.o2 .sub (.var 4) (.c (.int 1)))) (.var 7))) (.one 7) 0 [.tup [.c (.int 0), .c (.int 1)]] [])) env st =
    .ok (.p (.list (if ((place states p'.1 : Int) - place states p.1) ≤ ((place states p'.2 : Int) - place states p.2) then [.int ((place states p'.1 : Int) - place states p.1), .int ((place states p'.2 : Int) - place states p.2)] else [.int ((place states p'.2 : Int) - place states p.2), .int ((place states p'.1 : Int) - place states p.1)]))) st := by
  subst hs
  have g1 : getIx (.r 0) (.p (.int ((i + 1 : Nat) : Int))) [.lst (s.map (D.p ∘ rk states))] = some (.p (rk states p')) := by
    show ((ixOf (s.map (D.p ∘ rk states)).length ((i + 1 : Nat) : Int)).bind fun j => (s.map (D.p ∘ rk states))[j]?) = _
    rw [bind_ix, List.getElem?_map, hp']
    rfl
  have g2 : getIx (.r 0) (.p (.int (((i + 1 : Nat) : Int) - 1))) [.lst (s.map (D.p ∘ rk states))] = some (.p (rk states p)) := by
    rw [show (((i + 1 : Nat) : Int) - 1) = ((i : Nat) : Int) by omega]
    show ((ixOf (s.map (D.p ∘ rk states)).length ((i : Nat) : Int)).bind fun j => (s.map (D.p ∘ rk states))[j]?) = _
    rw [bind_ix, List.getElem?_map, hp]
    rfl
  have key : ∀ (k : Int) (u v : Int), getIx (.p (rk states p')) (.p (.int k)) [.lst (s.map (D.p ∘ rk states))] = some (.p (.int u)) → getIx (.p (rk states p)) (.p (.int k)) [.lst (s.map (D.p ∘ rk states))] = some (.p (.int v)) →
      ∃ e, bindT (.one 7) (.one (.p (.int k))) (wipeE env (Tg.one 7).slots) = some e ∧ ev Φ (.o2 .sub (.o2 .ix (.o2 .ix (.var 2) (.var 4)) (.var 7)) (.o2 .ix (.o2 .ix (.var 2) (.o2 .sub (.var 4) (.c (.int 1)))) (.var 7))) e [.lst (s.map (D.p ∘ rk states))] = .ok (.p (.int (u - v))) [.lst (s.map (D.p ∘ rk states))] := fun k u v hu hv => by
    refine ⟨(env.set 7 none).set 7 (some (.p (.int k))), by simp [bindT, setAll, hl], ?_⟩
    have e2 : ((env.set 7 none).set 7 (some (.p (.int k))))[2]? = some (some (.r 0)) := by simp [h2]
    have e4 : ((env.set 7 none).set 7 (some (.p (.int k))))[4]? = some (some (.p (.int ((i + 1 : Nat) : Int)))) := by simp [h4]
    have e7 : ((env.set 7 none).set 7 (some (.p (.int k))))[7]? = some (some (.p (.int k))) := by simp [hl]
    simp only [ev_o2, ev_var, ev_c, e2, e4, e7, Res.bind_ok]
    simp only [pre, if_true, Res.bind_ok, op2_ix, op2_sub_i, Res.nox_ok, g1, g2, hu, hv, Res.of_some]
  obtain ⟨e1, q1, q2⟩ := key 0 _ _ getIx_l0 getIx_l0
  obtain ⟨e2, q3, q4⟩ := key 1 _ _ getIx_l1 getIx_l1
  have hc := ev_compL (Φ := Φ) (env := env) (st := [.lst (s.map (D.p ∘ rk states))]) (elt := .o2 .sub (.o2 .ix (.o2 .ix (.var 2) (.var 4)) (.var 7)) (.o2 .ix (.o2 .ix (.var 2) (.o2 .sub (.var 4) (.c (.int 1)))) (.var 7))) (tg := .one 7) (k := 0) (its := [.tup [.c (.int 0), .c (.int 1)]]) (ifs := [])
    (rs := [some (.int ((place states p'.1 : Int) - place states p.1)), some (.int ((place states p'.2 : Int) - place states p.2))]) (ds := [.p (.tuple [.int 0, .int 1])]) (items := [.one (.p (.int 0)), .one (.p (.int 1))]) (by simp [allP, sizeLine_eq]) rfl rfl
    (.cons ⟨e1, q1, rfl, fun v hv => by cases hv; exact q2⟩ (.cons ⟨e2, q3, rfl, fun v hv => by cases hv; exact q4⟩ .nil)) (le_line (by simp))
  rw [ev_o1, hc]
  simp only [Res.bind_ok, List.filterMap_cons, List.filterMap_nil, id, srt2, Res.nox_ok]
theorem is_right_ok (n : Nat) {states : List Str} {x : PyData} (hn : states.Nodup) (hx : nd2 x = true) (hl : ∀ ds, x = .tuple ds → ds.length ≤ 1000) : Gives F (n + 1) f__law_is_right [eW states, x] (.bool (isStory states x)) := by
  refine Gives.of ?_
  rw [wp_call (d := d__law_is_right) rfl ⟨rfl, by decide⟩]
  show wpR (exB (callF F n) b__law_is_right [some (.p (eW states)), some (.p x), none, none, none, none, none, none] []) _
  unfold b__law_is_right
  rw [wp_cons, wp_iff]
  cases x with
  | dict _ => cases hx
  | tuple ds =>
    have hlen := hl ds rfl
    by_cases h0 : ds = []
    · subst h0
      simp [op1, tyOf, isTy, truth, bz, pre, thaw, isStory]
    · have h1 : ¬ ((ds.length : Int) = 0) := by
        have : ds.length ≠ 0 := by simpa using h0
        omega
      have hnd : ∀ y ∈ ds, nd1 y = true := fun y hy => List.all_eq_true.mp hx y hy
      have ht : ev (callF F n) (.orr [.o1 .nt (.o1 (.isin [.tuple]) (.var 1)), .o2 .eq (.o1 .len (.var 1)) (.c (.int 0))]) [some (.p (eW states)), some (.p (.tuple ds)), none, none, none, none, none, none] [] = .ok (.p (.bool false)) [] := by
        simp [op1, tyOf, isTy, truth, bz, pre, h1, h0]
      rw [ht]
      refine ⟨false, rfl, ?_⟩
      show wpR (exB _ [] _ _) _
      rw [wp_nil, goOn_nx, wp_cons, wp_set]
      refine ⟨[some (.p (eW states)), some (.p (.tuple ds)), some (.r 0), none, none, none, none, none], rfl, ?_⟩
      show wpR (exB _ _ _ [.lst []]) _
      rw [wp_cons, exS_forE (ds := [.p (.tuple ds)]) (st1 := [.lst []]) rfl walk_tup]
      refine wp_for (pR1 states ds) ?_ ?_ _ _ _ ⟨[], ds, none, none, none, none, none, rfl, rfl, rfl, rfl, by simp⟩
      · rintro it items env st ⟨s, q, z3, z4, z5, z6, z7, e1, rfl, rfl, e2, e3⟩
        refine ⟨rfl, ?_⟩
        cases q with
        | nil => cases e1
        | cons y q =>
          simp only [List.map_cons, List.cons.injEq] at e1
          obtain ⟨rfl, rfl⟩ := e1
          have hym : y ∈ ds := by rw [e2]; simp
          have hyd := hnd y hym
          have hsl : s.length ≤ 1000 := by
            have := congrArg List.length e2
            simp at this
            omega
          rw [forF_at (e := [some (.p (eW states)), some (.p (.tuple ds)), some (.r 0), some (.p y), z4, z5, z6, z7]) rfl, wp_cons, wp_iff]
          have hall : isPair states y = false → isStory states (.tuple ds) = false := fun hp => by
            have : ds.all (isPair states) = false := List.all_eq_false.mpr ⟨y, hym, by simp [hp]⟩
            simp [isStory, this]
          have fin : ∀ b : Bool, b = !isPair states y → wpR (exB (callF F n) (if b then [.ret (.c (.bool false))] else []) [some (.p (eW states)), some (.p (.tuple ds)), some (.r 0), some (.p y), z4, z5, z6, z7] [.lst (s.map (D.p ∘ rk states))])
              (goOn (callF F n) [.ex (.o2 .app (.var 2) (.comp false (.o2 .indx (.var 0) (.var 6)) (.one 6) 0 [.var 3] []))] fun r st => match r.1 with
                | .nx => pR1 states ds (q.map fun y => .one (.p y)) r.2 st
                | .ct => pR1 states ds (q.map fun y => .one (.p y)) r.2 st
                | .bk => goOn (callF F n) [.for_ (.one 4) 1 [.c (.int 1), .o1 .len (.var 2)] [.set 5 (.o1 .srt (.comp false (.o2 .sub (.o2 .ix (.o2 .ix (.var 2) (.var 4)) (.var 7)) (.o2 .ix (.o2 .ix (.var 2) (.o2 .sub (.var 4) (.c (.int 1)))) (.var 7))) (.one 7) 0 [.tup [.c (.int 0), .c (.int 1)]] [])),
                    .iff (.orr [.o2 .ne (.o2 .ix (.var 5) (.c (.int 0))) (.c (.int 0)), .o2 .le (.o2 .ix (.var 5) (.c (.int 1))) (.c (.int 0))]) [.ret (.c (.bool false))] []], .ret (.c (.bool true))] (endB fun d st => thaw d st = some (.bool (isStory states (.tuple ds)))) (.nx, r.2) st
                | .rt d => goOn (callF F n) [.for_ (.one 4) 1 [.c (.int 1), .o1 .len (.var 2)] [.set 5 (.o1 .srt (.comp false (.o2 .sub (.o2 .ix (.o2 .ix (.var 2) (.var 4)) (.var 7)) (.o2 .ix (.o2 .ix (.var 2) (.o2 .sub (.var 4) (.c (.int 1)))) (.var 7))) (.one 7) 0 [.tup [.c (.int 0), .c (.int 1)]] [])),
                    .iff (.orr [.o2 .ne (.o2 .ix (.var 5) (.c (.int 0))) (.c (.int 0)), .o2 .le (.o2 .ix (.var 5) (.c (.int 1))) (.c (.int 0))]) [.ret (.c (.bool false))] []], .ret (.c (.bool true))] (endB fun d st => thaw d st = some (.bool (isStory states (.tuple ds)))) (.rt d, r.2) st) := by
            rintro b rfl
            cases hp : isPair states y with
            | false =>
              simp [thaw, hall hp]
            | true =>
              obtain ⟨a, c, rfl, ha, hc⟩ := pair_strs hp
              have hrk := ranks_ok (Φ := callF F n) (env := [some (.p (eW states)), some (.p (.tuple ds)), some (.r 0), some (.p (eP (a, c))), z4, z5, z6, z7]) (st := [.lst (s.map (D.p ∘ rk states))]) hn rfl rfl rfl ha hc
              show wpR (exB _ [] _ _) _
              rw [wp_nil, goOn_nx, wp_cons, wp_ex]
              have hap : ev (callF F n) (.o2 .app (.var 2) (.comp false (.o2 .indx (.var 0) (.var 6)) (.one 6) 0 [.var 3] [])) [some (.p (eW states)), some (.p (.tuple ds)), some (.r 0), some (.p (eP (a, c))), z4, z5, z6, z7] [.lst (s.map (D.p ∘ rk states))] =
                  .ok (.p .none) [.lst ((s ++ [(a, c)]).map (D.p ∘ rk states))] := by
                rw [ev_o2]
                simp only [ev_var, List.getElem?_cons_succ, List.getElem?_cons_zero, Res.bind_ok]
                rw [if_pos (show pre .app (.r 0) [.lst (s.map (D.p ∘ rk states))] = true from rfl), hrk]
                have hs2 : s.length < 16777216 := by omega
                simp [sizeLine_eq, hs2]
              rw [show (PyData.tuple [PyData.str a, PyData.str c]) = eP (a, c) from rfl]
              rw [hap]
              show wpR (exB (callF F n) [] _ _) _
              rw [wp_nil]
              refine ⟨s ++ [(a, c)], q, _, _, _, _, _, rfl, rfl, rfl, by rw [e2]; simp; rfl, fun z hz => ?_⟩
              rcases List.mem_append.mp hz with hz | hz
              · exact e3 z hz
              · simp at hz; subst hz; exact ⟨ha, hc⟩
          -- the test
          suffices h : ∃ b : Bool, ev (callF F n) (.orr [.o1 .nt (.o1 (.isin [.tuple]) (.var 3)), .o2 .ne (.o1 .len (.var 3)) (.c (.int 2)), .o2 .gt (.o1 .len (.comp false (.c (.int 1)) (.one 6) 0 [.var 3] [.orr [.o1 .nt (.o1 (.isin [.str]) (.var 6)), .o2 .nin (.var 6) (.var 0)]])) (.c (.int 0))])
              [some (.p (eW states)), some (.p (.tuple ds)), some (.r 0), some (.p y), z4, z5, z6, z7] [.lst (s.map (D.p ∘ rk states))] = .ok (.p (.bool b)) [.lst (s.map (D.p ∘ rk states))] ∧ b = !isPair states y by
            obtain ⟨b, h1, h2⟩ := h
            rw [h1]
            exact ⟨b, rfl, fin b h2⟩
          cases y with
          | dict _ => cases hyd
          | tuple es =>
            have hes : ∀ z ∈ es, flat z = true := fun z hz => List.all_eq_true.mp hyd z hz
            by_cases h2 : es.length = 2
            · have hbw := bad_words (Φ := callF F n) (states := states) (env := [some (.p (eW states)), some (.p (.tuple ds)), some (.r 0), some (.p (.tuple es)), z4, z5, z6, z7]) (es := es) (st := [.lst (s.map (D.p ∘ rk states))]) rfl rfl rfl hes (by omega)
              have hpf := pos_filter (es := es) (f := okS states)
              have h3 : ((es.length : Int) = 2) := by omega
              have hip : isPair states (.tuple es) = es.all (okS states) := by simp [isPair, h2]
              refine ⟨!es.all (okS states), ?_, by rw [hip]⟩
              rw [← hpf]
              simp only [ev_orr, evOr_two, evOr_one, ev_o1, ev_o2, ev_var, ev_c, List.getElem?_cons_succ, List.getElem?_cons_zero, Res.bind_ok, hbw]
              simp [op1, tyOf, isTy, truth, bz, pre, h3, hbw]
            · have h3 : ¬ ((es.length : Int) = 2) := by omega
              have hip : isPair states (.tuple es) = false := by simp [isPair, h2]
              refine ⟨true, ?_, by rw [hip]; rfl⟩
              simp [op1, tyOf, isTy, truth, bz, pre, h3]
          | _ => exact ⟨true, by simp [op1, tyOf, isTy, truth, bz, pre], rfl⟩
      · rintro env st ⟨s, q, z3, z4, z5, z6, z7, e1, rfl, rfl, e2, e3⟩
        refine ⟨rfl, ?_⟩
        cases q with
        | cons _ _ => cases e1
        | nil =>
          rw [List.append_nil] at e2
          subst e2
          have hsn : s ≠ [] := fun e => h0 (by rw [e]; rfl)
          have hsl : s.length ≤ 1000 := by simpa using hlen
          have hs1 : 1 ≤ s.length := List.length_pos_iff.mpr hsn
          have hall : ((s.map eP).all (isPair states)) = true := by
            rw [List.all_map, List.all_eq_true]
            exact fun z hz => isPair_eP (e3 z hz).1 (e3 z hz).2
          have his : isStory states (.tuple (s.map eP)) = chain states (s.map eP) := by
            simp only [isStory, hall, Bool.and_true]
            cases s with
            | nil => exact absurd rfl hsn
            | cons _ _ => rfl
          have hwk : walkOf 1 [.p (.int 1), .p (.int (s.length : Int))] [.lst (s.map (D.p ∘ rk states))] = some (rangeI ((0 + 1 : Nat) : Int) 1 (s.length - 1)) := by
            have h1 := walk_range2 (a := 1) (b := (s.length : Int)) (st := [.lst (s.map (D.p ∘ rk states))]) (by omega) (by omega) (by omega) (by omega)
            have h2 : ((s.length : Int) - 1).toNat = s.length - 1 := by omega
            rw [h2] at h1
            exact h1
          rw [goOn_nx, wp_cons, exS_forE (ds := [.p (.int 1), .p (.int (s.length : Int))]) (st1 := [.lst (s.map (D.p ∘ rk states))]) (by simp [op1]) hwk]
          refine wp_for (pR2 states s) ?_ ?_ _ _ _ ⟨0, s.length - 1, z3, z4, z5, z6, z7, rfl, rfl, rfl, by omega, rfl⟩
          · rintro it items env st ⟨c, m, z3, z4, z5, z6, z7, e1, rfl, rfl, hcm, hch⟩
            obtain ⟨m, rfl, rfl, rfl⟩ := rangeI_cons e1
            refine ⟨rfl, ?_⟩
            have hc0 : c < s.length := by omega
            have hc1 : c + 1 < s.length := by omega
            have hri := rises_ok (Φ := callF F n) (states := states) (s := s) (env := [some (.p (eW states)), some (.p (eS s)), some (.r 0), z3, some (.p (.int ((c + 1 : Nat) : Int))), z5, z6, z7]) (i := c) (p := s[c]) (p' := s[c + 1]) (st := [.lst (s.map (D.p ∘ rk states))]) rfl rfl rfl rfl (List.getElem?_eq_getElem hc0) (List.getElem?_eq_getElem hc1)
            have hdr : s.drop c = s[c] :: s[c + 1] :: s.drop (c + 1 + 1) := by
              rw [List.drop_eq_getElem_cons hc0, List.drop_eq_getElem_cons hc1]
            have hdr1 : s.drop (c + 1) = s[c + 1] :: s.drop (c + 1 + 1) := List.drop_eq_getElem_cons hc1
            have hstep : chain states ((s.drop c).map eP) = (fol states (eP s[c]) (eP s[c + 1]) && chain states ((s.drop (c + 1)).map eP)) := by
              rw [hdr, hdr1]
              rfl
            have hfol : fol states (eP s[c]) (eP s[c + 1]) = folB (place states s[c].1) (place states s[c].2) (place states s[c + 1].1) (place states s[c + 1].2) := rfl
            rw [fol_rises] at hfol
            rw [forF_at (e := [some (.p (eW states)), some (.p (eS s)), some (.r 0), z3, some (.p (.int ((c + 1 : Nat) : Int))), z5, z6, z7]) rfl, wp_cons, exS_set, hri]
            generalize hu : ((place states s[c + 1].1 : Int) - place states s[c].1) = u at hfol ⊢
            generalize hv : ((place states s[c + 1].2 : Int) - place states s[c].2) = v at hfol ⊢
            have hlist : (if u ≤ v then [PyData.int u, PyData.int v] else [PyData.int v, PyData.int u]) = [.int (if u ≤ v then u else v), .int (if u ≤ v then v else u)] := by
              by_cases h : u ≤ v <;> simp [h]
            rw [hlist]
            generalize (if u ≤ v then u else v) = lo at hfol ⊢
            generalize (if u ≤ v then v else u) = hi at hfol ⊢
            show wpR (exB (callF F n) [_] [some (.p (eW states)), some (.p (eS s)), some (.r 0), z3, some (.p (.int ((c + 1 : Nat) : Int))), some (.p (.list [.int lo, .int hi])), z6, z7] _) _
            rw [wp_cons, wp_iffB (decide (lo ≠ 0) || decide (hi ≤ 0)) (by by_cases h : lo = 0 <;> simp [pre, truth, bz, h])]
            cases hb : (decide (lo ≠ 0) || decide (hi ≤ 0)) with
            | true =>
              rw [hb] at hfol
              have : isStory states (.tuple (s.map eP)) = false := by
                rw [his, ← hch, hstep, hfol]
                rfl
              simp [thaw, this]
            | false =>
              rw [hb] at hfol
              show wpR (exB (callF F n) [] _ _) _
              rw [wp_nil]
              refine ⟨c + 1, m, _, _, _, _, _, ?_, rfl, rfl, by omega, ?_⟩
              · rw [show (((c + 1 : Nat) : Int) + 1) = ((c + 1 + 1 : Nat) : Int) by omega]
              · rw [← hch, hstep, hfol]
                rfl
          · rintro env st ⟨c, m, z3, z4, z5, z6, z7, e1, rfl, rfl, hcm, hch⟩
            have := rangeI_nil e1
            subst this
            refine ⟨rfl, ?_⟩
            have hc0 : c < s.length := by omega
            have : s.drop c = [s[c]] := by
              rw [List.drop_eq_getElem_cons hc0, List.drop_eq_nil_of_le (by omega)]
            rw [this] at hch
            simp [thaw, his, ← hch, chain]
  | _ => simp [op1, tyOf, isTy, truth, bz, pre, thaw, isStory]
end Lw
namespace Lw
open PySem Dn
/-! ### what is drawn -/
def kvD (q : Str × Int × Int) : PyData × D := (.str q.1, .p (.tuple [.int q.2.1, .int q.2.2]))
theorem nodup_len {α : Type} [DecidableEq α] : ∀ {xs ys : List α}, xs.Nodup → (∀ x ∈ xs, x ∈ ys) → xs.length ≤ ys.length
  | [], _, _, _ => by simp
  | x :: xs, ys, hn, h => by
    have hx := h x (by simp)
    have hn' := List.nodup_cons.mp hn
    have := nodup_len (xs := xs) (ys := ys.erase x) hn'.2 (fun z hz => (List.mem_erase_of_ne (by rintro rfl; exact hn'.1 hz)).mpr (h z (by simp [hz])))
    rw [List.length_erase_of_mem hx] at this
    have : 0 < ys.length := List.length_pos_of_mem hx
    simp
    omega
theorem dg_none : ∀ {kvs : List (Str × Int × Int)} {p : Str}, p ∉ kvs.map (·.1) → dGet (kvs.map kvD) (.str p) = none
  | [], p, h => rfl
  | q :: r, p, h => by
    simp only [List.map_cons, List.mem_cons, not_or] at h
    have ih := dg_none h.2
    have : ¬ q.1 = p := fun e => h.1 e.symm
    unfold dGet at ih ⊢
    simp [kvD, keyEq, this] at ih ⊢
    exact ih
theorem dg_some : ∀ {kvs : List (Str × Int × Int)} {p : Str}, p ∈ kvs.map (·.1) → ∃ q ∈ kvs, q.1 = p ∧ dGet (kvs.map kvD) (.str p) = some (.p (.tuple [.int q.2.1, .int q.2.2]))
  | [], p, h => by cases h
  | q :: r, p, h => by
    by_cases e : q.1 = p
    · refine ⟨q, by simp, e, ?_⟩
      unfold dGet
      simp [kvD, keyEq, e]
    · obtain ⟨q', h1, h2, h3⟩ := dg_some (kvs := r) (p := p) (by
        rcases List.mem_cons.mp h with h | h
        · exact absurd h.symm e
        · exact h)
      refine ⟨q', by simp [h1], h2, ?_⟩
      unfold dGet at h3 ⊢
      simp [kvD, keyEq, e] at h3 ⊢
      exact h3
theorem dp_new {kvs : List (Str × Int × Int)} {p : Str} {a b : Int} (h : p ∉ kvs.map (·.1)) : dPut (kvs.map kvD) (.str p) (.p (.tuple [.int a, .int b])) = (kvs ++ [(p, a, b)]).map kvD := by
  unfold dPut
  rw [if_neg]
  · simp [kvD]
  · intro hh
    rw [List.any_map, List.any_eq_true] at hh
    obtain ⟨q, h1, h2⟩ := hh
    refine h (List.mem_map.mpr ⟨q, h1, ?_⟩)
    simpa [kvD, keyEq] using h2
def PL : List Str := ["one", "states", "state", "start", "low", "begin", "rule", "rules", "here", "next", "left", "right", "on path", "alone", "at", "any", "odd", "shape", "story", "far"]
/-- the field stands at i, its seeds at j, its places at l -/
def Fd (i j l : Nat) (st : Store) : Prop := i ≠ j ∧ i ≠ l ∧ j ≠ l ∧ ∃ (m c : Int) (seeds : List Int) (kvs : List (Str × Int × Int)),
  st[i]? = some (.lst [.p (.int m), .r j, .p (.int c), .r l]) ∧ st[j]? = some (.lst (seeds.map fun s => .p (.int s))) ∧ st[l]? = some (.dic (kvs.map kvD)) ∧ (∀ s ∈ seeds, 0 ≤ s) ∧ 0 ≤ m ∧ 0 ≤ c ∧
  (kvs.map (·.1)).Nodup ∧ (∀ q ∈ kvs, q.1 ∈ PL ∧ 0 ≤ q.2.1 ∧ 0 ≤ q.2.2)
/-- all else stays -/
def Same3 (i j l : Nat) (st st' : Store) : Prop := st'.length = st.length ∧ ∀ k, k ≠ i → k ≠ j → k ≠ l → st'[k]? = st[k]?
theorem Same3.refl {i j l : Nat} {st : Store} : Same3 i j l st st := ⟨rfl, fun _ _ _ _ => rfl⟩
theorem Same3.trans {i j l : Nat} {st st' st'' : Store} (h : Same3 i j l st st') (h2 : Same3 i j l st' st'') : Same3 i j l st st'' := ⟨h2.1.trans h.1, fun k a b c => (h2.2 k a b c).trans (h.2 k a b c)⟩
theorem get_set {st : Store} {k : Nat} {o o' : Ob} (h : st[k]? = some o') : (st.set k o)[k]? = some o := List.getElem?_set_self (List.getElem?_eq_some_iff.mp h).1
theorem op2_fdv_at {st : Store} {a : Int} {c : Int} (h : 0 < c ∧ c < 1073741824) : op2 .fdv (.p (.int a)) (.p (.int c)) st = .ok (.p (.int (a / c))) st := if_pos h
theorem get_set_ne {st : Store} {i k : Nat} {o : Ob} (h : i ≠ k) : (st.set i o)[k]? = st[k]? := List.getElem?_set_ne h
theorem Same3.set1 {i j l : Nat} {st : Store} {o : Ob} : Same3 i j l st (st.set i o) := ⟨List.length_set .., fun k a _ _ => get_set_ne (Ne.symm a)⟩
theorem Same3.set2 {i j l : Nat} {st : Store} {o : Ob} : Same3 i j l st (st.set j o) := ⟨List.length_set .., fun k _ a _ => get_set_ne (Ne.symm a)⟩
theorem Same3.set3 {i j l : Nat} {st : Store} {o : Ob} : Same3 i j l st (st.set l o) := ⟨List.length_set .., fun k _ _ a => get_set_ne (Ne.symm a)⟩
theorem furrow_ok (n : Nat) {i j l : Nat} {st : Store} (h : Fd i j l st) : wpR (callF F (n + 1) f__law_furrow [.r i] st) (fun d st' => ∃ v : Int, d = .p (.int v) ∧ 0 ≤ v ∧ Fd i j l st' ∧ Same3 i j l st st' ∧ st'[l]? = st[l]?) := by
  obtain ⟨n1, n2, n3, m, c, seeds, kvs, h1, h2, h3, h4, h5, h6, h7, h8⟩ := h
  rw [wp_call (d := d__law_furrow) rfl ⟨rfl, by decide⟩]
  have g1 : getIx (.r i) (.p (.int 1)) st = some (.r j) := by simp [getIx, h1, ixOf]
  have g2 : getIx (.r i) (.p (.int 2)) st = some (.p (.int c)) := by simp [getIx, h1, ixOf]
  rcases List.eq_nil_or_concat seeds with rfl | ⟨ys, y, rfl⟩
  · have hs : setIx (.r i) (.p (.int 2)) (.p (.int (c + 1))) st = some (st.set i (.lst [.p (.int m), .r j, .p (.int (c + 1)), .r l])) := by
      simp [setIx, h1, ixOf]
    have e1 : (st.set i (.lst [.p (.int m), .r j, .p (.int (c + 1)), .r l]))[i]? = some (.lst [.p (.int m), .r j, .p (.int (c + 1)), .r l]) := get_set h1
    have g0 : getIx (.r i) (.p (.int 0)) (st.set i (.lst [.p (.int m), .r j, .p (.int (c + 1)), .r l])) = some (.p (.int m)) := by simp [getIx, e1, ixOf]
    have g3 : getIx (.r i) (.p (.int 2)) (st.set i (.lst [.p (.int m), .r j, .p (.int (c + 1)), .r l])) = some (.p (.int (c + 1))) := by simp [getIx, e1, ixOf]
    have k1 : mulOk m 44497 = true := by unfold mulOk; simp
    have k2 : mulOk (c + 1) 24007 = true := by unfold mulOk; simp
    have hs2 : ∀ v, setIx (.r i) (.p (.int 0)) (.p (.int v)) (st.set i (.lst [.p (.int m), .r j, .p (.int (c + 1)), .r l])) = some (st.set i (.lst [.p (.int v), .r j, .p (.int (c + 1)), .r l])) := fun v => by
      simp [setIx, e1, ixOf]
    have e2 : ∀ v, (st.set i (.lst [.p (.int v), .r j, .p (.int (c + 1)), .r l]))[i]? = some (.lst [.p (.int v), .r j, .p (.int (c + 1)), .r l]) := fun v => get_set h1
    have g4 : ∀ v, getIx (.r i) (.p (.int 0)) (st.set i (.lst [.p (.int v), .r j, .p (.int (c + 1)), .r l])) = some (.p (.int v)) := fun v => by simp [getIx, e2, ixOf]
    simp only [List.map_nil] at h2
    simp [b__law_furrow, startE, op1, pre, g1, h2, truth, bz, g2, hs, g0, g3, k1, k2, hs2, g4]
    rw [op2_fdv_at (by decide)]
    simp [e1, ixOf]
    have hm : (0 : Int) ≤ (m * 44497 + (c + 1) * 24007 + 5) % 2147483629 := Int.emod_nonneg _ (by decide)
    refine ⟨Int.ediv_nonneg hm (by decide), ⟨n1, n2, n3, _, _, [], kvs, get_set h1, ?_, ?_, by simp, hm, by omega, h7, h8⟩, Same3.set1, get_set_ne n2⟩
    · rw [get_set_ne n1, h2]
      rfl
    · rw [get_set_ne n2, h3]
  · have hj : (st[j]?) = some (.lst ((ys.map fun s => D.p (.int s)) ++ [D.p (.int y)])) := by rw [h2]; simp
    have hl0 : (0 : Int) < (ys.length : Int) + 1 := by omega
    simp [b__law_furrow, startE, op1, pre, g1, hj, truth, bz, hl0]
    refine ⟨h4 y (by simp), ⟨n1, n2, n3, m, c, ys, kvs, ?_, get_set h2, ?_, fun s hs => h4 s (by simp [hs]), h5, h6, h7, h8⟩, Same3.set2, get_set_ne n3⟩
    · rw [get_set_ne (Ne.symm n1), h1]
    · rw [get_set_ne n3, h3]
end Lw
namespace Lw
open PySem Dn
def sowT : List S := b__law_sow.drop 1
def Dr (i j l : Nat) (st : Store) (many : Int) (d : D) (st' : Store) : Prop := ∃ v : Int, d = .p (.int v) ∧ 0 ≤ v ∧ v < many ∧ Fd i j l st' ∧ Same3 i j l st st'
theorem op2_mod_at {st : Store} {a : Int} {c : Int} (h : 0 < c) : op2 .mod (.p (.int a)) (.p (.int c)) st = .ok (.p (.int (a % c))) st := if_pos h
theorem op2_mul_at {st : Store} {a : Int} {c : Int} (h : mulOk a c = true) : op2 .mul (.p (.int a)) (.p (.int c)) st = .ok (.p (.int (a * c))) st := if_pos h
theorem getIx_dic {st : Store} {l : Nat} {kvs : List (PyData × D)} {p : Str} (h : st[l]? = some (.dic kvs)) : getIx (.r l) (.p (.str p)) st = dGet kvs (.str p) := by
  simp [getIx, h, keyOk]
theorem sow_tail (n : Nat) {i j l : Nat} {st : Store} {p : Str} {many : Int} {z3 z4 : Option D} (h : Fd i j l st) (hm : 1 ≤ many)
    (hp : ∃ w o : Int, 0 ≤ w ∧ 0 ≤ o ∧ getIx (.r l) (.p (.str p)) st = some (.p (.tuple [.int w, .int o]))) :
    wpR (exB (callF F (n + 1)) sowT [some (.r i), some (.p (.str p)), some (.p (.int many)), z3, z4] st) (endB (Dr i j l st many)) := by
  have ⟨n1, n2, n3, m, c, seeds, kvs, h1, h2, h3, h4, h5, h6, h7, h8⟩ := h
  obtain ⟨w, o, hw, ho, hg⟩ := hp
  have g3 : getIx (.r i) (.p (.int 3)) st = some (.r l) := by simp [getIx, h1, ixOf]
  unfold sowT b__law_sow
  simp only [List.drop_succ_cons, List.drop_zero]
  rw [wp_cons]
  have t1 : exS (callF F (n + 1)) (.unp [3, 4] (.o2 .ix (.o2 .ix (.var 0) (.c (.int 3))) (.var 1))) [some (.r i), some (.p (.str p)), some (.p (.int many)), z3, z4] st = .ok (.nx, [some (.r i), some (.p (.str p)), some (.p (.int many)), some (.p (.int w)), some (.p (.int o))]) st := by
    simp [pre, g3, hg, setAll]
  rw [t1]
  show wpR (exB (callF F (n + 1)) _ _ _) _
  rw [wp_cons]
  by_cases hw2 : w < 2
  · rw [wp_iffB true (by simp [pre, bz, hw2])]
    have hk : mulOk (many - 1) w = true := by
      have : w = 0 ∨ w = 1 := by omega
      rcases this with rfl | rfl <;> (unfold mulOk; simp)
    simp [pre, hk]
    refine ⟨_, rfl, ?_, ?_, h, Same3.refl⟩
    · have : w = 0 ∨ w = 1 := by omega
      rcases this with rfl | rfl <;> simp <;> omega
    · have : w = 0 ∨ w = 1 := by omega
      rcases this with rfl | rfl <;> simp <;> omega
  · rw [wp_iffB false (by simp [pre, bz, hw2])]
    rw [if_neg (by decide), wp_nil, goOn_nx]
    have hm0 : 0 < many := by omega
    by_cases h9 : w = 9
    · subst h9
      simp [pre, bz, truth, op1, hm0]
      exact ⟨_, rfl, Int.emod_nonneg _ (by omega), Int.emod_lt_of_pos _ hm0, h, Same3.refl⟩
    · obtain ⟨d, st', e1, v, rfl, hv, hf, hs, _⟩ := wpR_out (furrow_ok n h)
      simp [pre, bz, truth, op1, hm0, h9, callD, e1]
      exact ⟨_, rfl, Int.emod_nonneg _ (by omega), Int.emod_lt_of_pos _ hm0, hf, hs⟩
theorem fd_get {i j l : Nat} {st : Store} {p : Str} {kvs : List (Str × Int × Int)} (h3 : st[l]? = some (.dic (kvs.map kvD))) (h8 : ∀ q ∈ kvs, q.1 ∈ PL ∧ 0 ≤ q.2.1 ∧ 0 ≤ q.2.2) (h : p ∈ kvs.map (·.1)) :
    ∃ w o : Int, 0 ≤ w ∧ 0 ≤ o ∧ getIx (.r l) (.p (.str p)) st = some (.p (.tuple [.int w, .int o])) := by
  obtain ⟨q, q1, q2, q3⟩ := dg_some h
  exact ⟨_, _, (h8 q q1).2.1, (h8 q q1).2.2, by rw [getIx_dic h3, q3]⟩
theorem sow_ok (n : Nat) {i j l : Nat} {st : Store} {p : Str} {many : Int} (h : Fd i j l st) (hp : p ∈ PL) (hm : 1 ≤ many) :
    wpR (callF F (n + 2) f__law_sow [.r i, .p (.str p), .p (.int many)] st) (Dr i j l st many) := by
  rw [wp_call (d := d__law_sow) rfl ⟨rfl, by decide⟩]
  have ⟨n1, n2, n3, m, c, seeds, kvs, h1, h2, h3, h4, h5, h6, h7, h8⟩ := h
  have g3 : getIx (.r i) (.p (.int 3)) st = some (.r l) := by simp [getIx, h1, ixOf]
  show wpR (exB (callF F (n + 1)) b__law_sow [some (.r i), some (.p (.str p)), some (.p (.int many)), none, none] st) _
  have hsplit : b__law_sow = b__law_sow.head (by decide) :: sowT := rfl
  rw [hsplit, wp_cons]
  show wpR (exS (callF F (n + 1)) (.iff (.o2 .nin (.var 1) (.o2 .ix (.var 0) (.c (.int 3)))) _ []) _ _) _
  by_cases hk : p ∈ kvs.map (·.1)
  · obtain ⟨q, q1, q2, q3⟩ := dg_some hk
    rw [wp_iffB false (by simp [pre, g3, inD, h3, keyOk, q3, bz])]
    rw [if_neg (by decide), wp_nil, goOn_nx]
    exact sow_tail n h hm (fd_get (i := i) (j := j) h3 h8 hk)
  · rw [wp_iffB true (by simp [pre, g3, inD, h3, keyOk, dg_none hk, bz])]
    rw [if_pos rfl]
    obtain ⟨d, s1, e1, v, rfl, hv, hf, hs, ha⟩ := wpR_out (furrow_ok n h)
    obtain ⟨d, s2, e2, u, rfl, hu, hf2, hs2, hb⟩ := wpR_out (furrow_ok n hf)
    have ⟨_, _, _, m', c', seeds', kvs', k1, k2, k3, k4, k5, k6, k7, k8⟩ := hf2
    have g4 : getIx (.r i) (.p (.int 3)) s2 = some (.r l) := by simp [getIx, k1, ixOf]
    have hd : s2[l]? = some (.dic (kvs.map kvD)) := by rw [hb, ha, h3]
    have hlen : (kvs.map kvD).length < sizeLine := by
      have := nodup_len (ys := PL) h7 (fun x hx => by
        obtain ⟨q, q1, rfl⟩ := List.mem_map.mp hx
        exact (h8 q q1).1)
      rw [List.length_map] at this ⊢
      have hPL : PL.length = 20 := rfl
      exact Nat.lt_of_le_of_lt (m := 20) (by omega) (by rw [sizeLine_eq]; decide)
    have hset : setIx (.r l) (.p (.str p)) (.p (.tuple [.int (v % 10), .int (u % 353)])) s2 = some (s2.set l (.dic ((kvs ++ [(p, v % 10, u % 353)]).map kvD))) := by
      rw [← dp_new hk]
      simp only [setIx, hd]
      rw [if_pos (by rw [decide_eq_true hlen]; rfl)]
    have t1 : exS (callF F (n + 1)) (.setix (.o2 .ix (.var 0) (.c (.int 3))) (.var 1) (.tup [.o2 .mod (.o1 .int (.call false 9 [.var 0])) (.c (.int 10)), .o2 .mod (.o1 .int (.call false 9 [.var 0])) (.c (.int 353))])) [some (.r i), some (.p (.str p)), some (.p (.int many)), none, none] st =
        .ok (.nx, [some (.r i), some (.p (.str p)), some (.p (.int many)), none, none]) (s2.set l (.dic ((kvs ++ [(p, v % 10, u % 353)]).map kvD))) := by
      simp [callD, e1, e2, op1, pre, allP, sizeLine_eq, g4, hset]
    rw [wp_cons]
    refine wpR_eq t1 ?_
    rw [goOn_nx, wp_nil, goOn_nx]
    have hF : Fd i j l (s2.set l (.dic ((kvs ++ [(p, v % 10, u % 353)]).map kvD))) := by
      refine ⟨n1, n2, n3, m', c', seeds', kvs ++ [(p, v % 10, u % 353)], ?_, ?_, get_set hd, k4, k5, k6, ?_, ?_⟩
      · rw [get_set_ne (Ne.symm n2), k1]
      · rw [get_set_ne (Ne.symm n3), k2]
      · rw [List.map_append, List.nodup_append]
        refine ⟨h7, by simp, fun a ha b hb => ?_⟩
        rintro rfl
        simp at hb
        exact hk (hb ▸ ha)
      · intro q hq
        rcases List.mem_append.mp hq with hq | hq
        · exact h8 q hq
        · simp only [List.mem_singleton] at hq
          subst hq
          exact ⟨hp, Int.emod_nonneg _ (by decide), Int.emod_nonneg _ (by decide)⟩
    have hk8 : ∀ q ∈ kvs ++ [(p, v % 10, u % 353)], q.1 ∈ PL ∧ 0 ≤ q.2.1 ∧ 0 ≤ q.2.2 := by
      intro q hq
      rcases List.mem_append.mp hq with hq | hq
      · exact h8 q hq
      · simp only [List.mem_singleton] at hq
        subst hq
        exact ⟨hp, Int.emod_nonneg _ (by decide), Int.emod_nonneg _ (by decide)⟩
    refine wpR_mono (sow_tail n hF hm (fd_get (i := i) (j := j) (get_set hd) hk8 (by simp))) ?_
    · rintro ⟨fl, e⟩ st3 hq
      have hS : Same3 i j l st (s2.set l (.dic ((kvs ++ [(p, v % 10, u % 353)]).map kvD))) := (hs.trans hs2).trans Same3.set3
      cases fl with
      | rt d =>
        obtain ⟨x, x1, x2, x3, x4, x5⟩ := hq
        exact ⟨x, x1, x2, x3, x4, hS.trans x5⟩
      | nx =>
        obtain ⟨x, x1, x2, x3, x4, x5⟩ := hq
        exact ⟨x, x1, x2, x3, x4, hS.trans x5⟩
      | bk => exact hq
      | ct => exact hq
end Lw
namespace Lw
open PySem Dn
def fIn : List S := [.iff (.orr [.an [.o2 .lt (.var 4) (.o2 .pow (.c (.int 10)) (.c (.int 18))), .o2 .eq (.var 5) (.c (.int 0))], .o2 .eq (.var 4) (.c (.int 0))]) [.brk] [],
    .ex (.o2 .app (.var 2) (.o2 .mod (.o1 .int (.var 4)) (.c (.int 9829)))),
    .set 4 (.o2 .fdv (.var 4) (.c (.int 9829)))]
def sI (seeds : List Int) : Store := [.lst (seeds.map fun s => .p (.int s))]
def fEnv (script : PyData) (cell m : Int) (z4 z5 : Option D) : Sl := [some (.p script), some (.p (.int cell)), some (.r 0), some (.p (.int m)), z4, z5]
theorem app_at {us : List D} {y : D} (h : us.length < sizeLine) : op2 .app (.r 0) y [.lst us] = .ok (.p .none) [.lst (us ++ [y])] := by
  rw [op2_app]
  exact if_pos h
theorem pow18 {st : Store} : op2 .pow (.p (.int 10)) (.p (.int 18)) st = .ok (.p (.int 1000000000000000000)) st := by
  unfold op2
  show (if _ then _ else _) = _
  rw [if_pos (by decide)]
  rfl
def pFi (script : PyData) (cell m : Int) (B : Nat) (items : List Dn.It) (env : Sl) (st : Store) : Prop :=
  ∃ (seeds : List Int) (size c : Int) (k : Nat) (z5 : Option D), items = rangeI c 1 k ∧ env = fEnv script cell m (some (.p (.int size))) z5 ∧ st = sI seeds ∧ (∀ s ∈ seeds, 0 ≤ s) ∧ seeds.length + k ≤ B ∧ 0 ≤ size
def qFi (script : PyData) (cell m : Int) (B : Nat) (r : Dn.Flow × Sl) (st : Store) : Prop :=
  r.1 = .nx ∧ ∃ (seeds : List Int) (z4 z5 : Option D), r.2 = fEnv script cell m z4 z5 ∧ st = sI seeds ∧ (∀ s ∈ seeds, 0 ≤ s) ∧ seeds.length ≤ B
theorem inner_ok (n : Nat) (script : PyData) (cell m size : Int) (z5 : Option D) (seeds : List Int) (hs : ∀ s ∈ seeds, 0 ≤ s) (h0 : 0 ≤ size) (B : Nat) (hB : seeds.length + 114 ≤ B) (hB2 : B ≤ 1000000) :
    wpR (exS (callF F n) (.for_ (.one 5) 1 [.c (.int 114)] fIn) (fEnv script cell m (some (.p (.int size))) z5) (sI seeds)) (qFi script cell m B) := by
  rw [exS_forE (ds := [.p (.int 114)]) (st1 := sI seeds) rfl (walk_range (by omega) (by omega))]
  refine wp_for (pFi script cell m B) ?_ ?_ _ _ _ ⟨seeds, size, 0, 114, z5, rfl, rfl, rfl, hs, hB, h0⟩
  · rintro it items env st ⟨seeds, size, c, k, z5, e1, rfl, rfl, e2, e3, e4⟩
    obtain ⟨k, rfl, rfl, rfl⟩ := rangeI_cons e1
    refine ⟨rfl, ?_⟩
    rw [forF_at (e := fEnv script cell m (some (.p (.int size))) (some (.p (.int c)))) rfl]
    unfold fIn
    rw [wp_cons]
    by_cases hb : (size < 1000000000000000000 ∧ c = 0) ∨ size = 0
    · rw [wp_iffB true (by
        rcases hb with ⟨h1, h2⟩ | h1
        · simp [fEnv, pre, bz, truth, pow18, h1, h2]
        · subst h1
          by_cases h2 : c = 0 <;> simp [fEnv, pre, bz, truth, pow18, h2])]
      exact ⟨rfl, seeds, _, _, rfl, rfl, e2, by omega⟩
    · rw [wp_iffB false (by
        have h1 : ¬ size = 0 := fun h => hb (.inr h)
        by_cases h2 : size < 1000000000000000000
        · have h3 : ¬ c = 0 := fun h => hb (.inl ⟨h2, h⟩)
          simp [fEnv, pre, bz, truth, pow18, h1, h2, h3]
        · simp [fEnv, pre, bz, truth, pow18, h1, h2])]
      rw [if_neg (by decide), wp_nil, goOn_nx, wp_cons, wp_ex]
      have t1 : ev (callF F n) (.o2 .app (.var 2) (.o2 .mod (.o1 .int (.var 4)) (.c (.int 9829)))) (fEnv script cell m (some (.p (.int size))) (some (.p (.int c)))) (sI seeds) = .ok (.p .none) (sI (seeds ++ [size % 9829])) := by
        have hl : (seeds.map fun s => D.p (.int s)).length < sizeLine := by
          rw [List.length_map]
          exact Nat.lt_of_lt_of_le (m := seeds.length + 1) (by omega) (le_line (by omega))
        have := app_at (y := .p (.int (size % 9829))) hl
        simp only [sI]
        rw [List.map_append]
        rw [ev_o2]
        simp [fEnv, op1, pre, this]
        rfl
      rw [t1, wpR_ok, goOn_nx, wp_cons]
      have t2 : exS (callF F n) (.set 4 (.o2 .fdv (.var 4) (.c (.int 9829)))) (fEnv script cell m (some (.p (.int size))) (some (.p (.int c)))) (sI (seeds ++ [size % 9829])) = .ok (.nx, fEnv script cell m (some (.p (.int (size / 9829)))) (some (.p (.int c)))) (sI (seeds ++ [size % 9829])) := by
        simp [fEnv, pre, op2_fdv_at (show (0 : Int) < 9829 ∧ (9829 : Int) < 1073741824 by decide), setE]
      rw [t2, wpR_ok, goOn_nx, wp_nil]
      refine ⟨seeds ++ [size % 9829], size / 9829, c + 1, k, _, rfl, rfl, rfl, ?_, ?_, Int.ediv_nonneg e4 (by decide)⟩
      · intro s hs
        rcases List.mem_append.mp hs with hs | hs
        · exact e2 s hs
        · simp only [List.mem_singleton] at hs
          subst hs
          exact Int.emod_nonneg _ (by decide)
      · simp
        omega
  · rintro env st ⟨seeds, size, c, k, z5, e1, rfl, rfl, e2, e3, e4⟩
    exact ⟨rfl, rfl, seeds, _, _, rfl, rfl, e2, by omega⟩
end Lw
namespace Lw
open PySem Dn
def fOut : List S := [.set 4 (.o2 .mod (.o1 .abs (.o1 .int (.var 1))) (.o2 .shl (.c (.int 1)) (.c (.int 1500)))),
    .set 3 (.o2 .mod (.o1 .int (.o2 .add (.o2 .add (.o2 .add (.o2 .mul (.var 3) (.c (.int 30307))) (.o2 .mod (.var 4) (.c (.int 1000423)))) (.o2 .mul (.c (.int 3)) (.o1 .int (.o2 .lt (.o1 .int (.var 1)) (.c (.int 0)))))) (.c (.int 7)))) (.c (.int 2147483629))),
    .for_ (.one 5) 1 [.c (.int 114)] fIn]
theorem shl1500 {st : Store} : ∃ K : Int, 0 < K ∧ op2 .shl (.p (.int 1)) (.p (.int 1500)) st = .ok (.p (.int K)) st :=
  ⟨1 * ((2 ^ (1500 : Int).toNat : Nat) : Int), by
    rw [Int.one_mul]
    exact Int.natCast_pos.mpr (Nat.pow_pos (by decide)), by
    unfold op2
    exact if_pos ⟨by decide, by decide, by decide⟩⟩
def pFo (script : PyData) (items : List Dn.It) (env : Sl) (st : Store) : Prop :=
  ∃ (seeds cells : List Int) (m : Int) (z1 z4 z5 : Option D), items = cells.map (fun c => .one (.p (.int c))) ∧ env = [some (.p script), z1, some (.r 0), some (.p (.int m)), z4, z5] ∧ st = sI seeds ∧ (∀ s ∈ seeds, 0 ≤ s) ∧ 0 ≤ m ∧ seeds.length + 114 * cells.length ≤ 10000
theorem outer_step (n : Nat) (script : PyData) (cell m : Int) (z4 z5 : Option D) (seeds : List Int) (hs : ∀ s ∈ seeds, 0 ≤ s) (hm : 0 ≤ m) (B : Nat) (hB : seeds.length + 114 ≤ B) (hB2 : B ≤ 1000000) :
    wpR (exB (callF F n) fOut (fEnv script cell m z4 z5) (sI seeds)) (fun r st => ∃ m' : Int, 0 ≤ m' ∧ qFi script cell m' B r st) := by
  obtain ⟨K, hK, hk⟩ := shl1500 (st := sI seeds)
  unfold fOut
  rw [wp_cons]
  have t1 : ∃ size : Int, 0 ≤ size ∧ exS (callF F n) (.set 4 (.o2 .mod (.o1 .abs (.o1 .int (.var 1))) (.o2 .shl (.c (.int 1)) (.c (.int 1500))))) (fEnv script cell m z4 z5) (sI seeds) = .ok (.nx, fEnv script cell m (some (.p (.int size))) z5) (sI seeds) := by
    refine ⟨(if cell < 0 then -cell else cell) % K, Int.emod_nonneg _ (by omega), ?_⟩
    simp [fEnv, op1, pre, hk, op2_mod_at hK, setE]
  obtain ⟨size, h0, t1⟩ := t1
  rw [t1, wpR_ok, goOn_nx, wp_cons]
  have t2 : ∃ m' : Int, 0 ≤ m' ∧ exS (callF F n) (.set 3 (.o2 .mod (.o1 .int (.o2 .add (.o2 .add (.o2 .add (.o2 .mul (.var 3) (.c (.int 30307))) (.o2 .mod (.var 4) (.c (.int 1000423)))) (.o2 .mul (.c (.int 3)) (.o1 .int (.o2 .lt (.o1 .int (.var 1)) (.c (.int 0)))))) (.c (.int 7)))) (.c (.int 2147483629)))) (fEnv script cell m (some (.p (.int size))) z5) (sI seeds) = .ok (.nx, fEnv script cell m' (some (.p (.int size))) z5) (sI seeds) := by
    refine ⟨(m * 30307 + size % 1000423 + 3 * (if cell < 0 then 1 else 0) + 7) % 2147483629, Int.emod_nonneg _ (by decide), ?_⟩
    have k1 : mulOk m 30307 = true := by unfold mulOk; simp
    have k2 : ∀ x, mulOk 3 x = true := by intro x; unfold mulOk; simp
    by_cases hc : cell < 0 <;> simp [fEnv, op1, pre, k1, k2, setE, bz, hc]
  obtain ⟨m', hm', t2⟩ := t2
  rw [t2, wpR_ok, goOn_nx, wp_cons]
  refine wpR_mono (inner_ok n script cell m' size z5 seeds hs h0 B hB hB2) ?_
  rintro ⟨fl, e⟩ st ⟨h1, h2⟩
  cases h1
  rw [goOn_nx, wp_nil]
  exact ⟨m', hm', rfl, h2⟩
end Lw
namespace Lw
open PySem Dn
theorem cut57 {α : Type} {xs : List α} : ∃ k : Nat, k ≤ 57 ∧ cut xs none (some 57) = xs.take k := by
  refine ⟨clip xs.length xs.length (some 57) - clip xs.length 0 none, ?_, ?_⟩
  · simp [clip]
    omega
  · unfold cut
    simp [clip]
theorem field_ok (n : Nat) (ns : List Int) : wpR (callF F (n + 1) f__law_field [.p (.list (ns.map .int))] []) (fun d st => d = .r 3 ∧ Fd 3 1 2 st ∧ st.length = 4) := by
  rw [wp_call (d := d__law_field) rfl ⟨rfl, by decide⟩]
  show wpR (exB (callF F n) b__law_field [some (.p (.list (ns.map .int))), none, none, none, none, none] []) _
  unfold b__law_field
  rw [wp_cons]
  have t1 : exS (callF F n) (.par [2, 3] [.lst true [], .c (.int 10007)]) [some (.p (.list (ns.map .int))), none, none, none, none, none] [] = .ok (.nx, [some (.p (.list (ns.map .int))), none, some (.r 0), some (.p (.int 10007)), none, none]) (sI []) := by
    simp [newL, Dn.alloc, setAll, sizeLine_eq, sI]
  rw [t1, wpR_ok, goOn_nx, wp_cons]
  have t2 : ∃ cells : List Int, cells.length ≤ 57 ∧ evs (callF F n) [.sl false (.var 0) .none (.some (.c (.int 57)))] [some (.p (.list (ns.map .int))), none, some (.r 0), some (.p (.int 10007)), none, none] (sI []) = .ok [.p (.list (cells.map .int))] (sI []) := by
    obtain ⟨k, hk, hc⟩ := cut57 (xs := ns.map PyData.int)
    refine ⟨ns.take k, by simp; omega, ?_⟩
    have hn : ∀ ds : List PyData, ds.length ≤ 57 → newL false (ds.map D.p) (sI []) = .ok (.p (.list ds)) (sI []) := fun ds h => by
      unfold newL
      rw [if_neg (Nat.not_lt.mpr (by rw [List.length_map]; exact le_line (by omega))), allP_map]
      rfl
    have := hn ((ns.take k).map .int) (by simp; omega)
    simp only [List.map_take, List.map_map] at this
    simp [cutD, asNew, hc, this]
  obtain ⟨cells, hc, t2⟩ := t2
  have hw : walkOf 0 [.p (.list (cells.map .int))] (sI []) = some (cells.map fun c => .one (.p (.int c))) := by
    simp [walkOf, seqD]
  rw [exS_forE t2 hw]
  refine wp_for (pFo (.list (ns.map .int))) ?_ ?_ _ _ _ ⟨[], cells, 10007, _, _, _, rfl, rfl, rfl, by simp, by decide, by simp; omega⟩
  · rintro it items env st ⟨seeds, cells, m, z1, z4, z5, e1, rfl, rfl, e2, e3, e4⟩
    cases cells with
    | nil => cases e1
    | cons c cells =>
      simp only [List.map_cons, List.cons.injEq] at e1
      obtain ⟨rfl, rfl⟩ := e1
      refine ⟨rfl, ?_⟩
      rw [forF_at (e := fEnv (.list (ns.map .int)) c m z4 z5) rfl]
      simp only [List.length_cons] at e4
      refine wpR_mono (outer_step n _ c m z4 z5 seeds e2 e3 (seeds.length + 114) (by omega) (by omega)) ?_
      rintro ⟨fl, e⟩ st ⟨m', hm', h1, seeds', z4', z5', h2, rfl, h3, h4⟩
      cases h1
      cases h2
      exact ⟨seeds', cells, m', _, _, _, rfl, rfl, rfl, h3, hm', by omega⟩
  · rintro env st ⟨seeds, cells, m, z1, z4, z5, e1, rfl, rfl, e2, e3, e4⟩
    refine ⟨rfl, ?_⟩
    rw [goOn_nx, wp_cons]
    have hmm : (seeds.map fun s => D.p (.int s)) = (seeds.map PyData.int).map D.p := by rw [List.map_map]; rfl
    have hl : listP (.r 0) (sI seeds) = some (seeds.map .int) := by
      show allP _ = _
      rw [hmm, allP_map]
    have hn : newL true ((seeds.map PyData.int).reverse.map D.p) (sI seeds) = .ok (.r 1) (sI seeds ++ [.lst ((seeds.map PyData.int).reverse.map D.p)]) := by
      unfold newL
      rw [if_neg (Nat.not_lt.mpr (by simp; exact le_line (by omega)))]
      rfl
    have t3 : ev (callF F n) (.lst true [.var 3, .rv true (.var 2), .c (.int 0), .dic []]) [some (.p (.list (ns.map .int))), z1, some (.r 0), some (.p (.int m)), z4, z5] (sI seeds) = .ok (.r 3) (sI seeds ++ [.lst ((seeds.map PyData.int).reverse.map D.p)] ++ [.dic []] ++ [.lst [.p (.int m), .r 1, .p (.int 0), .r 2]]) := by
      simp only [List.map_reverse, List.map_map] at hn
      have hd0 : ∀ (e : Sl) (st : Store), ev (callF F n) (.dic []) e st = Dn.alloc (.dic []) st := fun _ _ => rfl
      simp [revD, hl, asNew, hn, hd0]
      simp [newL, Dn.alloc, sizeLine_eq, sI]
    rw [wp_ret, t3]
    refine ⟨rfl, ⟨by decide, by decide, by decide, m, 0, seeds.reverse, [], rfl, ?_, rfl, ?_, e3, by decide, by simp, by simp⟩, rfl⟩
    · show some (Ob.lst _) = _
      rw [← List.map_reverse, List.map_map]
      rfl
    · intro s hs
      exact e2 s (by simpa using hs)
end Lw
namespace Lw
open PySem Dn
/-- a comprehension that draws: with an invariant -/
theorem wp_compI {Φ : Calls} {env : Sl} {st : Store} {elt : E} {tg : Tg} {k : Nat} {its ifs : List E} {ds : List D} {items : List Dn.It} (P : List Dn.It → List PyData → Store → Prop)
    (h1 : evs Φ its env st = .ok ds st) (h2 : walkOf k ds st = some items)
    (hstep : ∀ x xs acc st1, P (x :: xs) acc st1 → still ds st st1 = true ∧ wpR (compF Φ elt tg ifs env x st1) (fun o st2 => ∃ o' : Option PyData, o = o'.map .p ∧ P xs (acc ++ o'.toList) st2))
    (hend : ∀ acc st1, P [] acc st1 → still ds st st1 = true ∧ acc.length ≤ sizeLine) (h0 : P items [] st) :
    wpR (ev Φ (.comp false elt tg k its ifs) env st) (fun d st' => ∃ ys, d = .p (.list ys) ∧ P [] ys st') := by
  rw [ev_compF h1 h2, wpR_nox, wpR_bind]
  have := wp_comp (ok := fun st1 => still ds st st1) (f := compF Φ elt tg ifs env) (Q := fun dd st' => ∃ ys : List PyData, dd = ys.map .p ∧ P [] ys st') (fun its accD st1 => ∃ acc : List PyData, accD = acc.map .p ∧ P its acc st1) (by
    rintro x xs accD st1 ⟨acc, rfl, hp⟩
    obtain ⟨q1, q2⟩ := hstep x xs acc st1 hp
    refine ⟨q1, wpR_mono q2 ?_⟩
    rintro o st2 ⟨o', rfl, hp'⟩
    exact ⟨acc ++ o'.toList, by cases o' <;> simp, hp'⟩) (by
    rintro accD st1 ⟨acc, rfl, hp⟩
    exact ⟨(hend acc st1 hp).1, acc, rfl, hp⟩) items [] st ⟨[], rfl, h0⟩
  refine wpR_mono this ?_
  rintro dd st' ⟨ys, e, hp⟩
  rw [List.nil_append] at e
  subst e
  have hl := (hend ys st' hp).2
  unfold newL
  rw [if_neg (Nat.not_lt.mpr (by rw [List.length_map]; exact hl)), allP_map]
  exact ⟨ys, rfl, hp⟩
/-- some of them, as the field says -/
theorem pick_ok {Φ : Calls} {env : Sl} {st : Store} {v x1 : Nat} {ifs : List E} {xs : List PyData} (I : Store → Prop) (hx : env[x1]? = some (some (.p (.tuple xs)))) (hv : v < env.length) (hl : xs.length ≤ 1000) (hI : I st)
    (hc : ∀ x ∈ xs, ∀ st1, I st1 → wpR (evAn Φ ifs (env.set v (some (.p x))) st1) (fun d st2 => ∃ b, truth d = some b ∧ I st2)) :
    wpR (ev Φ (.comp false (.var v) (.one v) 0 [.var x1] ifs) env st) (fun d st' => ∃ ys, d = .p (.list ys) ∧ ys.Sublist xs ∧ I st') := by
  have h1 : evs Φ [.var x1] env st = .ok [.p (.tuple xs)] st := by simp [hx]
  have h2 : walkOf 0 [.p (.tuple xs)] st = some (xs.map fun x => .one (.p x)) := by simp [walkOf, seqD]
  refine wpR_mono (wp_compI (fun items acc st1 => ∃ done rest : List PyData, xs = done ++ rest ∧ items = rest.map (fun x => .one (.p x)) ∧ acc.Sublist done ∧ I st1) h1 h2 ?_ ?_ ⟨[], xs, rfl, rfl, .slnil, hI⟩) ?_
  · rintro x items acc st1 ⟨done, rest, e1, e2, e3, e4⟩
    refine ⟨rfl, ?_⟩
    cases rest with
    | nil => cases e2
    | cons y rest =>
      simp only [List.map_cons, List.cons.injEq] at e2
      obtain ⟨rfl, rfl⟩ := e2
      have hb : bindT (.one v) (.one (.p y)) (wipeE env (Tg.one v).slots) = some (env.set v (some (.p y))) := by
        simp [bindT, setAll, wipeE, Tg.slots, setE, hv]
      unfold compF
      simp only [hb]
      rw [wpR_bind]
      refine wpR_mono (hc y (by rw [e1]; simp) st1 e4) ?_
      rintro d st2 ⟨b, h3, h4⟩
      rw [h3]
      cases b with
      | false => exact ⟨none, rfl, done ++ [y], rest, by simp [e1], rfl, by simpa using List.Sublist.trans e3 (List.sublist_append_left _ _), h4⟩
      | true =>
        have hg : (env.set v (some (.p y)))[v]? = some (some (.p y)) := List.getElem?_set_self hv
        simp only [ev_var, hg, Res.bind_ok, wpR_ok]
        exact ⟨some y, rfl, done ++ [y], rest, by simp [e1], rfl, List.Sublist.append e3 (List.Sublist.refl _), h4⟩
  · rintro acc st1 ⟨done, rest, e1, e2, e3, e4⟩
    refine ⟨rfl, le_line ?_⟩
    have := e3.length_le
    have h5 : xs.length = done.length + rest.length := by rw [e1]; simp
    omega
  · rintro d st1 ⟨ys, rfl, done, rest, e1, e2, e3, e4⟩
    refine ⟨ys, rfl, ?_, e4⟩
    rw [e1]
    exact List.Sublist.trans e3 (List.sublist_append_left _ _)
end Lw
namespace Lw
open PySem Dn
/-- the field, since st -/
def Fs (i j l : Nat) (st st' : Store) : Prop := Fd i j l st' ∧ Same3 i j l st st'
theorem ev_pickc (n : Nat) {i j l : Nat} {st : Store} {env : Sl} {f : Nat} {p : Str} {many : Int} (h : Fd i j l st) (hf : env[f]? = some (some (.r i))) (hp : p ∈ PL) (hm : 1 ≤ many) :
    wpR (ev (callF F (n + 2)) (.call false 10 [.var f, .c (.str p), .c (.int many)]) env st) (Dr i j l st many) := by
  simp [hf, callD]
  exact sow_ok n h hp hm
theorem way_ok (n : Nat) {i j l : Nat} {st : Store} {xs : List PyData} (h : Fd i j l st) (hx : xs ≠ []) (hl : xs.length ≤ 1000) :
    wpR (callF F (n + 3) f__law_way [.r i, .p (.tuple xs)] st) (fun d st' => ∃ ys, d = .p (.tuple ys) ∧ ys ≠ [] ∧ ys.Sublist xs ∧ Fs i j l st st') := by
  rw [wp_call (d := d__law_way) rfl ⟨rfl, by decide⟩]
  show wpR (exB (callF F (n + 2)) b__law_way [some (.r i), some (.p (.tuple xs)), none, none] st) _
  unfold b__law_way
  rw [wp_cons, wp_set, ev_o1, wpR_bind]
  refine wpR_mono (pick_ok (xs := xs) (Fs i j l st) rfl (by simp) hl ⟨h, Same3.refl⟩ ?_) ?_
  · rintro x hx st1 ⟨h1, h2⟩
    obtain ⟨d, st2, e1, v, rfl, hv0, hv1, h3, h4⟩ := wpR_out (sow_ok n (p := "on path") (many := 2) h1 (by decide) (by decide))
    simp [callD, e1, pre, bz, truth]
    exact ⟨by omega, h3, h2.trans h4⟩
  · rintro d st1 ⟨ys, rfl, hs, h1, h2⟩
    have hly := hs.length_le
    simp [op1, pre, setE]
    cases ys with
    | cons y ys =>
      simp
      exact ⟨hs, h1, h2⟩
    | nil =>
      have hpos : 0 < xs.length := List.length_pos_iff.mpr hx
      obtain ⟨d, st2, e1, v, rfl, hv0, hv1, h3, h4⟩ := wpR_out (sow_ok n (p := "alone") (many := xs.length) h1 (by decide) (by omega))
      obtain ⟨k, rfl⟩ := Int.eq_ofNat_of_zero_le hv0
      have hk : k < xs.length := by omega
      have hg : getIx (.p (.tuple xs)) (.p (.int (k : Int))) st2 = some (.p xs[k]) := by rw [getIx_tup, List.getElem?_eq_getElem hk]; rfl
      simp [callD, e1, hg, allP, sizeLine_eq]
      exact ⟨h3, h2.trans h4⟩
end Lw
namespace Lw
open PySem Dn
theorem set_ok (n : Nat) {i j l : Nat} {st : Store} {xs : List PyData} (h : Fd i j l st) (hx : xs ≠ []) (hl : xs.length ≤ 1000) {p : Str} (hp : p ∈ PL) :
    wpR (callF F (n + 3) f__law_set [.r i, .p (.tuple xs), .p (.str p)] st) (fun d st' => ∃ ys, d = .p (.tuple ys) ∧ ys ≠ [] ∧ ys.Sublist xs ∧ Fs i j l st st') := by
  rw [wp_call (d := d__law_set) rfl ⟨rfl, by decide⟩]
  show wpR (exB (callF F (n + 2)) b__law_set [some (.r i), some (.p (.tuple xs)), some (.p (.str p)), none, none] st) _
  unfold b__law_set
  rw [wp_cons, wp_set, ev_o1, wpR_bind]
  refine wpR_mono (pick_ok (xs := xs) (Fs i j l st) rfl (by simp) hl ⟨h, Same3.refl⟩ ?_) ?_
  · rintro x hx st1 ⟨h1, h2⟩
    obtain ⟨d, st2, e1, v, rfl, hv0, hv1, h3, h4⟩ := wpR_out (sow_ok n (p := p) (many := 3) h1 hp (by decide))
    simp [callD, e1, pre, bz, truth]
    exact ⟨by omega, h3, h2.trans h4⟩
  · rintro d st1 ⟨ys, rfl, hs, h1, h2⟩
    have hly := hs.length_le
    simp [op1, pre, setE]
    cases ys with
    | cons y ys =>
      simp
      exact ⟨hs, h1, h2⟩
    | nil =>
      have hpos : 0 < xs.length := List.length_pos_iff.mpr hx
      obtain ⟨d, st2, e1, v, rfl, hv0, hv1, h3, h4⟩ := wpR_out (sow_ok n (p := "one") (many := xs.length) h1 (by decide) (by omega))
      obtain ⟨k, rfl⟩ := Int.eq_ofNat_of_zero_le hv0
      have hk : k < xs.length := by omega
      have hg : getIx (.p (.tuple xs)) (.p (.int (k : Int))) st2 = some (.p xs[k]) := by rw [getIx_tup, List.getElem?_eq_getElem hk]; rfl
      simp [callD, e1, hg, allP, sizeLine_eq]
      exact ⟨h3, h2.trans h4⟩
end Lw
namespace Lw
open PySem Dn
theorem erase_map {α β : Type} (f : α → β) : ∀ (xs : List α) (t : Nat), (xs.map f).eraseIdx t = (xs.eraseIdx t).map f
  | [], t => rfl
  | x :: xs, 0 => rfl
  | x :: xs, t + 1 => by simp [erase_map f xs t]
theorem erase_perm {α : Type} : ∀ (xs : List α) (t : Nat) (h : t < xs.length), ([xs[t]] ++ xs.eraseIdx t).Perm xs
  | [], t, h => absurd h (by simp)
  | x :: xs, 0, h => List.Perm.refl _
  | x :: xs, t + 1, h => by
    have ih := erase_perm xs t (by simpa using h)
    simp only [List.getElem_cons_succ, List.eraseIdx_cons_succ, List.singleton_append] at ih ⊢
    exact (List.Perm.swap _ _ _).trans (ih.cons x)
abbrev pS (s : Str) : D := .p (.str s)
def pPop (i j l k : Nat) (names : List Str) (N : Nat) (L : Nat) (items : List Dn.It) (acc : List PyData) (st1 : Store) : Prop :=
  ∃ (ys rest : List Str) (c : Int) (m : Nat), items = rangeI c 1 m ∧ acc = ys.map .str ∧ st1[k]? = some (.lst (rest.map pS)) ∧ (ys ++ rest).Perm names ∧ ys.length + m = N ∧ Fd i j l st1 ∧ st1.length = L
theorem pops_ok (n : Nat) {i j l k a f v : Nat} {st : Store} {env : Sl} {names : List Str} {p : Str} {cnt : E} {N : Nat} (h : Fd i j l st) (hf : env[f]? = some (some (.r i))) (ha : env[a]? = some (some (.r k))) (hv : v < env.length) (hfv : f ≠ v) (hav : a ≠ v)
    (hk : st[k]? = some (.lst (names.map pS))) (hki : k ≠ i) (hkj : k ≠ j) (hkl : k ≠ l) (hp : p ∈ PL) (hcnt : evs (callF F (n + 2)) [cnt] env st = .ok [.p (.int N)] st) (hN : N ≤ names.length) (hN2 : N ≤ 1000) :
    wpR (ev (callF F (n + 2)) (.comp false (.o2 .popi (.var a) (.call false 10 [.var f, .c (.str p), .o1 .len (.var a)])) (.one v) 1 [cnt] []) env st)
      (fun d st' => ∃ ys rest : List Str, d = .p (.list (ys.map .str)) ∧ (ys ++ rest).Perm names ∧ ys.length = N ∧ Fd i j l st' ∧ st'.length = st.length) := by
  refine wpR_mono (wp_compI (pPop i j l k names N st.length) hcnt (items := rangeI 0 1 N) (by rw [walk_range (by omega) (by omega), Int.toNat_natCast]) ?_ ?_ ⟨[], names, 0, N, rfl, rfl, hk, List.Perm.refl _, by simp, h, rfl⟩) ?_
  · rintro x items acc st1 ⟨ys, rest, c, m, e1, rfl, e2, e3, e4, e5, e6⟩
    obtain ⟨m, rfl, rfl, rfl⟩ := rangeI_cons e1
    refine ⟨rfl, ?_⟩
    have hlen := e3.length_eq
    rw [List.length_append] at hlen
    have hb : bindT (.one v) (.one (.p (.int c))) (wipeE env (Tg.one v).slots) = some (env.set v (some (.p (.int c)))) := by
      simp [bindT, setAll, wipeE, Tg.slots, setE, hv]
    have hf' : (env.set v (some (.p (.int c))))[f]? = some (some (.r i)) := by rw [List.getElem?_set_ne (Ne.symm hfv), hf]
    have ha' : (env.set v (some (.p (.int c))))[a]? = some (some (.r k)) := by rw [List.getElem?_set_ne (Ne.symm hav), ha]
    obtain ⟨d, st2, q1, t, rfl, q2, q3, q4, q5⟩ := wpR_out (sow_ok n (p := p) (many := rest.length) e5 hp (by omega))
    obtain ⟨t, rfl⟩ := Int.eq_ofNat_of_zero_le q2
    have ht : t < rest.length := by omega
    have hk2 : st2[k]? = some (.lst (rest.map pS)) := by rw [q5.2 k hki hkj hkl, e2]
    have hpop : op2 .popi (.r k) (.p (.int (t : Int))) st2 = .ok (pS rest[t]) (st2.set k (.lst ((rest.eraseIdx t).map pS))) := by
      unfold op2
      simp only [hk2, List.length_map]
      rw [ixOf_nat, if_pos ht]
      simp only [List.getElem?_map, List.getElem?_eq_getElem ht, Option.map_some]
      rw [erase_map]
    unfold compF
    simp only [hb]
    simp [hf', ha', callD, op1, e2, q1, truth, bz, pre, hk2, isLst, hpop]
    refine ⟨some (.str rest[t]), rfl, ys ++ [rest[t]], rest.eraseIdx t, c + 1, m, rfl, by simp, get_set hk2, ?_, by simp; omega, ?_, by rw [List.length_set, q5.1, e6]⟩
    · refine List.Perm.trans ?_ e3
      rw [List.append_assoc]
      refine List.Perm.append_left ys ?_
      exact erase_perm rest t ht
    · have ⟨n1, n2, n3, m', c', seeds, kvs, k1, k2, k3, kr⟩ := q4
      exact ⟨n1, n2, n3, m', c', seeds, kvs, by rw [get_set_ne hki, k1], by rw [get_set_ne hkj, k2], by rw [get_set_ne hkl, k3], kr⟩
  · rintro acc st1 ⟨ys, rest, c, m, e1, rfl, e2, e3, e4, e5, e6⟩
    exact ⟨rfl, le_line (by simp; omega)⟩
  · rintro d st1 ⟨ys, rfl, ys', rest, c, m, e1, rfl, e2, e3, e4, e5, e6⟩
    have := rangeI_nil e1
    exact ⟨ys', rest, rfl, e3, by omega, e5, e6⟩
end Lw
namespace Lw
open PySem Dn
def L11 : List Str := ["dry", "lit", "ash", "a", "b9", "q", "zzzzzzzz", "up", "s0", "k", "x1"]
def L10 : List Str := ["a", "catch", "out", "r1", "r2", "dry", "go", "zz", "m", "lit"]
theorem get_app {st o : Store} {k : Nat} {x : Ob} (h : st[k]? = some x) : (st ++ o)[k]? = some x := by
  rw [List.getElem?_append_left (List.getElem?_eq_some_iff.mp h).1, h]
theorem Fd.app {i j l : Nat} {st o : Store} (h : Fd i j l st) : Fd i j l (st ++ o) := by
  obtain ⟨n1, n2, n3, m, c, seeds, kvs, h1, h2, h3, hr⟩ := h
  exact ⟨n1, n2, n3, m, c, seeds, kvs, get_app h1, get_app h2, get_app h3, hr⟩
theorem Fd.lt {i j l : Nat} {st : Store} (h : Fd i j l st) : i < st.length ∧ j < st.length ∧ l < st.length := by
  obtain ⟨n1, n2, n3, m, c, seeds, kvs, h1, h2, h3, hr⟩ := h
  exact ⟨(List.getElem?_eq_some_iff.mp h1).1, (List.getElem?_eq_some_iff.mp h2).1, (List.getElem?_eq_some_iff.mp h3).1⟩
theorem Fd.set_ne {i j l k : Nat} {st : Store} {o : Ob} (h : Fd i j l st) (hi : k ≠ i) (hj : k ≠ j) (hl : k ≠ l) : Fd i j l (st.set k o) := by
  obtain ⟨n1, n2, n3, m, c, seeds, kvs, h1, h2, h3, hr⟩ := h
  exact ⟨n1, n2, n3, m, c, seeds, kvs, by rw [get_set_ne hi, h1], by rw [get_set_ne hj, h2], by rw [get_set_ne hl, h3], hr⟩
theorem newT {ds : List D} {st : Store} (h : ds.length ≤ 1000000) : newL true ds st = .ok (.r st.length) (st ++ [.lst ds]) := by
  unfold newL
  rw [if_neg (Nat.not_lt.mpr (le_line h))]
  rfl
def pRep (I : Store → Prop) (N : Nat) (items : List Dn.It) (acc : List PyData) (st1 : Store) : Prop := ∃ (c : Int) (m : Nat), items = rangeI c 1 m ∧ acc.length + m = N ∧ I st1
/-- so many times -/
theorem rep_ok {Φ : Calls} {env : Sl} {st : Store} {elt cnt : E} {v N : Nat} (I : Store → Prop) (hv : v < env.length) (hN : N ≤ 1000) (h : I st) (hcnt : evs Φ [cnt] env st = .ok [.p (.int N)] st)
    (he : ∀ c st1, I st1 → wpR (ev Φ elt (env.set v (some (.p (.int c)))) st1) (fun d st2 => ∃ y, d = .p y ∧ I st2)) :
    wpR (ev Φ (.comp false elt (.one v) 1 [cnt] []) env st) (fun d st' => ∃ ys : List PyData, d = .p (.list ys) ∧ ys.length = N ∧ I st') := by
  refine wpR_mono (wp_compI (pRep I N) hcnt (items := rangeI 0 1 N) (by rw [walk_range (by omega) (by omega), Int.toNat_natCast]) ?_ ?_ ⟨0, N, rfl, by simp, h⟩) ?_
  · rintro x items acc st1 ⟨c, m, e1, e2, e3⟩
    obtain ⟨m, rfl, rfl, rfl⟩ := rangeI_cons e1
    refine ⟨rfl, ?_⟩
    have hb : bindT (.one v) (.one (.p (.int c))) (wipeE env (Tg.one v).slots) = some (env.set v (some (.p (.int c)))) := by
      simp [bindT, setAll, wipeE, Tg.slots, setE, hv]
    unfold compF
    simp only [hb, evAn_nil, Res.bind_ok, truth_bz, wpR_bind]
    refine wpR_mono (he c st1 e3) ?_
    rintro d st2 ⟨y, rfl, h2⟩
    exact ⟨some y, rfl, c + 1, m, rfl, by simp; omega, h2⟩
  · rintro acc st1 ⟨c, m, e1, e2, e3⟩
    exact ⟨rfl, le_line (by omega)⟩
  · rintro d st1 ⟨ys, rfl, c, m, e1, e2, e3⟩
    have := rangeI_nil e1
    exact ⟨ys, rfl, by omega, e3⟩
abbrev bEnv (i : Nat) (z1 : Option D) (many : Int) (states : List PyData) (z4 z5 z6 z7 z8 z9 z10 z11 : Option D) : Sl := [some (.r i), z1, some (.p (.int many)), some (.p (.tuple states)), z4, z5, z6, z7, z8, z9, z10, z11]
def stI : S := .iff (.o2 .eq (.var 2) (.c (.int 4))) [.set 8 (.o1 .tup (.comp false (.tup [.o2 .ix (.var 3) (.call false 10 [.var 0, .c (.str "start"), .c (.int 3)])]) (.one 11) 1 [.c (.int 3)] []))] [.set 8 (.o1 .tup (.comp false (.call false 12 [.var 0, .ite (.o2 .gt (.call false 10 [.var 0, .c (.str "low"), .c (.int 3)]) (.c (.int 0))) (.sl false (.var 3) .none (.some (.c (.int 2)))) (.var 3), .c (.str "begin")]) (.one 11) 1 [.c (.int 3)] []))]
theorem cut_2 {α : Type} {xs : List α} : ∃ k, cut xs none (some 2) = xs.take k ∧ k = min 2 xs.length := by
  refine ⟨clip xs.length xs.length (some 2) - clip xs.length 0 none, ?_, ?_⟩
  · unfold cut
    simp [clip]
  · simp [clip]
theorem starts_ok (n : Nat) {i j l : Nat} {st : Store} {many : Int} {states : List PyData} {z1 z4 z5 z6 z7 z8 z9 z10 z11 : Option D} (h : Fd i j l st) (hs : (states.length : Int) = many) (h2 : 2 ≤ many) (h4 : many ≤ 4) :
    wpR (exS (callF F (n + 3)) stI (bEnv i z1 many states z4 z5 z6 z7 z8 z9 z10 z11) st) (fun r st' => ∃ v, r = (.nx, bEnv i z1 many states z4 z5 z6 z7 (some (.p v)) z9 z10 z11) ∧ Fd i j l st') := by
  unfold stI
  by_cases h5 : many = 4
  · subst h5
    rw [wp_iffB true (by simp [bEnv, pre, bz])]
    rw [if_pos rfl, wp_cons, wp_set, ev_o1, wpR_bind]
    refine wpR_mono (rep_ok (Fd i j l) (by simp [bEnv]) (by omega) h (N := 3) rfl ?_) ?_
    · intro c st1 h1
      obtain ⟨d, s1, e1, v, rfl, hv0, hv1, h3, _⟩ := wpR_out (sow_ok (n + 1) (p := "start") (many := 3) h1 (by decide) (by decide))
      obtain ⟨k, rfl⟩ := Int.eq_ofNat_of_zero_le hv0
      have hk : k < states.length := by omega
      have hg : getIx (.p (.tuple states)) (.p (.int (k : Int))) s1 = some (.p states[k]) := by rw [getIx_tup, List.getElem?_eq_getElem hk]; rfl
      simp [bEnv, callD, e1, hg, allP, sizeLine_eq, pre]
      exact h3
    · rintro d st1 ⟨ys, rfl, _, h1⟩
      simp [op1, listP, setE, bEnv]
      exact h1
  · rw [wp_iffB false (by simp [bEnv, pre, bz, h5])]
    rw [if_neg (by decide), wp_cons, wp_set, ev_o1, wpR_bind]
    refine wpR_mono (rep_ok (Fd i j l) (by simp [bEnv]) (by omega) h (N := 3) rfl ?_) ?_
    · intro c st1 h1
      obtain ⟨d, s1, e1, v, rfl, hv0, hv1, h3, _⟩ := wpR_out (sow_ok (n + 1) (p := "low") (many := 3) h1 (by decide) (by decide))
      obtain ⟨q, hq1, hq2⟩ := cut_2 (xs := states)
      have hne : ∀ xs : List PyData, xs = states.take q ∨ xs = states → xs ≠ [] ∧ xs.length ≤ 1000 := by
        intro xs hx
        have : xs.length ≠ 0 ∧ xs.length ≤ 1000 := by
          rcases hx with rfl | rfl
          · rw [List.length_take]; omega
          · omega
        exact ⟨fun e => this.1 (by rw [e]; rfl), this.2⟩
      by_cases hv : 0 < v
      · obtain ⟨d, s2, e2, ys, rfl, _, _, h6⟩ := wpR_out (set_ok n (p := "begin") h3 (hne _ (.inl rfl)).1 (hne _ (.inl rfl)).2 (by decide))
        simp [bEnv, callD, e1, pre, hv, truth, bz, hq1, e2]
        exact h6.1
      · obtain ⟨d, s2, e2, ys, rfl, _, _, h6⟩ := wpR_out (set_ok n (p := "begin") h3 (hne _ (.inr rfl)).1 (hne _ (.inr rfl)).2 (by decide))
        simp [bEnv, callD, e1, pre, hv, truth, bz, e2]
        exact h6.1
    · rintro d st1 ⟨ys, rfl, _, h1⟩
      simp [op1, listP, setE, bEnv]
      exact h1
end Lw
namespace Lw
open PySem Dn
def rulB : List S := [.set 9 (.call false 10 [.var 0, .c (.str "here"), .o2 .sub (.var 2) (.c (.int 1))]),
    .set 10 (.o2 .add (.o2 .add (.var 9) (.c (.int 1))) (.call false 10 [.var 0, .c (.str "next"), .o2 .sub (.o2 .sub (.var 2) (.c (.int 1))) (.var 9)])),
    .ex (.o2 .app (.var 6) (.tup [.var 7, .o2 .ix (.var 3) (.var 9), .o2 .ix (.var 3) (.var 10), .call false 12 [.var 0, .o2 .add (.var 3) (.tup [.c (.str "wall")]), .c (.str "left")], .call false 12 [.var 0, .o2 .add (.var 3) (.tup [.c (.str "wall")]), .c (.str "right")]]))]
def pRul (i j l k : Nat) (many : Int) (states used : List PyData) (z1 z4 z8 : Option D) (N : Nat) (items : List Dn.It) (env : Sl) (st : Store) : Prop :=
  ∃ (rs q : List PyData) (z7 z9 z10 z11 : Option D), items = q.map (fun x => .one (.p x)) ∧ env = bEnv i z1 many states z4 (some (.p (.list used))) (some (.r k)) z7 z8 z9 z10 z11 ∧ st[k]? = some (.lst (rs.map .p)) ∧ Fd i j l st ∧ rs.length + q.length = N
theorem rules_ok (n : Nat) {i j l k : Nat} {st : Store} {many : Int} {states used : List PyData} {z1 z4 z7 z8 z9 z10 z11 : Option D} (h : Fd i j l st) (hs : (states.length : Int) = many) (h2 : 2 ≤ many) (h4 : many ≤ 4)
    (hk : st[k]? = some (.lst [])) (hki : k ≠ i) (hkj : k ≠ j) (hkl : k ≠ l) (hu : used.length ≤ 100) :
    wpR (exS (callF F (n + 3)) (.for_ (.one 7) 0 [.var 5] rulB) (bEnv i z1 many states z4 (some (.p (.list used))) (some (.r k)) z7 z8 z9 z10 z11) st) (fun r st' => r.1 = .nx ∧ ∃ (rs : List PyData) (z7 z9 z10 z11 : Option D), r.2 = bEnv i z1 many states z4 (some (.p (.list used))) (some (.r k)) z7 z8 z9 z10 z11 ∧ st'[k]? = some (.lst (rs.map .p)) ∧ Fd i j l st') := by
  have t0 : evs (callF F (n + 3)) [.var 5] (bEnv i z1 many states z4 (some (.p (.list used))) (some (.r k)) z7 z8 z9 z10 z11) st = .ok [.p (.list used)] st := by simp [bEnv]
  rw [exS_forE t0 walk_list]
  refine wp_for (pRul i j l k many states used z1 z4 z8 used.length) ?_ ?_ _ _ _ ⟨[], used, _, _, _, _, rfl, rfl, hk, h, by simp⟩
  · rintro it items env st ⟨rs, q, z7, z9, z10, z11, e1, rfl, e2, e3, e4⟩
    cases q with
    | nil => cases e1
    | cons y q =>
      simp only [List.map_cons, List.cons.injEq] at e1
      obtain ⟨rfl, rfl⟩ := e1
      simp only [List.length_cons] at e4
      refine ⟨rfl, ?_⟩
      rw [forF_at (e := bEnv i z1 many states z4 (some (.p (.list used))) (some (.r k)) (some (.p y)) z8 z9 z10 z11) rfl]
      obtain ⟨d, s1, f1, v, rfl, hv0, hv1, a1, b1⟩ := wpR_out (sow_ok (n + 1) (p := "here") (many := many - 1) e3 (by decide) (by omega))
      obtain ⟨d, s2, f2, u, rfl, hu0, hu1, a2, b2⟩ := wpR_out (sow_ok (n + 1) (p := "next") (many := many - 1 - v) a1 (by decide) (by omega))
      obtain ⟨d, s3, f3, ys, rfl, _, _, a3, b3⟩ := wpR_out (set_ok n (xs := states ++ [.str "wall"]) (p := "left") a2 (by simp) (by simp; omega) (by decide))
      obtain ⟨d, s4, f4, us, rfl, _, _, a4, b4⟩ := wpR_out (set_ok n (xs := states ++ [.str "wall"]) (p := "right") a3 (by simp) (by simp; omega) (by decide))
      have hS := ((b1.trans b2).trans b3).trans b4
      have hk4 : s4[k]? = some (.lst (rs.map .p)) := by rw [hS.2 k hki hkj hkl, e2]
      have hk2 : s2[k]? = some (.lst (rs.map .p)) := by rw [(b1.trans b2).2 k hki hkj hkl, e2]
      obtain ⟨v, rfl⟩ := Int.eq_ofNat_of_zero_le hv0
      obtain ⟨u, rfl⟩ := Int.eq_ofNat_of_zero_le hu0
      have hv : v < states.length := by omega
      have hw : v + 1 + u < states.length := by omega
      have g1 : ∀ s, getIx (.p (.tuple states)) (.p (.int (v : Int))) s = some (.p states[v]) := fun s => by rw [getIx_tup, List.getElem?_eq_getElem hv]; rfl
      have g2 : ∀ s, getIx (.p (.tuple states)) (.p (.int ((v : Int) + 1 + (u : Int)))) s = some (.p states[v + 1 + u]) := fun s => by
        rw [show ((v : Int) + 1 + (u : Int)) = ((v + 1 + u : Nat) : Int) by omega, getIx_tup, List.getElem?_eq_getElem hw]
        rfl
      unfold rulB
      have t1 : exS (callF F (n + 3)) (.set 9 (.call false 10 [.var 0, .c (.str "here"), .o2 .sub (.var 2) (.c (.int 1))])) (bEnv i z1 many states z4 (some (.p (.list used))) (some (.r k)) (some (.p y)) z8 z9 z10 z11) st =
          .ok (.nx, bEnv i z1 many states z4 (some (.p (.list used))) (some (.r k)) (some (.p y)) z8 (some (.p (.int (v : Int)))) z10 z11) s1 := by
        simp [bEnv, callD, f1, pre, setE]
      have t2 : exS (callF F (n + 3)) (.set 10 (.o2 .add (.o2 .add (.var 9) (.c (.int 1))) (.call false 10 [.var 0, .c (.str "next"), .o2 .sub (.o2 .sub (.var 2) (.c (.int 1))) (.var 9)]))) (bEnv i z1 many states z4 (some (.p (.list used))) (some (.r k)) (some (.p y)) z8 (some (.p (.int (v : Int)))) z10 z11) s1 =
          .ok (.nx, bEnv i z1 many states z4 (some (.p (.list used))) (some (.r k)) (some (.p y)) z8 (some (.p (.int (v : Int)))) (some (.p (.int ((v : Int) + 1 + (u : Int))))) z11) s2 := by
        simp [bEnv, callD, f2, pre, setE]
      have hl1 : states.length + 1 ≤ 16777216 := by omega
      have t3 : ev (callF F (n + 3)) (.tup [.var 7, .o2 .ix (.var 3) (.var 9), .o2 .ix (.var 3) (.var 10), .call false 12 [.var 0, .o2 .add (.var 3) (.tup [.c (.str "wall")]), .c (.str "left")], .call false 12 [.var 0, .o2 .add (.var 3) (.tup [.c (.str "wall")]), .c (.str "right")]])
          (bEnv i z1 many states z4 (some (.p (.list used))) (some (.r k)) (some (.p y)) z8 (some (.p (.int (v : Int)))) (some (.p (.int ((v : Int) + 1 + (u : Int))))) z11) s2 = .ok (.p (.tuple [y, states[v], states[v + 1 + u], .tuple ys, .tuple us])) s4 := by
        simp [bEnv, callD, f3, f4, pre, g1, g2, allP, sizeLine_eq, hl1]
      have hlr : rs.length < sizeLine := Nat.lt_of_lt_of_le (Nat.lt_succ_self _) (le_line (by omega))
      have t4 : op2 .app (.r k) (.p (.tuple [y, states[v], states[v + 1 + u], .tuple ys, .tuple us])) s4 = .ok (.p .none) (s4.set k (.lst ((rs ++ [PyData.tuple [y, states[v], states[v + 1 + u], .tuple ys, .tuple us]]).map .p))) := by
        rw [op2_app]
        simp only [hk4, List.length_map]
        rw [if_pos hlr]
        simp
      rw [wp_cons]
      refine wpR_eq t1 ?_
      rw [goOn_nx, wp_cons]
      refine wpR_eq t2 ?_
      rw [goOn_nx, wp_cons, wp_ex, ev_o2]
      have hpre : pre .app (.r k) s2 = true := by simp [pre, isLst, hk2]
      simp only [ev_var, bEnv, List.getElem?_cons_succ, List.getElem?_cons_zero, Res.bind_ok, hpre, if_true]
      simp only [bEnv] at t3
      rw [t3]
      simp only [Res.bind_ok, t4, Res.nox_ok, wpR_ok, goOn_nx, wp_nil]
      exact ⟨_, q, _, _, _, _, rfl, rfl, get_set hk4, a4.set_ne hki hkj hkl, by simp; omega⟩
  · rintro env st ⟨rs, q, z7, z9, z10, z11, e1, rfl, e2, e3, e4⟩
    exact ⟨rfl, rfl, rs, _, _, _, _, rfl, e2, e3⟩
end Lw
namespace Lw
open PySem Dn
theorem srt_strs {ys : List Str} {st : Store} (h : ys.length < 64) (h1 : ys ≠ []) : op1 .srt (.p (.list (ys.map .str))) st = .ok (.p (.list ((srtL strLe ys).map .str))) st := by
  have e : intsOf (ys.map PyData.str) = none := by
    cases ys with
    | nil => exact absurd rfl h1
    | cons y ys => rfl
  unfold op1
  simp only [listP_list, e, strsOf_map]
  rw [if_pos h]
theorem ins_len {le : Str → Str → Bool} (x : Str) : ∀ ys : List Str, (insL le x ys).length = ys.length + 1
  | [] => rfl
  | y :: ys => by
    unfold insL
    split <;> simp [ins_len x ys]
theorem srtL_len {le : Str → Str → Bool} : ∀ ys : List Str, (srtL le ys).length = ys.length
  | [] => rfl
  | y :: ys => by
    unfold srtL
    rw [ins_len, srtL_len ys]
    rfl
theorem comp_shift {Φ : Calls} {m : Bool} {elt : E} {tg : Tg} {k : Nat} {its its' ifs : List E} {env : Sl} {st st1 : Store} {ds : List D} (h1 : evs Φ its env st = .ok ds st1) (h2 : evs Φ its' env st1 = .ok ds st1) :
    ev Φ (.comp m elt tg k its ifs) env st = ev Φ (.comp m elt tg k its' ifs) env st1 := by
  show (evs Φ its env st).bind _ = (evs Φ its' env st1).bind _
  rw [h1, h2]
theorem setE_at {i : Nat} {d : D} {env : Sl} (h : i < env.length) : setE i d env = some (env.set i (some d)) := if_pos h
abbrev oEnv (i k : Nat) (M : Int) (z3 z4 z5 z6 z7 z8 z9 z10 z11 : Option D) : Sl := [some (.r i), some (.r k), some (.p (.int M)), z3, z4, z5, z6, z7, z8, z9, z10, z11]
theorem set3_ok (n : Nat) {i j l k M : Nat} {st : Store} {z3 z4 z5 z6 z7 z8 z9 z10 z11 : Option D} (names : List Str) (h : Fd i j l st) (hk : st[k]? = some (.lst (names.map pS))) (hki : k ≠ i) (hkj : k ≠ j) (hkl : k ≠ l) (hN : M ≤ names.length) (hN2 : M ≤ 1000) :
    wpR (exS (callF F (n + 3)) (.set 3 (.o1 .tup (.comp false (.o2 .popi (.var 1) (.call false 10 [.var 0, .c (.str "state"), .o1 .len (.var 1)])) (.one 11) 1 [.var 2] []))) (oEnv i k M z3 z4 z5 z6 z7 z8 z9 z10 z11) st)
      (fun r st' => ∃ ys rest : List Str, r = (.nx, bEnv i (some (.r k)) M (ys.map .str) z4 z5 z6 z7 z8 z9 z10 z11) ∧ (ys ++ rest).Perm names ∧ ys.length = M ∧ Fd i j l st') := by
  have hst : ("state" : Str) ∈ PL := by decide
  rw [wp_set, ev_o1, wpR_bind]
  refine wpR_mono (pops_ok (n + 1) (f := 0) (a := 1) (v := 11) (N := M) h rfl rfl (by simp) (by omega) (by omega) hk hki hkj hkl hst (by simp) hN hN2) ?_
  rintro d s2 ⟨states, rest, rfl, hp, hl, a2, l2⟩
  simp only [op1, listP_list, Option.map_some, Res.of_some, Res.nox_ok, wpR_ok]
  exact ⟨_, setE_at (by simp), states, rest, rfl, hp, hl, a2⟩
theorem set5_ok (n : Nat) {i j l k4 : Nat} {M : Int} {st : Store} {states : List PyData} {z1 z5 z6 z7 z8 z9 z10 z11 : Option D} (names : List Str) (h : Fd i j l st) (hk : st[k4]? = some (.lst (names.map pS))) (hki : k4 ≠ i) (hkj : k4 ≠ j) (hkl : k4 ≠ l) (hN : 5 ≤ names.length) :
    wpR (exS (callF F (n + 3)) (.set 5 (.o1 .srt (.comp false (.o2 .popi (.var 4) (.call false 10 [.var 0, .c (.str "rule"), .o1 .len (.var 4)])) (.one 11) 1 [.o2 .add (.c (.int 1)) (.call false 10 [.var 0, .c (.str "rules"), .c (.int 5)])] []))) (bEnv i z1 M states (some (.r k4)) z5 z6 z7 z8 z9 z10 z11) st)
      (fun r st' => ∃ ys : List Str, r = (.nx, bEnv i z1 M states (some (.r k4)) (some (.p (.list (ys.map .str)))) z6 z7 z8 z9 z10 z11) ∧ ys.length ≤ 100 ∧ Fd i j l st') := by
  have hst : ("rule" : Str) ∈ PL := by decide
  rw [wp_set, ev_o1, wpR_bind]
  obtain ⟨d, s5, f5, u, rfl, hu0, hu1, a5, b5⟩ := wpR_out (sow_ok (n + 1) (p := "rules") (many := 5) h (by decide) (by decide))
  obtain ⟨u, rfl⟩ := Int.eq_ofNat_of_zero_le hu0
  have hk5 : s5[k4]? = some (.lst (names.map pS)) := by rw [b5.2 _ hki hkj hkl, hk]
  have t5 : evs (callF F (n + 3)) [.o2 .add (.c (.int 1)) (.call false 10 [.var 0, .c (.str "rules"), .c (.int 5)])] (bEnv i z1 M states (some (.r k4)) z5 z6 z7 z8 z9 z10 z11) st = .ok [.p (.int ((1 + u : Nat) : Int))] s5 := by
    simp [bEnv, callD, f5, pre]
  rw [comp_shift t5 (its' := [.c (.int ((1 + u : Nat) : Int))]) (by simp)]
  obtain ⟨v, hv⟩ : ∃ v : Nat, v = 1 + u := ⟨_, rfl⟩
  rw [← hv]
  have hu4 : v ≤ 63 := by omega
  have hu5 : v ≤ names.length := by omega
  refine wpR_mono (pops_ok (n + 1) (f := 0) (a := 4) (v := 11) (N := v) a5 rfl rfl (by simp [bEnv]) (by omega) (by omega) hk5 hki hkj hkl hst (by simp) hu5 (by omega)) ?_
  rintro d s6 ⟨used, rest2, rfl, _, hl6, a6, _⟩
  have hu1' : used ≠ [] := fun e => by rw [e] at hl6; simp at hl6; omega
  rw [srt_strs (by omega) hu1']
  simp only [Res.nox_ok, wpR_ok]
  exact ⟨_, setE_at (by simp [bEnv]), srtL strLe used, rfl, by rw [srtL_len]; omega, a6⟩
theorem book_ok (n : Nat) {i j l : Nat} {st : Store} (h : Fd i j l st) :
    wpR (callF F (n + 4) f__law_book [.r i] st) (fun d st' => ∃ (states : List Str) (rest : List PyData), d = .p (bk states rest) ∧ states.Nodup ∧ 2 ≤ states.length ∧ states.length ≤ 4 ∧ (∀ s ∈ states, s ∈ L11) ∧ Fd i j l st') := by
  rw [wp_call (d := d__law_book) rfl ⟨rfl, by decide⟩]
  show wpR (exB (callF F (n + 3)) b__law_book [some (.r i), none, none, none, none, none, none, none, none, none, none, none] st) _
  unfold b__law_book
  rw [wp_cons]
  have t1 : exS (callF F (n + 3)) (.set 1 (.lst true [.c (.str "dry"), .c (.str "lit"), .c (.str "ash"), .c (.str "a"), .c (.str "b9"), .c (.str "q"), .c (.str "zzzzzzzz"), .c (.str "up"), .c (.str "s0"), .c (.str "k"), .c (.str "x1")])) [some (.r i), none, none, none, none, none, none, none, none, none, none, none] st =
      .ok (.nx, [some (.r i), some (.r st.length), none, none, none, none, none, none, none, none, none, none]) (st ++ [.lst (L11.map pS)]) := by
    simp [newL, Dn.alloc, sizeLine_eq, setE, L11]
  refine wpR_eq t1 ?_
  have lt := h.lt
  have h0 : Fd i j l (st ++ [.lst (L11.map pS)]) := h.app
  have hk0 : (st ++ [Ob.lst (L11.map pS)])[st.length]? = some (.lst (L11.map pS)) := by simp
  obtain ⟨d, s1, f1, v, rfl, hv0, hv1, a1, b1⟩ := wpR_out (sow_ok (n + 1) (p := "states") (many := 5) h0 (by decide) (by decide))
  have hk1 : s1[st.length]? = some (.lst (L11.map pS)) := by rw [b1.2 _ (by omega) (by omega) (by omega), hk0]
  obtain ⟨M, hM, hM2, hM4⟩ : ∃ M : Nat, (∀ s, getIx (.p (.tuple [.int 2, .int 3, .int 3, .int 3, .int 4])) (.p (.int v)) s = some (.p (.int (M : Int)))) ∧ 2 ≤ M ∧ M ≤ 4 := by
    have : v = 0 ∨ v = 1 ∨ v = 2 ∨ v = 3 ∨ v = 4 := by omega
    rcases this with rfl | rfl | rfl | rfl | rfl
    · exact ⟨2, fun _ => rfl, by omega, by omega⟩
    · exact ⟨3, fun _ => rfl, by omega, by omega⟩
    · exact ⟨3, fun _ => rfl, by omega, by omega⟩
    · exact ⟨3, fun _ => rfl, by omega, by omega⟩
    · exact ⟨4, fun _ => rfl, by omega, by omega⟩
  have t2 : exS (callF F (n + 3)) (.set 2 (.o2 .ix (.tup [.c (.int 2), .c (.int 3), .c (.int 3), .c (.int 3), .c (.int 4)]) (.call false 10 [.var 0, .c (.str "states"), .c (.int 5)]))) [some (.r i), some (.r st.length), none, none, none, none, none, none, none, none, none, none] (st ++ [.lst (L11.map pS)]) =
      .ok (.nx, [some (.r i), some (.r st.length), some (.p (.int (M : Int))), none, none, none, none, none, none, none, none, none]) s1 := by
    simp [allP, sizeLine_eq, callD, f1, hM, setE]
  rw [goOn_nx, wp_cons]
  refine wpR_eq t2 ?_
  have hL11 : L11.length = 11 := rfl
  have hL10 : L10.length = 10 := rfl
  rw [goOn_nx, wp_cons]
  refine wpR_mono (set3_ok n (M := M) L11 a1 hk1 (by omega) (by omega) (by omega) (by omega) (by omega)) ?_
  rintro r s2 ⟨states, rest, rfl, hp, hl, a2⟩
  have hp2 : (states ++ rest).Nodup := hp.nodup_iff.mpr (by decide)
  have hnd : states.Nodup := (List.nodup_append.mp hp2).1
  have hmem : ∀ s ∈ states, s ∈ L11 := fun s hs => hp.mem_iff.mp (by simp [hs])
  rw [goOn_nx, wp_cons]
  refine wpR_mono (starts_ok n (many := M) (states := states.map .str) (z1 := some (.r st.length)) (z4 := none) (z5 := none) (z6 := none) (z7 := none) (z8 := none) (z9 := none) (z10 := none) (z11 := none) a2 (by simp [hl]) (by omega) (by omega)) ?_
  rintro r s3 ⟨starts, rfl, a3⟩
  rw [goOn_nx, wp_cons]
  have t4 : exS (callF F (n + 3)) (.set 4 (.lst true [.c (.str "a"), .c (.str "catch"), .c (.str "out"), .c (.str "r1"), .c (.str "r2"), .c (.str "dry"), .c (.str "go"), .c (.str "zz"), .c (.str "m"), .c (.str "lit")])) (bEnv i (some (.r st.length)) M (states.map .str) none none none none (some (.p starts)) none none none) s3 =
      .ok (.nx, bEnv i (some (.r st.length)) M (states.map .str) (some (.r s3.length)) none none none (some (.p starts)) none none none) (s3 ++ [.lst (L10.map pS)]) := by
    simp [newL, Dn.alloc, sizeLine_eq, setE, L10, bEnv]
  refine wpR_eq t4 ?_
  have lt3 := a3.lt
  have a4 : Fd i j l (s3 ++ [.lst (L10.map pS)]) := a3.app
  have hk4 : (s3 ++ [Ob.lst (L10.map pS)])[s3.length]? = some (.lst (L10.map pS)) := by simp
  rw [goOn_nx, wp_cons]
  refine wpR_mono (set5_ok n L10 a4 hk4 (by omega) (by omega) (by omega) (by omega)) ?_
  rintro r s6 ⟨used, rfl, hul, a6⟩
  rw [goOn_nx, wp_cons]
  have t6 : exS (callF F (n + 3)) (.set 6 (.lst true [])) (bEnv i (some (.r st.length)) M (states.map .str) (some (.r s3.length)) (some (.p (.list (used.map .str)))) none none (some (.p starts)) none none none) s6 =
      .ok (.nx, bEnv i (some (.r st.length)) M (states.map .str) (some (.r s3.length)) (some (.p (.list (used.map .str)))) (some (.r s6.length)) none (some (.p starts)) none none none) (s6 ++ [.lst []]) := by
    simp [newL, Dn.alloc, sizeLine_eq, setE, bEnv]
  refine wpR_eq t6 ?_
  have lt6 := a6.lt
  rw [goOn_nx, wp_cons]
  refine wpR_mono (rules_ok n (i := i) (j := j) (l := l) (k := s6.length) (many := M) (states := states.map .str) (used := used.map .str) (a6.app (o := [.lst []])) (by simp [hl]) (by omega) (by omega) (by simp) (by omega) (by omega) (by omega) (by rw [List.length_map]; exact hul)) ?_
  rintro ⟨fl, e⟩ s7 ⟨h7, rs, z7, z9, z10, z11, h8, hk7, a7⟩
  cases h7
  cases h8
  rw [goOn_nx, wp_cons, wp_ret]
  have t7 : ev (callF F (n + 3)) (.tup [.var 3, .var 8, .o1 .tup (.var 6)]) (bEnv i (some (.r st.length)) M (states.map .str) (some (.r s3.length)) (some (.p (.list (used.map .str)))) (some (.r s6.length)) z7 (some (.p starts)) z9 z10 z11) s7 = .ok (.p (bk states [starts, .tuple rs])) s7 := by
    have hl7 : listP (.r s6.length) s7 = some rs := by
      show (match s7[s6.length]? with
        | some (.lst ds) => allP ds
        | _ => none) = some rs
      rw [hk7]
      exact allP_map rs
    simp [bEnv, op1, hl7, allP, sizeLine_eq]
  rw [t7]
  exact ⟨states, _, rfl, hnd, by omega, by omega, hmem, a7⟩
end Lw
namespace Lw
open PySem Dn
theorem cut_len {α : Type} (xs : List α) (lo hi : Option Int) : (cut xs lo hi).length ≤ xs.length := by
  unfold cut
  rw [List.length_take, List.length_drop]
  omega
theorem cut_mem {α : Type} {xs : List α} {lo hi : Option Int} {x : α} (h : x ∈ cut xs lo hi) : x ∈ xs := by
  unfold cut at h
  exact List.mem_of_mem_drop (List.mem_of_mem_take h)
theorem add_t {xs ys : List PyData} {st : Store} (h : xs.length + ys.length ≤ 1000) : op2 .add (.p (.tuple xs)) (.p (.tuple ys)) st = .ok (.p (.tuple (xs ++ ys))) st := by
  rw [op2_add_t, if_pos (le_line (by omega))]
theorem len_t {xs : List PyData} (h : xs.length ≤ 1000) : (if xs.length ≤ sizeLine then some (D.p (.tuple xs)) else none) = some (.p (.tuple xs)) := if_pos (le_line (by omega))
def Good (x : PyData) : Prop := nd2 x = true ∧ ∀ ds, x = .tuple ds → ds.length ≤ 1000
theorem good_t {ds : List PyData} (h : ∀ x ∈ ds, nd1 x = true) (hl : ds.length ≤ 1000) : Good (.tuple ds) := ⟨List.all_eq_true.mpr h, fun _ e => by cases e; exact hl⟩
abbrev cEnv (i : Nat) (states : List Str) (ds : List PyData) (a : Int) (pr : PyData) (s : Str) (odd : PyData) (z7 z8 z9 : Option D) : Sl := [some (.r i), some (.p (eW states)), some (.p (.tuple ds)), some (.p (.int a)), some (.p pr), some (.p (.str s)), some (.p odd), z7, z8, z9]
section
variable {Φ : Calls} {i : Nat} {states : List Str} {ds : List PyData} {a : Int} {pr odd : PyData} {s : Str} {z7 z8 z9 : Option D} {st : Store}
def told9 (ds : List PyData) (a : Int) (pr : PyData) (pl : List PyData) (d0 : PyData) : List PyData := [.list ds, .tuple [], .none, d0, .str "story", .tuple (ds ++ [.tuple []]), .tuple (ds ++ [.none]), .tuple [.tuple ds], .tuple (cut ds none (some a) ++ [.list pl] ++ cut ds (some (a + 1)) none)]
theorem bent_told (hl : ds.length ≤ 20) {pl : List PyData} (hpr : pr = .tuple pl) (hpl : pl.length ≤ 20) {d0 : PyData} {dr : List PyData} (hd0 : ds = d0 :: dr) :
    ev Φ (.lst true [.o1 (.lst false) (.var 2), .tup [], .c .none, .o2 .ix (.var 2) (.c (.int 0)), .c (.str "story"), .o2 .add (.var 2) (.tup [.tup []]), .o2 .add (.var 2) (.tup [.c .none]), .tup [.var 2], .o2 .add (.o2 .add (.sl false (.var 2) .none (.some (.var 3))) (.tup [.o1 (.lst false) (.var 4)])) (.sl false (.var 2) (.some (.o2 .add (.var 3) (.c (.int 1)))) .none)]) (cEnv i states ds a pr s odd z7 z8 z9) st =
      .ok (.r st.length) (st ++ [.lst ((told9 ds a pr pl d0).map .p)]) := by
  subst hpr
  have hA := cut_len ds none (some a)
  have hB := cut_len ds (some (a + 1)) none
  have q0 : ds.length + 1 ≤ 16777216 := by omega
  have n1 : newL false (ds.map D.p) st = .ok (.p (.list ds)) st := by
    unfold newL
    rw [if_neg (Nat.not_lt.mpr (le_line (by rw [List.length_map]; omega))), allP_map]
    rfl
  have n2 : newL false (pl.map D.p) st = .ok (.p (.list pl)) st := by
    unfold newL
    rw [if_neg (Nat.not_lt.mpr (le_line (by rw [List.length_map]; omega))), allP_map]
    rfl
  have g0 : getIx (.p (.tuple ds)) (.p (.int 0)) st = some (.p d0) := by rw [hd0]; exact getIx_0
  have e1 : ev Φ (.o1 (.lst false) (.var 2)) (cEnv i states ds a (.tuple pl) s odd z7 z8 z9) st = .ok (.p (.list ds)) st := by simp [op1, seqD, n1]
  have e2 : ev Φ (.o2 .add (.var 2) (.tup [.tup []])) (cEnv i states ds a (.tuple pl) s odd z7 z8 z9) st = .ok (.p (.tuple (ds ++ [.tuple []]))) st := by
    simp [pre, allP, sizeLine_eq, q0]
  have e3 : ev Φ (.o2 .add (.var 2) (.tup [.c .none])) (cEnv i states ds a (.tuple pl) s odd z7 z8 z9) st = .ok (.p (.tuple (ds ++ [.none]))) st := by
    simp [pre, allP, sizeLine_eq, q0]
  have e4 : ev Φ (.o2 .add (.o2 .add (.sl false (.var 2) .none (.some (.var 3))) (.tup [.o1 (.lst false) (.var 4)])) (.sl false (.var 2) (.some (.o2 .add (.var 3) (.c (.int 1)))) .none)) (cEnv i states ds a (.tuple pl) s odd z7 z8 z9) st =
      .ok (.p (.tuple (cut ds none (some a) ++ [.list pl] ++ cut ds (some (a + 1)) none))) st := by
    have q1 : (cut ds none (some a)).length + 1 ≤ 16777216 := by omega
    have q2 : (cut ds none (some a)).length + 1 + (cut ds (some (a + 1)) none).length ≤ 16777216 := by omega
    have q3 : (cut ds none (some a)).length + ((cut ds (some (a + 1)) none).length + 1) ≤ 16777216 := by omega
    simp [pre, allP, sizeLine_eq, op1, seqD, n2, q1, q2, q3]
  have e5 : ev Φ (.tup []) (cEnv i states ds a (.tuple pl) s odd z7 z8 z9) st = .ok (.p (.tuple [])) st := by simp [allP]
  have e6 : ev Φ (.tup [.var 2]) (cEnv i states ds a (.tuple pl) s odd z7 z8 z9) st = .ok (.p (.tuple [.tuple ds])) st := by simp [allP, sizeLine_eq]
  have e7 : ev Φ (.o2 .ix (.var 2) (.c (.int 0))) (cEnv i states ds a (.tuple pl) s odd z7 z8 z9) st = .ok (.p d0) st := by simp [g0]
  rw [ev_lst]
  simp only [evs_cons, e1, e2, e3, e4, e5, e6, e7, Res.bind_ok, ev_c, evs_nil]
  exact newT (by simp)
/-- a thing in its place -/
theorem bent_at (hl : ds.length ≤ 20) {x : E} {xs : List PyData} (hx : ev Φ x (cEnv i states ds a pr s odd z7 z8 z9) st = .ok (.p (.tuple xs)) st) (hxl : xs.length ≤ 20) :
    ev Φ (.o2 .add (.o2 .add (.sl false (.var 2) .none (.some (.var 3))) x) (.sl false (.var 2) (.some (.o2 .add (.var 3) (.c (.int 1)))) .none)) (cEnv i states ds a pr s odd z7 z8 z9) st =
      .ok (.p (.tuple (cut ds none (some a) ++ xs ++ cut ds (some (a + 1)) none))) st := by
  have hA := cut_len ds none (some a)
  have hB := cut_len ds (some (a + 1)) none
  have q1 : (cut ds none (some a)).length + xs.length ≤ 16777216 := by omega
  have q2 : (cut ds none (some a)).length + xs.length + (cut ds (some (a + 1)) none).length ≤ 16777216 := by omega
  have q3 : (cut ds none (some a)).length + (xs.length + (cut ds (some (a + 1)) none).length) ≤ 16777216 := by omega
  simp [pre, sizeLine_eq, hx, q1, q2, q3]
def last5 (ds : List PyData) (a : Int) (pr : PyData) : List PyData := [.tuple (cut ds none (some a) ++ cut ds (some (a + 1)) none), .tuple (ds ++ [pr]), .tuple ds.reverse, .tuple (cut ds none (some a) ++ [pr] ++ cut ds (some a) none), .tuple (cut ds none (some a) ++ cut ds (some (a + 1)) none ++ [pr])]
theorem bent_last (hl : ds.length ≤ 20) : ev Φ (.lst false [.o2 .add (.sl false (.var 2) .none (.some (.var 3))) (.sl false (.var 2) (.some (.o2 .add (.var 3) (.c (.int 1)))) .none), .o2 .add (.var 2) (.tup [.var 4]), .rv false (.var 2), .o2 .add (.o2 .add (.sl false (.var 2) .none (.some (.var 3))) (.tup [.var 4])) (.sl false (.var 2) (.some (.var 3)) .none), .o2 .add (.o2 .add (.sl false (.var 2) .none (.some (.var 3))) (.sl false (.var 2) (.some (.o2 .add (.var 3) (.c (.int 1)))) .none)) (.tup [.var 4])]) (cEnv i states ds a pr s odd z7 z8 z9) st =
    .ok (.p (.list (last5 ds a pr))) st := by
  have hA := cut_len ds none (some a)
  have hB := cut_len ds (some (a + 1)) none
  have hC := cut_len ds (some a) none
  have q1 : (cut ds none (some a)).length + (cut ds (some (a + 1)) none).length ≤ 16777216 := by omega
  have q2 : (cut ds none (some a)).length + 1 ≤ 16777216 := by omega
  have q3 : (cut ds none (some a)).length + 1 + (cut ds (some a) none).length ≤ 16777216 := by omega
  have q4 : (cut ds none (some a)).length + ((cut ds (some a) none).length + 1) ≤ 16777216 := by omega
  have q5 : (cut ds none (some a)).length + (cut ds (some (a + 1)) none).length + 1 ≤ 16777216 := by omega
  have q6 : (cut ds none (some a)).length + ((cut ds (some (a + 1)) none).length + 1) ≤ 16777216 := by omega
  have q7 : ds.length + 1 ≤ 16777216 := by omega
  simp [pre, allP, sizeLine_eq, revD, newL, last5, q1, q2, q3, q4, q5, q6, q7]
end
theorem nd1_pair {a b : PyData} (h : flat a = true) (h2 : flat b = true) : nd1 (.tuple [a, b]) = true := by
  show ([a, b].all flat) = true
  simp [h, h2]
theorem good_told {ds pl : List PyData} {a : Int} {d0 : PyData} {pr : PyData} (hl : ds.length ≤ 20) (hd : ∀ x ∈ ds, nd1 x = true) (h0 : Good d0) : ∀ x ∈ told9 ds a pr pl d0, Good x := by
  have hA := cut_len ds none (some a)
  have hB := cut_len ds (some (a + 1)) none
  intro x hx
  unfold told9 at hx
  simp only [List.mem_cons, List.not_mem_nil, or_false] at hx
  rcases hx with rfl | rfl | rfl | rfl | rfl | rfl | rfl | rfl | rfl
  · exact ⟨rfl, fun _ e => by cases e⟩
  · exact good_t (by simp) (by simp)
  · exact ⟨rfl, fun _ e => by cases e⟩
  · exact h0
  · exact ⟨rfl, fun _ e => by cases e⟩
  · refine good_t (fun y hy => ?_) (by simp; omega)
    rcases List.mem_append.mp hy with hy | hy
    · exact hd y hy
    · simp at hy; subst hy; rfl
  · refine good_t (fun y hy => ?_) (by simp; omega)
    rcases List.mem_append.mp hy with hy | hy
    · exact hd y hy
    · simp at hy; subst hy; rfl
  · refine good_t (fun y hy => ?_) (by simp)
    simp at hy
    subst hy
    exact List.all_eq_true.mpr fun z hz => nd1_flat (hd z hz)
  · refine good_t (fun y hy => ?_) (by simp; omega)
    simp only [List.mem_append, List.mem_cons, List.not_mem_nil, or_false] at hy
    rcases hy with (hy | rfl) | hy
    · exact hd y (cut_mem hy)
    · rfl
    · exact hd y (cut_mem hy)
theorem good_at {ds xs : List PyData} {a : Int} (hl : ds.length ≤ 20) (hd : ∀ x ∈ ds, nd1 x = true) (hx : ∀ x ∈ xs, nd1 x = true) (hxl : xs.length ≤ 20) : Good (.tuple (cut ds none (some a) ++ xs ++ cut ds (some (a + 1)) none)) := by
  have hA := cut_len ds none (some a)
  have hB := cut_len ds (some (a + 1)) none
  refine good_t (fun y hy => ?_) (by simp; omega)
  simp only [List.mem_append] at hy
  rcases hy with (hy | hy) | hy
  · exact hd y (cut_mem hy)
  · exact hx y hy
  · exact hd y (cut_mem hy)
theorem good_last {ds : List PyData} {a : Int} {pr : PyData} (hl : ds.length ≤ 20) (hd : ∀ x ∈ ds, nd1 x = true) (hpr : nd1 pr = true) : ∀ x ∈ last5 ds a pr, Good x := by
  have hA := cut_len ds none (some a)
  have hB := cut_len ds (some (a + 1)) none
  have hC := cut_len ds (some a) none
  intro x hx
  unfold last5 at hx
  simp only [List.mem_cons, List.not_mem_nil, or_false] at hx
  have key : ∀ y, (y ∈ cut ds none (some a) ∨ y ∈ cut ds (some (a + 1)) none ∨ y ∈ cut ds (some a) none ∨ y ∈ ds ∨ y = pr) → nd1 y = true := by
    rintro y (hy | hy | hy | hy | rfl)
    · exact hd y (cut_mem hy)
    · exact hd y (cut_mem hy)
    · exact hd y (cut_mem hy)
    · exact hd y hy
    · exact hpr
  rcases hx with rfl | rfl | rfl | rfl | rfl
  · refine good_t (fun y hy => key y ?_) (by simp; omega)
    rcases List.mem_append.mp hy with hy | hy
    · exact .inl hy
    · exact .inr (.inl hy)
  · refine good_t (fun y hy => key y ?_) (by simp; omega)
    rcases List.mem_append.mp hy with hy | hy
    · exact .inr (.inr (.inr (.inl hy)))
    · exact .inr (.inr (.inr (.inr (List.mem_singleton.mp hy))))
  · refine good_t (fun y hy => key y ?_) (by simp; omega)
    exact .inr (.inr (.inr (.inl (List.mem_reverse.mp hy))))
  · refine good_t (fun y hy => key y ?_) (by simp; omega)
    rcases List.mem_append.mp hy with hy | hy
    · rcases List.mem_append.mp hy with hy | hy
      · exact .inl hy
      · exact .inr (.inr (.inr (.inr (List.mem_singleton.mp hy))))
    · exact .inr (.inr (.inl hy))
  · refine good_t (fun y hy => key y ?_) (by simp; omega)
    rcases List.mem_append.mp hy with hy | hy
    · rcases List.mem_append.mp hy with hy | hy
      · exact .inl hy
      · exact .inr (.inl hy)
    · exact .inr (.inr (.inr (.inr (List.mem_singleton.mp hy))))
end Lw
namespace Lw
open PySem Dn
def pRepT (I : Store → Prop) (G : PyData → Prop) (N : Nat) (items : List Dn.It) (accD : List D) (st1 : Store) : Prop := ∃ (acc : List PyData) (c : Int) (m : Nat), accD = acc.map .p ∧ items = rangeI c 1 m ∧ acc.length + m = N ∧ (∀ y ∈ acc, G y) ∧ I st1
/-- so many times, into a changing list -/
theorem repT_ok {Φ : Calls} {env : Sl} {st : Store} {elt cnt : E} {v N : Nat} (I : Store → Prop) (G : PyData → Prop) (hv : v < env.length) (hN : N ≤ 1000) (h : I st) (hcnt : evs Φ [cnt] env st = .ok [.p (.int N)] st)
    (he : ∀ c st1, I st1 → wpR (ev Φ elt (env.set v (some (.p (.int c)))) st1) (fun d st2 => ∃ y, d = .p y ∧ G y ∧ I st2)) :
    wpR (ev Φ (.comp true elt (.one v) 1 [cnt] []) env st) (fun d st' => ∃ (ys : List PyData) (st1 : Store), d = .r st1.length ∧ st' = st1 ++ [.lst (ys.map .p)] ∧ ys.length = N ∧ (∀ y ∈ ys, G y) ∧ I st1) := by
  have hw : walkOf 1 [.p (.int N)] st = some (rangeI 0 1 N) := by rw [walk_range (by omega) (by omega), Int.toNat_natCast]
  rw [ev_compF hcnt hw, wpR_nox, wpR_bind]
  refine wpR_mono (wp_comp (ok := fun st1 => still [.p (.int N)] st st1) (f := compF Φ elt (.one v) [] env) (Q := fun ds st' => ∃ ys : List PyData, ds = ys.map .p ∧ ys.length = N ∧ (∀ y ∈ ys, G y) ∧ I st') (pRepT I G N) ?_ ?_ (rangeI 0 1 N) [] st ⟨[], 0, N, rfl, rfl, by simp, by simp, h⟩) ?_
  · rintro x items accD st1 ⟨acc, c, m, rfl, e1, e2, e3, e4⟩
    obtain ⟨m, rfl, rfl, rfl⟩ := rangeI_cons e1
    refine ⟨rfl, ?_⟩
    have hb : bindT (.one v) (.one (.p (.int c))) (wipeE env (Tg.one v).slots) = some (env.set v (some (.p (.int c)))) := by
      simp [bindT, setAll, wipeE, Tg.slots, setE, hv]
    unfold compF
    simp only [hb, evAn_nil, Res.bind_ok, truth_bz, wpR_bind]
    refine wpR_mono (he c st1 e4) ?_
    rintro d st2 ⟨y, rfl, h2, h3⟩
    refine ⟨acc ++ [y], c + 1, m, by simp, rfl, by simp; omega, fun z hz => ?_, h3⟩
    rcases List.mem_append.mp hz with hz | hz
    · exact e3 z hz
    · rw [List.mem_singleton.mp hz]; exact h2
  · rintro accD st1 ⟨acc, c, m, rfl, e1, e2, e3, e4⟩
    have := rangeI_nil e1
    exact ⟨rfl, acc, rfl, by omega, e3, e4⟩
  · rintro ds st1 ⟨ys, e, hl, hg, hi⟩
    rw [List.nil_append] at e
    subst e
    rw [newT (by rw [List.length_map]; omega)]
    exact ⟨ys, st1, rfl, rfl, hl, hg, hi⟩
def odd8 (x u : Str) : List PyData := [.str "wall", .str (x ++ "x"), .str "", .none, .bool true, .int 0, .tuple [.str x], .str u]
theorem up_some : ∀ x ∈ L11, (upS x).isSome = true ∧ x.length ≤ 10 := by decide
theorem odd_ev {Φ : Calls} {env : Sl} {st : Store} {x u : Str} (h5 : env[5]? = some (some (.p (.str x)))) (hu : upS x = some u) (hl : x.length ≤ 10) :
    ev Φ (.lst false [.c (.str "wall"), .o2 .add (.var 5) (.c (.str "x")), .c (.str ""), .c .none, .c (.bool true), .c (.int 0), .tup [.var 5], .o1 .upper (.var 5)]) env st = .ok (.p (.list (odd8 x u))) st := by
  have h1 : x.length + ("x" : Str).length ≤ 16777216 := by
    have : ("x" : Str).length = 1 := rfl
    omega
  simp [h5, pre, h1, allP, op1, hu, newL, sizeLine_eq, odd8]
theorem odd_flat {x u : Str} {c : Nat} (h : c < 8) : ∃ o, (odd8 x u)[c]? = some o ∧ flat o = true := by
  have : c = 0 ∨ c = 1 ∨ c = 2 ∨ c = 3 ∨ c = 4 ∨ c = 5 ∨ c = 6 ∨ c = 7 := by omega
  rcases this with rfl | rfl | rfl | rfl | rfl | rfl | rfl | rfl <;> exact ⟨_, rfl, rfl⟩
def news8 (odd : PyData) (p : Str × Str) (x : Str) : List PyData := [.tuple [odd, .str p.2], .tuple [.str p.1, odd], .tuple [.str x, .str p.2], .tuple [.str p.1, .str x], .tuple [.str p.2, .str p.1], .tuple [.str p.1, .str p.2, .str x], .tuple [.str p.1], .tuple [.str x, .str x]]
theorem cut_one {a b : PyData} : cut [a, b] none (some 1) = [a] := rfl
theorem news_ev {Φ : Calls} {i : Nat} {states : List Str} {ds : List PyData} {a : Int} {p : Str × Str} {x : Str} {odd : PyData} {z7 z8 z9 : Option D} {st : Store} :
    evs Φ [.tup [.tup [.var 6, .o2 .ix (.var 4) (.c (.int 1))], .tup [.o2 .ix (.var 4) (.c (.int 0)), .var 6], .tup [.var 5, .o2 .ix (.var 4) (.c (.int 1))], .tup [.o2 .ix (.var 4) (.c (.int 0)), .var 5], .rv false (.var 4), .o2 .add (.var 4) (.tup [.var 5]), .sl false (.var 4) .none (.some (.c (.int 1))), .tup [.var 5, .var 5]]] (cEnv i states ds a (eP p) x odd z7 z8 z9) st =
      .ok [.p (.tuple (news8 odd p x))] st := by
  simp [eP, allP, sizeLine_eq, revD, pre, news8, cut_one]
theorem news_nd {odd : PyData} {p : Str × Str} {x : Str} (h : flat odd = true) : ∀ y ∈ news8 odd p x, nd1 y = true := by
  intro y hy
  unfold news8 at hy
  simp only [List.mem_cons, List.not_mem_nil, or_false] at hy
  rcases hy with rfl | rfl | rfl | rfl | rfl | rfl | rfl | rfl <;> simp [nd1, show ∀ s, flat (.str s) = true from fun _ => rfl, h]
end Lw
namespace Lw
open PySem Dn
def bentB : List S := [.ex (.o2 .app (.var 7) (.o2 .add (.o2 .add (.sl false (.var 2) .none (.some (.var 3))) (.tup [.var 8])) (.sl false (.var 2) (.some (.o2 .add (.var 3) (.c (.int 1)))) .none)))]
def pBent (i j l k : Nat) (states : List Str) (ds : List PyData) (a : Int) (pr : PyData) (x : Str) (odd : PyData) (z9 : Option D) (N : Nat) (items : List Dn.It) (env : Sl) (st : Store) : Prop :=
  ∃ (us q : List PyData) (z8 : Option D), items = q.map (fun y => .one (.p y)) ∧ (∀ y ∈ q, nd1 y = true) ∧ env = cEnv i states ds a pr x odd (some (.r k)) z8 z9 ∧ st[k]? = some (.lst (us.map .p)) ∧ (∀ y ∈ us, Good y) ∧ us.length + q.length = N ∧ Fd i j l st
theorem bent_loop {Φ : Calls} {i j l k : Nat} {states : List Str} {ds : List PyData} {a : Int} {pr : PyData} {x : Str} {odd : PyData} {z8 z9 : Option D} {its : List E} {st : Store} {us q : List PyData} (h : Fd i j l st) (hk : st[k]? = some (.lst (us.map .p))) (hki : k ≠ i) (hkj : k ≠ j) (hkl : k ≠ l)
    (hu : ∀ y ∈ us, Good y) (hq : ∀ y ∈ q, nd1 y = true) (hl : ds.length ≤ 20) (hd : ∀ y ∈ ds, nd1 y = true) (hul : us.length + q.length ≤ 50) (hev : evs Φ its (cEnv i states ds a pr x odd (some (.r k)) z8 z9) st = .ok [.p (.tuple q)] st) :
    wpR (exS Φ (.for_ (.one 8) 0 its bentB) (cEnv i states ds a pr x odd (some (.r k)) z8 z9) st) (fun r st' => ∃ (us : List PyData) (z8 : Option D), r = (.nx, cEnv i states ds a pr x odd (some (.r k)) z8 z9) ∧ st'[k]? = some (.lst (us.map .p)) ∧ (∀ y ∈ us, Good y) ∧ us.length ≤ 50 ∧ Fd i j l st') := by
  rw [exS_forE hev walk_tup]
  refine wp_for (pBent i j l k states ds a pr x odd z9 (us.length + q.length)) ?_ ?_ _ _ _ ⟨us, q, _, rfl, hq, rfl, hk, hu, rfl, h⟩
  · rintro it items env st ⟨us, q, z8, e1, e2, rfl, e3, e4, e5, e6⟩
    cases q with
    | nil => cases e1
    | cons y q =>
      simp only [List.map_cons, List.cons.injEq] at e1
      obtain ⟨rfl, rfl⟩ := e1
      simp only [List.length_cons] at e5
      refine ⟨rfl, ?_⟩
      rw [forF_at (e := cEnv i states ds a pr x odd (some (.r k)) (some (.p y)) z9) rfl]
      unfold bentB
      rw [wp_cons, wp_ex, ev_o2]
      have t := bent_at (Φ := Φ) (i := i) (states := states) (ds := ds) (a := a) (pr := pr) (s := x) (odd := odd) (z7 := some (.r k)) (z8 := some (.p y)) (z9 := z9) (st := st) (x := .tup [.var 8]) (xs := [y]) hl (by simp [allP, sizeLine_eq]) (by simp)
      have hpre : pre .app (.r k) st = true := by simp [pre, isLst, e3]
      have hlu : us.length < sizeLine := Nat.lt_of_lt_of_le (Nat.lt_succ_self _) (le_line (by omega))
      have t2 : op2 .app (.r k) (.p (.tuple (cut ds none (some a) ++ [y] ++ cut ds (some (a + 1)) none))) st = .ok (.p .none) (st.set k (.lst ((us ++ [PyData.tuple (cut ds none (some a) ++ [y] ++ cut ds (some (a + 1)) none)]).map .p))) := by
        rw [op2_app]
        simp only [e3, List.length_map]
        rw [if_pos hlu]
        simp
      simp only [ev_var, cEnv, List.getElem?_cons_succ, List.getElem?_cons_zero, Res.bind_ok, hpre, if_true]
      simp only [cEnv] at t
      rw [t]
      simp only [Res.bind_ok, t2, Res.nox_ok, wpR_ok, goOn_nx, wp_nil]
      refine ⟨_, q, _, rfl, fun z hz => e2 z (by simp [hz]), rfl, get_set e3, fun z hz => ?_, by simp; omega, e6.set_ne hki hkj hkl⟩
      rcases List.mem_append.mp hz with hz | hz
      · exact e4 z hz
      · rw [List.mem_singleton.mp hz]
        exact good_at hl hd (fun w hw => by rw [List.mem_singleton.mp hw]; exact e2 y (by simp)) (by simp)
  · rintro env st ⟨us, q, z8, e1, e2, rfl, e3, e4, e5, e6⟩
    refine ⟨rfl, us, z8, rfl, e3, e4, by omega, e6⟩
theorem bent_ok (n : Nat) {i j l : Nat} {st : Store} {states : List Str} {s : Sy} (h : Fd i j l st) (hs : states ≠ []) (hsl : states.length ≤ 4) (hm : ∀ x ∈ states, x ∈ L11) (hne : s ≠ []) (hl : s.length ≤ 20) :
    wpR (callF F (n + 3) f__law_bent [.r i, .p (eW states), .p (eS s)] st) (fun d st' => ∃ ds : List PyData, d = .p (.list ds) ∧ ds.length ≤ 100 ∧ (∀ x ∈ ds, Good x) ∧ Fd i j l st') := by
  rw [wp_call (d := d__law_bent) rfl ⟨rfl, by decide⟩]
  show wpR (exB (callF F (n + 2)) b__law_bent [some (.r i), some (.p (eW states)), some (.p (eS s)), none, none, none, none, none, none, none] st) _
  have hs0 : 0 < states.length := List.length_pos_iff.mpr hs
  have hn0 : 0 < s.length := List.length_pos_iff.mpr hne
  obtain ⟨d, s1, f1, v, rfl, hv0, hv1, a1, b1⟩ := wpR_out (sow_ok n (p := "at") (many := s.length) h (by decide) (by omega))
  obtain ⟨a, rfl⟩ := Int.eq_ofNat_of_zero_le hv0
  have ha : a < s.length := by omega
  obtain ⟨d, s2, f2, u, rfl, hu0, hu1, a2, b2⟩ := wpR_out (sow_ok n (p := "any") (many := states.length) a1 (by decide) (by omega))
  obtain ⟨b, rfl⟩ := Int.eq_ofNat_of_zero_le hu0
  have hb : b < states.length := by omega
  obtain ⟨d, s3, f3, w, rfl, hw0, hw1, a3, b3⟩ := wpR_out (sow_ok n (p := "odd") (many := 8) a2 (by decide) (by omega))
  obtain ⟨c, rfl⟩ := Int.eq_ofNat_of_zero_le hw0
  obtain ⟨x, hx⟩ : ∃ x, x = states[b] := ⟨_, rfl⟩
  obtain ⟨p, hp⟩ : ∃ p, p = s[a] := ⟨_, rfl⟩
  have hxm : x ∈ L11 := hm x (by rw [hx]; exact List.getElem_mem hb)
  obtain ⟨hup, hxl⟩ := up_some x hxm
  obtain ⟨y, hy⟩ := Option.isSome_iff_exists.mp hup
  obtain ⟨odd, ho, hof⟩ := odd_flat (x := x) (u := y) (c := c) (by omega)
  have g1 : ∀ st, getIx (.p (eS s)) (.p (.int (a : Int))) st = some (.p (eP p)) := fun st => by rw [getIx_tup, List.getElem?_map, List.getElem?_eq_getElem ha, hp]; rfl
  have g2 : ∀ st, getIx (.p (eW states)) (.p (.int (b : Int))) st = some (.p (.str x)) := fun st => by rw [getIx_tup, List.getElem?_map, List.getElem?_eq_getElem hb, hx]; rfl
  have g3 : ∀ st, getIx (.p (.list (odd8 x y))) (.p (.int (c : Int))) st = some (.p odd) := fun st => by rw [getIx_lst, ho]; rfl
  unfold b__law_bent
  rw [wp_cons]
  have t1 : exS (callF F (n + 2)) (.set 3 (.call false 10 [.var 0, .c (.str "at"), .o1 .len (.var 2)])) [some (.r i), some (.p (eW states)), some (.p (eS s)), none, none, none, none, none, none, none] st = .ok (.nx, [some (.r i), some (.p (eW states)), some (.p (eS s)), some (.p (.int (a : Int))), none, none, none, none, none, none]) s1 := by
    simp [callD, op1, f1, setE]
  refine wpR_eq t1 ?_
  rw [goOn_nx, wp_cons]
  have t2 : exS (callF F (n + 2)) (.set 4 (.o2 .ix (.var 2) (.var 3))) [some (.r i), some (.p (eW states)), some (.p (eS s)), some (.p (.int (a : Int))), none, none, none, none, none, none] s1 = .ok (.nx, [some (.r i), some (.p (eW states)), some (.p (eS s)), some (.p (.int (a : Int))), some (.p (eP p)), none, none, none, none, none]) s1 := by
    simp [g1, setE]
  refine wpR_eq t2 ?_
  rw [goOn_nx, wp_cons]
  have t3 : exS (callF F (n + 2)) (.set 5 (.o2 .ix (.var 1) (.call false 10 [.var 0, .c (.str "any"), .o1 .len (.var 1)]))) [some (.r i), some (.p (eW states)), some (.p (eS s)), some (.p (.int (a : Int))), some (.p (eP p)), none, none, none, none, none] s1 = .ok (.nx, [some (.r i), some (.p (eW states)), some (.p (eS s)), some (.p (.int (a : Int))), some (.p (eP p)), some (.p (.str x)), none, none, none, none]) s2 := by
    simp [callD, op1, f2, g2, setE]
  refine wpR_eq t3 ?_
  rw [goOn_nx, wp_cons]
  have t4 : exS (callF F (n + 2)) (.set 6 (.o2 .ix (.lst false [.c (.str "wall"), .o2 .add (.var 5) (.c (.str "x")), .c (.str ""), .c .none, .c (.bool true), .c (.int 0), .tup [.var 5], .o1 .upper (.var 5)]) (.call false 10 [.var 0, .c (.str "odd"), .c (.int 8)]))) [some (.r i), some (.p (eW states)), some (.p (eS s)), some (.p (.int (a : Int))), some (.p (eP p)), some (.p (.str x)), none, none, none, none] s2 =
      .ok (.nx, cEnv i states (s.map eP) a (eP p) x odd none none none) s3 := by
    have := odd_ev (Φ := callF F (n + 2)) (env := [some (.r i), some (.p (eW states)), some (.p (eS s)), some (.p (.int (a : Int))), some (.p (eP p)), some (.p (.str x)), none, none, none, none]) (st := s2) rfl hy hxl
    rw [exS_set, ev_o2, this]
    simp [callD, f3, g3, setE, cEnv]
  refine wpR_eq t4 ?_
  have hds : (s.map eP).length ≤ 20 := by rw [List.length_map]; exact hl
  have hnd : ∀ z ∈ s.map eP, nd1 z = true := fun z hz => by
    obtain ⟨q, _, rfl⟩ := List.mem_map.mp hz
    rfl
  have hgp : ∀ q : Str × Str, Good (eP q) := fun q => good_t (fun z hz => by
    simp only [List.mem_cons, List.not_mem_nil, or_false] at hz
    rcases hz with rfl | rfl <;> rfl) (by simp)
  obtain ⟨d0, dr, hd0⟩ : ∃ d0 dr, s = d0 :: dr := by
    cases s with
    | nil => exact absurd rfl hne
    | cons d0 dr => exact ⟨_, _, rfl⟩
  have hd0' : s.map eP = eP d0 :: dr.map eP := by rw [hd0]; rfl
  have t5 := bent_told (Φ := callF F (n + 2)) (i := i) (states := states) (a := a) (pr := eP p) (s := x) (odd := odd) (z7 := none) (z8 := none) (z9 := none) (st := s3) hds (pl := [.str p.1, .str p.2]) rfl (by simp) hd0'
  rw [goOn_nx, wp_cons, wp_set, t5, wpR_ok]
  refine ⟨_, setE_at (by simp [cEnv]), ?_⟩
  have lt3 := a3.lt
  have hk5 : (s3 ++ [Ob.lst ((told9 (s.map eP) a (eP p) [.str p.1, .str p.2] (eP d0)).map .p)])[s3.length]? = some (.lst ((told9 (s.map eP) a (eP p) [.str p.1, .str p.2] (eP d0)).map .p)) := by simp
  rw [goOn_nx, wp_cons, wp_set]
  simp only [cEnv, List.set_cons_succ, List.set_cons_zero]
  have hr := repT_ok (Φ := callF F (n + 2)) (env := cEnv i states (s.map eP) a (eP p) x odd (some (.r s3.length)) none none) (st := s3 ++ [Ob.lst ((told9 (s.map eP) a (eP p) [.str p.1, .str p.2] (eP d0)).map .p)]) (elt := .o2 .ix (.var 7) (.call false 10 [.var 0, .c (.str "shape"), .c (.int 9)])) (cnt := .c (.int 3)) (v := 9) (N := 3)
    (fun st1 => Fd i j l st1 ∧ st1[s3.length]? = some (.lst ((told9 (s.map eP) a (eP p) [.str p.1, .str p.2] (eP d0)).map .p))) Good (by simp [cEnv]) (by omega) ⟨a3.app, hk5⟩ (by simp) (by
      rintro c st1 ⟨q1, q2⟩
      obtain ⟨d, st2, e1, v, rfl, r1, r2, r3, r4⟩ := wpR_out (sow_ok n (p := "shape") (many := 9) q1 (by decide) (by decide))
      obtain ⟨v, rfl⟩ := Int.eq_ofNat_of_zero_le r1
      have q3 : st2[s3.length]? = some (.lst ((told9 (s.map eP) a (eP p) [.str p.1, .str p.2] (eP d0)).map .p)) := by rw [r4.2 _ (by omega) (by omega) (by omega), q2]
      have hvl : v < (told9 (s.map eP) a (eP p) [.str p.1, .str p.2] (eP d0)).length := by show v < 9; omega
      have hg : getIx (.r s3.length) (.p (.int (v : Int))) st2 = some (.p (told9 (s.map eP) a (eP p) [.str p.1, .str p.2] (eP d0))[v]) := by
        simp only [getIx, q3]
        rw [bind_ix, List.getElem?_map, List.getElem?_eq_getElem hvl]
        rfl
      have hgood : Good (told9 (s.map eP) a (eP p) [.str p.1, .str p.2] (eP d0))[v] := good_told hds hnd (hgp d0) _ (List.getElem_mem hvl)
      obtain ⟨o, ho⟩ : ∃ o, o = (told9 (s.map eP) a (eP p) [.str p.1, .str p.2] (eP d0))[v] := ⟨_, rfl⟩
      rw [← ho] at hg hgood
      simp [cEnv, callD, e1, hg, pre]
      exact ⟨hgood, r3, q3⟩)
  refine wpR_mono hr ?_
  rintro d st' ⟨us, s5, rfl, rfl, hul, hug, a5, _⟩
  refine ⟨_, setE_at (by simp), ?_⟩
  simp only [List.set_cons_succ, List.set_cons_zero]
  have lt5 := a5.lt
  rw [goOn_nx, wp_cons]
  refine wpR_mono (bent_loop (j := j) (l := l) (k := s5.length) (ds := s.map eP) (us := us) (q := news8 odd p x) a5.app (by simp) (by omega) (by omega) (by omega) hug (news_nd hof) hds hnd (by rw [hul]; show 3 + 8 ≤ 50; omega) news_ev) ?_
  rintro r s6 ⟨vs, z8, rfl, hk6, hvg, hvl, a6⟩
  rw [goOn_nx, wp_cons, wp_ret, ev_o2]
  have t8 := bent_last (Φ := callF F (n + 2)) (i := i) (states := states) (a := a) (pr := eP p) (s := x) (odd := odd) (z7 := some (.r s5.length)) (z8 := z8) (z9 := none) (st := s6) hds
  have hlst : listP (.r s5.length) s6 = some vs := by
    show (match s6[s5.length]? with
      | some (.lst ds) => allP ds
      | _ => none) = some vs
    rw [hk6]
    exact allP_map vs
  have t9 : op2 .add (.r s5.length) (.p (.list (last5 (s.map eP) a (eP p)))) s6 = .ok (.p (.list (vs ++ last5 (s.map eP) a (eP p)))) s6 := by
    unfold op2
    simp only [hlst, listP_list, Option.bind_some]
    rw [if_pos (le_line (by show vs.length + 5 ≤ 1000000; omega))]
    rfl
  simp only [cEnv] at t8 ⊢
  simp only [ev_var, List.getElem?_cons_succ, List.getElem?_cons_zero, Res.bind_ok, show pre .add (.r s5.length) s6 = true from rfl, if_true, t8, t9, Res.nox_ok, wpR_ok]
  refine ⟨_, rfl, ?_, fun z hz => ?_, a6⟩
  · show (vs ++ last5 (s.map eP) a (eP p)).length ≤ 100
    rw [List.length_append]
    show vs.length + 5 ≤ 100
    omega
  · rcases List.mem_append.mp hz with hz | hz
    · exact hvg z hz
    · exact good_last hds hnd rfl z hz
end Lw
namespace Lw
open PySem Dn
theorem up_of {states : List Str} (hn : states.Nodup) : Up states states := by
  rw [Up, List.pairwise_iff_getElem]
  intro i j hi hj hij
  have e : ∀ k (hk : k < states.length), place states states[k] = k := fun k hk => by
    unfold place
    exact idxOf_nodup hn (List.getElem?_eq_getElem hk)
  rw [e i hi, e j hj]
  exact hij
theorem sub_strs {xs : List Str} {ys : List PyData} (h : ys.Sublist (xs.map .str)) : ∃ w : List Str, ys = w.map .str ∧ w.Sublist xs := by
  obtain ⟨w, h1, h2⟩ := List.sublist_map_iff.mp h
  exact ⟨w, h2, h1⟩
/-- a drawn path -/
structure Path (states : List Str) (x : Str) (r : List Str) : Prop where
  up : Up states (x :: r)
  mem : ∀ z ∈ x :: r, z ∈ states
  len : r.length ≤ 3
theorem path_of {states : List Str} {ys : List PyData} (hn : states.Nodup) (hl : states.length ≤ 4) (h : ys.Sublist (states.map .str)) (hne : ys ≠ []) : ∃ x r, ys = (x :: r).map .str ∧ Path states x r := by
  obtain ⟨w, rfl, hw⟩ := sub_strs h
  cases w with
  | nil => exact absurd rfl hne
  | cons x r =>
    have := hw.length_le
    exact ⟨x, r, rfl, List.Pairwise.sublist hw (up_of hn), fun z hz => hw.subset hz, by simp at this; omega⟩
theorem plainA_map {α : Type} {f : α → PyData} (h : ∀ a, plain (f a) = true) : ∀ xs : List α, plainA (xs.map f) = true
  | [] => rfl
  | x :: xs => by
    show (plain (f x) && plainA (xs.map f)) = true
    rw [h x, plainA_map h xs]
    rfl
theorem wtA_map {α : Type} {f : α → PyData} {k : Nat} : ∀ xs : List α, (∀ x ∈ xs, wt (f x) ≤ k) → wtA (xs.map f) ≤ xs.length * k
  | [], _ => by simp [wtA]
  | x :: xs, h => by
    have h1 := h x (by simp)
    have h2 := wtA_map xs fun y hy => h y (by simp [hy])
    show wt (f x) + wtA (xs.map f) ≤ (xs.length + 1) * k
    rw [Nat.add_mul]
    omega
theorem plain_eP (p : Str × Str) : plain (eP p) = true := rfl
theorem wt_eP (p : Str × Str) : wt (eP p) = 3 := rfl
theorem plain_eS (s : Sy) : plain (eS s) = true := plainA_map plain_eP s
theorem plain_eW (w : List Str) : plain (eW w) = true := plainA_map (fun _ => rfl) w
theorem wt_eS (s : Sy) : wt (eS s) ≤ 1 + s.length * 3 := Nat.add_le_add_left (wtA_map s fun x _ => by rw [wt_eP]; exact Nat.le_refl _) 1
theorem wt_eW (w : List Str) : wt (eW w) ≤ 1 + w.length * 1 := Nat.add_le_add_left (wtA_map (f := PyData.str) (k := 1) w fun x _ => Nat.le_refl 1) 1
theorem plain_all (rows : List Sy) : plain (.tuple (rows.map eS)) = true := plainA_map plain_eS rows
theorem wt_all {rows : List Sy} (h : ∀ s ∈ rows, s.length ≤ 10) : wt (.tuple (rows.map eS)) ≤ 1 + rows.length * 31 := Nat.add_le_add_left (wtA_map rows fun x hx => Nat.le_trans (wt_eS x) (by have := h x hx; omega)) 1
theorem wt_t2 (a b : PyData) : wt (.tuple [a, b]) = 1 + (wt a + (wt b + 0)) := rfl
theorem wt_t5 (a b c d e : PyData) : wt (.tuple [a, b, c, d, e]) = 1 + (wt a + (wt b + (wt c + (wt d + (wt e + 0))))) := rfl
theorem plain_t2 {a b : PyData} (h : plain a = true) (h2 : plain b = true) : plain (.tuple [a, b]) = true := by
  show (plain a && (plain b && true)) = true
  rw [h, h2]; rfl
theorem plain_t5 {a b c d e : PyData} (h : plain a = true) (h2 : plain b = true) (h3 : plain c = true) (h4 : plain d = true) (h5 : plain e = true) : plain (.tuple [a, b, c, d, e]) = true := by
  show (plain a && (plain b && (plain c && (plain d && (plain e && true))))) = true
  rw [h, h2, h3, h4, h5]; rfl
/-- a test that two things are one -/
theorem matches_ok {m n : Nat} {env : Sl} {st : Store} {a b : E} {x : PyData} {st1 st2 : Store} (hm : m = n + 1) (ha : ev (callF F m) a env st = .ok (.p x) st1) (hb : ev (callF F m) b env st1 = .ok (.p x) st2) (hx : plain x = true) (hw : wt x < 499990) :
    ev (callF F m) (.o1 .nt (.call true 11 [a, b])) env st = .ok (.p (.bool false)) st2 := by
  subst hm
  have hg : callD (callF F (n + 1)) true 11 [.p x, .p x] st2 = .ok (.p (.bool true)) st2 := callD_pure (match_ok n x hx hw) rfl
  simp [ha, hb, hg, op1]
end Lw
namespace Lw
open PySem Dn
def sw (s : Sy) : Sy := s.map fun p => (p.2, p.1)
theorem sw_sw (s : Sy) : sw (sw s) = s := by
  unfold sw
  rw [List.map_map]
  exact List.map_id' s
abbrev aEnv (i : Nat) (book : PyData) (states : List Str) (z3 z4 z5 z6 z7 : Option D) (one other : List Str) (z10 : Option D) : Sl := [some (.r i), some (.p book), some (.p (eW states)), z3, z4, z5, z6, z7, some (.p (eW one)), some (.p (eW other)), z10]
theorem turned_ev {Φ : Calls} {env : Sl} {st : Store} {s : Sy} (h4 : env[4]? = some (some (.p (eS s)))) (hv : 10 < env.length) (hl : s.length ≤ 1000) :
    ev Φ (.o1 .tup (.comp false (.rv false (.var 10)) (.one 10) 0 [.var 4] [])) env st = .ok (.p (eS (sw s))) st := by
  have hc := ev_compS0 (Φ := Φ) (env := env) (st := st) (tg := .one 10) (its := [.var 4]) (elt := .rv false (.var 10)) (xs := s.map eP) (d := .p (eS s)) (g := fun
    | .tuple [a, b] => .tuple [b, a]
    | _ => .none) (by simp [h4]) (.inl rfl) (fun y hy => by
      obtain ⟨p, _, rfl⟩ := List.mem_map.mp hy
      refine ⟨env.set 10 (some (.p (eP p))), ?_, ?_⟩
      · simp [bindT, setAll, wipeE, hv]
      · have hg : (env.set 10 (some (.p (eP p))))[10]? = some (some (.p (eP p))) := List.getElem?_set_self hv
        simp only [ev_rv, ev_var, hg, Res.bind_ok]
        rfl) (le_line (by simp; omega))
  rw [ev_o1, hc]
  simp [op1, listP, sw, List.map_map]
  intro a b _
  rfl
/-- the bent things, one by one -/
def askB : List S := [.iff (.o1 .nt (.call true 11 [.call true 2 [.var 1, .var 7], .call true 16 [.var 2, .var 7]])) [.ret (.c (.bool false))] []]
def pAsk (i j l : Nat) (book : PyData) (states : List Str) (z3 z4 z5 z6 : Option D) (one other : List Str) (z10 : Option D) (items : List Dn.It) (env : Sl) (st : Store) : Prop :=
  ∃ (q : List PyData) (z7 : Option D), items = q.map (fun y => .one (.p y)) ∧ (∀ y ∈ q, Good y) ∧ env = aEnv i book states z3 z4 z5 z6 z7 one other z10 ∧ Fd i j l st
theorem ask_loop (n : Nat) {i j l : Nat} {states : List Str} {rest : List PyData} {z3 z4 z5 z6 z7 z10 : Option D} {one other : List Str} {its : List E} {st st1 : Store} {ds : List PyData} (hn : states.Nodup) (h : Fd i j l st1) (hd : ∀ y ∈ ds, Good y)
    (hev : evs (callF F (n + 13)) its (aEnv i (bk states rest) states z3 z4 z5 z6 z7 one other z10) st = .ok [.p (.list ds)] st1) :
    wpR (exS (callF F (n + 13)) (.for_ (.one 7) 0 its askB) (aEnv i (bk states rest) states z3 z4 z5 z6 z7 one other z10) st) (fun r st' => r.1 = .nx ∧ Fd i j l st') := by
  rw [exS_forE hev walk_list]
  refine wp_for (pAsk i j l (bk states rest) states z3 z4 z5 z6 one other z10) ?_ ?_ _ _ _ ⟨ds, _, rfl, hd, rfl, h⟩
  · rintro it items env st ⟨q, z7, e1, e2, rfl, e3⟩
    cases q with
    | nil => cases e1
    | cons y q =>
      simp only [List.map_cons, List.cons.injEq] at e1
      obtain ⟨rfl, rfl⟩ := e1
      refine ⟨rfl, ?_⟩
      rw [forF_at (e := aEnv i (bk states rest) states z3 z4 z5 z6 (some (.p y)) one other z10) rfl]
      obtain ⟨g1, g2⟩ := e2 y (by simp)
      have c1 : callD (callF F (n + 13)) true 2 [.p (bk states rest), .p y] st = .ok (.p (.bool (isStory states y))) st := callD_pure (is_story_ok (n + 11) hn g1 g2) rfl
      have c2 : callD (callF F (n + 13)) true 16 [.p (eW states), .p y] st = .ok (.p (.bool (isStory states y))) st := callD_pure (is_right_ok (n + 12) hn g1 g2) rfl
      unfold askB
      rw [wp_cons, wp_iffB false (matches_ok (n := n + 12) (x := .bool (isStory states y)) (st1 := st) rfl (by simp [c1]) (by simp [c2]) rfl (by show 1 < 499990; omega))]
      rw [if_neg (by decide), wp_nil, goOn_nx, wp_nil]
      exact ⟨q, _, rfl, fun z hz => e2 z (by simp [hz]), rfl, e3⟩
  · rintro env st ⟨q, z7, e1, e2, rfl, e3⟩
    exact ⟨rfl, rfl, e3⟩
end Lw
namespace Lw
open PySem Dn
theorem lon_len {n : Nat} {s : Sy} {x y : Str} {r q : List Str} (hr : r.length ≤ 3) (hq : q.length ≤ 3) : (lon n s (x :: r) (y :: q)).length ≤ 64 :=
  Nat.le_trans (lon_le n s x r y q) (Nat.pow_le_pow_right (n := 2) (by omega) (show r.length + q.length ≤ 6 by omega))
theorem asked_ok (n : Nat) {i j l : Nat} {st : Store} {states : List Str} {rest : List PyData} (h : Fd i j l st) (hn : states.Nodup) (h2 : 2 ≤ states.length) (h4 : states.length ≤ 4) (hm : ∀ s ∈ states, s ∈ L11) :
    wpR (callF F (n + 14) f__law_asked [.r i, .p (bk states rest)] st) (fun d st' => d = .p (.bool true) ∧ Fd i j l st') := by
  rw [wp_call (d := d__law_asked) rfl ⟨rfl, by decide⟩]
  show wpR (exB (callF F (n + 13)) b__law_asked [some (.r i), some (.p (bk states rest)), none, none, none, none, none, none, none, none, none] st) _
  have hne : states.map PyData.str ≠ [] := fun e => by
    have := congrArg List.length e
    simp at this
    rw [this] at h2
    simp at h2
  have hlen : (states.map PyData.str).length ≤ 1000 := by rw [List.length_map]; omega
  obtain ⟨d, s1, f1, ys, rfl, n1, u1, a1, b1⟩ := wpR_out (way_ok (n + 10) (xs := states.map .str) h hne hlen)
  obtain ⟨d, s2, f2, zs, rfl, n2, u2, a2, b2⟩ := wpR_out (way_ok (n + 10) (xs := states.map .str) a1 hne hlen)
  obtain ⟨x, r, rfl, px⟩ := path_of hn h4 u1 n1
  obtain ⟨y, q, rfl, py⟩ := path_of hn h4 u2 n2
  have pxl := px.len
  have pyl := py.len
  obtain ⟨DU, hDU⟩ : ∃ DU, DU = lon 13 [(x, y)] (x :: r) (y :: q) := ⟨_, rfl⟩
  obtain ⟨DV, hDV⟩ : ∃ DV, DV = lon 13 [(y, x)] (y :: q) (x :: r) := ⟨_, rfl⟩
  have k1 : ∀ s, callD (callF F (n + 13)) true 15 [.p (eW (x :: r)), .p (eW (y :: q))] s = .ok (.p (.tuple (DU.map eS))) s := fun s => by
    rw [hDU]
    exact callD_pure (both_is (n + 12) px.up.nodup py.up.nodup (by omega)) rfl
  have k2 : ∀ s, callD (callF F (n + 13)) true 15 [.p (eW (y :: q)), .p (eW (x :: r))] s = .ok (.p (.tuple (DV.map eS))) s := fun s => by
    rw [hDV]
    exact callD_pure (both_is (n + 12) py.up.nodup px.up.nodup (by omega)) rfl
  have k3 : ∀ s, callD (callF F (n + 13)) true 6 [.p (eW (x :: r)), .p (eW (y :: q))] s = .ok (.p (.tuple (DU.map eS))) s := fun s => by
    rw [hDU]
    exact callD_pure (stories_of_ok (n + 12) x r y q (by omega) (by omega)) rfl
  have k4 : ∀ s, callD (callF F (n + 13)) true 6 [.p (eW (y :: q)), .p (eW (x :: r))] s = .ok (.p (.tuple (DV.map eS))) s := fun s => by
    rw [hDV]
    exact callD_pure (stories_of_ok (n + 12) y q x r (by omega) (by omega)) rfl
  have lDU : DU.length ≤ 64 := by rw [hDU]; exact lon_len pxl pyl
  have lDV : DV.length ≤ 64 := by rw [hDV]; exact lon_len pyl pxl
  have gU : ∀ s ∈ DU, ∃ t : Sy, s = (x, y) :: t ∧ extP [x] x (t.map (·.1)) = x :: r ∧ extP [y] y (t.map (·.2)) = y :: q ∧ isStory states (eS s) = true ∧ t.length = r.length + q.length ∧ (∀ z ∈ s, z.1 ∈ states ∧ z.2 ∈ states) := fun s hs =>
    story_good (by rw [← hDU]; exact hs) px.up py.up px.mem py.mem
  have gV : ∀ s ∈ DV, s.length ≤ 10 := fun s hs => by
    obtain ⟨t, rfl, _, _, _, ht, _⟩ := story_good (states := states) (by rw [← hDV]; exact hs) py.up px.up py.mem px.mem
    simp
    omega
  have gU' : ∀ s ∈ DU, s.length ≤ 10 := fun s hs => by
    obtain ⟨t, rfl, _, _, _, ht, _⟩ := gU s hs
    simp
    omega
  have nU : DU ≠ [] := by
    rw [hDU]
    exact lon_ne (by omega)
  have nUl : 0 < DU.length := List.length_pos_iff.mpr nU
  unfold b__law_asked
  rw [wp_cons]
  have t1 : exS (callF F (n + 13)) (.set 2 (.o2 .ix (.var 1) (.c (.int 0)))) [some (.r i), some (.p (bk states rest)), none, none, none, none, none, none, none, none, none] st = .ok (.nx, [some (.r i), some (.p (bk states rest)), some (.p (eW states)), none, none, none, none, none, none, none, none]) st := by
    simp [setE]
  refine wpR_eq t1 ?_
  rw [goOn_nx, wp_cons]
  have t2 : exS (callF F (n + 13)) (.par [8, 9] [.call false 14 [.var 0, .var 2], .call false 14 [.var 0, .var 2]]) [some (.r i), some (.p (bk states rest)), some (.p (eW states)), none, none, none, none, none, none, none, none] st =
      .ok (.nx, aEnv i (bk states rest) states none none none none none (x :: r) (y :: q) none) s2 := by
    simp only [exS_par, evs_cons, ev_call, ev_var, evs_nil, Res.bind_ok, List.getElem?_cons_succ, List.getElem?_cons_zero, callD, Bool.false_eq_true, if_false, f1, f2]
    rfl
  refine wpR_eq t2 ?_
  rw [goOn_nx, wp_cons]
  have t3 : exS (callF F (n + 13)) (.set 3 (.call true 15 [.var 8, .var 9])) (aEnv i (bk states rest) states none none none none none (x :: r) (y :: q) none) s2 = .ok (.nx, aEnv i (bk states rest) states (some (.p (.tuple (DU.map eS)))) none none none none (x :: r) (y :: q) none) s2 := by
    simp only [exS_set, evs_cons, ev_call, ev_var, evs_nil, Res.bind_ok, List.getElem?_cons_succ, List.getElem?_cons_zero, k1]
    rfl
  refine wpR_eq t3 ?_
  rw [goOn_nx, wp_cons]
  rw [wp_iffB false (matches_ok (n := n + 12) (x := .tuple [.tuple (DU.map eS), .tuple (DV.map eS)]) (st1 := s2) rfl
    (by simp only [ev_tup, evs_cons, ev_call, ev_callk, ev_var, evs_nil, Res.bind_ok, List.getElem?_cons_succ, List.getElem?_cons_zero, k3, permD, List.mapM_cons, List.mapM_nil, Option.bind_eq_bind, Option.pure_def, Option.bind_some, k4, allP, Option.map_some]; rw [len_t (by simp)]; rfl)
    (by simp only [ev_tup, evs_cons, ev_call, ev_callk, ev_var, evs_nil, Res.bind_ok, List.getElem?_cons_succ, List.getElem?_cons_zero, k2, allP, Option.map_some, Option.bind_some]; rw [len_t (by simp)]; rfl)
    (plain_t2 (plain_all DU) (plain_all DV)) (by
      rw [wt_t2]
      have := wt_all gU'
      have := wt_all gV
      omega))]
  rw [if_neg (by decide), wp_nil, goOn_nx, wp_cons]
  obtain ⟨d, s3, f3, v, rfl, hv0, hv1, a3, b3⟩ := wpR_out (sow_ok (n + 11) (p := "story") (many := DU.length) a2 (by decide) (by omega))
  obtain ⟨v, rfl⟩ := Int.eq_ofNat_of_zero_le hv0
  have hv : v < DU.length := by omega
  obtain ⟨S, hS⟩ : ∃ S, S = DU[v] := ⟨_, rfl⟩
  have hSm : S ∈ DU := by rw [hS]; exact List.getElem_mem hv
  obtain ⟨t, hSt, e1, e2, e3, e4, e5⟩ := gU S hSm
  have g1 : ∀ s, getIx (.p (.tuple (DU.map eS))) (.p (.int (v : Int))) s = some (.p (eS S)) := fun s => by rw [getIx_tup, List.getElem?_map, List.getElem?_eq_getElem hv, hS]; rfl
  have t4 : exS (callF F (n + 13)) (.set 4 (.o2 .ix (.var 3) (.call false 10 [.var 0, .c (.str "story"), .o1 .len (.var 3)]))) (aEnv i (bk states rest) states (some (.p (.tuple (DU.map eS)))) none none none none (x :: r) (y :: q) none) s2 =
      .ok (.nx, aEnv i (bk states rest) states (some (.p (.tuple (DU.map eS)))) (some (.p (eS S))) none none none (x :: r) (y :: q) none) s3 := by
    have hl : (((DU.map eS).length : Nat) : Int) = (DU.length : Int) := by rw [List.length_map]
    simp only [exS_set, ev_o2, ev_var, List.getElem?_cons_succ, List.getElem?_cons_zero, Res.bind_ok, show pre .ix (.p (.tuple (DU.map eS))) s2 = true from rfl, if_true, ev_call, evs_cons, ev_c, ev_o1, op1, evs_nil, Res.nox_ok, hl, callD, Bool.false_eq_true, if_false, f3, op2_ix, g1, Res.of_some]
    rfl
  refine wpR_eq t4 ?_
  rw [goOn_nx, wp_cons]
  have hSl : S.length ≤ 1000 := Nat.le_trans (gU' S hSm) (by omega)
  have t5 : exS (callF F (n + 13)) (.set 5 (.o1 .tup (.comp false (.rv false (.var 10)) (.one 10) 0 [.var 4] []))) (aEnv i (bk states rest) states (some (.p (.tuple (DU.map eS)))) (some (.p (eS S))) none none none (x :: r) (y :: q) none) s3 =
      .ok (.nx, aEnv i (bk states rest) states (some (.p (.tuple (DU.map eS)))) (some (.p (eS S))) (some (.p (eS (sw S)))) none none (x :: r) (y :: q) none) s3 := by
    rw [exS_set, turned_ev rfl (by simp) hSl]
    rfl
  refine wpR_eq t5 ?_
  rw [goOn_nx, wp_cons]
  have c1 : ∀ s, callD (callF F (n + 13)) true 2 [.p (bk states rest), .p (eS S)] s = .ok (.p (.bool true)) s := fun s => by
    have q1 : nd2 (eS S) = true := List.all_eq_true.mpr fun z hz => by
      obtain ⟨p, _, rfl⟩ := List.mem_map.mp hz
      rfl
    have q2 : ∀ ds, eS S = .tuple ds → ds.length ≤ 1000 := fun ds e => by cases e; rw [List.length_map]; exact hSl
    have := is_story_ok (n + 11) (rest := rest) hn q1 q2
    rw [e3] at this
    exact callD_pure this rfl
  have tl : t.length ≤ 1000 := by omega
  have c2 : ∀ s, callD (callF F (n + 13)) true 4 [.p (eS S)] s = .ok (.p (.tuple [eW (x :: r), eW (y :: q)])) s := fun s => by
    have := story_paths_ok (n + 11) (x, y) t tl
    rw [← hSt, e1, e2] at this
    exact callD_pure this rfl
  have hsw : sw S = (y, x) :: sw t := by rw [hSt]; rfl
  have swl : (sw t).length ≤ 1000 := by unfold sw; rw [List.length_map]; exact tl
  have c3 : ∀ s, callD (callF F (n + 13)) true 4 [.p (eS (sw S))] s = .ok (.p (.tuple [eW (y :: q), eW (x :: r)])) s := fun s => by
    have := story_paths_ok (n + 11) (y, x) (sw t) swl
    have m1 : (sw t).map (·.1) = t.map (·.2) := by unfold sw; rw [List.map_map]; rfl
    have m2 : (sw t).map (·.2) = t.map (·.1) := by unfold sw; rw [List.map_map]; rfl
    rw [← hsw, m1, m2, e1, e2] at this
    exact callD_pure this rfl
  have c4 : ∀ s, callD (callF F (n + 13)) true 7 [.p (eS S)] s = .ok (.p (eS (sw S))) s := fun s => callD_pure (mirror_ok (n + 12) S hSl) rfl
  have c5 : ∀ s, callD (callF F (n + 13)) true 7 [.p (eS (sw S))] s = .ok (.p (eS S)) s := fun s => by
    have := mirror_ok (n + 12) (sw S) (by unfold sw; rw [List.length_map]; exact hSl)
    have m : (sw S).map (fun p => (p.2, p.1)) = S := sw_sw S
    rw [m] at this
    exact callD_pure this rfl
  have t6 : exS (callF F (n + 13)) (.set 6 (.tup [.call true 2 [.var 1, .var 4], .call true 4 [.var 4], .call true 7 [.var 4], .callk true 7 [0] [.var 5], .callk true 4 [0] [.var 5]])) (aEnv i (bk states rest) states (some (.p (.tuple (DU.map eS)))) (some (.p (eS S))) (some (.p (eS (sw S)))) none none (x :: r) (y :: q) none) s3 =
      .ok (.nx, aEnv i (bk states rest) states (some (.p (.tuple (DU.map eS)))) (some (.p (eS S))) (some (.p (eS (sw S)))) (some (.p (.tuple [.bool true, .tuple [eW (x :: r), eW (y :: q)], eS (sw S), eS S, .tuple [eW (y :: q), eW (x :: r)]]))) none (x :: r) (y :: q) none) s3 := by
    simp only [exS_set, ev_tup, evs_cons, ev_call, ev_callk, ev_var, evs_nil, Res.bind_ok, List.getElem?_cons_succ, List.getElem?_cons_zero, c1, c2, c3, c4, c5, permD, List.mapM_cons, List.mapM_nil, Option.bind_eq_bind, Option.pure_def, Option.bind_some, allP, Option.map_some]
    rw [len_t (by simp)]
    rfl
  refine wpR_eq t6 ?_
  rw [goOn_nx, wp_cons]
  have hwt : wt (.tuple [.bool true, .tuple [eW (x :: r), eW (y :: q)], eS (sw S), eS S, .tuple [eW (y :: q), eW (x :: r)]]) < 499990 := by
    rw [wt_t5, wt_t2, wt_t2]
    have w1 := wt_eW (x :: r)
    have w2 := wt_eW (y :: q)
    have w3 := wt_eS (sw S)
    have w4 := wt_eS S
    have : (sw S).length = S.length := by unfold sw; rw [List.length_map]
    simp only [List.length_cons] at w1 w2
    show 1 + (1 + _) < _
    omega
  rw [wp_iffB false (matches_ok (n := n + 12) (x := .tuple [.bool true, .tuple [eW (x :: r), eW (y :: q)], eS (sw S), eS S, .tuple [eW (y :: q), eW (x :: r)]]) (st1 := s3) rfl
    (by simp only [ev_var, List.getElem?_cons_succ, List.getElem?_cons_zero])
    (by
      simp only [ev_tup, evs_cons, ev_c, ev_var, evs_nil, Res.bind_ok, List.getElem?_cons_succ, List.getElem?_cons_zero, allP, Option.map_some, Option.bind_some]
      rw [len_t (by simp), len_t (by simp)]
      simp only [Res.of_some, Res.bind_ok, allP, Option.map_some, Option.bind_some]
      rw [len_t (by simp)]
      rfl)
    (plain_t5 rfl (plain_t2 (plain_eW _) (plain_eW _)) (plain_eS _) (plain_eS _) (plain_t2 (plain_eW _) (plain_eW _))) hwt)]
  rw [if_neg (by decide), wp_nil, goOn_nx, wp_cons]
  have hne2 : states ≠ [] := fun e => by rw [e] at h2; simp at h2
  have hSne : S ≠ [] := by rw [hSt]; simp
  obtain ⟨d, s4, f4, ds, rfl, hdl, hdg, a4⟩ := wpR_out (bent_ok (n + 10) (states := states) (s := S) a3 hne2 h4 hm hSne (Nat.le_trans (gU' S hSm) (by omega)))
  refine wpR_mono (ask_loop n (i := i) (j := j) (l := l) (st1 := s4) (ds := ds) hn a4 hdg (by
    simp only [evs_cons, ev_call, ev_var, evs_nil, Res.bind_ok, List.getElem?_cons_succ, List.getElem?_cons_zero, callD, Bool.false_eq_true, if_false, f4])) ?_
  rintro ⟨fl, e⟩ s5 ⟨h5, a5⟩
  cases h5
  rw [goOn_nx, wp_cons, wp_ret]
  exact ⟨rfl, a5⟩
end Lw
namespace Lw
open PySem Dn
theorem hand_true : isTrueR (callF F 59 f__law_by_hand [] []) = true := by kernel_rfl
theorem hand_ok : Gives F 59 f__law_by_hand [] (.bool true) := by
  have h := hand_true
  unfold isTrueR at h
  refine ⟨.p (.bool true), ?_⟩
  cases e : callF F 59 f__law_by_hand [] [] with
  | ok d st => rw [e] at h; cases d with
    | p d => cases d with
      | bool b => cases b with
        | true => exact ⟨st, e, rfl⟩
        | false => cases h
      | _ => cases h
    | r k => cases h
  | ex c fs st => rw [e] at h; cases h
  | bad => rw [e] at h; cases h
abbrev dcba : List Str := ["d", "c", "b", "a"]
def far : List Sy := lon 13 [("d", "d")] dcba dcba
theorem far_len : far.length = 20 := by decide +kernel
theorem far_le : ∀ s ∈ far, s.length ≤ 10 := by decide +kernel
theorem dcba_nd : dcba.Nodup := by decide
def lawB : List S := [.iff (.o1 .nt (.call false 18 [.var 1, .call false 13 [.var 1]])) [.ret (.c (.bool false))] []]
def pLaw (script : PyData) (items : List Dn.It) (env : Sl) (st : Store) : Prop :=
  ∃ (c : Int) (m : Nat) (z2 : Option D), items = rangeI c 1 m ∧ env = [some (.p script), some (.r 3), z2, none, none, none] ∧ Fd 3 1 2 st
abbrev farB : PyData := bk dcba [.tuple [.tuple [.str "d"], .tuple [.str "c"], .tuple [.str "d"]], .tuple []]
theorem wp_iffS {Φ : Calls} {env : Sl} {st st1 : Store} {c : E} {t f : List S} {QS : Dn.Flow × Sl → Store → Prop} (b : Bool) (h : ev Φ c env st = .ok (.p (.bool b)) st1) : wpR (exS Φ (.iff c t f) env st) QS = wpR (exB Φ (if b then t else f) env st1) QS := by
  rw [wp_iff, h]
  apply propext
  constructor
  · rintro ⟨b', h1, h2⟩
    cases h1
    exact h2
  · exact fun h => ⟨b, rfl, h⟩
theorem law_true : ∀ ns : List Int, ns.length ≤ 63 → ∃ st', callF F 60 f_law [.p (.list (ns.map .int))] [] = .ok (.p (.bool true)) st' := by
  intro ns _
  suffices h : wpR (callF F 60 f_law [.p (.list (ns.map .int))] []) (fun d _ => d = .p (.bool true)) by
    obtain ⟨d, st', e, rfl⟩ := wpR_out h
    exact ⟨st', e⟩
  rw [wp_call (d := d_law) rfl ⟨rfl, by decide⟩]
  show wpR (exB (callF F 59) b_law [some (.p (.list (ns.map .int))), none, none, none, none, none] []) _
  obtain ⟨script, hsc⟩ : ∃ x : PyData, x = .list (ns.map .int) := ⟨_, rfl⟩
  obtain ⟨d, s1, f1, rfl, a1, _⟩ := wpR_out (field_ok 58 ns)
  rw [← hsc] at f1 ⊢
  unfold b_law
  rw [wp_cons]
  have t1 : exS (callF F 59) (.set 1 (.call false 8 [.var 0])) [some (.p script), none, none, none, none, none] [] = .ok (.nx, [some (.p script), some (.r 3), none, none, none, none]) s1 := by
    simp only [exS_set, ev_call, evs_cons, ev_var, evs_nil, Res.bind_ok, List.getElem?_cons_zero, callD, Bool.false_eq_true, if_false, f1]
    rfl
  refine wpR_eq t1 ?_
  rw [goOn_nx, wp_cons]
  have t2 : ev (callF F 59) (.o1 .nt (.call true 19 [])) [some (.p script), some (.r 3), none, none, none, none] s1 = .ok (.p (.bool false)) s1 := by
    have hc : callD (callF F 59) true 19 [] s1 = .ok (.p (.bool true)) s1 := callD_pure hand_ok rfl
    simp [hc, op1]
  rw [wp_iffB false t2, if_neg (by decide), wp_nil, goOn_nx, wp_cons]
  rw [exS_forE (ds := [.p (.int 4)]) (st1 := s1) (items := rangeI 0 1 4) (by simp) (walk_range (by omega) (by omega))]
  refine wp_for (pLaw script) ?_ ?_ _ _ _ ⟨0, 4, none, rfl, rfl, a1⟩
  · rintro it items env st ⟨c, m, z2, e1, rfl, a⟩
    obtain ⟨m, rfl, rfl, rfl⟩ := rangeI_cons e1
    refine ⟨rfl, ?_⟩
    rw [forF_at (e := [some (.p script), some (.r 3), some (.p (.int c)), none, none, none]) rfl]
    obtain ⟨d, s2, f2, states, rest, rfl, hn, h2, h4, hm, a2⟩ := wpR_out (book_ok 55 a)
    obtain ⟨d, s3, f3, rfl, a3⟩ := wpR_out (asked_ok 45 (rest := rest) a2 hn h2 h4 hm)
    have t3 : ev (callF F 59) (.o1 .nt (.call false 18 [.var 1, .call false 13 [.var 1]])) [some (.p script), some (.r 3), some (.p (.int c)), none, none, none] st = .ok (.p (.bool false)) s3 := by
      simp only [ev_o1, ev_call, evs_cons, ev_var, evs_nil, Res.bind_ok, List.getElem?_cons_zero, List.getElem?_cons_succ, callD, Bool.false_eq_true, if_false, f2, f3]
      rfl
    rw [wp_cons, wp_iffS false t3, if_neg (by decide), wp_nil, goOn_nx, wp_nil]
    exact ⟨_, m, _, rfl, rfl, a3⟩
  · rintro env st ⟨c, m, z2, e1, rfl, a⟩
    refine ⟨rfl, ?_⟩
    rw [goOn_nx, wp_cons]
    have t4 : exS (callF F 59) (.set 3 (.tup [.c (.str "d"), .c (.str "c"), .c (.str "b"), .c (.str "a")])) [some (.p script), some (.r 3), z2, none, none, none] st = .ok (.nx, [some (.p script), some (.r 3), z2, some (.p (eW dcba)), none, none]) st := by
      simp [allP, sizeLine_eq, setE]
    refine wpR_eq t4 ?_
    rw [goOn_nx, wp_cons]
    have t5 : exS (callF F 59) (.set 4 (.tup [.var 3, .tup [.tup [.c (.str "d")], .tup [.c (.str "c")], .tup [.c (.str "d")]], .tup []])) [some (.p script), some (.r 3), z2, some (.p (eW dcba)), none, none] st = .ok (.nx, [some (.p script), some (.r 3), z2, some (.p (eW dcba)), some (.p farB), none]) st := by
      simp [allP, sizeLine_eq, setE]
    refine wpR_eq t5 ?_
    rw [goOn_nx, wp_cons]
    have k1 : ∀ s, callD (callF F 59) true 15 [.p (eW dcba), .p (eW dcba)] s = .ok (.p (.tuple (far.map eS))) s := fun s => callD_pure (both_is 58 dcba_nd dcba_nd (by decide)) rfl
    have k2 : ∀ s, callD (callF F 59) true 6 [.p (eW dcba), .p (eW dcba)] s = .ok (.p (.tuple (far.map eS))) s := fun s => callD_pure (stories_of_ok 58 "d" ["c", "b", "a"] "d" ["c", "b", "a"] (by decide) (by decide)) rfl
    have t6 : exS (callF F 59) (.set 5 (.call true 15 [.var 3, .var 3])) [some (.p script), some (.r 3), z2, some (.p (eW dcba)), some (.p farB), none] st = .ok (.nx, [some (.p script), some (.r 3), z2, some (.p (eW dcba)), some (.p farB), some (.p (.tuple (far.map eS)))]) st := by
      simp only [exS_set, ev_call, evs_cons, ev_var, evs_nil, Res.bind_ok, List.getElem?_cons_zero, List.getElem?_cons_succ, k1]
      rfl
    refine wpR_eq t6 ?_
    rw [goOn_nx, wp_cons, wp_ret]
    obtain ⟨d, s4, f4, v, rfl, hv0, hv1, a4, b4⟩ := wpR_out (sow_ok 57 (p := "far") (many := 20) a (by decide) (by decide))
    obtain ⟨v, rfl⟩ := Int.eq_ofNat_of_zero_le hv0
    have hl := far_len
    have hv : v < far.length := by omega
    obtain ⟨S, hS⟩ : ∃ S, S = far[v] := ⟨_, rfl⟩
    have hSm : S ∈ far := by rw [hS]; exact List.getElem_mem hv
    have hup : Up dcba dcba := up_of dcba_nd
    obtain ⟨t, hSt, _, _, e3, _, _⟩ := story_good (states := dcba) (x := "d") (y := "d") (r := ["c", "b", "a"]) (q := ["c", "b", "a"]) hSm hup hup (fun z hz => hz) (fun z hz => hz)
    have g1 : ∀ s, getIx (.p (.tuple (far.map eS))) (.p (.int (v : Int))) s = some (.p (eS S)) := fun s => by rw [getIx_tup, List.getElem?_map, List.getElem?_eq_getElem hv, hS]; rfl
    have c1 : ∀ s, callD (callF F 59) true 2 [.p farB, .p (eS S)] s = .ok (.p (.bool true)) s := fun s => by
      have q1 : nd2 (eS S) = true := List.all_eq_true.mpr fun z hz => by
        obtain ⟨p, _, rfl⟩ := List.mem_map.mp hz
        rfl
      have q2 : ∀ ds, eS S = .tuple ds → ds.length ≤ 1000 := fun ds e => by cases e; rw [List.length_map]; exact Nat.le_trans (far_le S hSm) (by omega)
      have := is_story_ok 57 (rest := [.tuple [.tuple [.str "d"], .tuple [.str "c"], .tuple [.str "d"]], .tuple []]) dcba_nd q1 q2
      rw [e3] at this
      exact callD_pure this rfl
    have hll : (((far.map eS).length : Nat) : Int) = 20 := by rw [List.length_map, hl]; rfl
    have k3 : callD (callF F 59) true 11 [.p (.tuple [.tuple (far.map eS), .int 20, .bool true]), .p (.tuple [.tuple (far.map eS), .int 20, .bool true])] s4 = .ok (.p (.bool true)) s4 := callD_pure (match_ok 58 _ (by
      show (plain (.tuple (far.map eS)) && (true && (true && true))) = true
      rw [plain_all]; rfl) (by
      have := wt_all far_le
      show 1 + (wt (.tuple (far.map eS)) + (1 + (1 + 0))) < 499990
      omega)) rfl
    have t7 : ev (callF F 59) (.call true 11 [.tup [.call true 6 [.var 3, .var 3], .o1 .len (.var 5), .call true 2 [.var 4, .o2 .ix (.var 5) (.call false 10 [.var 1, .c (.str "far"), .c (.int 20)])]], .tup [.var 5, .c (.int 20), .c (.bool true)]]) [some (.p script), some (.r 3), z2, some (.p (eW dcba)), some (.p farB), some (.p (.tuple (far.map eS)))] st = .ok (.p (.bool true)) s4 := by
      have hf : callD (callF F 59) false 10 [.r 3, .p (.str "far"), .p (.int 20)] st = .ok (.p (.int (v : Int))) s4 := f4
      simp only [ev_call, ev_tup, evs_cons, ev_c, ev_var, evs_nil, Res.bind_ok, List.getElem?_cons_zero, List.getElem?_cons_succ, k2, ev_o1, op1, hll, Res.nox_ok, ev_o2, show ∀ s, pre .ix (.p (.tuple (far.map eS))) s = true from fun _ => rfl, if_true, hf, op2_ix, g1, Res.of_some, c1, allP, Option.map_some, Option.bind_some]
      rw [len_t (by simp)]
      simp only [Res.of_some, Res.bind_ok, k3]
    rw [t7]
    exact rfl
end Lw
namespace Lw
open PySem Dn
def tp (i : Nat) : Stmt := PySem.Challenge.pw_rowsrise_k10_edge_stories.main.body.getD i (.Pass ⟨0, 0, 0, 0⟩)
def r_is_pair : Fr := ⟨d_is_pair, tp 1, []⟩
theorem bd_is_pair : BdOk r_is_pair := by
  refine ⟨fun _ _ _ _ _ _ us hl => match us, hl with | [_, _], _ => rfl, ?_⟩
  exact fun q hq => absurd hq (List.not_mem_nil)
def r_is_follower : Fr := ⟨d_is_follower, tp 2, []⟩
theorem bd_is_follower : BdOk r_is_follower := by
  refine ⟨fun _ _ _ _ _ _ us hl => match us, hl with | [_, _, _], _ => rfl, ?_⟩
  exact fun q hq => absurd hq (List.not_mem_nil)
def r_is_story : Fr := ⟨d_is_story, tp 3, [(0, ["thing", "book"], [1, 0])]⟩
theorem bd_is_story : BdOk r_is_story := by
  refine ⟨fun _ _ _ _ _ _ us hl => match us, hl with | [_, _], _ => rfl, ?_⟩
  intro q hq
  rcases List.mem_cons.mp hq with rfl | hq
  · exact fun _ _ _ _ _ _ us ws h1 h2 => match us, ws, h1, h2 with | [], [_, _], _, _ => rfl
  exact absurd hq (List.not_mem_nil)
def r_side_path : Fr := ⟨d_side_path, tp 4, []⟩
theorem bd_side_path : BdOk r_side_path := by
  refine ⟨fun _ _ _ _ _ _ us hl => match us, hl with | [_, _], _ => rfl, ?_⟩
  exact fun q hq => absurd hq (List.not_mem_nil)
def r_story_paths : Fr := ⟨d_story_paths, tp 5, [(0, ["story"], [0])]⟩
theorem bd_story_paths : BdOk r_story_paths := by
  refine ⟨fun _ _ _ _ _ _ us hl => match us, hl with | [_], _ => rfl, ?_⟩
  intro q hq
  rcases List.mem_cons.mp hq with rfl | hq
  · exact fun _ _ _ _ _ _ us ws h1 h2 => match us, ws, h1, h2 with | [], [_], _, _ => rfl
  exact absurd hq (List.not_mem_nil)
def r_longer_stories : Fr := ⟨d_longer_stories, tp 6, []⟩
theorem bd_longer_stories : BdOk r_longer_stories := by
  refine ⟨fun _ _ _ _ _ _ us hl => match us, hl with | [_, _, _], _ => rfl, ?_⟩
  exact fun q hq => absurd hq (List.not_mem_nil)
def r_stories_of : Fr := ⟨d_stories_of, tp 7, [(0, ["one", "other"], [0, 1])]⟩
theorem bd_stories_of : BdOk r_stories_of := by
  refine ⟨fun _ _ _ _ _ _ us hl => match us, hl with | [_, _], _ => rfl, ?_⟩
  intro q hq
  rcases List.mem_cons.mp hq with rfl | hq
  · exact fun _ _ _ _ _ _ us ws h1 h2 => match us, ws, h1, h2 with | [], [_, _], _, _ => rfl
  exact absurd hq (List.not_mem_nil)
def r_mirror_story : Fr := ⟨d_mirror_story, tp 8, [(0, ["story"], [0])]⟩
theorem bd_mirror_story : BdOk r_mirror_story := by
  refine ⟨fun _ _ _ _ _ _ us hl => match us, hl with | [_], _ => rfl, ?_⟩
  intro q hq
  rcases List.mem_cons.mp hq with rfl | hq
  · exact fun _ _ _ _ _ _ us ws h1 h2 => match us, ws, h1, h2 with | [], [_], _, _ => rfl
  exact absurd hq (List.not_mem_nil)
def r__law_field : Fr := ⟨d__law_field, tp 10, []⟩
theorem bd__law_field : BdOk r__law_field := by
  refine ⟨fun _ _ _ _ _ _ us hl => match us, hl with | [_], _ => rfl, ?_⟩
  exact fun q hq => absurd hq (List.not_mem_nil)
def r__law_furrow : Fr := ⟨d__law_furrow, tp 11, []⟩
theorem bd__law_furrow : BdOk r__law_furrow := by
  refine ⟨fun _ _ _ _ _ _ us hl => match us, hl with | [_], _ => rfl, ?_⟩
  exact fun q hq => absurd hq (List.not_mem_nil)
def r__law_sow : Fr := ⟨d__law_sow, tp 12, []⟩
theorem bd__law_sow : BdOk r__law_sow := by
  refine ⟨fun _ _ _ _ _ _ us hl => match us, hl with | [_, _, _], _ => rfl, ?_⟩
  exact fun q hq => absurd hq (List.not_mem_nil)
def r__law_match : Fr := ⟨d__law_match, tp 13, []⟩
theorem bd__law_match : BdOk r__law_match := by
  refine ⟨fun _ _ _ _ _ _ us hl => match us, hl with | [_, _], _ => rfl, ?_⟩
  exact fun q hq => absurd hq (List.not_mem_nil)
def r__law_set : Fr := ⟨d__law_set, tp 14, []⟩
theorem bd__law_set : BdOk r__law_set := by
  refine ⟨fun _ _ _ _ _ _ us hl => match us, hl with | [_, _, _], _ => rfl, ?_⟩
  exact fun q hq => absurd hq (List.not_mem_nil)
def r__law_book : Fr := ⟨d__law_book, tp 15, []⟩
theorem bd__law_book : BdOk r__law_book := by
  refine ⟨fun _ _ _ _ _ _ us hl => match us, hl with | [_], _ => rfl, ?_⟩
  exact fun q hq => absurd hq (List.not_mem_nil)
def r__law_way : Fr := ⟨d__law_way, tp 16, []⟩
theorem bd__law_way : BdOk r__law_way := by
  refine ⟨fun _ _ _ _ _ _ us hl => match us, hl with | [_, _], _ => rfl, ?_⟩
  exact fun q hq => absurd hq (List.not_mem_nil)
def r__law_both : Fr := ⟨d__law_both, tp 17, []⟩
theorem bd__law_both : BdOk r__law_both := by
  refine ⟨fun _ _ _ _ _ _ us hl => match us, hl with | [_, _], _ => rfl, ?_⟩
  exact fun q hq => absurd hq (List.not_mem_nil)
def r__law_is_right : Fr := ⟨d__law_is_right, tp 18, []⟩
theorem bd__law_is_right : BdOk r__law_is_right := by
  refine ⟨fun _ _ _ _ _ _ us hl => match us, hl with | [_, _], _ => rfl, ?_⟩
  exact fun q hq => absurd hq (List.not_mem_nil)
def r__law_bent : Fr := ⟨d__law_bent, tp 19, []⟩
theorem bd__law_bent : BdOk r__law_bent := by
  refine ⟨fun _ _ _ _ _ _ us hl => match us, hl with | [_, _, _], _ => rfl, ?_⟩
  exact fun q hq => absurd hq (List.not_mem_nil)
def r__law_asked : Fr := ⟨d__law_asked, tp 20, []⟩
theorem bd__law_asked : BdOk r__law_asked := by
  refine ⟨fun _ _ _ _ _ _ us hl => match us, hl with | [_, _], _ => rfl, ?_⟩
  exact fun q hq => absurd hq (List.not_mem_nil)
def r__law_by_hand : Fr := ⟨d__law_by_hand, tp 21, []⟩
theorem bd__law_by_hand : BdOk r__law_by_hand := by
  refine ⟨fun _ _ _ _ _ _ us hl => match us, hl with | [], _ => rfl, ?_⟩
  exact fun q hq => absurd hq (List.not_mem_nil)
def r_law : Fr := ⟨d_law, tp 22, []⟩
theorem bd_law : BdOk r_law := by
  refine ⟨fun _ _ _ _ _ _ us hl => match us, hl with | [_], _ => rfl, ?_⟩
  exact fun q hq => absurd hq (List.not_mem_nil)
def frs : List Fr := [r_is_pair, r_is_follower, r_is_story, r_side_path, r_story_paths, r_longer_stories, r_stories_of, r_mirror_story, r__law_field, r__law_furrow, r__law_sow, r__law_match, r__law_set, r__law_book, r__law_way, r__law_both, r__law_is_right, r__law_bent, r__law_asked, r__law_by_hand, r_law]
theorem frsF : frs.map (fun r => r.d) = F := rfl
def blt : List Str := ["all", "isinstance", "tuple", "len", "str", "zip", "range", "abs", "int", "bool", "list", "sorted"]
theorem bds : ∀ r ∈ frs, BdOk r := all_cons bd_is_pair (all_cons bd_is_follower (all_cons bd_is_story (all_cons bd_side_path (all_cons bd_story_paths (all_cons bd_longer_stories (all_cons bd_stories_of (all_cons bd_mirror_story (all_cons bd__law_field (all_cons bd__law_furrow (all_cons bd__law_sow (all_cons bd__law_match (all_cons bd__law_set (all_cons bd__law_book (all_cons bd__law_way (all_cons bd__law_both (all_cons bd__law_is_right (all_cons bd__law_bent (all_cons bd__law_asked (all_cons bd__law_by_hand (all_cons bd_law all_nil))))))))))))))))))))
theorem oks : frs.all (Fr.ok (cnOf frs blt)) = true := by kernel_rfl
abbrev R : PySem.W.OpenRow := PySem.W.OpenLaw.row PySem.Challenge.rw_rowsrise_k10_edge_stories
def fas : List He.Fa := faOf frs blt
def dds : List He.DefD := frs.map Fr.dd
abbrev hk : PySem.W.Hook := He.hookD 4 fas dds
def ob (s : PySem.W.SharedT) : He.AlD := He.obsDG 4 fas dds (HandSHeadRun.getT s)
theorem ob_eq (s : PySem.W.SharedT) : ob s = hk.obs s.abs := He.obsDG_eq (HandSHeadRun.getT_eq s)
def lo : List PySem.Str := (["is_pair", "is_follower", "is_story", "side_path", "story_paths", "longer_stories", "stories_of", "mirror_story", "_law_field", "_law_furrow", "_law_sow", "_law_match", "_law_set", "_law_book", "_law_way", "_law_both", "_law_is_right", "_law_bent", "_law_asked", "_law_by_hand"] : List PySem.Str)
theorem run (w : World) : HandSHeadRun.RunEq R (PySem.W.view R.prog [22]) hk ob 1560 lo w := by
  intro os
  kernel_rfl
end Lw
open PySem PySem.W PySem.Calls PyProof.Rows Dn
theorem PySem.Challenge.cw_rowsrise_k10_edge_stories_holds : PySem.Challenge.rw_rowsrise_k10_edge_stories.Holds := by
  w_on; o_law
  refine HandSHeadRun.head_any (r := Lw.R) (q := view Lw.R.prog [22]) (H := Lw.hk) (ob := Lw.ob) (M := 1560) (loose := Lw.lo) (d := HandSHeadRun.topDef Lw.R.prog 22) (kwd := []) Lw.ob_eq
    (by kernel_rfl) (fun s => by kernel_rfl) Lw.run (by kernel_rfl) (by kernel_rfl) (by kernel_rfl) (by rfl) (by first | assumption | decide +kernel) (by decide +kernel) ⟨rfl, rfl, rfl, rfl, rfl, by decide +kernel⟩ ?hw ?hc
  case hw => w_witness2
  case hc =>
    refine walkD (l := PySem.Challenge.rw_rowsrise_k10_edge_stories) (num := 63) (lev := 60) rfl (by decide) (by kernel_rfl) ⟨rfl, by decide, by decide⟩ ?F
    intro w mg fa h Y G hmg0
    obtain ⟨K, KX, c⟩ := Y
    have hmg : mg ("law" : PySem.Str) = some (.ref fa) := by
      have e : (HandSHeadRun.topDef Lw.R.prog 22).name = ("law" : PySem.Str) := by kernel_rfl
      rw [← e]
      exact hmg0
    exact law_facts (i := 20) (r := Lw.r_law) KX G c Lw.oks Lw.bds rfl rfl rfl hmg Lw.law_true
