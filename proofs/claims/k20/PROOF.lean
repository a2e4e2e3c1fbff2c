import PyProof.Rows.All
import Wide.All
import OpenK.AllK
import Wide.FinOn
import KE.KStateDown
import HandS.ForMost
import HandS.TupAny
import HandS.Style
import HandS.Flow
import HandS.Conv
import HandS.ListItems
import HandS.SortInts
import HandS.Deep
import HandS.IsInst
import HandS.RaiseMore
import HandS.TupLen
import HandS.More
import HandS.ListEq
import HandS.DeepEq
import HandS.NoneIn
import HandS.Small
import HandS.Ends
import HandS.HeadEnd
import HandS.HeadHook2
import HandS.Head0
import HandS.Head1
import HandS.Head2
import PyProof.ReprLen
import PyProof.StrLawsRepr
import PyProof.FitsInt
import PySem.Challenge.RW_formflow_k20_fields_of_forms
set_option autoImplicit false
set_option linter.all false
set_option maxRecDepth 100000
set_option Elab.async false
set_option maxHeartbeats 200000
/-! A small language of data, with its meaning: what the defs of a text reckon, over trees and numbered cells. -/
namespace Mi
open PySem

abbrev Kk := Sum L2.Key (List L2.Key)
/-- a value: a tree (kl, kd: a list, a dict that is read alone; kt: a tuple of the module), or the number of a cell -/
inductive Val where
  | non | bl (b : Bool) | int (i : Int) | str (s : Str) | tup (xs : List Val) | kl (xs : List Val) | kt (xs : List Val) | kd (ks : List Kk) (vs : List Val) | ref (l : Nat)
  deriving Inhabited
/-- what a cell holds: a list, a dict, a dict that is walked just now, an instance -/
inductive Ob where
  | lst (xs : List Val) | dct (kvs : List (Kk × Val)) | kdct (kvs : List (Kk × Val)) | ins (c : Str) (fs : List (Str × Val))
  deriving Inhabited
abbrev Hh := List Ob
abbrev En := List (Option Val)
structure Exn where
  c : Str
  fs : List (Str × Val)
inductive R (α : Type) where
  | ok (a : α) (h : Hh) | exc (x : Exn) (h : Hh) | bad
def R.bind {α β : Type} (r : R α) (f : α → Hh → R β) : R β :=
  match r with
  | .ok a h => f a h
  | .exc x h => .exc x h
  | .bad => .bad
@[simp] theorem R.bind_ok {α β : Type} (a : α) (h : Hh) (f : α → Hh → R β) : (R.ok a h).bind f = f a h := rfl
@[simp] theorem R.bind_exc {α β : Type} (x : Exn) (h : Hh) (f : α → Hh → R β) : (R.exc x h : R α).bind f = .exc x h := rfl
@[simp] theorem R.bind_bad {α β : Type} (f : α → Hh → R β) : (R.bad : R α).bind f = .bad := rfl
/-- an answer, if there is one -/
def orBad {α β : Type} (o : Option α) (f : α → R β) : R β := match o with
  | some a => f a
  | none => .bad
@[simp] theorem orBad_some {α β : Type} (a : α) (f : α → R β) : orBad (some a) f = f a := rfl
@[simp] theorem orBad_none {α β : Type} (f : α → R β) : orBad (none : Option α) f = .bad := rfl

/-! ### dicts -/
def dget (kvs : List (Kk × Val)) (k : Kk) : Option Val := (kvs.find? fun kv => decide (kv.1 = k)).map (·.2)
def dput (kvs : List (Kk × Val)) (k : Kk) (v : Val) : List (Kk × Val) :=
  if (kvs.any fun kv => decide (kv.1 = k)) = true then kvs.map (fun kv => if kv.1 = k then (kv.1, v) else kv) else kvs ++ [(k, v)]
def ddrop (kvs : List (Kk × Val)) (k : Kk) : List (Kk × Val) := kvs.filter fun kv => decide (kv.1 ≠ k)
def flatKey : Val → Option L2.Key
  | .int i => some (.inl i)
  | .str s => some (.inr s)
  | _ => none
def flatKeys : List Val → Option (List L2.Key)
  | [] => some []
  | v :: vs => match flatKey v, flatKeys vs with
    | some k, some ks => some (k :: ks)
    | _, _ => none
def toKey : Val → Option Kk
  | .int i => some (.inl (.inl i))
  | .str s => some (.inl (.inr s))
  | .tup xs => (flatKeys xs).map .inr
  | _ => none
def keyV : L2.Key → Val
  | .inl i => .int i
  | .inr s => .str s
def keyVal : Kk → Val
  | .inl k => keyV k
  | .inr ks => .tup (ks.map keyV)
/-- keys of one kind: all numbers and texts, or all tuples of such -/
def oneKind (k : Kk) (kvs : List (Kk × Val)) : Bool := match k with
  | .inl _ => kvs.all fun kv => match kv.1 with
    | .inl _ => true
    | .inr _ => false
  | .inr _ => kvs.all fun kv => match kv.1 with
    | .inl _ => false
    | .inr _ => true
def plainKeys (kvs : List (Kk × Val)) : Bool := kvs.all fun kv => match kv.1 with
  | .inl _ => true
  | .inr _ => false

/-! ### data -/
def allD (f : Val → Option PyData) : List Val → Option (List PyData)
  | [] => some []
  | v :: vs => match f v, allD f vs with
    | some d, some ds => some (d :: ds)
    | _, _ => none
/-- the data of a value, at most n deep; lists are read from their cells -/
def toD (h : Hh) : Nat → Val → Option PyData
  | _, .non => some .none
  | _, .bl b => some (.bool b)
  | _, .int i => some (.int i)
  | _, .str s => some (.str s)
  | 0, .tup _ => none
  | n + 1, .tup xs => (allD (toD h n) xs).map .tuple
  | 0, .kl _ => none
  | n + 1, .kl xs => (allD (toD h n) xs).map .list
  | 0, .kt _ => none
  | n + 1, .kt xs => (allD (toD h n) xs).map .tuple
  | _, .kd _ _ => none
  | 0, .ref _ => none
  | n + 1, .ref l => match h[l]? with
    | some (.lst xs) => (allD (toD h n) xs).map .list
    | _ => none
def deep : Nat := 40
/-- scalars whose == is plain -/
def scal : Val → Val → Option Bool
  | .non, .non => some true
  | .int i, .int j => some (i == j)
  | .bl i, .bl j => some (i == j)
  | .str i, .str j => some (i == j)
  | .non, .int _ => some false
  | .non, .bl _ => some false
  | .non, .str _ => some false
  | .int _, .non => some false
  | .bl _, .non => some false
  | .str _, .non => some false
  | .int _, .str _ => some false
  | .bl _, .str _ => some false
  | .str _, .int _ => some false
  | .str _, .bl _ => some false
  | _, _ => none
/-- data that are equal, of few levels -/
def dataEq (h : Hh) (v u : Val) : Bool := match toD h deep v, toD h deep u with
  | some d, some e => SeqAt.shaped d && SeqAt.shaped e && decide (d.depth ≤ 60) && decide (e.depth ≤ 60) && PyData.eqv d e
  | _, _ => false
/-- dicts of equal data -/
def dictEq (h : Hh) (v u : Val) : Bool := match v, u with
  | .ref p, .ref q => match h[p]?, h[q]? with
    | some (.dct ks), some (.dct ls) => plainKeys ks && plainKeys ls && decide (ks.length = ls.length) && ks.all fun kv => match dget ls kv.1 with
      | some u => dataEq h kv.2 u
      | none => false
    | _, _ => false
  | _, _ => false
def dictsEq (h : Hh) : List Val → List Val → Bool
  | [], [] => true
  | v :: vs, u :: us => dictEq h v u && dictsEq h vs us
  | _, _ => false
/-- lists of such dicts, where they are equal -/
def deepEq (h : Hh) (a b : Val) : Option Bool := match a, b with
  | .ref l, .ref m => match h[l]?, h[m]? with
    | some (.lst xs), some (.lst ys) => if dictsEq h xs ys = true then some true else none
    | _, _ => none
  | _, _ => none
/-- a == b -/
def pyEq (h : Hh) (a b : Val) : Option Bool := match scal a b with
  | some r => some r
  | none => match toD h deep a, toD h deep b with
    | some d, some e => if (SeqAt.shaped d && SeqAt.shaped e) = true then some (PyData.eqv d e) else none
    | _, _ => deepEq h a b
/-- the items of a list or a tuple -/
def seqOf (h : Hh) : Val → Option (List Val)
  | .tup xs => some xs
  | .kl xs => some xs
  | .kt xs => some xs
  | .ref l => match h[l]? with
    | some (.lst xs) => some xs
    | _ => none
  | _ => none
/-- the items of a list -/
def lseq (h : Hh) : Val → Option (List Val)
  | .kl xs => some xs
  | .ref l => match h[l]? with
    | some (.lst xs) => some xs
    | _ => none
  | _ => none
def flat : Val → Bool
  | .non => true | .bl _ => true | .int _ => true | .str _ => true
  | _ => false
/-- == of flat values -/
def eqF : Val → Val → Bool
  | .non, .non => true
  | .bl a, .bl b => a == b
  | .bl a, .int b => (if a then 1 else 0) == b
  | .int a, .bl b => a == (if b then 1 else 0)
  | .int a, .int b => a == b
  | .str a, .str b => a == b
  | _, _ => false
/-- x in xs, of a list or a tuple -/
def inSeq (h : Hh) (x : Val) (xs : List Val) : Option Bool :=
  if (flat x && xs.all flat) = true then some (xs.any fun y => eqF y x)
  else match toD h deep x, allD (toD h deep) xs with
    | some d, some ds => if (SeqAt.shaped d && SeqAt.shaped (.list ds)) = true then some (ds.any fun z => PyData.eqv z d) else none
    | _, _ => none
def dictOf (h : Hh) : Val → Option (List (Kk × Val))
  | .ref l => match h[l]? with
    | some (.dct kvs) => some kvs
    | some (.kdct (kv :: kvs)) => some (kv :: kvs)
    | _ => none
  | _ => none
/-- x in a dict -/
def inDict (x : Val) (kvs : List (Kk × Val)) : Option Bool := match toKey x with
  | some k => if oneKind k kvs = true then some (dget kvs k).isSome else none
  | none => none
/-- x in c -/
def inVal (h : Hh) (x c : Val) : Option Bool := match c with
  | .str s => match x with
    | .str t => some (!(Builtin.Str.occurrences s t 0 s.length 1).isEmpty)
    | _ => none
  | c => match dictOf h c with
    | some kvs => inDict x kvs
    | none => match seqOf h c with
      | some xs => inSeq h x xs
      | none => none
def truthy (h : Hh) : Val → Option Bool
  | .non => some false
  | .bl b => some b
  | .int i => some (i != 0)
  | .str s => if s.length ≤ sizeLine then some ((s.length : Int) != 0) else none
  | .tup xs => some (!xs.isEmpty)
  | .kl xs => some (!xs.isEmpty)
  | .kt xs => some (!xs.isEmpty)
  | .kd _ _ => none
  | .ref l => match h[l]? with
    | some (.lst xs) => some (!xs.isEmpty)
    | some (.dct kvs) => if plainKeys kvs = true then some (!kvs.isEmpty) else none
    | _ => none

/-! ### the language -/
inductive Bop where
  | add | sub | mul | fdiv | mod | pow
  deriving DecidableEq
inductive Cop where
  | eq | ne | lt | le | gt | ge | is | isn | inn | nin
  deriving DecidableEq
inductive Bif where
  | len | int | str | repr | abs | sum | min | max | sorted | tuple | list | dict
  deriving DecidableEq
inductive Bmt where
  | append | extend | pop | get | join
  deriving DecidableEq
inductive Tg where
  | nm (i : Nat) | nil | cons (t ts : Tg)
  deriving DecidableEq
inductive FK where
  | fn (x : Str) | mt (c x : Str) | mk (c : Str)
  deriving DecidableEq
/-- expressions (lck: e while the dict at i is locked; itm: list(e.items())); nil and cons are lists of arguments; kv is a list of pairs; gen is a clause of a comprehension; itr, enu, rng are walked -/
inductive Ex where
  | lit (v : Val) | loc (i : Nat) | glb (x : Str)
  | nil | cons (e es : Ex)
  | tup (es : Ex) | lst (es : Ex) | dct (kvs : Ex) | kv (k v r : Ex)
  | bin (o : Bop) (a b : Ex) | neg (a : Ex) | not (a : Ex) | and (a b : Ex) | or (a b : Ex)
  | cmp (o : Cop) (a b : Ex) | chn (o p : Cop) (a b c : Ex)
  | ite (c a b : Ex)
  | idx (a b : Ex) | slc (a lo hi : Ex) | rev (a : Ex)
  | fld (a : Ex) (f : Str)
  | call (f : Str) (es : Ex) | mth (o : Ex) (m : Str) (es : Ex) | mk (c : Str) (es : Ex)
  | bif (b : Bif) (es : Ex) | bmt (m : Bmt) (o es : Ex)
  | isi (a : Ex) (t : Str)
  | cmpr (elt gs : Ex) (own : List Nat)
  | gen (t : Tg) (it c rest : Ex)
  | itr (e : Ex) | enu (e : Ex) | rng (a b : Ex)
  | lck (i : Nat) (e : Ex) | itm (e : Ex)
inductive Sm where
  | nop | seq (a b : Sm)
  | asg (t : Tg) (e : Ex) | sub (o i e : Ex) | fas (o : Ex) (f : Str) (e : Ex)
  | aug (i : Nat) (o : Bop) (e : Ex)
  | exp (e : Ex) | ret (e : Ex) | retN
  | ifs (c : Ex) (a b : Sm)
  | for_ (t : Tg) (it : Ex) (b : Sm) | whl (c : Ex) (b : Sm)
  | brk | cont | never
inductive Fl where
  | nx (e : En) | bk (e : En) | ct (e : En) | rt (v : Val) | xc (x : Exn) (e : En)
/-- what is walked: items that stand, or a list as it stands at each turn (with the turn's number, or not) -/
inductive Src where
  | fix (xs : List Val) | dyn (l : Nat) (en : Bool)

def En.get? (e : En) (i : Nat) : Option Val := (e[i]?).join
def wipe (e : En) : List Nat → En
  | [] => e
  | v :: vs => (wipe e vs).set v none
def tupOf : Val → Option (List Val)
  | .tup xs => some xs
  | .kt xs => some xs
  | _ => none
def Tg.put : Tg → Val → En → Option En
  | .nm i, v, e => if i < e.length then some (e.set i (some v)) else none
  | .nil, v, e => match tupOf v with
    | some [] => some e
    | _ => none
  | .cons t ts, v, e => match tupOf v with
    | some (x :: xs) => match t.put x e with
      | some e' => ts.put (.tup xs) e'
      | none => none
    | _ => none
/-- the slots that a target writes -/
def Tg.slots : Tg → List Nat
  | .nm i => [i]
  | .nil => []
  | .cons t ts => t.slots ++ ts.slots
end Mi

set_option maxHeartbeats 200000
namespace Mi
open PySem

structure Cxt where
  cl : FK → List Val → Hh → R Val
  gl : Str → Option Val
  wf : Nat
  fl : Str → Str → Bool
  ms : Str → Str → Bool

/-- no exception may leave -/
def noexc {α : Type} (r : R α) : R α := match r with
  | .ok a h => .ok a h
  | _ => .bad
@[simp] theorem noexc_ok {α : Type} (a : α) (h : Hh) : noexc (.ok a h) = .ok a h := rfl
def newOb (o : Ob) (h : Hh) : R Val := .ok (.ref h.length) (h ++ [o])
def okIf {α : Type} (c : Bool) (r : R α) : R α := if c = true then r else .bad
@[simp] theorem okIf_true {α : Type} (r : R α) : okIf true r = r := rfl

def lstOf (h : Hh) (l : Nat) : Option (List Val) := match h[l]? with
  | some (.lst xs) => some xs
  | _ => none
def smallI (i : Int) : Bool := decide (-(2 ^ 64) < i ∧ i < 2 ^ 64)
def binop (o : Bop) (a b : Val) (h : Hh) : R Val := match o with
  | .add => match a, b with
    | .int i, .int j => .ok (.int (i + j)) h
    | .str s, .str t => okIf (decide (s.length + t.length ≤ sizeLine)) (.ok (.str (s ++ t)) h)
    | .tup xs, .tup ys => okIf (decide (xs.length + ys.length ≤ sizeLine)) (.ok (.tup (xs ++ ys)) h)
    | .ref l, .ref m => orBad (lstOf h l) fun xs => orBad (lstOf h m) fun ys => okIf (decide (xs.length + ys.length ≤ sizeLine)) (newOb (.lst (xs ++ ys)) h)
    | _, _ => .bad
  | .sub => match a, b with
    | .int i, .int j => .ok (.int (i - j)) h
    | _, _ => .bad
  | .mul => match a, b with
    | .int i, .int j => okIf (smallI i || smallI j) (.ok (.int (i * j)) h)
    | _, _ => .bad
  | .fdiv => match a, b with
    | .int i, .int j => okIf (decide (0 < j ∧ j < 1073741824)) (.ok (.int (i / j)) h)
    | _, _ => .bad
  | .mod => match a, b with
    | .int i, .int j => okIf (decide (0 < j)) (.ok (.int (i % j)) h)
    | _, _ => .bad
  | .pow => match a, b with
    | .int i, .int j => okIf (decide (0 ≤ j ∧ j ≤ 1000000 ∧ i.natAbs < 2 ^ 64)) (.ok (.int (i ^ j.toNat)) h)
    | _, _ => .bad
/-- a op= b -/
def augop (o : Bop) (a b : Val) (h : Hh) : R Val := match o, a, b with
  | .add, .int i, .int j => .ok (.int (i + j)) h
  | .sub, .int i, .int j => .ok (.int (i - j)) h
  | _, _, _ => .bad
/-- comparisons -/
def cmpop (o : Cop) (a b : Val) (h : Hh) : Option Bool := match o with
  | .eq => pyEq h a b
  | .ne => (pyEq h a b).map (!·)
  | .lt => match a, b with
    | .int i, .int j => some (decide (i < j))
    | .str s, .str t => some (decide (s.cps.toList < t.cps.toList))
    | _, _ => none
  | .le => match a, b with
    | .int i, .int j => some (decide (i ≤ j))
    | _, _ => none
  | .gt => match a, b with
    | .int i, .int j => some (decide (j < i))
    | _, _ => none
  | .ge => match a, b with
    | .int i, .int j => some (decide (j ≤ i))
    | _, _ => none
  | .is => match b with
    | .non => some (match a with | .non => true | _ => false)
    | _ => none
  | .isn => match b with
    | .non => some (match a with | .non => false | _ => true)
    | _ => none
  | .inn => inVal h a b
  | .nin => (inVal h a b).map (!·)
def idxop (a b : Val) (h : Hh) : Option Val := match a with
  | .tup xs => match b with
    | .int i => L2.atI xs i
    | _ => none
  | .str s => match b with
    | .int i => if s.length ≤ sizeLine then (L2.atI s.cps.toList i).map fun c => .str ⟨#[c]⟩ else none
    | _ => none
  | .kd ks vs => match b with
    | .str z => dget (ks.zip vs) (.inl (.inr z))
    | _ => none
  | a => match dictOf h a with
    | some kvs => match toKey b with
      | some k => if oneKind k kvs = true then dget kvs k else none
      | none => none
    | none => match seqOf h a, b with
      | some xs, .int i => L2.atI xs i
      | _, _ => none
def part : Val → Option (Option Int)
  | .non => some none
  | .int i => some (some i)
  | _ => none
def cut {α : Type} (xs : List α) (lo hi : Option Int) : List α := (xs.drop (HT.sIx xs.length 0 lo)).take (HT.sIx xs.length xs.length hi - HT.sIx xs.length 0 lo)
def slcop (a : Val) (l u : Option Int) (h : Hh) : R Val := match a with
  | .tup xs => .ok (.tup (cut xs l u)) h
  | a => orBad (lseq h a) fun xs => newOb (.lst (cut xs l u)) h
def asInts : List Val → Option (List Int)
  | [] => some []
  | .int i :: r => (asInts r).map (i :: ·)
  | _ => none
def asStrs : List Val → Option (List Str)
  | [] => some []
  | .str i :: r => (asStrs r).map (i :: ·)
  | _ => none
def insInt (i : Int) : List Int → List Int
  | [] => [i]
  | j :: r => if i ≤ j then i :: j :: r else j :: insInt i r
def sortInts : List Int → List Int
  | [] => []
  | i :: r => insInt i (sortInts r)
def leInt : List Int → Option Int
  | [] => none
  | i :: r => match leInt r with
    | none => some i
    | some j => some (if i ≤ j then i else j)
def geInt : List Int → Option Int
  | [] => none
  | i :: r => match geInt r with
    | none => some i
    | some j => some (if j ≤ i then i else j)
def sumI (ns : List Int) : Int := ns.sum
def pairsOf : List Val → Option (List (Kk × Val))
  | [] => some []
  | .tup [k, v] :: r => match toKey k, pairsOf r with
    | some k, some r => some ((k, v) :: r)
    | _, _ => none
  | _ => none
def mergeD (kvs more : List (Kk × Val)) : List (Kk × Val) := more.foldl (fun acc kv => dput acc kv.1 kv.2) kvs
/-- the list that a value is read as -/
def listOf (h : Hh) (v : Val) : Option (List Val) := match seqOf h v with
  | some xs => some xs
  | none => match v with
    | .ref l => match h[l]? with
      | some (.dct kvs) => if plainKeys kvs = true then some (kvs.map fun kv => keyVal kv.1) else none
      | _ => none
    | _ => none
def bifop (b : Bif) (vs : List Val) (h : Hh) : R Val := match b, vs with
  | .len, [.str s] => okIf (decide (s.length ≤ sizeLine)) (.ok (.int s.length) h)
  | .len, [v] => match seqOf h v with
    | some xs => .ok (.int xs.length) h
    | none => orBad (dictOf h v) fun kvs => okIf (plainKeys kvs) (.ok (.int kvs.length) h)
  | .int, [.int i] => .ok (.int i) h
  | .int, [.bl k] => .ok (.int (if k then 1 else 0)) h
  | .str, [.int i] => okIf (decide (i.natAbs.log2 < 1920)) (.ok (.str (toString i)) h)
  | .str, [.str s] => .ok (.str s) h
  | .repr, [v] => orBad (toD h deep v) fun d => okIf (d.showable && decide (d.shown.length ≤ sizeLine)) (.ok (.str d.shown) h)
  | .abs, [.int i] => .ok (.int (if i < 0 then -i else i)) h
  | .sum, [v] => orBad (lseq h v) fun xs => orBad (asInts xs) fun ns => .ok (.int ns.sum) h
  | .min, [v] => orBad (lseq h v) fun xs => orBad (asInts xs) fun ns => orBad (leInt ns) fun i => .ok (.int i) h
  | .max, [v] => orBad (lseq h v) fun xs => orBad (asInts xs) fun ns => orBad (geInt ns) fun i => .ok (.int i) h
  | .min, [.int i, .int j] => .ok (.int (if j < i then j else i)) h
  | .max, [.int i, .int j] => .ok (.int (if j > i then j else i)) h
  | .sorted, [v] => orBad (lseq h v) fun xs => orBad (asInts xs) fun ns => newOb (.lst ((sortInts ns).map .int)) h
  | .tuple, [.tup xs] => .ok (.tup xs) h
  | .tuple, [v] => orBad (lseq h v) fun xs => .ok (.tup xs) h
  | .list, [v] => orBad (listOf h v) fun xs => newOb (.lst xs) h
  | .dict, [v] => match dictOf h v with
    | some kvs => okIf (plainKeys kvs) (newOb (.dct kvs) h)
    | none => orBad (lseq h v) fun xs => orBad (pairsOf xs) fun kvs => okIf (plainKeys kvs) (newOb (.dct (mergeD [] kvs)) h)
  | _, _ => .bad
def setOb (l : Nat) (o : Ob) (v : Val) (h : Hh) : R Val := .ok v (h.set l o)
def dctOf (h : Hh) (l : Nat) : Option (List (Kk × Val)) := match h[l]? with
  | some (.dct kvs) => some kvs
  | _ => none
/-- the receiver is of the method's type -/
def recv (m : Bmt) (o : Val) (h : Hh) : Bool := match m with
  | .append => match o with
    | .ref l => (lstOf h l).isSome
    | _ => false
  | .extend => match o with
    | .ref l => (lstOf h l).isSome
    | _ => false
  | .get => match o with
    | .ref l => (dctOf h l).isSome
    | _ => false
  | .pop => match o with
    | .ref l => (dctOf h l).isSome
    | _ => false
  | .join => match o with
    | .str _ => true
    | _ => false
def bmtop (m : Bmt) (o : Val) (vs : List Val) (h : Hh) : R Val := match m, o, vs with
  | .append, .ref l, [v] => orBad (lstOf h l) fun xs => okIf (decide (xs.length < sizeLine)) (setOb l (.lst (xs ++ [v])) .non h)
  | .extend, .ref l, [.ref m] => orBad (lstOf h l) fun xs => orBad (lstOf h m) fun ys => okIf (decide (xs.length + ys.length ≤ sizeLine)) (setOb l (.lst (xs ++ ys)) .non h)
  | .get, .ref l, [k] => orBad (dctOf h l) fun kvs => orBad (toKey k) fun k => okIf (oneKind k kvs) (.ok ((dget kvs k).getD .non) h)
  | .get, .ref l, [k, d] => orBad (dctOf h l) fun kvs => orBad (toKey k) fun k => okIf (oneKind k kvs) (.ok ((dget kvs k).getD d) h)
  | .pop, .ref l, [k] => orBad (dctOf h l) fun kvs => orBad (toKey k) fun k => okIf (plainKeys ((k, .non) :: kvs)) (orBad (dget kvs k) fun v => setOb l (.dct (ddrop kvs k)) v h)
  | .join, .str s, [v] => orBad (seqOf h v) fun xs => orBad (asStrs xs) fun ts => okIf (decide ((ts.map (·.length)).sum + ts.length * s.length ≤ 16777216)) (.ok (.str (Txt.join s ts)) h)
  | _, _, _ => .bad
/-- o[i] = v -/
def subop (o i v : Val) (h : Hh) : R Val := match o with
  | .ref l => match h[l]? with
    | some (.lst xs) => match i with
      | .int k => orBad (L2.ixN xs.length k) fun j => setOb l (.lst (xs.set j v)) .non h
      | _ => .bad
    | some (.dct kvs) => orBad (toKey i) fun k => okIf (oneKind k kvs && decide (kvs.length < sizeLine)) (setOb l (.dct (dput kvs k v)) .non h)
    | _ => .bad
  | _ => .bad
def putFs (f : Str) (v : Val) : List (Str × Val) → List (Str × Val)
  | [] => [(f, v)]
  | (g, x) :: r => if g = f then (g, v) :: r else (g, x) :: putFs f v r
def insOf (h : Hh) : Val → Option (Nat × Str × List (Str × Val))
  | .ref l => match h[l]? with
    | some (.ins c fs) => some (l, c, fs)
    | _ => none
  | _ => none
def isiop (a : Val) (t : Str) (h : Hh) : Option Bool := match a with
  | .non => some false
  | .bl _ => some (decide (t = "bool" ∨ t = "int"))
  | .int _ => some (decide (t = "int"))
  | .str _ => some (decide (t = "str"))
  | .tup _ => some (decide (t = "tuple"))
  | .kt _ => some (decide (t = "tuple"))
  | .kl _ => some (decide (t = "list"))
  | .kd _ _ => none
  | .ref l => match h[l]? with
    | some (.lst _) => some (decide (t = "list"))
    | some (.dct _) => some (decide (t = "dict"))
    | _ => none
/-! ### walks -/
def srcOf (h : Hh) (v : Val) : Option Src := match v with
  | .tup xs => some (.fix xs)
  | .kl xs => some (.fix xs)
  | .kt xs => some (.fix xs)
  | .str s => some (.fix (s.cps.toList.map fun c => .str ⟨#[c]⟩))
  | .ref l => match h[l]? with
    | some (.lst _) => some (.dyn l false)
    | some (.kdct kvs) => if plainKeys kvs = true then some (.fix (kvs.map fun kv => keyVal kv.1)) else none
    | _ => none
  | _ => none
def enumFrom (n : Nat) : List Val → List Val
  | [] => []
  | x :: r => .tup [.int n, x] :: enumFrom (n + 1) r
def enuOf (h : Hh) (v : Val) : Option Src := match v with
  | .kl xs => some (.fix (enumFrom 0 xs))
  | .ref l => match h[l]? with
    | some (.lst _) => some (.dyn l true)
    | _ => none
  | _ => none
def rangeV (a : Int) (n : Nat) : List Val := (List.range n).map fun i => .int (a + (i : Nat))
def rngOf (a b : Val) : Option Src := match a, b with
  | .int i, .int j => if -(2 ^ 62) ≤ i ∧ i < 2 ^ 62 ∧ -(2 ^ 62) ≤ j ∧ j < 2 ^ 62 then some (.fix (rangeV i (j - i).toNat)) else none
  | _, _ => none
/-- a walk: f at each item, S is carried; f tells whether to go on -/
def walkF {S T : Type} (f : Val → S → Hh → R (S ⊕ T)) : List Val → S → Hh → R (S ⊕ T)
  | [], s, h => .ok (.inl s) h
  | x :: xs, s, h => (f x s h).bind fun r h => match r with
    | .inl s => walkF f xs s h
    | .inr t => .ok (.inr t) h
def walkD {S T : Type} (l : Nat) (en : Bool) (f : Val → S → Hh → R (S ⊕ T)) : Nat → Nat → S → Hh → R (S ⊕ T)
  | n, i, s, h => orBad (seqOf h (.ref l)) fun xs => match xs[i]? with
    | none => .ok (.inl s) h
    | some x => match n with
      | 0 => .bad
      | n + 1 => (f (if en then .tup [.int i, x] else x) s h).bind fun r h => match r with
        | .inl s => walkD l en f n (i + 1) s h
        | .inr t => .ok (.inr t) h
def walk {S T : Type} (src : Src) (f : Val → S → Hh → R (S ⊕ T)) (s : S) (h : Hh) : R (S ⊕ T) := match src with
  | .fix xs => walkF f xs s h
  | .dyn l en => orBad (seqOf h (.ref l)) fun xs => walkD l en f xs.length 0 s h

/-- the dict of a name -/
def plOf (h : Hh) (v : Val) : Option (Nat × List (Kk × Val)) := match v with
  | .ref l => match h[l]? with
    | some (.dct kvs) => if plainKeys kvs = true then some (l, kvs) else none
    | _ => none
  | _ => none
def lkOf (ρ : En) (h : Hh) (i : Nat) : Option (Nat × List (Kk × Val)) := match ρ.get? i with
  | some v => plOf h v
  | none => none
def itmOf (kvs : List (Kk × Val)) : List Val := kvs.map fun kv => .tup [keyVal kv.1, kv.2]
mutual
def ev (Γ : Cxt) : Ex → En → Hh → R Val
  | .lit v, _, h => .ok v h
  | .loc i, ρ, h => orBad (ρ.get? i) fun v => .ok v h
  | .glb x, _, h => orBad (Γ.gl x) fun v => .ok v h
  | .nil, _, _ => .bad
  | .cons _ _, _, _ => .bad
  | .tup es, ρ, h => (evs Γ es ρ h).bind fun vs h => .ok (.tup vs) h
  | .lst es, ρ, h => (evs Γ es ρ h).bind fun vs h => newOb (.lst vs) h
  | .dct kvs, ρ, h => evd Γ kvs ρ [] h
  | .bin o a b, ρ, h => (ev Γ a ρ h).bind fun x h => (ev Γ b ρ h).bind fun y h => binop o x y h
  | .neg a, ρ, h => (ev Γ a ρ h).bind fun x h => match x with
    | .int i => .ok (.int (-i)) h
    | _ => .bad
  | .not a, ρ, h => (ev Γ a ρ h).bind fun x h => orBad (truthy h x) fun k => .ok (.bl (!k)) h
  | .and a b, ρ, h => (ev Γ a ρ h).bind fun x h => orBad (truthy h x) fun k => if k then ev Γ b ρ h else .ok x h
  | .or a b, ρ, h => (ev Γ a ρ h).bind fun x h => orBad (truthy h x) fun k => if k then .ok x h else ev Γ b ρ h
  | .cmp o a b, ρ, h => (ev Γ a ρ h).bind fun x h => (ev Γ b ρ h).bind fun y h => orBad (cmpop o x y h) fun k => .ok (.bl k) h
  | .chn o p a b c, ρ, h => (ev Γ a ρ h).bind fun x h => (ev Γ b ρ h).bind fun y h => orBad (cmpop o x y h) fun k =>
    if k then (ev Γ c ρ h).bind fun z h => orBad (cmpop p y z h) fun k => .ok (.bl k) h else .ok (.bl false) h
  | .ite c a b, ρ, h => (ev Γ c ρ h).bind fun x h => orBad (truthy h x) fun k => if k then ev Γ a ρ h else ev Γ b ρ h
  | .idx a b, ρ, h => (ev Γ a ρ h).bind fun x h => (ev Γ b ρ h).bind fun y h => orBad (idxop x y h) fun v => .ok v h
  | .slc a lo hi, ρ, h => (ev Γ a ρ h).bind fun x h => (ev Γ lo ρ h).bind fun l h => orBad (part l) fun l => (ev Γ hi ρ h).bind fun u h => orBad (part u) fun u => slcop x l u h
  | .rev a, ρ, h => (ev Γ a ρ h).bind fun x h => match x with
    | .ref l => orBad (lstOf h l) fun xs => newOb (.lst xs.reverse) h
    | _ => .bad
  | .fld a f, ρ, h => (ev Γ a ρ h).bind fun x h => orBad (insOf h x) fun p => okIf (Γ.fl p.2.1 f) (orBad (p.2.2.lookup f) fun v => .ok v h)
  | .call f es, ρ, h => (evs Γ es ρ h).bind fun vs h => Γ.cl (.fn f) vs h
  | .mth o m es, ρ, h => (ev Γ o ρ h).bind fun x h => orBad (insOf h x) fun p => match p.2.2.lookup m with
    | none => okIf (Γ.ms p.2.1 m) ((evs Γ es ρ h).bind fun vs h => Γ.cl (.mt p.2.1 m) (x :: vs) h)
    | some _ => .bad
  | .mk c es, ρ, h => (evs Γ es ρ h).bind fun vs h => Γ.cl (.mk c) vs h
  | .bif b es, ρ, h => (evs Γ es ρ h).bind fun vs h => bifop b vs h
  | .bmt m o es, ρ, h => (ev Γ o ρ h).bind fun x h => okIf (recv m x h) ((evs Γ es ρ h).bind fun vs h => bmtop m x vs h)
  | .isi a t, ρ, h => (ev Γ a ρ h).bind fun x h => orBad (isiop x t h) fun k => .ok (.bl k) h
  | .cmpr elt (.gen t it c r) own, ρ, h => (evi Γ it ρ h).bind fun src h =>
    (noexc (walk (T := Unit) src (fun x acc h => orBad (t.put x (wipe ρ own)) fun ρ1 => (ev Γ c ρ1 h).bind fun y h => orBad (truthy h y) fun k =>
      if k then (evg Γ r (fun ρ2 h => ev Γ elt ρ2 h) ρ1 acc h).bind fun acc h => .ok (.inl acc) h else .ok (.inl acc) h) [] h)).bind fun r h => match r with
      | .inl acc => newOb (.lst acc) h
      | .inr _ => .bad
  | .cmpr _ _ _, _, _ => .bad
  | .lck i e, ρ, h => orBad (lkOf ρ h i) fun p => (noexc (ev Γ e ρ (h.set p.1 (.kdct p.2)))).bind fun v h => .ok v (h.set p.1 (.dct p.2))
  | .itm e, ρ, h => (ev Γ e ρ h).bind fun x h => orBad (plOf h x) fun p => newOb (.lst (itmOf p.2)) h
  | .gen _ _ _ _, _, _ => .bad
  | .kv _ _ _, _, _ => .bad
  | .itr _, _, _ => .bad
  | .enu _, _, _ => .bad
  | .rng _ _, _, _ => .bad
def evs (Γ : Cxt) : Ex → En → Hh → R (List Val)
  | .nil, _, h => .ok [] h
  | .cons e es, ρ, h => (ev Γ e ρ h).bind fun v h => (evs Γ es ρ h).bind fun vs h => .ok (v :: vs) h
  | _, _, _ => .bad
/-- a dict's display -/
def evd (Γ : Cxt) : Ex → En → List (Kk × Val) → Hh → R Val
  | .nil, _, kvs, h => newOb (.dct kvs) h
  | .kv k v r, ρ, kvs, h => (ev Γ k ρ h).bind fun x h => (ev Γ v ρ h).bind fun y h => orBad (toKey x) fun k => okIf (plainKeys [(k, y)]) (evd Γ r ρ (dput kvs k y) h)
  | _, _, _, _ => .bad
/-- what is walked -/
def evi (Γ : Cxt) : Ex → En → Hh → R Src
  | .enu e, ρ, h => (ev Γ e ρ h).bind fun x h => orBad (enuOf h x) fun s => .ok s h
  | .rng a b, ρ, h => (ev Γ a ρ h).bind fun x h => (ev Γ b ρ h).bind fun y h => orBad (rngOf x y) fun s => .ok s h
  | .itr e, ρ, h => (ev Γ e ρ h).bind fun x h => orBad (srcOf h x) fun s => .ok s h
  | _, _, _ => .bad
/-- the further clauses of a comprehension -/
def evg (Γ : Cxt) : Ex → (En → Hh → R Val) → En → List Val → Hh → R (List Val)
  | .nil, fe, ρ, acc, h => (fe ρ h).bind fun v h => okIf (decide (acc.length < sizeLine)) (.ok (acc ++ [v]) h)
  | .gen t it c r, fe, ρ, acc, h => (evi Γ it ρ h).bind fun src h =>
    (walk (T := Unit) src (fun x acc h => orBad (t.put x (wipe ρ t.slots)) fun ρ1 => (ev Γ c ρ1 h).bind fun y h => orBad (truthy h y) fun k =>
      if k then (evg Γ r fe ρ1 acc h).bind fun acc h => .ok (.inl acc) h else .ok (.inl acc) h) acc h).bind fun r h => match r with
      | .inl acc => .ok acc h
      | .inr _ => .bad
  | _, _, _, _, _ => .bad
end

def flOf : En ⊕ Fl → Fl
  | .inl ρ => .nx ρ
  | .inr f => f
/-- an answer of an expression in a statement: what it raises carries the names -/
def held {α : Type} (r : R α) (ρ : En) (f : α → Hh → R Fl) : R Fl := match r with
  | .ok a h => f a h
  | .exc x h => .ok (.xc x ρ) h
  | .bad => .bad
@[simp] theorem held_ok {α : Type} (a : α) (h : Hh) (ρ : En) (f : α → Hh → R Fl) : held (.ok a h) ρ f = f a h := rfl
def whileF (c : En → Hh → R Val) (b : En → Hh → R Fl) : Nat → En → Hh → R Fl
  | 0, _, _ => .bad
  | n + 1, ρ, h => held (c ρ h) ρ fun x h => orBad (truthy h x) fun k => if k then (b ρ h).bind fun f h => match f with
      | .nx ρ => whileF c b n ρ h
      | .ct ρ => whileF c b n ρ h
      | .bk ρ => .ok (.nx ρ) h
      | f => .ok f h
    else .ok (.nx ρ) h
/-- a list that is unpacked -/
def spread (h : Hh) (t : Tg) (v : Val) : Val := match t, v with
  | .cons _ _, .ref l => match lstOf h l with
    | some xs => .tup xs
    | none => .ref l
  | _, v => v
/-- a turn of a for -/
def forTurn (b : En → Hh → R Fl) (t : Tg) (x : Val) (ρ : En) (h : Hh) : R (En ⊕ Fl) :=
  orBad (t.put x ρ) fun ρ1 => (b ρ1 h).bind fun f h => match f with
    | .nx ρ => .ok (.inl ρ) h
    | .ct ρ => .ok (.inl ρ) h
    | .bk ρ => .ok (.inr (.nx ρ)) h
    | f => .ok (.inr f) h
def ex (Γ : Cxt) : Sm → En → Hh → R Fl
  | .nop, ρ, h => .ok (.nx ρ) h
  | .seq a b, ρ, h => (ex Γ a ρ h).bind fun f h => match f with
    | .nx ρ => ex Γ b ρ h
    | f => .ok f h
  | .asg t e, ρ, h => held (ev Γ e ρ h) ρ fun v h => orBad (t.put (spread h t v) ρ) fun ρ => .ok (.nx ρ) h
  | .sub o i e, ρ, h => held (ev Γ e ρ h) ρ fun v h => held (ev Γ o ρ h) ρ fun x h => held (ev Γ i ρ h) ρ fun y h => (subop x y v h).bind fun _ h => .ok (.nx ρ) h
  | .fas o f e, ρ, h => held (ev Γ e ρ h) ρ fun v h => held (ev Γ o ρ h) ρ fun x h => orBad (insOf h x) fun p => okIf (Γ.fl p.2.1 f && decide (p.2.2.length < 1000)) (.ok (.nx ρ) (h.set p.1 (.ins p.2.1 (putFs f v p.2.2))))
  | .aug i o e, ρ, h => orBad (ρ.get? i) fun x => held (ev Γ e ρ h) ρ fun y h => (augop o x y h).bind fun v h => orBad ((Tg.nm i).put v ρ) fun ρ => .ok (.nx ρ) h
  | .exp e, ρ, h => held (ev Γ e ρ h) ρ fun _ h => .ok (.nx ρ) h
  | .ret e, ρ, h => held (ev Γ e ρ h) ρ fun v h => .ok (.rt v) h
  | .retN, _, h => .ok (.rt .non) h
  | .ifs c a b, ρ, h => held (ev Γ c ρ h) ρ fun x h => orBad (truthy h x) fun k => if k then ex Γ a ρ h else ex Γ b ρ h
  | .for_ t it b, ρ, h => held (evi Γ it ρ h) ρ fun src h => (walk src (forTurn (ex Γ b) t) ρ h).bind fun r h => .ok (flOf r) h
  | .whl c b, ρ, h => whileF (ev Γ c) (ex Γ b) Γ.wf ρ h
  | .brk, ρ, h => .ok (.bk ρ) h
  | .cont, ρ, h => .ok (.ct ρ) h
  | .never, _, _ => .bad

/-! ### programs -/
structure Fn where
  ar : Nat
  sl : Nat
  body : Sm
structure Prg where
  fns : List (FK × Fn)
  gl : Str → Option Val
  cls : List Str
  fl : List (Str × Str)
def startE (f : Fn) (vs : List Val) : En := vs.map some ++ List.replicate (f.sl - vs.length) none
def whileMost : Nat := 100000
/-- a call, n deep at most -/
def callF (G : Prg) : Nat → FK → List Val → Hh → R Val
  | 0, _, _, _ => .bad
  | n + 1, .mk c, vs, h => okIf (G.cls.contains c) ((callF G n (.mt c "__init__") (.ref h.length :: vs) (h ++ [.ins c []])).bind fun v h' => match v with
    | .non => .ok (.ref h.length) h'
    | _ => .bad)
  | n + 1, k, vs, h => orBad (G.fns.lookup k) fun f => okIf (decide (vs.length = f.ar)) ((noexc (ex ⟨callF G n, G.gl, whileMost, fun c f => G.fl.contains (c, f), fun c m => (G.fns.lookup (.mt c m)).isSome⟩ f.body (startE f vs) h)).bind fun r h => match r with
    | .nx _ => .ok .non h
    | .rt v => .ok v h
    | .xc x _ => .exc x h
    | _ => .bad)
end Mi

set_option maxHeartbeats 200000
namespace Mi
open PySem PySem.Spec PyProof.Rows L2

/-- a list that is never written: locked, or of the module -/
def LK (K : PySem.W.Frag) (H : Hp) (a : Addr) (vs : List V) : Prop :=
  (∃ o, H a = some (.frz o (.lst vs))) ∨
    ∃ (o : Obj) (its : Array Value) (n : Nat), K.lookup a = some o ∧ o.cls = .type "list" ∧ o.dict = none ∧ o.data = .seq its n ∧ its.size ≤ sizeLine ∧ Vals vs its.toList
theorem LK.seq {K : PySem.W.Frag} {H : Hp} {a : Addr} {vs : List V} (h : LK K H a vs) : SqL K H a vs := by
  rcases h with ⟨o, h⟩ | h
  · exact .inl (.inr ⟨o, h⟩)
  · exact .inr h
/-- a tuple of the module -/
def KT (K : PySem.W.Frag) (a : Addr) (vs : List V) : Prop :=
  ∃ (o : Obj) (its : Array Value) (n : Nat), K.lookup a = some o ∧ o.cls = .type "tuple" ∧ o.data = .seq its n ∧ its.size ≤ sizeLine ∧ Vals vs its.toList
theorem KT.seq {K : PySem.W.Frag} {H : Hp} {a : Addr} {vs : List V} (h : KT K a vs) : SqT K H a vs := .inr h

/-- what a constant dict of the module is: DW a ks vs -/
abbrev DW := Addr → List Kk → List Val → Prop

mutual
/-- the value v stands for x, the cells at m -/
inductive VR (K : PySem.W.Frag) (dw : DW) (m : List Addr) (H : Hp) : Val → V → Prop
  | non : VR K dw m H .non .non
  | bl (b : Bool) : VR K dw m H (.bl b) (.bl b)
  | int (i : Int) : VR K dw m H (.int i) (.int i)
  | str (s : Str) : VR K dw m H (.str s) (.str s)
  | tup {a : Addr} {xs : List Val} {vs : List V} : H a = some (.tup vs) → VRs K dw m H xs vs → VR K dw m H (.tup xs) (.ref a)
  | kt {a : Addr} {xs : List Val} {vs : List V} : Mi.KT K a vs → VRs K dw m H xs vs → VR K dw m H (.kt xs) (.ref a)
  | kl {a : Addr} {xs : List Val} {vs : List V} : LK K H a vs → VRs K dw m H xs vs → VR K dw m H (.kl xs) (.ref a)
  | kd {a : Addr} {ks : List Kk} {vs : List Val} : dw a ks vs → VR K dw m H (.kd ks vs) (.ref a)
  | ref {l : Nat} {a : Addr} : m[l]? = some a → VR K dw m H (.ref l) (.ref a)
inductive VRs (K : PySem.W.Frag) (dw : DW) (m : List Addr) (H : Hp) : List Val → List V → Prop
  | nil : VRs K dw m H [] []
  | cons {x : Val} {xs : List Val} {v : V} {vs : List V} : VR K dw m H x v → VRs K dw m H xs vs → VRs K dw m H (x :: xs) (v :: vs)
end

/-- the world of a text: its written part, its classes' addresses, its constant dicts -/
structure Sta where
  K : PySem.W.Frag
  dw : DW
  C : Str → Addr
  cs : List Str
abbrev Sta.VR (S : Sta) (m : List Addr) (H : Hp) := Mi.VR S.K S.dw m H
abbrev Sta.VRs (S : Sta) (m : List Addr) (H : Hp) := Mi.VRs S.K S.dw m H

section
variable {K : PySem.W.Frag} {dw : DW} {m m' : List Addr} {H H' : Hp}
theorem VRs.length : ∀ {xs : List Val} {vs : List V}, VRs K dw m H xs vs → xs.length = vs.length
  | _, _, .nil => rfl
  | _, _, .cons _ t => congrArg (· + 1) t.length
theorem VRs.get : ∀ {xs : List Val} {vs : List V} {i : Nat} {x : Val}, VRs K dw m H xs vs → xs[i]? = some x → ∃ v, vs[i]? = some v ∧ VR K dw m H x v
  | _, _, _, _, .nil, e => by simp at e
  | _, _, 0, _, .cons r _, e => by simp at e; subst e; exact ⟨_, rfl, r⟩
  | _, _, i + 1, x, .cons _ t, e => by
    obtain ⟨v, h1, h2⟩ := VRs.get (i := i) (x := x) t (by simpa using e)
    exact ⟨v, by simpa using h1, h2⟩
theorem VRs.none : ∀ {xs : List Val} {vs : List V} {i : Nat}, VRs K dw m H xs vs → xs[i]? = none → vs[i]? = none := fun {xs vs i} r e => by
  have := r.length
  have h2 := List.getElem?_eq_none_iff.mp e
  exact List.getElem?_eq_none_iff.mpr (by omega)
theorem VRs.append : ∀ {xs ys : List Val} {vs ws : List V}, VRs K dw m H xs vs → VRs K dw m H ys ws → VRs K dw m H (xs ++ ys) (vs ++ ws)
  | _, _, _, _, .nil, s => s
  | _, _, _, _, .cons r t, s => .cons r (t.append s)
theorem VRs.set : ∀ {xs : List Val} {vs : List V} {x : Val} {v : V} (i : Nat), VR K dw m H x v → VRs K dw m H xs vs → VRs K dw m H (xs.set i x) (vs.set i v)
  | _, _, _, _, _, _, .nil => .nil
  | _, _, _, _, 0, r, .cons _ t => .cons r t
  | _, _, _, _, i + 1, r, .cons q t => .cons q (VRs.set i r t)
theorem VRs.take : ∀ {xs : List Val} {vs : List V} (n : Nat), VRs K dw m H xs vs → VRs K dw m H (xs.take n) (vs.take n)
  | _, _, 0, _ => .nil
  | _, _, _ + 1, .nil => .nil
  | _, _, n + 1, .cons r t => .cons r (t.take n)
theorem VRs.drop : ∀ {xs : List Val} {vs : List V} (n : Nat), VRs K dw m H xs vs → VRs K dw m H (xs.drop n) (vs.drop n)
  | _, _, 0, r => r
  | _, _, _ + 1, .nil => .nil
  | _, _, n + 1, .cons _ t => t.drop n
theorem VRs.reverse {xs : List Val} {vs : List V} (r : VRs K dw m H xs vs) : VRs K dw m H xs.reverse vs.reverse := by
  have go : ∀ {xs : List Val} {vs : List V} {ys : List Val} {ws : List V}, VRs K dw m H xs vs → VRs K dw m H ys ws → VRs K dw m H (xs.reverse ++ ys) (vs.reverse ++ ws) := by
    intro xs
    induction xs with
    | nil => intro vs ys ws a b; cases a; exact b
    | cons x xs ih =>
      intro vs ys ws a b
      cases a with
      | cons r t =>
        simp only [List.reverse_cons, List.append_assoc, List.singleton_append]
        exact ih t (.cons r b)
  simpa using go r .nil

/-- what a step leaves: more cells at new places, all that is no cell as it stood -/
structure Ext (m : List Addr) (H : Hp) (m' : List Addr) (H' : Hp) : Prop where
  pre : ∃ t, m' = m ++ t ∧ ∀ b ∈ t, H b = none
  keep : ∀ b o, b ∉ m → H b = some o → H' b = some o
  there : ∀ b, H b ≠ none → H' b ≠ none
  lock : ∀ b o u, H b = some (.frz o u) → H' b = some (.frz o u)
theorem Ext.refl : Ext m H m H := ⟨⟨[], by simp, fun _ h => nomatch h⟩, fun _ _ _ h => h, fun _ h => h, fun _ _ _ h => h⟩
theorem Ext.trans {m1 m2 : List Addr} {H1 H2 : Hp} (a : Ext m H m1 H1) (b : Ext m1 H1 m2 H2) : Ext m H m2 H2 := by
  obtain ⟨t, rfl, ft⟩ := a.pre
  obtain ⟨u, rfl, fu⟩ := b.pre
  refine ⟨⟨t ++ u, by simp, fun c hc => ?_⟩, fun c o hc e => ?_, fun c hc => b.there c (a.there c hc), fun c o v e => b.lock c o v (a.lock c o v e)⟩
  · rcases List.mem_append.mp hc with h | h
    · exact ft c h
    · cases q : H c with
      | none => rfl
      | some o => exact absurd (fu c h) (a.there c (by rw [q]; simp))
  · refine b.keep c o (fun h => ?_) (a.keep c o hc e)
    rcases List.mem_append.mp h with h | h
    · exact hc h
    · rw [ft c h] at e; cases e
theorem Ext.get (x : Ext m H m' H') {l : Nat} {a : Addr} (e : m[l]? = some a) : m'[l]? = some a := by
  obtain ⟨t, rfl, _⟩ := x.pre
  rw [List.getElem?_append_left (List.getElem?_eq_some_iff.mp e).1, e]
end

/-- the fields of an instance -/
def FR (S : Sta) (m : List Addr) (H : Hp) : List (Str × Val) → List (Str × V) → Prop := Paired fun p q => p.1 = q.1 ∧ S.VR m H p.2 q.2
/-- a dict's pairs, keys of one kind -/
def DRk (S : Sta) (m : List Addr) (H : Hp) : List (Kk × Val) → List (L2.Key × V) → Prop := Paired fun p q => p.1 = .inl q.1 ∧ S.VR m H p.2 q.2
def DRt (S : Sta) (m : List Addr) (H : Hp) : List (Kk × Val) → List (List L2.Key × V) → Prop := Paired fun p q => p.1 = .inr q.1 ∧ S.VR m H p.2 q.2
/-- the cell o stands at a -/
def OR (S : Sta) (m : List Addr) (H : Hp) (a : Addr) : Ob → Prop
  | .lst xs => ∃ vs, H a = some (.lst vs) ∧ S.VRs m H xs vs
  | .dct kvs => (∃ ws, H a = some (.dK ws) ∧ DRk S m H kvs ws) ∨ (kvs ≠ [] ∧ ∃ ws, H a = some (.dT ws) ∧ DRt S m H kvs ws)
  | .kdct kvs => (∃ o ws, H a = some (.frz o (.dK ws)) ∧ DRk S m H kvs ws) ∨ (kvs ≠ [] ∧ ∃ o ws, H a = some (.frz o (.dT ws)) ∧ DRt S m H kvs ws)
  | .ins c fs => c ∈ S.cs ∧ ∃ dx ws, H a = some (.ins (S.C c) dx ws) ∧ FR S m H fs ws
structure Sim (S : Sta) (m : List Addr) (H : Hp) (h : Hh) : Prop where
  len : m.length = h.length
  nd : m.Nodup
  at_ : ∀ (l : Nat) (a : Addr) (o : Ob), m[l]? = some a → h[l]? = some o → OR S m H a o

section
variable {S : Sta} {m m' : List Addr} {H H' : Hp} {h h' : Hh}
theorem OR.cell {a : Addr} {o : Ob} (x : OR S m H a o) : ∃ u, H a = some u ∧ (∀ vs, u ≠ .tup vs) ∧ (∀ ob vs, u ≠ .frz ob (.lst vs)) := by
  cases o with
  | lst xs => obtain ⟨vs, e, _⟩ := x; exact ⟨_, e, fun _ q => (by cases q), fun _ _ q => (by cases q)⟩
  | dct kvs =>
    rcases x with ⟨ws, e, _⟩ | ⟨_, ws, e, _⟩
    · exact ⟨_, e, fun _ q => (by cases q), fun _ _ q => (by cases q)⟩
    · exact ⟨_, e, fun _ q => (by cases q), fun _ _ q => (by cases q)⟩
  | kdct kvs =>
    rcases x with ⟨o, ws, e, _⟩ | ⟨_, o, ws, e, _⟩
    · exact ⟨_, e, fun _ q => (by cases q), fun _ _ q => (by cases q)⟩
    · exact ⟨_, e, fun _ q => (by cases q), fun _ _ q => (by cases q)⟩
  | ins c fs => obtain ⟨_, dx, ws, e, _⟩ := x; exact ⟨_, e, fun _ q => (by cases q), fun _ _ q => (by cases q)⟩
theorem Sim.cell (s : Sim S m H h) {a : Addr} (ha : a ∈ m) : ∃ u, H a = some u ∧ (∀ vs, u ≠ .tup vs) ∧ (∀ ob vs, u ≠ .frz ob (.lst vs)) := by
  obtain ⟨l, hl, e⟩ := List.getElem_of_mem ha
  have hl' : l < h.length := s.len ▸ hl
  exact (s.at_ l a h[l] (by rw [List.getElem?_eq_getElem hl, e]) (List.getElem?_eq_getElem hl')).cell
theorem Sim.fresh (s : Sim S m H h) {p : Addr} (hp : H p = none) : p ∉ m := fun q => by
  obtain ⟨u, e, _⟩ := s.cell q
  rw [hp] at e; cases e
theorem Sim.tup (s : Sim S m H h) (x : Ext m H m' H') {a : Addr} {vs : List V} (t : H a = some (.tup vs)) : H' a = some (.tup vs) := by
  refine x.keep a _ (fun q => ?_) t
  obtain ⟨u, e', n, _⟩ := s.cell q
  rw [t] at e'; cases e'; exact n vs rfl
theorem Sim.kl (s : Sim S m H h) (x : Ext m H m' H') {a : Addr} {vs : List V} (t : LK S.K H a vs) : LK S.K H' a vs := by
  rcases t with ⟨o, e⟩ | t
  · refine .inl ⟨o, x.keep a _ (fun q => ?_) e⟩
    obtain ⟨u, e', _, n⟩ := s.cell q
    rw [e] at e'; cases e'; exact n o vs rfl
  · exact .inr t
mutual
theorem VR.ext (s : Sim S m H h) (x : Ext m H m' H') : ∀ {v : Val} {y : V}, S.VR m H v y → S.VR m' H' v y
  | _, _, .non => .non
  | _, _, .bl b => .bl b
  | _, _, .int i => .int i
  | _, _, .str t => .str t
  | _, _, .tup t r => .tup (s.tup x t) (VRs.ext s x r)
  | _, _, .kl t r => .kl (s.kl x t) (VRs.ext s x r)
  | _, _, .kt t r => .kt t (VRs.ext s x r)
  | _, _, .kd t => .kd t
  | _, _, .ref e => .ref (x.get e)
theorem VRs.ext (s : Sim S m H h) (x : Ext m H m' H') : ∀ {xs : List Val} {vs : List V}, S.VRs m H xs vs → S.VRs m' H' xs vs
  | _, _, .nil => .nil
  | _, _, .cons r t => .cons (VR.ext s x r) (VRs.ext s x t)
end
theorem FR.ext (s : Sim S m H h) (x : Ext m H m' H') {fs : List (Str × Val)} {ws : List (Str × V)} (r : FR S m H fs ws) : FR S m' H' fs ws :=
  Paired.mapP r fun _ _ z => ⟨z.1, z.2.ext s x⟩
theorem DRk.ext (s : Sim S m H h) (x : Ext m H m' H') {fs : List (Kk × Val)} {ws : List (L2.Key × V)} (r : DRk S m H fs ws) : DRk S m' H' fs ws :=
  Paired.mapP r fun _ _ z => ⟨z.1, z.2.ext s x⟩
theorem DRt.ext (s : Sim S m H h) (x : Ext m H m' H') {fs : List (Kk × Val)} {ws : List (List L2.Key × V)} (r : DRt S m H fs ws) : DRt S m' H' fs ws :=
  Paired.mapP r fun _ _ z => ⟨z.1, z.2.ext s x⟩
theorem OR.ext (s : Sim S m H h) (x : Ext m H m' H') {a : Addr} {o : Ob} (e : H' a = H a) (r : OR S m H a o) : OR S m' H' a o := by
  cases o with
  | lst xs => obtain ⟨vs, q, t⟩ := r; exact ⟨vs, e.trans q, t.ext s x⟩
  | dct kvs =>
    rcases r with ⟨ws, q, t⟩ | ⟨ne, ws, q, t⟩
    · exact .inl ⟨ws, e.trans q, t.ext s x⟩
    · exact .inr ⟨ne, ws, e.trans q, t.ext s x⟩
  | kdct kvs =>
    rcases r with ⟨o, ws, q, t⟩ | ⟨ne, o, ws, q, t⟩
    · exact .inl ⟨o, ws, e.trans q, t.ext s x⟩
    · exact .inr ⟨ne, o, ws, e.trans q, t.ext s x⟩
  | ins c fs => obtain ⟨hc, dx, ws, q, t⟩ := r; exact ⟨hc, dx, ws, e.trans q, t.ext s x⟩

/-- a new object that is no cell -/
theorem Ext.upd_new {p : Addr} {o : HO} (hp : H p = none) : Ext m H m (upd H p o) :=
  ⟨⟨[], by simp, fun _ h => nomatch h⟩, fun b u _ e => by rw [upd_ne (ne_of_none e hp)]; exact e, fun b hb => by
    by_cases q : b = p
    · subst q; exact absurd hp hb
    · rw [upd_ne q]; exact hb, fun b o u e => by rw [upd_ne (ne_of_none e hp)]; exact e⟩
/-- a new cell -/
theorem Ext.upd_cell {p : Addr} {o : HO} (hp : H p = none) : Ext m H (m ++ [p]) (upd H p o) :=
  ⟨⟨[p], rfl, fun b hb => by rw [List.mem_singleton.mp hb]; exact hp⟩, fun b u _ e => by rw [upd_ne (ne_of_none e hp)]; exact e, fun b hb => by
    by_cases q : b = p
    · subst q; exact absurd hp hb
    · rw [upd_ne q]; exact hb, fun b o u e => by rw [upd_ne (ne_of_none e hp)]; exact e⟩
/-- nothing locked stands at p -/
def NoFrz (H : Hp) (p : Addr) : Prop := ∀ o u, H p ≠ some (.frz o u)
theorem nfz {p : Addr} {x : HO} (e : H p = some x) (hx : ∀ o u, x ≠ .frz o u) : NoFrz H p := fun o u q => by
  rw [e] at q
  exact hx o u (Option.some.inj q)
/-- a cell is written -/
theorem Ext.upd_at {p : Addr} {o : HO} (hp : p ∈ m) (nf : NoFrz H p) : Ext m H m (upd H p o) :=
  ⟨⟨[], by simp, fun _ h => nomatch h⟩, fun b u hb e => by rw [upd_ne (fun q => hb (by rw [q]; exact hp))]; exact e, fun b hb => by
    by_cases q : b = p
    · subst q; rw [upd_same]; simp
    · rw [upd_ne q]; exact hb, fun b o u e => by
    rw [upd_ne (fun q => nf o u (by rw [← q]; exact e))]; exact e⟩
theorem Sim.new (s : Sim S m H h) {p : Addr} {o : HO} (hp : H p = none) : Sim S m (upd H p o) h := by
  refine ⟨s.len, s.nd, fun l a b e1 e2 => ?_⟩
  have ha : a ≠ p := fun q => by
    have := s.fresh hp
    exact this (q ▸ List.mem_of_getElem? e1)
  exact (s.at_ l a b e1 e2).ext s (Ext.upd_new hp) (upd_ne ha)
theorem Sim.newCell (s : Sim S m H h) {p : Addr} {o : HO} {b : Ob} (hp : H p = none) (r : OR S (m ++ [p]) (upd H p o) p b) : Sim S (m ++ [p]) (upd H p o) (h ++ [b]) := by
  have nm := s.fresh hp
  refine ⟨by simp [s.len], List.nodup_append.mpr ⟨s.nd, by simp, fun a ha b hb => ?_⟩, fun l a c e1 e2 => ?_⟩
  · rw [List.mem_singleton.mp hb]; exact fun q => nm (q ▸ ha)
  · by_cases hl : l < m.length
    · rw [List.getElem?_append_left hl] at e1
      rw [List.getElem?_append_left (s.len ▸ hl)] at e2
      have ha : a ≠ p := fun q => nm (q ▸ List.mem_of_getElem? e1)
      exact (s.at_ l a c e1 e2).ext s (Ext.upd_cell hp) (upd_ne ha)
    · have hl' : l = m.length := by
        have := (List.getElem?_eq_some_iff.mp e1).1
        simp at this; omega
      subst hl'
      rw [List.getElem?_append_right (Nat.le_refl _)] at e1
      rw [s.len, List.getElem?_append_right (Nat.le_refl _)] at e2
      simp at e1 e2
      subst e1; subst e2
      exact r
theorem nodup_at {N : List Addr} (hN : N.Nodup) {i j : Nat} {x : Addr} (a : N[i]? = some x) (b : N[j]? = some x) : i = j := by
  obtain ⟨h1, e1⟩ := List.getElem?_eq_some_iff.mp a
  obtain ⟨h2, e2⟩ := List.getElem?_eq_some_iff.mp b
  exact (List.getElem_inj hN).mp (e1.trans e2.symm)
theorem Sim.put (s : Sim S m H h) {l : Nat} {p : Addr} {o : HO} {b : Ob} (nf : NoFrz H p) (hp : m[l]? = some p) (r : OR S m (upd H p o) p b) : Sim S m (upd H p o) (h.set l b) := by
  refine ⟨by simp [s.len], s.nd, fun k a c e1 e2 => ?_⟩
  by_cases hk : k = l
  · subst hk
    rw [hp] at e1; cases e1
    rw [List.getElem?_set_self (by rw [← s.len]; exact (List.getElem?_eq_some_iff.mp hp).1)] at e2
    cases e2
    exact r
  · rw [List.getElem?_set_ne (Ne.symm hk)] at e2
    have ha : a ≠ p := fun q => hk (by subst q; exact nodup_at s.nd e1 hp)
    exact (s.at_ k a c e1 e2).ext s (Ext.upd_at (List.mem_of_getElem? hp) nf) (upd_ne ha)
theorem Sim.atl (s : Sim S m H h) {l : Nat} {o : Ob} (e : h[l]? = some o) : ∃ a, m[l]? = some a ∧ OR S m H a o := by
  have hl : l < m.length := s.len ▸ (List.getElem?_eq_some_iff.mp e).1
  exact ⟨m[l], List.getElem?_eq_getElem hl, s.at_ l _ o (List.getElem?_eq_getElem hl) e⟩

/-- a list is read -/
theorem Sim.seqL (s : Sim S m H h) {v : Val} {y : V} {xs : List Val} (r : S.VR m H v y) (e : lseq h v = some xs) :
    ∃ a vs, y = .ref a ∧ SqL S.K H a vs ∧ S.VRs m H xs vs := by
  cases r with
  | non => cases e
  | bl => cases e
  | int => cases e
  | str => cases e
  | tup t q => cases e
  | kl t q => cases e; exact ⟨_, _, rfl, t.seq, q⟩
  | kt t q => cases e
  | kd t => cases e
  | ref q =>
    rename_i l a
    simp only [lseq] at e
    split at e
    · rename_i ys eo
      cases e
      obtain ⟨vs, e1, e2⟩ := s.at_ l a _ q eo
      exact ⟨a, vs, rfl, .of e1, e2⟩
    · cases e
/-- a list or a tuple is read -/
theorem Sim.seq (s : Sim S m H h) {v : Val} {y : V} {xs : List Val} (r : S.VR m H v y) (e : seqOf h v = some xs) :
    ∃ a vs, y = .ref a ∧ (SqL S.K H a vs ∨ SqT S.K H a vs) ∧ S.VRs m H xs vs := by
  cases r with
  | non => cases e
  | bl => cases e
  | int => cases e
  | str => cases e
  | tup t q => cases e; exact ⟨_, _, rfl, .inr (.of t), q⟩
  | kl t q => cases e; exact ⟨_, _, rfl, .inl t.seq, q⟩
  | kt t q => cases e; exact ⟨_, _, rfl, .inr t.seq, q⟩
  | kd t => cases e
  | ref q =>
    rename_i l a
    simp only [seqOf] at e
    split at e
    · rename_i ys eo
      cases e
      obtain ⟨vs, e1, e2⟩ := s.at_ l a _ q eo
      exact ⟨a, vs, rfl, .inl (.of e1), e2⟩
    · cases e
end

/-! ### an answer's promise -/
/-- an exception: its class, its own dict -/
def XR (S : Sta) (m : List Addr) (H : Hp) (x : Exn) (cls : Value) (d : Option Addr) : Prop :=
  cls = .ref (S.C x.c) ∧ ((x.fs = [] ∧ d = none) ∨ ∃ dx ws, d = some dx ∧ H dx = some (.xd ws) ∧ FR S m H x.fs ws)
/-- what is wanted behind an answer, from the cells m over H on -/
def Pst {α : Type} (S : Sta) (W : XK) (m : List Addr) (H : Hp) (r : R α) (Q : α → List Addr → Hp → Hh → Prop) : Prop :=
  match r with
  | .ok a h' => ∀ m' H', Ext m H m' H' → Sim S m' H' h' → Q a m' H' h'
  | .exc x h' => ∀ m' H' cls d, Ext m H m' H' → Sim S m' H' h' → XR S m' H' x cls d → W cls d H'
  | .bad => False
theorem Pst.mono {α : Type} {S : Sta} {W : XK} {m : List Addr} {H : Hp} {r : R α} {Q Q' : α → List Addr → Hp → Hh → Prop} (p : Pst S W m H r Q) (hQ : ∀ a m' H' h', r = .ok a h' → Ext m H m' H' → Sim S m' H' h' → Q a m' H' h' → Q' a m' H' h') : Pst S W m H r Q' := by
  cases r with
  | ok a h => exact fun m' H' x s => hQ a m' H' h rfl x s (p m' H' x s)
  | exc x h => exact p
  | bad => exact p
theorem Pst.ext {α : Type} {S : Sta} {W : XK} {m m1 : List Addr} {H H1 : Hp} {r : R α} {Q : α → List Addr → Hp → Hh → Prop} (p : Pst S W m H r Q) (e : Ext m H m1 H1) : Pst S W m1 H1 r Q := by
  cases r with
  | ok a h => exact fun m' H' x s => p m' H' (e.trans x) s
  | exc x h => exact fun m' H' cls d y s z => p m' H' cls d (e.trans y) s z
  | bad => exact p
theorem Pst.bind {α β : Type} {S : Sta} {W : XK} {m : List Addr} {H : Hp} {r : R α} {f : α → Hh → R β} {Q : β → List Addr → Hp → Hh → Prop} (p : Pst S W m H (r.bind f) Q) :
    Pst S W m H r fun a m1 H1 h1 => Pst S W m1 H1 (f a h1) Q := by
  cases r with
  | ok a h => exact fun m' H' x s => Pst.ext p x
  | exc x h => exact p
  | bad => exact p
theorem Pst.orBad {α β : Type} {S : Sta} {W : XK} {m : List Addr} {H : Hp} {o : Option α} {f : α → R β} {Q : β → List Addr → Hp → Hh → Prop} (p : Pst S W m H (orBad o f) Q) :
    ∃ a, o = some a ∧ Pst S W m H (f a) Q := by
  cases o with
  | some a => exact ⟨a, rfl, p⟩
  | none => exact p.elim
theorem Pst.okIf {α : Type} {S : Sta} {W : XK} {m : List Addr} {H : Hp} {c : Bool} {r : R α} {Q : α → List Addr → Hp → Hh → Prop} (p : Pst S W m H (okIf c r) Q) : c = true ∧ Pst S W m H r Q := by
  cases c with
  | true => exact ⟨rfl, p⟩
  | false => exact p.elim
end Mi

set_option maxHeartbeats 200000
namespace Mi
open PySem

/-- what a text has: its classes, its defs, its constants, the built-in names that it leaves alone -/
structure Inf where
  cls : List Str
  fns : List Str
  gls : List Str
  fre : List Str
def posOf (x : Str) : List Str → Option Nat
  | [] => none
  | y :: r => if y = x then some 0 else (posOf x r).map (· + 1)
theorem posOf_at {x : Str} : ∀ {N : List Str} {i : Nat}, posOf x N = some i → N[i]? = some x
  | [], _, h => by cases h
  | y :: r, i, h => by
    simp only [posOf] at h
    split at h
    · rename_i e; cases h; simp [e]
    · cases q : posOf x r with
      | none => rw [q] at h; cases h
      | some j =>
        rw [q] at h; cases h
        simpa using posOf_at q
abbrev Sc := List (Str × NameKind)
def Sc.isLoc (sc : Sc) (x : Str) : Bool := match sc.lookup x with
  | some .local => true
  | some .cell => true
  | some .free => true
  | _ => false
def Sc.isSto (sc : Sc) (x : Str) : Bool := match sc.lookup x with
  | some .local => true
  | some .cell => true
  | _ => false
def Sc.isGl (sc : Sc) (x : Str) : Bool := match sc.lookup x with
  | some .globalImplicit => true
  | _ => false
def plainName (x : Str) : Bool := decide (x ≠ ("__debug__" : Str)) && decide (x ≠ ("__classdict__" : Str)) && decide (x ≠ ("__name__" : Str))
/-- no expression that the machine looks at apart -/
def okE : Expr → Bool
  | .Set .. => false
  | .Starred .. => false
  | .Slice .. => false
  | .Call (.Name id _) [] [] _ => decide (id ≠ ("super" : Str))
  | _ => true
def bopOf : Operator → Option Bop
  | .Add => some .add | .Sub => some .sub | .Mult => some .mul | .FloorDiv => some .fdiv | .Mod => some .mod | .Pow => some .pow
  | _ => none
def augOf : Operator → Option Bop
  | .Add => some .add | .Sub => some .sub
  | _ => none
def copOf : CmpOp → Cop
  | .Eq => .eq | .NotEq => .ne | .Lt => .lt | .LtE => .le | .Gt => .gt | .GtE => .ge | .Is => .is | .IsNot => .isn | .In => .inn | .NotIn => .nin
def bifOf (x : Str) : Option Bif :=
  if x = "len" then some .len else if x = "int" then some .int else if x = "str" then some .str else if x = "repr" then some .repr else if x = "abs" then some .abs
  else if x = "sum" then some .sum else if x = "min" then some .min else if x = "max" then some .max else if x = "sorted" then some .sorted else if x = "tuple" then some .tuple
  else if x = "list" then some .list else if x = "dict" then some .dict else none
def bmtOf (x : Str) : Option Bmt :=
  if x = "append" then some .append else if x = "extend" then some .extend else if x = "pop" then some .pop else if x = "get" then some .get
  else if x = "join" then some .join else none
def isTy (x : Str) : Bool := decide (x = "int") || decide (x = "bool") || decide (x = "str") || decide (x = "tuple") || decide (x = "list") || decide (x = "dict")

def tgNames : Expr → List Str
  | .Name x _ => [x]
  | .Tuple es _ _ => es.filterMap fun | .Name x _ => some x | _ => none
  | _ => []
def withPos (N : List Str) : List Str → List (Str × Nat)
  | [] => []
  | x :: r => match posOf x N with
    | some i => (x, i) :: withPos N r
    | none => withPos N r
section
variable (I : Inf) (N : List Str)
def cName (sc : Sc) (x : Str) : Option Ex :=
  if plainName x = true then
    if sc.isLoc x = true then (posOf x N).map .loc
    else if sc.isGl x = true && I.gls.contains x then some (.glb x) else none
  else none
def cNm (sc : Sc) : Expr → Option Nat
  | .Name x _ => if (plainName x && sc.isSto x) = true then posOf x N else none
  | _ => none
def cTgs (sc : Sc) : List Expr → Option Tg
  | [] => some .nil
  | e :: r => match cNm N sc e, cTgs sc r with
    | some i, some t => some (.cons (.nm i) t)
    | _, _ => none
def cTg (sc : Sc) : Expr → Option Tg
  | .Tuple es _ _ => cTgs N sc es
  | e => (cNm N sc e).map .nm
/-- an enumerate is walked by a tuple of names -/
def tgIt (t : Expr) (it : Ex) : Bool := match it with
  | .enu _ => (match t with
    | .Tuple _ _ _ => true
    | _ => false)
  | _ => true
/-- many: at most a thousand parts -/
def few {α : Type} (l : List α) : Bool := decide (l.length ≤ 1000)

def cAll (f : Expr → Option Ex) : List Expr → Option Ex
  | [] => some .nil
  | e :: r => match f e, cAll f r with
    | some c, some cs => some (.cons c cs)
    | _, _ => none
def cKvs (f : Expr → Option Ex) : List (Option Expr) → List Expr → Option Ex
  | [], [] => some .nil
  | some k :: ks, v :: vs => match f k, f v, cKvs f ks vs with
    | some a, some b, some r => some (.kv a b r)
    | _, _, _ => none
  | _, _ => none
def cChain (f : Expr → Option Ex) (op : BoolOp) : List Expr → Option Ex
  | [] => none
  | [e] => f e
  | e :: r => match f e, cChain f op r with
    | some a, some b => some (match op with | .And => .and a b | .Or => .or a b)
    | _, _ => none
def cPart (f : Expr → Option Ex) : Option Expr → Option Ex
  | none => some (.lit .non)
  | some e => f e
def cIt (sc : Sc) (f : Expr → Option Ex) : Expr → Option Ex
  | .Call (.Name x p) [a] [] q =>
    if x = "enumerate" ∧ sc.isGl x = true ∧ I.fre.contains x = true then (if okE a = true then (f a).map .enu else none)
    else if x = "range" ∧ sc.isGl x = true ∧ I.fre.contains x = true then (if okE a = true then (f a).map (.rng (.lit (.int 0))) else none)
    else (f (.Call (.Name x p) [a] [] q)).map .itr
  | .Call (.Name x p) [a, b] [] q =>
    if x = "range" ∧ sc.isGl x = true ∧ I.fre.contains x = true then (match f a, f b with
      | some ca, some cb => if (okE a && okE b) = true then some (.rng ca cb) else none
      | _, _ => none)
    else (f (.Call (.Name x p) [a, b] [] q)).map .itr
  | e => (f e).map .itr
def cIf (f : Expr → Option Ex) : List Expr → Option Ex
  | [] => some (.lit (.bl true))
  | [c] => f c
  | _ => none
/-- isinstance(a, t) -/
def cIsi (sc : Sc) (f : Expr → Option Ex) (x : Str) : List Expr → Option Ex
  | [a, .Name t _] => if (decide (x = "isinstance") && I.fre.contains x && Sc.isGl sc x && isTy t && I.fre.contains t && Sc.isGl sc t && plainName t && okE a) = true then (f a).map (.isi · t) else none
  | _ => none
/-- list(a.items()) -/
def cItm (sc : Sc) (f : Expr → Option Ex) (x : Str) (pos : Pos) : List Expr → Option Ex
  | [.Call (.Attribute e m apos) [] [] cpos] => if (decide (x = "list") && decide (m = "items") && I.fre.contains x && Sc.isGl sc x && okE e && (apos.endLine == cpos.line)) = true then (f e).map .itm else none
  | _ => none
/-- a call of a name -/
def cCall (sc : Sc) (x : Str) (args : List Expr) (ces : Option Ex) : Option Ex := match ces with
  | none => none
  | some es => if (Sc.isGl sc x && plainName x && few args && args.all okE) = true then
      if I.cls.contains x = true then some (.mk x es)
      else if I.fns.contains x = true then some (.call x es)
      else if (I.fre.contains x && !args.isEmpty) = true then (bifOf x).map (.bif · es)
      else none
    else none
/-- a call of a method -/
def cMeth (m : Str) (apos : Pos) (args : List Expr) (pos : Pos) (co ces : Option Ex) : Option Ex := match co, ces with
  | some o, some es => if (decide (args.length < 30) && (apos.endLine == pos.line) && args.all okE) = true then (match bmtOf m with
      | some b => if args.isEmpty = true then none else some (.bmt b o es)
      | none => some (.mth o m es))
    else none
  | _, _ => none
def ownOf (gs : List Comprehension) : List (Str × Nat) := withPos N (gs.flatMap fun g => tgNames g.target)
/-- [.. for x in d if d[x] ..] : d is a dict -/
def keyed : Expr → Expr → List Expr → Bool
  | .Name x _, .Name d _, [.Compare (.Subscript (.Name d' _) (.Name x' _) _) _ _ _] => decide (d = d') && decide (x = x')
  | _, _, _ => false
def lckOf (t it : Expr) (ifs : List Expr) (i c : Ex) : Ex := if keyed t it ifs = true then (match i with
  | .itr (.loc j) => .lck j c
  | _ => c) else c
/-- an expression, at most n deep -/
def cE : Nat → Scope → Expr → Option Ex
  | 0, _, _ => none
  | n + 1, sc, e => if okE e = true then (match e with
    | .Constant .none _ _ => some (.lit .non)
    | .Constant (.bool b) _ _ => some (.lit (.bl b))
    | .Constant (.int i) _ _ => some (.lit (.int i))
    | .Constant (.str s) _ _ => some (.lit (.str s))
    | .Name x _ => cName I N sc.names x
    | .Tuple es _ _ => if (few es && es.all okE) = true then (cAll (cE n sc) es).map .tup else none
    | .List es _ => if (few es && es.all okE) = true then (cAll (cE n sc) es).map .lst else none
    | .Dict ks vs _ => if decide (ks.length ≤ 15) = true then (cKvs (cE n sc) ks vs).map .dct else none
    | .BinOp a op b _ => match bopOf op, cE n sc a, cE n sc b with
      | some o, some a, some b => some (.bin o a b)
      | _, _, _ => none
    | .UnaryOp .USub a _ => (cE n sc a).map .neg
    | .UnaryOp .Not a _ => (cE n sc a).map .not
    | .BoolOp op es _ => cChain (cE n sc) op es
    | .Compare a [op] [b] _ => match cE n sc a, cE n sc b with
      | some ca, some cb => if okE b = true then some (.cmp (copOf op) ca cb) else none
      | _, _ => none
    | .Compare a [op, op2] [b, c] _ => match cE n sc a, cE n sc b, cE n sc c with
      | some ca, some cb, some cc => if okE c = true then some (.chn (copOf op) (copOf op2) ca cb cc) else none
      | _, _, _ => none
    | .IfExp c a b _ => match cE n sc c, cE n sc a, cE n sc b with
      | some c, some a, some b => some (.ite c a b)
      | _, _, _ => none
    | .Subscript a (.Slice lo hi none _) _ => match cE n sc a, cPart (cE n sc) lo, cPart (cE n sc) hi with
      | some a, some l, some u => some (.slc a l u)
      | _, _, _ => none
    | .Subscript a (.Slice none none (some (.UnaryOp .USub (.Constant (.int 1) _ _) _)) _) _ => (cE n sc a).map .rev
    | .Subscript a b _ => match cE n sc a, cE n sc b with
      | some ca, some cb => if okE b = true then some (.idx ca cb) else none
      | _, _ => none
    | .Attribute a f _ => if okE a = true then (cE n sc a).map (.fld · f) else none
    | .Call (.Name x _) args [] pos => (match cIsi I sc.names (cE n sc) x args with
      | some c => some c
      | none => match cItm I sc.names (cE n sc) x pos args with
        | some c => some c
        | none => cCall I sc.names x args (cAll (cE n sc) args))
    | .Call (.Attribute o m apos) args [] pos => cMeth m apos args pos (cE n sc o) (cAll (cE n sc) args)
    | .ListComp elt [⟨t, it, ifs, a⟩] scope _ =>
        if (decide (a = 0) && okE it && L2.blkC N sc scope (ownOf N [⟨t, it, ifs, a⟩])) = true then
          (match cE n scope elt, cTg N scope.names t, cIt I sc.names (cE n sc) it, cIf (cE n scope) ifs with
          | some e, some tt, some i, some c => if (tgIt t i && tt.slots.all fun i => ((ownOf N [⟨t, it, ifs, a⟩]).map (·.2)).contains i) = true then some (lckOf t it ifs i (.cmpr e (.gen tt i c .nil) ((ownOf N [⟨t, it, ifs, a⟩]).map (·.2)))) else none
          | _, _, _, _ => none)
        else none
    | .ListComp elt [⟨t, it, ifs, a⟩, ⟨t1, it1, ifs1, a1⟩] scope _ =>
        if (decide (a = 0) && decide (a1 = 0) && okE it && okE it1 && L2.blkC N sc scope (ownOf N [⟨t, it, ifs, a⟩, ⟨t1, it1, ifs1, a1⟩])) = true then
          (match cE n scope elt, cTg N scope.names t, cIt I sc.names (cE n sc) it, cIf (cE n scope) ifs with
          | some e, some tt, some i, some c => (match cTg N scope.names t1, cIt I scope.names (cE n scope) it1, cIf (cE n scope) ifs1 with
            | some tt1, some i1, some c1 => if (tgIt t i && tgIt t1 i1 && (tt.slots.all fun i => ((ownOf N [⟨t, it, ifs, a⟩, ⟨t1, it1, ifs1, a1⟩]).map (·.2)).contains i) && tt1.slots.all fun i => ((ownOf N [⟨t, it, ifs, a⟩, ⟨t1, it1, ifs1, a1⟩]).map (·.2)).contains i) = true then some (.cmpr e (.gen tt i c (.gen tt1 i1 c1 .nil)) ((ownOf N [⟨t, it, ifs, a⟩, ⟨t1, it1, ifs1, a1⟩]).map (·.2))) else none
            | _, _, _ => none)
          | _, _, _, _ => none)
        else none
    | _ => none) else none
def isComp : Expr → Bool
  | .ListComp .. => true
  | .SetComp .. => true
  | .DictComp .. => true
  | _ => false
def isTupE : Expr → Bool
  | .Tuple .. => true
  | _ => false
def depth : Nat := 40
def cSs (f : Stmt → Sm) : List Stmt → Sm
  | [] => .nop
  | [s] => f s
  | s :: r => .seq (f s) (cSs f r)
def orNever (o : Option Sm) : Sm := match o with
  | some s => s
  | none => .never
/-- a comprehension stored at once under a local name -/
def lcSole (sc : Scope) (x : Str) (px : Pos) : Expr → Bool
  | .ListComp _ [⟨t, it, ifs, _⟩] scope pos => !keyed t it ifs && decide (sc.kind = .function) && decide (sc.names.lookup x = some .local) && (px.line == pos.line) && !(scope.names.any fun (n, k) => n == x && (k == .local || k == .cell))
  | _ => false
/-- what is stored -/
def cAsg (sc : Scope) (e : Expr) : Expr → Option Sm
  | .Name x px => match cNm N sc.names (.Name x px), cE I N depth sc e with
    | some i, some c => if (!isComp e || lcSole sc x px e) = true then some (.asg (.nm i) c) else none
    | _, _ => none
  | .Tuple es k p => match cTg N sc.names (.Tuple es k p), cE I N depth sc e with
    | some t, some c => if (!isComp e && !isTupE e) = true then some (.asg t c) else none
    | _, _ => none
  | .Subscript o i _ => match cE I N depth sc o, cE I N depth sc i, cE I N depth sc e with
    | some o, some i, some c => some (.sub o i c)
    | _, _, _ => none
  | .Attribute o f _ => match cE I N depth sc o, cE I N depth sc e with
    | some o, some c => some (.fas o f c)
    | _, _ => none
  | _ => none
def cS : Nat → Scope → Stmt → Sm
  | 0, _, _ => .never
  | n + 1, sc, st => match st with
    | .Expr (.Constant (.str _) _ _) _ => .nop
    | .Expr e _ => if isComp e = true then .never else orNever ((cE I N depth sc e).map .exp)
    | .Return none _ => .retN
    | .Return (some e) _ => orNever ((cE I N depth sc e).map .ret)
    | .Pass _ => .nop
    | .Break _ => .brk
    | .Continue _ => .cont
    | .If c a b _ => orNever ((cE I N depth sc c).map fun c => .ifs c (cSs (cS n sc) a) (cSs (cS n sc) b))
    | .While c b [] _ => orNever ((cE I N depth sc c).map fun c => .whl c (cSs (cS n sc) b))
    | .For t it b [] _ => match cTg N sc.names t, cIt I sc.names (cE I N depth sc) it with
      | some tt, some i => if (tgIt t i && okE it) = true then .for_ tt i (cSs (cS n sc) b) else .never
      | _, _ => .never
    | .Assign [t] e _ => orNever (cAsg I N sc e t)
    | .AugAssign (.Name x px) op e _ => match augOf op, cNm N sc.names (.Name x px), cE I N depth sc e with
      | some o, some i, some c => .aug i o c
      | _, _, _ => .never
    | _ => .never
end
end Mi

set_option maxHeartbeats 1000000
/-! != of two lists whose items are equal -/
namespace Mi
open PySem PySem.SeqAt
open AutoSeq1 (wpAny_loadPart')
open MeetsSeq MeetsSeq2 MeetsSeq3 SeqRoads2
section
variable {P : Program} {W : World}
abbrev LstO (dd : Option Addr) (xs : Array Value) (n : Nat) (sl : Array (Option Value)) : Obj := { cls := .type "list", dict := dd, data := .seq xs n, slots := sl }
theorem neq_loop (p q : Addr) (xs ys : Array Value) (n m : Nat) (d1 d2 : Option Addr) (s1 s2 : Array (Option Value)) (sz : xs.size = ys.size) (k : Nat) :
    ∀ i : Nat, xs.size - i = k → MeetsIn P W (Builtin.«list.__eq__.loop» ⟨[.ref p, .ref q, rawInt i, rawInt 3], []⟩)
      (fun A R s => s.heap.get? p = some (LstO d1 xs n s1) ∧ s.heap.get? q = some (LstO d2 ys m s2) ∧
        (∀ j (a1 : j < xs.size) (a2 : j < ys.size), EqP P W A.in1 s xs[j] ys[j] true) ∧ R (.ok (.ret (.bool false))) s) := by
  induction k with
  | zero =>
    intro i ik A R s t
    obtain ⟨x1, x2, x3, x4, x5⟩ := s; obtain ⟨t1, t2, t3, t⟩ := t
    wp_walk using wpAny_loadPart' t1, wpAny_loadPart' t2
    have u1 : xs[((i : Nat) : Int).toNat]? = none := by simp; omega
    have u2 : ys[((i : Nat) : Int).toNat]? = none := by simp; omega
    rw [u1, u2]
    wp_walk using wpAny_loadPart' t1, wpAny_loadPart' t2
    show R (.ok (.ret (.bool (xs.size != ys.size)))) _
    rw [sz]
    simpa using t
  | succ k ih =>
    intro i ik A R s t
    obtain ⟨x1, x2, x3, x4, x5⟩ := s; obtain ⟨t1, t2, t3, t⟩ := t
    wp_walk using wpAny_loadPart' t1, wpAny_loadPart' t2
    have l1 : i < xs.size := by omega
    have l2 : i < ys.size := by omega
    have u1 : xs[((i : Nat) : Int).toNat]? = some xs[i] := by simp [l1]
    have u2 : ys[((i : Nat) : Int).toNat]? = some ys[i] := by simp [l2]
    have ic : ((i : Int) + 1) = ((i + 1 : Nat) : Int) := by push_cast; rfl
    rw [u1, u2]
    refine wpAny_bind (t3 i l1 l2 _ _ ?_)
    wp_walk
    rw [ic]
    exact ⟨plainId_quiet plain_eq_loop _, codeAny_builtin entry_eq_loop (by rw [Around.under_plainId plain_eq_loop _]; exact ih (i + 1) (by omega) A R _ ⟨t1, t2, t3, t⟩)⟩
theorem neq_list (p q : Addr) (xs ys : Array Value) (n m : Nat) (d1 d2 : Option Addr) (s1 s2 : Array (Option Value)) (sz : xs.size = ys.size) :
    MeetsIn P W (Builtin.«list.__ne__» ⟨[.ref p, .ref q], []⟩)
      (fun A R s => s.heap.get? p = some (LstO d1 xs n s1) ∧ s.heap.get? q = some (LstO d2 ys m s2) ∧
        (∀ j (a1 : j < xs.size) (a2 : j < ys.size), EqP P W A.in1 s xs[j] ys[j] true) ∧ R (.ok (.ret (.bool false))) s) := by
  intro A R s t
  obtain ⟨x1, x2, x3, x4, x5⟩ := s; obtain ⟨t1, t2, t3, t⟩ := t
  have sub := AutoSeq1.sub_list_list
  have ns : ¬ (xs.size != ys.size) = true := by simp [sz]
  wp_walk using wpAny_loadPart' t1, wpAny_loadPart' t2
  exact ⟨plainId_quiet plain_eq_loop _, codeAny_builtin entry_eq_loop (by rw [Around.under_plainId plain_eq_loop _]; exact neq_loop p q xs ys n m d1 d2 s1 s2 sz _ 0 rfl A R _ ⟨t1, t2, t3, t⟩)⟩
theorem neq_lists {A : Around} {s : Shared} {p q : Addr} {xs ys : Array Value} (hp : s.heap.IsList p xs) (hq : s.heap.IsList q ys) (sz : xs.size = ys.size) (hu : A.units < cLine)
    (he : ∀ j (a1 : j < xs.size) (a2 : j < ys.size), EqP P W A.in1 s xs[j] ys[j] true) (E Q : Value → Shared → Prop) (t : Q (.bool false) s) : wpAny (model P W) A (richCompare .NotEq (.ref p) (.ref q)) Q E s := by
  obtain ⟨⟨c1, e1, f1, g1⟩, o1, k1, n, r1⟩ := id hp
  obtain ⟨⟨c2, e2, f2, g2⟩, o2, k2, m, r2⟩ := id hq
  simp only at k1 r1 k2 r2
  subst k1 r1 k2 r2
  have y1 : s.TypeIs (.ref p) "list" := ⟨_, o1, rfl⟩
  have y2 : s.TypeIs (.ref q) "list" := ⟨_, o2, rfl⟩
  exact wpAny_richCompare_same_room (op := .NotEq) y1 y2 F.slot_list_ne (call_meetsIn F.slot_list_ne y1 F.entry_list_ne (F.args_list_ne_2 _ _) (neq_list p q xs ys n m e1 e2 g1 g2 sz)
    ⟨o1, o2, he, show Value.bool false ≠ Value.notImplemented ∧ Q (.bool false) s from ⟨(fun x => nomatch x), t⟩⟩) hu
end
end Mi

set_option maxHeartbeats 1000000
namespace Mi
open PySem PySem.Spec PyProof.Rows L2

section
variable {S : Sta} {m m' : List Addr} {H H' : Hp} {h h' : Hh}
theorem VRs.isEmpty {K : PySem.W.Frag} {dw : DW} {xs : List Val} {vs : List V} (r : Mi.VRs K dw m H xs vs) : vs.isEmpty = xs.isEmpty := by
  cases r <;> rfl
theorem tru_of (s : Sim S m H h) {v : Val} {y : V} {k : Bool} (r : S.VR m H v y) (e : truthy h v = some k) : TruV S.K y H k := by
  cases r with
  | non => cases e; rfl
  | bl b => cases e; rfl
  | int i => cases e; rfl
  | str t =>
    simp only [truthy] at e
    split at e
    · rename_i hl; cases e; exact ⟨hl, rfl⟩
    · cases e
  | tup t q => cases e; exact .inr (.inl ⟨_, .of t, by rw [q.isEmpty]⟩)
  | kt t q => cases e; exact .inr (.inl ⟨_, t.seq, by rw [q.isEmpty]⟩)
  | kl t q => cases e; exact .inl ⟨_, t.seq, by rw [q.isEmpty]⟩
  | kd t => cases e
  | ref q =>
    rename_i l a
    simp only [truthy] at e
    split at e
    · rename_i xs eo
      cases e
      obtain ⟨vs, e1, e2⟩ := s.at_ l a _ q eo
      exact .inl ⟨vs, .of e1, by rw [e2.isEmpty]⟩
    · rename_i kvs eo
      split at e
      · rename_i pk
        cases e
        rcases s.at_ l a _ q eo with ⟨ws, e1, e2⟩ | ⟨ne, ws, e1, e2⟩
        · exact .inr (.inr ⟨ws, e1, by cases e2 <;> rfl⟩)
        · cases e2 with
          | nil => exact absurd rfl ne
          | cons z _ =>
            simp only [plainKeys, List.all_cons, Bool.and_eq_true] at pk
            rw [z.1] at pk
            exact absurd pk.1 (by simp)
      · cases e
    · cases e
theorem dp_of (s : Sim S m H h) : ∀ (n : Nat) (v : Val) (y : V) (d : PyData), S.VR m H v y → toD h n v = some d → Dp S.K H y d := by
  have all : ∀ (n : Nat), (∀ (v : Val) (y : V) (d : PyData), S.VR m H v y → toD h n v = some d → Dp S.K H y d) →
      ∀ (xs : List Val) (vs : List V) (ds : List PyData), S.VRs m H xs vs → allD (toD h n) xs = some ds → DpAll S.K H vs ds := by
    intro n ih xs
    induction xs with
    | nil => intro vs ds r e; cases r; cases e; exact .nil
    | cons x xs jh =>
      intro vs ds r e
      cases r with
      | cons r t =>
        simp only [allD] at e
        split at e
        · rename_i d ds' e1 e2
          cases e
          exact .cons (ih _ _ _ r e1) (jh _ _ t e2)
        · cases e
  intro n
  induction n with
  | zero =>
    intro v y d r e
    cases r with
    | non => cases e; exact .non
    | bl b => cases e; exact .bl b
    | int i => cases e; exact .int i
    | str t => cases e; exact .str t
    | tup t q => cases e
    | kl t q => cases e
    | kt t q => cases e
    | kd t => cases e
    | ref q => cases e
  | succ n ih =>
    intro v y d r e
    cases r with
    | non => cases e; exact .non
    | bl b => cases e; exact .bl b
    | int i => cases e; exact .int i
    | str t => cases e; exact .str t
    | tup t q =>
      simp only [toD, Option.map_eq_some_iff] at e
      obtain ⟨ds, e1, rfl⟩ := e
      exact .tup (.of t) (all n ih _ _ _ q e1)
    | kt t q =>
      simp only [toD, Option.map_eq_some_iff] at e
      obtain ⟨ds, e1, rfl⟩ := e
      exact .tup t.seq (all n ih _ _ _ q e1)
    | kl t q =>
      simp only [toD, Option.map_eq_some_iff] at e
      obtain ⟨ds, e1, rfl⟩ := e
      exact .lst t.seq (all n ih _ _ _ q e1)
    | kd t => cases e
    | ref q =>
      rename_i l a
      simp only [toD] at e
      split at e
      · rename_i xs eo
        simp only [Option.map_eq_some_iff] at e
        obtain ⟨ds, e1, rfl⟩ := e
        obtain ⟨vs, e2, e3⟩ := s.at_ l a _ q eo
        exact .lst (.of e2) (all n ih _ _ _ e3 e1)
      · cases e
theorem dpAll_of (s : Sim S m H h) (n : Nat) : ∀ (xs : List Val) (vs : List V) (ds : List PyData), S.VRs m H xs vs → allD (toD h n) xs = some ds → DpAll S.K H vs ds := by
  intro xs
  induction xs with
  | nil => intro vs ds r e; cases r; cases e; exact .nil
  | cons x xs jh =>
    intro vs ds r e
    cases r with
    | cons r t =>
      simp only [allD] at e
      split at e
      · rename_i d ds' e1 e2
        cases e
        exact .cons (dp_of s n _ _ _ r e1) (jh _ _ t e2)
      · cases e
end

/-- a two-place operation that answers by values; no cell changes -/
def rC2 (S : Sta) (g : Val → Val → Hh → Option Bool) (neg : Bool) : R2 := fun x y H Q => ∃ m h a b k, Sim S m H h ∧ S.VR m H a x ∧ S.VR m H b y ∧ g a b h = some k ∧ Q (.bl (if neg then !k else k)) H
def rV2 (S : Sta) (g : Val → Val → Hh → R Val) : R2 := fun x y H Q => ∃ (U : XK) (m : List Addr) (h : Hh) (a b : Val), Sim S m H h ∧ S.VR m H a x ∧ S.VR m H b y ∧ Pst S U m H (g a b h) fun v m' H' h' => ∀ z, S.VR m' H' v z → Q z H'
theorem mem_of_get {m : List Addr} {l : Nat} {a : Addr} (e : m[l]? = some a) : a ∈ m := List.mem_of_getElem? e
section
variable {X : Cx} {S : Sta}
theorem scal_of {K : PySem.W.Frag} {dw : DW} {m : List Addr} {H : Hp} {a b : Val} {x y : V} {k : Bool} (ra : Mi.VR K dw m H a x) (rb : Mi.VR K dw m H b y) (e : scal a b = some k) : L2.scal x y = true ∧ decide (x = y) = k := by
  cases ra <;> cases rb <;> first
    | (cases e; exact ⟨rfl, L2.dec_int⟩)
    | (cases e; exact ⟨rfl, L2.dec_bl⟩)
    | (cases e; exact ⟨rfl, L2.dec_str⟩)
    | (cases e; exact ⟨rfl, by simp⟩)
    | cases e
theorem VR.flatV {K : PySem.W.Frag} {dw : DW} {m : List Addr} {H : Hp} {a : Val} {x : V} (r : Mi.VR K dw m H a x) (f : flat a = true) : L2.flatV x = true := by
  cases r <;> first | rfl | cases f
theorem VRs.flatV {K : PySem.W.Frag} {dw : DW} {m : List Addr} {H : Hp} : ∀ {xs : List Val} {vs : List V}, Mi.VRs K dw m H xs vs → xs.all flat = true → vs.all L2.flatV = true
  | _, _, .nil, _ => rfl
  | _, _, .cons r t, f => by
    simp only [List.all_cons, Bool.and_eq_true] at f ⊢
    exact ⟨r.flatV f.1, t.flatV f.2⟩
theorem eqF_of {K : PySem.W.Frag} {dw : DW} {m : List Addr} {H : Hp} {a b : Val} {x y : V} (ra : Mi.VR K dw m H a x) (rb : Mi.VR K dw m H b y) (fa : flat a = true) (fb : flat b = true) : L2.eqV x y = eqF a b := by
  cases ra <;> cases rb <;> first | rfl | cases fa | cases fb
theorem inF_of {K : PySem.W.Frag} {dw : DW} {m : List Addr} {H : Hp} {a : Val} {x : V} (ra : Mi.VR K dw m H a x) (fa : flat a = true) : ∀ {xs : List Val} {vs : List V}, Mi.VRs K dw m H xs vs → xs.all flat = true →
    L2.inV x vs = xs.any fun y => eqF y a
  | _, _, .nil, _ => rfl
  | _, _, .cons r t, f => by
    simp only [List.all_cons, Bool.and_eq_true] at f
    have e := inF_of ra fa t f.2
    simp only [L2.inV, List.any_cons] at e ⊢
    rw [eqF_of r ra f.1 fa, e]
/-- int comparisons -/
theorem op_cmpM {f : Value → Value → Sem Value} {o : Cop} {p : Int → Int → Bool} (hf : OpR X f (rI0 fun i j => .bl (p i j))) (ho : ∀ a b h, cmpop o a b h = match a, b with | .int i, .int j => some (p i j) | _, _ => none) : OpR X f (rC2 S (cmpop o) false) := by
  intro pins s σ H x y v u Q I rx ry ⟨m, h, a, b, k, sim, ra, rb, e, q⟩
  rw [ho] at e
  split at e
  · cases e
    cases ra; cases rb
    exact hf pins s σ H _ _ v u Q I rx ry ⟨_, _, rfl, rfl, q⟩
  · cases e
theorem op_leM : OpR X (compareOp .LtE) (rC2 S (cmpop .le) false) := op_cmpM op_le fun _ _ _ => rfl
theorem op_gtM : OpR X (compareOp .Gt) (rC2 S (cmpop .gt) false) := op_cmpM op_gt fun _ _ _ => rfl
theorem op_geM : OpR X (compareOp .GtE) (rC2 S (cmpop .ge) false) := op_cmpM op_ge fun _ _ _ => rfl
theorem op_ltM : OpR X (compareOp .Lt) (rC2 S (cmpop .lt) false) := by
  intro pins s σ H x y v u Q I rx ry ⟨m, h, a, b, k, sim, ra, rb, e, q⟩
  simp only [cmpop] at e
  split at e
  · cases e
    cases ra; cases rb
    exact op_lt pins s σ H _ _ v u Q I rx ry ⟨_, _, rfl, rfl, q⟩
  · cases e
    cases ra; cases rb
    exact op_lt_str pins s σ H _ _ v u Q I rx ry ⟨_, _, rfl, rfl, q⟩
  · cases e
theorem op_isM : OpR X (compareOp .Is) (rC2 S (cmpop .is) false) := by
  intro pins s σ H x y v u Q I rx ry ⟨m, h, a, b, k, sim, ra, rb, e, q⟩
  simp only [cmpop] at e
  split at e
  · cases e
    cases rb
    refine op_isN pins s σ H _ _ v u Q I rx ry ⟨rfl, ?_⟩
    cases ra <;> exact q
  · cases e
theorem op_isnM : OpR X (compareOp .IsNot) (rC2 S (cmpop .isn) false) := by
  intro pins s σ H x y v u Q I rx ry ⟨m, h, a, b, k, sim, ra, rb, e, q⟩
  simp only [cmpop] at e
  split at e
  · cases e
    cases rb
    refine op_notN pins s σ H _ _ v u Q I rx ry ⟨rfl, ?_⟩
    cases ra <;> exact q
  · cases e

/-! ### dicts -/
theorem flatKey_of {K : PySem.W.Frag} {dw : DW} {m : List Addr} {H : Hp} {a : Val} {x : V} {k : L2.Key} (r : Mi.VR K dw m H a x) (e : flatKey a = some k) : x = kV k := by
  cases r <;> cases e <;> rfl
theorem flatKeys_of {K : PySem.W.Frag} {dw : DW} {m : List Addr} {H : Hp} : ∀ {xs : List Val} {vs : List V} {ks : List L2.Key}, Mi.VRs K dw m H xs vs → flatKeys xs = some ks → vs = ks.map kV
  | _, _, _, .nil, e => by cases e; rfl
  | _, _, _, .cons r t, e => by
    simp only [flatKeys] at e
    split at e
    · rename_i k ks' e1 e2
      cases e
      rw [flatKey_of r e1, flatKeys_of t e2]; rfl
    · cases e
/-- a key's value -/
def KR (H : Hp) (k : Kk) (x : V) : Prop := match k with
  | .inl k => x = kV k
  | .inr ks => ∃ a, x = .ref a ∧ H a = some (.tup (ks.map kV))
theorem toKey_of {K : PySem.W.Frag} {dw : DW} {m : List Addr} {H : Hp} {a : Val} {x : V} {k : Kk} (r : Mi.VR K dw m H a x) (e : toKey a = some k) : KR H k x := by
  cases r with
  | int i => cases e; rfl
  | str t => cases e; rfl
  | tup t q =>
    simp only [toKey, Option.map_eq_some_iff] at e
    obtain ⟨ks, e1, rfl⟩ := e
    rw [flatKeys_of q e1] at t
    exact ⟨_, rfl, t⟩
  | non => cases e
  | bl b => cases e
  | kl t q => cases e
  | kt t q => cases e
  | kd t => cases e
  | ref q => cases e
theorem DRk.get {m : List Addr} {H : Hp} : ∀ {kvs : List (Kk × Val)} {ws : List (L2.Key × V)}, DRk S m H kvs ws → ∀ (k : L2.Key), (∃ v z, dget kvs (.inl k) = some v ∧ valV ws k = some z ∧ S.VR m H v z) ∨ (dget kvs (.inl k) = none ∧ valV ws k = none)
  | _, _, .nil, k => .inr ⟨rfl, rfl⟩
  | (p :: kvs), (q :: ws), .cons z t, k => by
    have hpq : p.1 = .inl q.1 := z.1
    by_cases e : q.1 = k
    · refine .inl ⟨p.2, q.2, ?_, valV_pos e, z.2⟩
      unfold dget
      rw [List.find?_cons_of_pos (by simp [hpq, e])]; rfl
    · have e1 : dget (p :: kvs) (.inl k) = dget kvs (.inl k) := by
        unfold dget
        rw [List.find?_cons_of_neg (by simp [hpq]; exact e)]
      rw [e1, valV_neg e]
      exact DRk.get t k
theorem DRt.get {m : List Addr} {H : Hp} : ∀ {kvs : List (Kk × Val)} {ws : List (List L2.Key × V)}, DRt S m H kvs ws → ∀ (k : List L2.Key), (∃ v z, dget kvs (.inr k) = some v ∧ valV ws k = some z ∧ S.VR m H v z) ∨ (dget kvs (.inr k) = none ∧ valV ws k = none)
  | _, _, .nil, k => .inr ⟨rfl, rfl⟩
  | (p :: kvs), (q :: ws), .cons z t, k => by
    have hpq : p.1 = .inr q.1 := z.1
    by_cases e : q.1 = k
    · refine .inl ⟨p.2, q.2, ?_, valV_pos e, z.2⟩
      unfold dget
      rw [List.find?_cons_of_pos (by simp [hpq, e])]; rfl
    · have e1 : dget (p :: kvs) (.inr k) = dget kvs (.inr k) := by
        unfold dget
        rw [List.find?_cons_of_neg (by simp [hpq]; exact e)]
      rw [e1, valV_neg e]
      exact DRt.get t k
end
section
variable {X : Cx} {S : Sta}
theorem dictsEq_at {h : Hh} : ∀ {xs ys : List Val}, dictsEq h xs ys = true → xs.length = ys.length ∧ ∀ (j : Nat) (x y : Val), xs[j]? = some x → ys[j]? = some y → dictEq h x y = true
  | [], [], _ => ⟨rfl, fun j x y e => by simp at e⟩
  | x :: xs, [], e => by cases e
  | [], y :: ys, e => by cases e
  | x :: xs, y :: ys, e => by
    simp only [dictsEq, Bool.and_eq_true] at e
    obtain ⟨h1, h2⟩ := dictsEq_at e.2
    refine ⟨by simp [h1], fun j u v eu ev => ?_⟩
    cases j with
    | zero =>
      simp only [List.getElem?_cons_zero, Option.some.injEq] at eu ev
      rw [← eu, ← ev]
      exact e.1
    | succ j => exact h2 j u v (by simpa using eu) (by simpa using ev)
/-- what stands for equal data -/
def EqDt (K : PySem.W.Frag) (H : Hp) (x y : V) : Prop := ∃ d e, Dp K H x d ∧ Dp K H y e ∧ SeqAt.shaped d = true ∧ SeqAt.shaped e = true ∧ d.depth ≤ 60 ∧ e.depth ≤ 60 ∧ PyData.eqv d e = true
theorem eqDt_run {pins : List (Addr × Obj)} {σ : L2.St} {H : Hp} {s : Shared} (I : Inv X pins σ H s) {A : Around} (hu : A.units + 60 < cLine) {x y : V} {v u : Value} (q : EqDt X.K H x y) (rx : RelV x v) (ry : RelV y u) : SeqAt.EqP X.prog X.w A s v u true := by
  obtain ⟨d, e, d1, d2, s1, s2, t1, t2, eq⟩ := q
  obtain ⟨as, r1⟩ := Dp.reads I d x v d1 rx
  obtain ⟨bs, r2⟩ := Dp.reads I e y u d2 ry
  have := SeqAt.eqAt_reads d e A s v u as bs r1 r2 (SeqAt.canLay_of_shaped s1) (SeqAt.canLay_of_shaped s2) (by
    have : min d.depth e.depth ≤ d.depth := Nat.min_le_left _ _
    omega)
  rw [eq] at this
  exact SeqAt.EqAt.eqP this
theorem dataEq_of {m : List Addr} {H : Hp} {h : Hh} (sim : Sim S m H h) {v u : Val} {x y : V} (rx : S.VR m H v x) (ry : S.VR m H u y) (e : dataEq h v u = true) : EqDt S.K H x y := by
  unfold dataEq at e
  split at e
  · rename_i d e' h1 h2
    simp only [Bool.and_eq_true, decide_eq_true_eq] at e
    exact ⟨d, e', dp_of sim _ _ _ _ rx h1, dp_of sim _ _ _ _ ry h2, e.1.1.1.1, e.1.1.1.2, e.1.1.2, e.1.2, e.2⟩
  · cases e
theorem deep_true {h : Hh} {a b : Val} {k : Bool} (e : deepEq h a b = some k) : k = true := by
  unfold deepEq at e
  split at e
  · split at e
    · split at e
      · cases e; rfl
      · cases e
    · cases e
  · cases e
theorem plain_dK {m : List Addr} {H : Hp} {h : Hh} (sim : Sim S m H h) {p : Nat} {a : Addr} {ks : List (Kk × Val)} (em : m[p]? = some a) (eh : h[p]? = some (.dct ks)) (pk : plainKeys ks = true) : ∃ ws, H a = some (.dK ws) ∧ DRk S m H ks ws := by
  rcases sim.at_ p a _ em eh with ⟨ws, e1, e2⟩ | ⟨ne, ws, e1, e2⟩
  · exact ⟨ws, e1, e2⟩
  · cases e2 with
    | nil => exact absurd rfl ne
    | cons z _ =>
      simp only [plainKeys, List.all_cons, Bool.and_eq_true] at pk
      rw [z.1] at pk
      exact absurd pk.1 (by simp)
theorem drk_all {m : List Addr} {H : Hp} {h : Hh} (sim : Sim S m H h) {ls : List (Kk × Val)} {wl : List (L2.Key × V)} (rl : DRk S m H ls wl) : ∀ {ks : List (Kk × Val)} {wk : List (L2.Key × V)}, DRk S m H ks wk → (ks.all fun kv => match dget ls kv.1 with
      | some u => dataEq h kv.2 u
      | none => false) = true → ∀ p ∈ wk, ∃ u, valV wl p.1 = some u ∧ EqDt S.K H p.2 u := by
  intro ks wk rk
  induction rk with
  | nil => intro _ p hp; cases hp
  | @cons kv w kvs ws z t ih =>
    intro e p hp
    rw [List.all_cons, Bool.and_eq_true] at e
    rcases List.mem_cons.mp hp with rfl | hp
    · obtain ⟨z1, z2⟩ := z
      have e1 := e.1
      rw [z1] at e1
      rcases DRk.get rl p.1 with ⟨v, y, h1, h2, h3⟩ | ⟨h1, h2⟩
      · rw [h1] at e1
        exact ⟨y, h2, dataEq_of sim z2 h3 e1⟩
      · rw [h1] at e1
        cases e1
    · exact ih e.2 p hp
theorem dict_item (hK : X.K = S.K) {pins : List (Addr × Obj)} {σ : L2.St} {H : Hp} {s : Shared} (I : Inv X pins σ H s) {A : Around} (hu : A.units + 62 < cLine) {m : List Addr} {h : Hh} (sim : Sim S m H h) {v u : Val} {x y : V} {a b : Value} (rx : S.VR m H v x) (ry : S.VR m H u y) (e : dictEq h v u = true) (ra : RelV x a) (rb : RelV y b) : SeqAt.EqP X.prog X.w A s a b true := by
  unfold dictEq at e
  split at e
  · rename_i p q
    split at e
    · rename_i ks ls e1 e2
      simp only [Bool.and_eq_true, decide_eq_true_eq] at e
      obtain ⟨⟨⟨pk, pl⟩, hl⟩, hall⟩ := e
      cases rx with
      | ref em =>
        cases ry with
        | ref en =>
          rename_i ad bd
          cases (show a = Value.ref ad from ra)
          cases (show b = Value.ref bd from rb)
          obtain ⟨wk, hk, rk⟩ := plain_dK sim em e1 pk
          obtain ⟨wl, hl2, rl⟩ := plain_dK sim en e2 pl
          have lens : wk.length = wl.length := by
            have q1 := Paired.length rk
            have q2 := Paired.length rl
            omega
          have er : EqR X.K H (EqDt X.K H) (.ref ad) (.ref bd) := .inr ⟨ad, bd, wk, wl, rfl, rfl, hk, hl2, lens, by rw [hK]; exact drk_all sim rl rk hall⟩
          have step := L2.eqR_run I (A := A) (by omega) (fun x y v u f r1 r2 => eqDt_run I (A := A.in1) (by show A.units + 1 + 60 < cLine; omega) f r1 r2) er rfl rfl
          by_cases q : ad = bd
          · subst q
            exact (SeqAt.EqAt.same _).eqP
          · exact SeqAt.eqP_refs q step
    · cases e
  · cases e
theorem deep_lists (hK : X.K = S.K) (hu : X.A.units + 64 < cLine) {pins : List (Addr × Obj)} {σ : L2.St} {H : Hp} {s : Shared} (I : Inv X pins σ H s) {m : List Addr} {h : Hh} (sim : Sim S m H h) {a b : Val} {x y : V} {v u : Value} {k : Bool} (ra : S.VR m H a x) (rb : S.VR m H b y) (e : deepEq h a b = some k) (rx : RelV x v) (ry : RelV y u) :
    ∃ (p q : Addr) (xs ys : Array Value), v = .ref p ∧ u = .ref q ∧ s.heap.IsList p xs ∧ s.heap.IsList q ys ∧ xs.size = ys.size ∧ ∀ j (a1 : j < xs.size) (a2 : j < ys.size), SeqAt.EqP X.prog X.w X.A.in1 s xs[j] ys[j] true := by
  unfold deepEq at e
  split at e
  · rename_i l n
    split at e
    · rename_i xs ys e1 e2
      split at e
      · rename_i de
        obtain ⟨len, items⟩ := dictsEq_at de
        cases ra with
        | ref em =>
          cases rb with
          | ref en =>
            rename_i ad bd
            cases (show v = Value.ref ad from rx)
            cases (show u = Value.ref bd from ry)
            obtain ⟨vs, h1, r1⟩ := sim.at_ l ad _ em e1
            obtain ⟨ws, h2, r2⟩ := sim.at_ n bd _ en e2
            obtain ⟨us, q1, p1, _⟩ := I.list (show SqL X.K H ad vs from .of h1)
            obtain ⟨zs, q2, p2, _⟩ := I.list (show SqL X.K H bd ws from .of h2)
            have sz : us.toArray.size = zs.toArray.size := by
              rw [List.size_toArray, List.size_toArray, ← q1.length, ← q2.length, ← r1.length, ← r2.length]
              exact len
            refine ⟨ad, bd, us.toArray, zs.toArray, rfl, rfl, p1.isList, p2.isList, sz, fun j a1 a2 => ?_⟩
            have b1 : j < us.length := by simpa using a1
            have b2 : j < zs.length := by simpa using a2
            have c1 : j < xs.length := by rw [r1.length, q1.length]; exact b1
            have c2 : j < ys.length := by rw [r2.length, q2.length]; exact b2
            obtain ⟨x1, y1, z1⟩ := r1.get (List.getElem?_eq_getElem c1)
            obtain ⟨x2, y2, z2⟩ := r2.get (List.getElem?_eq_getElem c2)
            obtain ⟨x3, y3, z3⟩ := q1.get y1
            obtain ⟨x4, y4, z4⟩ := q2.get y2
            have g1 : us.toArray[j] = x3 := by
              have := List.getElem?_eq_getElem b1
              rw [y3] at this
              simpa using (Option.some.inj this).symm
            have g2 : zs.toArray[j] = x4 := by
              have := List.getElem?_eq_getElem b2
              rw [y4] at this
              simpa using (Option.some.inj this).symm
            rw [g1, g2]
            exact dict_item hK I (by show X.A.units + 1 + 62 < cLine; omega) sim z1 z2 (items j _ _ (List.getElem?_eq_getElem c1) (List.getElem?_eq_getElem c2)) z3 z4
      · cases e
    · cases e
  · cases e
theorem deep_eq (hK : X.K = S.K) (hu : X.A.units + 64 < cLine) {pins : List (Addr × Obj)} {σ : L2.St} {H : Hp} {s : Shared} {m : List Addr} {h : Hh} (sim : Sim S m H h) {a b : Val} {x y : V} {v u : Value} {k : Bool} {Q : VK} (ra : S.VR m H a x) (rb : S.VR m H b y) (e : deepEq h a b = some k) (I : Inv X pins σ H s) (rx : RelV x v) (ry : RelV y u) (q : Q (.bl true) H) :
    wpAny (model X.prog X.w) X.A (compareOp .Eq v u) (EP X pins σ Q) X.xe s := by
  obtain ⟨p, r, xs, ys, rfl, rfl, h1, h2, sz, items⟩ := deep_lists hK hu I sim ra rb e rx ry
  refine SeqAt.rcP_lists (e := fun _ => true) h1 h2 sz (by omega) items _ _ ?_
  rw [show ((List.range xs.size).all fun _ => true) = true from List.all_eq_true.mpr fun _ _ => rfl]
  exact ⟨.bl true, H, I, rfl, q⟩
theorem deep_ne (hK : X.K = S.K) (hu : X.A.units + 64 < cLine) {pins : List (Addr × Obj)} {σ : L2.St} {H : Hp} {s : Shared} {m : List Addr} {h : Hh} (sim : Sim S m H h) {a b : Val} {x y : V} {v u : Value} {k : Bool} {Q : VK} (ra : S.VR m H a x) (rb : S.VR m H b y) (e : deepEq h a b = some k) (I : Inv X pins σ H s) (rx : RelV x v) (ry : RelV y u) (q : Q (.bl false) H) :
    wpAny (model X.prog X.w) X.A (compareOp .NotEq v u) (EP X pins σ Q) X.xe s := by
  obtain ⟨p, r, xs, ys, rfl, rfl, h1, h2, sz, items⟩ := deep_lists hK hu I sim ra rb e rx ry
  exact neq_lists h1 h2 sz (by omega) items _ _ ⟨.bl false, H, I, rfl, q⟩
theorem op_eqM (hK : X.K = S.K) (hu : X.A.units + 64 < cLine) : OpR X (compareOp .Eq) (rC2 S (fun a b h => pyEq h a b) false) := by
  intro pins s σ H x y v u Q I rx ry ⟨m, h, a, b, k, sim, ra, rb, e, q⟩
  simp only [pyEq] at e
  split at e
  · rename_i r es
    cases e
    obtain ⟨e1, e2⟩ := scal_of ra rb es
    exact op_eq pins s σ H x y v u Q I rx ry ⟨e1, by rw [e2]; exact q⟩
  · split at e
    · rename_i d e' e1 e2
      split at e
      · rename_i sh
        cases e
        simp only [Bool.and_eq_true] at sh
        exact op_eqD hu pins s σ H x y v u Q I rx ry ⟨d, e', by rw [hK]; exact dp_of sim _ _ _ _ ra e1, by rw [hK]; exact dp_of sim _ _ _ _ rb e2, sh.1, sh.2, q⟩
      · cases e
    · exact deep_eq hK hu sim ra rb e I rx ry (by cases deep_true e; exact q)
theorem op_neM (hK : X.K = S.K) (hu : X.A.units + 64 < cLine) : OpR X (compareOp .NotEq) (rC2 S (fun a b h => pyEq h a b) true) := by
  intro pins s σ H x y v u Q I rx ry ⟨m, h, a, b, k, sim, ra, rb, e, q⟩
  simp only [pyEq] at e
  split at e
  · rename_i r es
    cases e
    obtain ⟨e1, e2⟩ := scal_of ra rb es
    exact op_ne pins s σ H x y v u Q I rx ry ⟨e1, by rw [e2]; exact q⟩
  · split at e
    · rename_i d e' e1 e2
      split at e
      · rename_i sh
        cases e
        simp only [Bool.and_eq_true] at sh
        exact op_neD hu pins s σ H x y v u Q I rx ry ⟨d, e', by rw [hK]; exact dp_of sim _ _ _ _ ra e1, by rw [hK]; exact dp_of sim _ _ _ _ rb e2, sh.1, sh.2, q⟩
      · cases e
    · exact deep_ne hK hu sim ra rb e I rx ry (by cases deep_true e; exact q)
end
end Mi

set_option maxHeartbeats 1000000
namespace Mi
open PySem PySem.Spec PyProof.Rows L2

/-- the constant dicts hold what they should, at text keys -/
def DwOk (K : PySem.W.Frag) (w : World) (dw : DW) : Prop :=
  ∀ a ks vs (z : Str) v, dw a ks vs → dget (ks.zip vs) (.inl (.inr z)) = some v → ∃ y, KDct K w a z y ∧ ∀ m H, Mi.VR K dw m H v y
section
variable {X : Cx} {pins : List (Addr × Obj)} {σ : L2.St} {H : Hp} {s : Shared} {a : Addr}
/-- an empty dict is seen as one of tuples -/
theorem conv_t (I : Inv X pins σ H s) (e : H a = some (.dK [])) : Inv X pins σ (upd H a (.dT [])) s := by
  have mu : Mut (H a) := by rw [e]; trivial
  obtain ⟨z, hd, vs, kv, o, es, ep, ho, hx, hdat, _, hp, _⟩ := I.hok a _ e
  cases kv
  have hes : es.toList = [] := by
    generalize es.toList = l at hp
    cases hp; rfl
  refine I.un (h' := s.heap) (t' := s.toks) (Un.write (e := a) mu (.inl rfl) (fun _ _ _ q => q) ⟨_, ho⟩) (I.hok.write (e := a) mu (.inl rfl) (fun _ _ _ q => q) ⟨_, ho⟩ ?_)
  exact ⟨Nat.zero_le _, hd, [], .nil, o, es, ep, ho, hx, hdat, hes, List.nodup_nil⟩
theorem conv_k (I : Inv X pins σ H s) (e : H a = some (.dT [])) : Inv X pins σ (upd H a (.dK [])) s := by
  have mu : Mut (H a) := by rw [e]; trivial
  obtain ⟨z, hd, xs, kv, o, es, ep, ho, hx, hdat, hes, _⟩ := I.hok a _ e
  cases kv
  refine I.un (h' := s.heap) (t' := s.toks) (Un.write (e := a) mu (.inl rfl) (fun _ _ _ q => q) ⟨_, ho⟩) (I.hok.write (e := a) mu (.inl rfl) (fun _ _ _ q => q) ⟨_, ho⟩ ?_)
  have e0 : es = #[] := by
    have : es.toList = [] := by simpa using hes
    exact Array.toList_inj.mp (by simpa using this)
  subst e0
  exact ⟨Nat.zero_le _, hd, [], .nil, o, #[], ep, ho, hx, hdat, (fun en h => by simp at h), .nil, List.nodup_nil⟩
end
section
variable {S : Sta} {m m' : List Addr} {H H' : Hp} {h h' : Hh}
theorem oneKind_k {kvs : List (Kk × Val)} {ws : List (List L2.Key × V)} {k : L2.Key} (r : DRt S m H kvs ws) (ne : kvs ≠ []) (o : oneKind (.inl k) kvs = true) : False := by
  cases r with
  | nil => exact ne rfl
  | cons z _ =>
    simp only [oneKind, List.all_cons, Bool.and_eq_true] at o
    rw [z.1] at o; exact absurd o.1 (by simp)
theorem oneKind_t {kvs : List (Kk × Val)} {ws : List (L2.Key × V)} {k : List L2.Key} (r : DRk S m H kvs ws) (o : oneKind (.inr k) kvs = true) : kvs = [] ∧ ws = [] := by
  cases r with
  | nil => exact ⟨rfl, rfl⟩
  | cons z _ =>
    simp only [oneKind, List.all_cons, Bool.and_eq_true] at o
    rw [z.1] at o; exact absurd o.1 (by simp)
theorem cellDict (s : Sim S m H h) {l : Nat} {a : Addr} {kvs : List (Kk × Val)} (e : m[l]? = some a) (d : dictOf h (.ref l) = some kvs) :
    (kvs = [] ∧ H a = some (.dK [])) ∨ (kvs ≠ [] ∧ ((∃ ws, Rd H a (.dK ws) ∧ DRk S m H kvs ws) ∨ ∃ ws, Rd H a (.dT ws) ∧ DRt S m H kvs ws)) := by
  simp only [dictOf] at d
  split at d
  · rename_i kvs' eo
    cases d
    rcases s.at_ l a _ e eo with ⟨ws, e1, e2⟩ | ⟨nz, ws, e1, e2⟩
    · by_cases z : kvs = []
      · subst z; cases e2; exact .inl ⟨rfl, e1⟩
      · exact .inr ⟨z, .inl ⟨ws, .inl e1, e2⟩⟩
    · exact .inr ⟨nz, .inr ⟨ws, .inl e1, e2⟩⟩
  · rename_i kv kvs' eo
    cases d
    rcases s.at_ l a _ e eo with ⟨ob, ws, e1, e2⟩ | ⟨nz, ob, ws, e1, e2⟩
    · exact .inr ⟨by simp, .inl ⟨ws, .inr ⟨ob, e1⟩, e2⟩⟩
    · exact .inr ⟨by simp, .inr ⟨ws, .inr ⟨ob, e1⟩, e2⟩⟩
  · cases d
/-- what a dict's cell holds at a key -/
def DGR (S : Sta) (m : List Addr) (H : Hp) (a : Addr) (y : V) (o : Option Val) : Prop :=
  ∃ r, DGet H a y r ∧ ((∃ v z, o = some v ∧ r = some z ∧ S.VR m H v z) ∨ (o = none ∧ r = none))
theorem DGR.isSome {a : Addr} {y : V} {o : Option Val} (d : DGR S m H a y o) : ∃ r, DGet H a y r ∧ r.isSome = o.isSome := by
  obtain ⟨r, g, ⟨v, z, rfl, rfl, _⟩ | ⟨rfl, rfl⟩⟩ := d
  · exact ⟨_, g, rfl⟩
  · exact ⟨_, g, rfl⟩
theorem dict_get (s : Sim S m H h) {l : Nat} {a : Addr} {kvs : List (Kk × Val)} {x : Val} {k : Kk} {y : V} (e : m[l]? = some a) (d : dictOf h (.ref l) = some kvs) (ek : toKey x = some k) (o : oneKind k kvs = true) (r : S.VR m H x y) :
    DGR S m H a y (dget kvs k) ∨ (dget kvs k = none ∧ H a = some (.dK []) ∧ ∃ (ks : List L2.Key) (b : Addr), y = .ref b ∧ H b = some (.tup (ks.map kV))) := by
  have kr := toKey_of r ek
  rcases cellDict s e d with ⟨rfl, e0⟩ | ⟨nz, hd⟩
  · cases k with
    | inl k => exact .inl ⟨none, .inl ⟨[], k, .inl e0, kr, rfl⟩, .inr ⟨rfl, rfl⟩⟩
    | inr ks =>
      obtain ⟨b, e1, e2⟩ := kr
      exact .inr ⟨rfl, e0, ks, b, e1, e2⟩
  · left
    cases k with
    | inl k =>
      rcases hd with ⟨ws, e1, e2⟩ | ⟨ws, e1, e2⟩
      · refine ⟨valV ws k, .inl ⟨ws, k, e1, kr, rfl⟩, ?_⟩
        rcases e2.get k with ⟨v, z, h1, h2, h3⟩ | ⟨h1, h2⟩
        · exact .inl ⟨v, z, h1, h2, h3⟩
        · exact .inr ⟨h1, h2⟩
      · exact (oneKind_k e2 nz o).elim
    | inr k =>
      obtain ⟨b, rfl, eb⟩ := kr
      rcases hd with ⟨ws, e1, e2⟩ | ⟨ws, e1, e2⟩
      · exact absurd (oneKind_t e2 o).1 nz
      · refine ⟨valV ws k, .inr ⟨ws, k, b, e1, rfl, eb, rfl⟩, ?_⟩
        rcases e2.get k with ⟨v, z, h1, h2, h3⟩ | ⟨h1, h2⟩
        · exact .inl ⟨v, z, h1, h2, h3⟩
        · exact .inr ⟨h1, h2⟩
end
theorem dt_none {H : Hp} {a b : Addr} {ks : List L2.Key} (e : H a = some (.dK [])) (eb : H b = some (.tup (ks.map kV))) : DGet (upd H a (.dT [])) a (.ref b) none := by
  have ne : b ≠ a := ne_of eb e (by intro z; cases z)
  exact .inr ⟨[], ks, b, .inl upd_same, rfl, by rw [upd_ne ne]; exact eb, rfl⟩
theorem upd_back {H : Hp} {a : Addr} {o u : HO} (e : H a = some o) : upd (upd H a u) a o = H := by
  rw [upd_upd]
  funext b
  by_cases q : b = a
  · subst q; rw [upd_same, e]
  · rw [upd_ne q]

section
variable {X : Cx} {S : Sta}
/-- x in c -/
theorem op_inM (hK : X.K = S.K) (hu : X.A.units + 65 < cLine) (neg : Bool) {f : Value → Value → Sem Value} (hf : f = compareOp (if neg then .NotIn else .In)) : OpR X f (rC2 S (fun a b h => inVal h a b) neg) := by
  intro pins s σ H x y v u Q I rx ry ⟨m, h, a, b, k, sim, ra, rb, e, q⟩
  subst hf
  have dct : ∀ (l : Nat) (p : Addr) (kvs : List (Kk × Val)), m[l]? = some p → dictOf h (.ref l) = some kvs → inDict a kvs = some k → u = .ref p →
      wpAny (model X.prog X.w) X.A (compareOp (if neg then .NotIn else .In) v u) (EP X pins σ Q) X.xe s := by
    intro l p kvs em ed ei eu
    subst eu
    simp only [inDict] at ei
    split at ei
    · rename_i kk ek
      split at ei
      · rename_i ok
        cases ei
        rcases dict_get sim em ed ek ok ra with d | ⟨d0, e0, ks, b', rfl, eb⟩
        · obtain ⟨r, g, er⟩ := d.isSome
          cases neg with
          | false => exact d_in (by omega) I g rx fun s' I' => ⟨.bl r.isSome, H, I', rfl, by rw [er]; exact q⟩
          | true => exact d_notIn (by omega) I g rx fun s' I' => ⟨.bl (!r.isSome), H, I', rfl, by rw [er]; exact q⟩
        · rw [d0] at q
          have back : ∀ s', Inv X pins σ (upd H p (.dT [])) s' → Inv X pins σ H s' := fun s' I' => by
            have := conv_k I' upd_same
            rwa [upd_back e0] at this
          cases neg with
          | false => exact d_in (by omega) (conv_t I e0) (dt_none e0 eb) rx fun s' I' => ⟨.bl false, H, back s' I', rfl, q⟩
          | true => exact d_notIn (by omega) (conv_t I e0) (dt_none e0 eb) rx fun s' I' => ⟨.bl true, H, back s' I', rfl, q⟩
      · cases ei
    · cases ei
  have sq : ∀ (xs : List Val), seqOf h b = some xs → inSeq h a xs = some k → wpAny (model X.prog X.w) X.A (compareOp (if neg then .NotIn else .In) v u) (EP X pins σ Q) X.xe s := by
    intro xs es ei
    obtain ⟨p, vs, rfl, sq, rs⟩ := sim.seq rb es
    simp only [inSeq] at ei
    split at ei
    · rename_i fl
      cases ei
      simp only [Bool.and_eq_true] at fl
      have f1 := ra.flatV fl.1
      have f2 := rs.flatV fl.2
      have e2 := inF_of ra fl.1 rs fl.2
      cases neg with
      | false => exact op_in_seq pins s σ H _ _ v u Q I rx ry ⟨p, vs, rfl, by rw [hK]; exact sq, f1, f2, by rw [← e2] at q; exact q⟩
      | true => exact op_notIn_seq pins s σ H _ _ v u Q I rx ry ⟨p, vs, rfl, by rw [hK]; exact sq, f1, f2, by rw [← e2] at q; exact q⟩
    · split at ei
      · rename_i d ds e1 e2
        split at ei
        · rename_i sh
          cases ei
          simp only [Bool.and_eq_true] at sh
          have d1 := dp_of sim _ _ _ _ ra e1
          have d2 := dpAll_of sim _ _ _ _ rs e2
          cases neg with
          | false =>
            rcases sq with sq | sq
            · exact op_inD hu pins s σ H _ _ v u Q I rx ry ⟨d, ds, by rw [hK]; exact d1, by rw [hK]; exact .lst sq d2, sh.1, sh.2, q⟩
            · obtain ⟨as, r1⟩ := Dp.reads I d x v (by rw [hK]; exact d1) rx
              obtain ⟨bs, r2⟩ := Dp.reads I (.tuple ds) _ u (by rw [hK]; exact .tup sq d2) ry
              exact SeqAt.in_tuple_reads r2 r1 (SeqAt.canLay_of_shaped sh.2) (SeqAt.canLay_of_shaped sh.1) (room_in_shaped sh.1 hu) ⟨.bl _, H, I, rfl, q⟩
          | true =>
            rcases sq with sq | sq
            · exact op_notInD hu pins s σ H _ _ v u Q I rx ry ⟨d, ds, by rw [hK]; exact d1, by rw [hK]; exact .lst sq d2, sh.1, sh.2, q⟩
            · obtain ⟨as, r1⟩ := Dp.reads I d x v (by rw [hK]; exact d1) rx
              obtain ⟨bs, r2⟩ := Dp.reads I (.tuple ds) _ u (by rw [hK]; exact .tup sq d2) ry
              exact SeqAt.notIn_tuple_reads r2 r1 (SeqAt.canLay_of_shaped sh.2) (SeqAt.canLay_of_shaped sh.1) (room_in_shaped sh.1 hu) ⟨.bl _, H, I, rfl, q⟩
        · cases ei
      · cases ei
  cases rb with
  | str t =>
    simp only [inVal] at e
    cases ra with
    | str t' =>
      cases e
      cases neg with
      | false => exact op_in_str pins s σ H _ _ v u Q I rx ry ⟨_, _, rfl, rfl, q⟩
      | true => exact op_notin_str pins s σ H _ _ v u Q I rx ry ⟨_, _, rfl, rfl, q⟩
    | _ => cases e
  | non => cases e
  | bl _ => cases e
  | int _ => cases e
  | tup t r => exact sq _ rfl e
  | kl t r => exact sq _ rfl e
  | kt t r => exact sq _ rfl e
  | kd t => cases e
  | ref em =>
    rename_i l p
    simp only [inVal] at e
    split at e
    · rename_i kvs ed
      exact dct l p kvs em ed e ry
    · split at e
      · rename_i xs es
        exact sq xs es e
      · cases e
end
end Mi

set_option maxHeartbeats 1000000
namespace Mi
open PySem PySem.Spec PyProof.Rows L2

section
variable {S : Sta} {U : XK} {m m' : List Addr} {H H' : Hp} {h h' : Hh} {Q : VK}
abbrev QV (S : Sta) (Q : VK) : Val → List Addr → Hp → Hh → Prop := fun v m' H' _ => ∀ z, S.VR m' H' v z → Q z H'
theorem q_ok {v : Val} {z : V} (p : Pst S U m H (.ok v h) (QV S Q)) (s : Sim S m H h) (r : S.VR m H v z) : Q z H := p m H .refl s z r
theorem q_new {xs : List Val} {vs : List V} (p : Pst S U m H (newOb (.lst xs) h) (QV S Q)) (s : Sim S m H h) (r : S.VRs m H xs vs) : ∀ q, H q = none → Q (.ref q) (upd H q (.lst vs)) := fun q hq =>
  p (m ++ [q]) _ (Ext.upd_cell hq) (s.newCell hq ⟨vs, upd_same, r.ext s (Ext.upd_cell hq)⟩) _ (.ref (by rw [← s.len]; simp))
theorem q_tup {xs : List Val} {vs : List V} (p : Pst S U m H (.ok (.tup xs) h) (QV S Q)) (s : Sim S m H h) (r : S.VRs m H xs vs) : ∀ q, H q = none → Q (.ref q) (upd H q (.tup vs)) := fun q hq =>
  p m _ (Ext.upd_new hq) (s.new hq) _ (.tup upd_same (r.ext s (Ext.upd_new hq)))
theorem q_set {l : Nat} {a : Addr} {o : Ob} {v : Val} {u : HO} {z : V} (p : Pst S U m H (setOb l o v h) (QV S Q)) (s : Sim S m H h) (nf : NoFrz H a) (e : m[l]? = some a) (r : OR S m (upd H a u) a o) (rz : S.VR m (upd H a u) v z) : Q z (upd H a u) :=
  p m _ (Ext.upd_at (mem_of_get e) nf) (s.put nf e r) _ rz
theorem lstOf_of (s : Sim S m H h) {l : Nat} {a : Addr} {xs : List Val} (e : m[l]? = some a) (eo : lstOf h l = some xs) : ∃ vs, H a = some (.lst vs) ∧ S.VRs m H xs vs := by
  simp only [lstOf] at eo
  split at eo
  · rename_i ys ey
    cases eo
    exact s.at_ l a _ e ey
  · cases eo
end
section
variable {X : Cx} {S : Sta}
theorem smallI_mul {i j : Int} (h : (smallI i || smallI j) = true) : CMul i j := by
  simp only [Bool.or_eq_true, smallI, decide_eq_true_eq] at h
  exact h
theorem op_addM (hK : X.K = S.K) : OpR X (binaryOp .Add) (rV2 S (binop .add)) := by
  intro pins s σ H x y v u Q I rx ry ⟨U, m, h, a, b, sim, ra, rb, p⟩
  cases ra with
  | int i =>
    cases rb with
    | int j => exact op_add pins s σ H _ _ v u Q I rx ry ⟨_, _, rfl, rfl, q_ok p sim (.int _)⟩
    | _ => exact p.elim
  | str i =>
    cases rb with
    | str j =>
      obtain ⟨c, p⟩ := Pst.okIf p
      exact op_add_str pins s σ H _ _ v u Q I rx ry ⟨_, _, rfl, rfl, of_decide_eq_true c, q_ok p sim (.str _)⟩
    | _ => exact p.elim
  | @tup a1 xs vs t r =>
    cases rb with
    | @tup a2 ys ws t' r' =>
      obtain ⟨c, p⟩ := Pst.okIf p
      have c := of_decide_eq_true c
      rw [r.length, r'.length] at c
      refine op_catA pins s σ H _ _ v u Q I rx ry ⟨_, _, vs, ws, rfl, rfl, .of t, .of t', c, fun e => ?_, fun _ e => ?_, fun _ _ => q_tup p sim (r.append r')⟩
      · subst e; cases r; exact q_ok p sim (.tup t' r')
      · subst e; cases r'; rw [List.append_nil] at p; exact q_ok p sim (.tup t r)
    | _ => exact p.elim
  | ref e =>
    cases rb with
    | ref e' =>
      obtain ⟨xs, e1, p⟩ := Pst.orBad p
      obtain ⟨ys, e2, p⟩ := Pst.orBad p
      obtain ⟨c, p⟩ := Pst.okIf p
      have c := of_decide_eq_true c
      obtain ⟨vs, h1, r1⟩ := lstOf_of sim e e1
      obtain ⟨ws, h2, r2⟩ := lstOf_of sim e' e2
      rw [r1.length, r2.length] at c
      exact op_cat pins s σ H _ _ v u Q I rx ry ⟨_, _, vs, ws, rfl, rfl, h1, h2, c, q_new p sim (r1.append r2)⟩
    | _ => exact p.elim
  | _ => exact p.elim
theorem op_intM {op : Operator} {o : Bop} {C : Int → Int → Prop} {g : Int → Int → Int} (hf : OpR X (binaryOp op) (rI C fun i j => .int (g i j)))
    (ho : ∀ a b h U m H Q, Pst S U m H (binop o a b h) Q → ∃ i j, a = .int i ∧ b = .int j ∧ C i j ∧ Pst S U m H (.ok (.int (g i j)) h) Q) : OpR X (binaryOp op) (rV2 S (binop o)) := by
  intro pins s σ H x y v u Q I rx ry ⟨U, m, h, a, b, sim, ra, rb, p⟩
  obtain ⟨i, j, rfl, rfl, c, p⟩ := ho _ _ _ _ _ _ _ p
  cases ra; cases rb
  exact hf pins s σ H _ _ v u Q I rx ry ⟨_, _, rfl, rfl, c, q_ok p sim (.int _)⟩
theorem op_binM (hK : X.K = S.K) {op : Operator} {o : Bop} (ho : bopOf op = some o) : OpR X (binaryOp op) (rV2 S (binop o)) := by
  cases op <;> cases ho
  · exact op_addM hK
  · refine op_intM (C := fun _ _ => True) (g := fun i j => i - j) (fun pins s σ H x y v u Q I rx ry ⟨i, j, e1, e2, _, q⟩ => op_sub pins s σ H x y v u Q I rx ry ⟨i, j, e1, e2, q⟩) fun a b h U m H Q p => ?_
    cases a <;> first | exact p.elim | (cases b <;> first | exact p.elim | exact ⟨_, _, rfl, rfl, trivial, p⟩)
  · refine op_intM op_mul fun a b h U m H Q p => ?_
    cases a <;> first | exact p.elim | (cases b <;> first | exact p.elim | exact ⟨_, _, rfl, rfl, smallI_mul (Pst.okIf p).1, (Pst.okIf p).2⟩)
  · refine op_intM op_mod fun a b h U m H Q p => ?_
    cases a <;> first | exact p.elim | (cases b <;> first | exact p.elim | exact ⟨_, _, rfl, rfl, (by have c := of_decide_eq_true (Pst.okIf p).1; exact c), (Pst.okIf p).2⟩)
  · refine op_intM op_pow fun a b h U m H Q p => ?_
    cases a <;> first | exact p.elim | (cases b <;> first | exact p.elim | exact ⟨_, _, rfl, rfl, (by have c := of_decide_eq_true (Pst.okIf p).1; exact c), (Pst.okIf p).2⟩)
  · refine op_intM op_fdiv fun a b h U m H Q p => ?_
    cases a <;> first | exact p.elim | (cases b <;> first | exact p.elim | exact ⟨_, _, rfl, rfl, (by have c := of_decide_eq_true (Pst.okIf p).1; exact c), (Pst.okIf p).2⟩)

/-- a comparison by its name -/
theorem op_copM (hK : X.K = S.K) (hu : X.A.units + 65 < cLine) (op : CmpOp) : OpR X (compareOp op) (rC2 S (cmpop (copOf op)) false) := by
  have neg : ∀ {f : Value → Value → Sem Value} {g g' : Val → Val → Hh → Option Bool}, (∀ a b h, g' a b h = (g a b h).map (!·)) → OpR X f (rC2 S g true) → OpR X f (rC2 S g' false) := by
    intro f g g' hg hf pins s σ H x y v u Q I rx ry ⟨m, h, a, b, k, sim, ra, rb, e, q⟩
    rw [hg] at e
    simp only [Option.map_eq_some_iff] at e
    obtain ⟨k', e1, rfl⟩ := e
    exact hf pins s σ H x y v u Q I rx ry ⟨m, h, a, b, k', sim, ra, rb, e1, q⟩
  cases op
  · exact op_eqM hK (by omega)
  · exact neg (fun _ _ _ => rfl) (op_neM hK (by omega))
  · exact op_ltM
  · exact op_leM
  · exact op_gtM
  · exact op_geM
  · exact op_isM
  · exact op_isnM
  · exact op_inM hK hu false rfl
  · exact neg (fun _ _ _ => rfl) (op_inM hK hu true rfl)

/-! ### subscripts -/
def rO2 (S : Sta) (g : Val → Val → Hh → Option Val) : R2 := fun x y H Q => ∃ m h a b c, Sim S m H h ∧ S.VR m H a x ∧ S.VR m H b y ∧ g a b h = some c ∧ ∀ z, S.VR m H c z → Q z H
theorem VRs.atI {K : PySem.W.Frag} {dw : DW} {m : List Addr} {H : Hp} {xs : List Val} {vs : List V} {i : Int} {x : Val} (r : Mi.VRs K dw m H xs vs) (e : L2.atI xs i = some x) : ∃ v, L2.atI vs i = some v ∧ Mi.VR K dw m H x v := by
  unfold L2.atI at e ⊢
  rw [r.length] at e
  cases q : L2.ixN vs.length i with
  | none => rw [q] at e; cases e
  | some j =>
    rw [q] at e
    exact r.get e
theorem ix_M (hK : X.K = S.K) (hu : X.A.units + 65 < cLine) (hd : DwOk S.K X.w S.dw) : IxR X (rO2 S idxop) := by
  intro value slice pins s σ H x y v u Q I rx ry ⟨m, h, a, b, c, sim, ra, rb, e, q⟩ hs
  have dct : ∀ (l : Nat) (p : Addr) (kvs : List (Kk × Val)), m[l]? = some p → dictOf h (.ref l) = some kvs → v = .ref p → (match toKey b with | some k => if oneKind k kvs = true then dget kvs k else none | none => none) = some c →
      wpAny (model X.prog X.w) X.A (subscriptTail value slice v u) (EP X pins σ Q) X.xe s := by
    intro l p kvs em ed ev ei
    subst ev
    split at ei
    · rename_i kk ek
      split at ei
      · rename_i ok
        rcases dict_get sim em ed ek ok rb with ⟨r, g, ⟨v', z, e1, rfl, rz⟩ | ⟨e1, _⟩⟩ | ⟨d0, _⟩
        · rw [ei] at e1; cases e1
          refine tail_any (dict_typeIs I g) (by first | exact PySem.F.slot_dict_getitem.lookup | exact slot_dict_getitem.lookup) ?_ hs
          exact d_getItem (by omega) I g ry fun w' s' I' rw' => ⟨z, H, I', rw', q z rz⟩
        · rw [ei] at e1; cases e1
        · rw [ei] at d0; cases d0
      · cases ei
    · cases ei
  have sq : ∀ (xs : List Val), seqOf h a = some xs → (match b with | .int i => L2.atI xs i | _ => none) = some c → wpAny (model X.prog X.w) X.A (subscriptTail value slice v u) (EP X pins σ Q) X.xe s := by
    intro xs es ei
    obtain ⟨p, vs, rfl, sq, rs⟩ := sim.seq ra es
    cases rb with
    | int i =>
      obtain ⟨z, e1, rz⟩ := rs.atI ei
      rcases sq with sq | sq
      · exact ix_list value slice pins s σ H _ _ v u Q I rx ry ⟨p, vs, i, z, rfl, rfl, by rw [hK]; exact sq, e1, q z rz⟩ hs
      · exact ix_tup value slice pins s σ H _ _ v u Q I rx ry ⟨p, vs, i, z, rfl, rfl, by rw [hK]; exact sq, e1, q z rz⟩ hs
    | _ => cases ei
  cases ra with
  | str t =>
    cases rb with
    | int i =>
      simp only [idxop] at e
      split at e
      · rename_i hl
        simp only [Option.map_eq_some_iff] at e
        obtain ⟨c', e1, rfl⟩ := e
        exact ix_str value slice pins s σ H _ _ v u Q I rx ry ⟨t, i, c', rfl, rfl, hl, e1, q _ (.str _)⟩ hs
      · cases e
    | _ => cases e
  | tup t r =>
    refine sq _ rfl ?_
    cases b <;> first | exact e | cases e
  | kl t r =>
    refine sq _ rfl ?_
    cases b <;> first | exact e | cases e
  | kt t r =>
    refine sq _ rfl ?_
    cases b <;> first | exact e | cases e
  | kd t =>
    cases rb with
    | str z =>
      obtain ⟨y', e1, e2⟩ := hd _ _ _ _ _ t e
      exact ix_kdict value slice pins s σ H _ _ v u Q I rx ry ⟨_, z, y', rfl, rfl, by rw [hK]; exact e1, q _ (e2 _ _)⟩ hs
    | _ => cases e
  | ref em =>
    rename_i l p
    simp only [idxop] at e
    split at e
    · rename_i kvs ed
      exact dct l p kvs em ed rx e
    · split at e
      · rename_i xs i es
        first | exact sq xs es e | exact sq _ (by assumption) e | (refine sq _ ?_ e; assumption)
      · cases e
  | _ => cases e
end
end Mi

set_option maxHeartbeats 1000000
namespace Mi
open PySem PySem.Spec PyProof.Rows L2

section
variable {X : Cx} {S : Sta}
/-! ### slices -/
def rSlM (S : Sta) : V → Option Int → Option Int → Hp → VK → Prop := fun x lo hi H Q =>
  ∃ U m h a, Sim S m H h ∧ S.VR m H a x ∧ Pst S U m H (slcop a lo hi h) (QV S Q)
theorem VRs.cut {K : PySem.W.Frag} {dw : DW} {m : List Addr} {H : Hp} {xs : List Val} {vs : List V} (r : Mi.VRs K dw m H xs vs) (lo hi : Option Int) : Mi.VRs K dw m H (Mi.cut xs lo hi) (cutV vs lo hi) := by
  unfold Mi.cut cutV
  rw [r.length]
  exact (r.drop _).take _
theorem sl_M (hK : X.K = S.K) : SlR X (rSlM S) := by
  intro pins s σ H x v vl vu lo hi sl Q I rx hs pl pu ⟨U, m, h, a, sim, ra, p⟩
  have lst : ∀ xs, lseq h a = some xs → Pst S U m H (newOb (.lst (Mi.cut xs lo hi)) h) (QV S Q) → ∃ T id, typeLookup (.type T) "__getitem__" = pure (some (.builtin id)) ∧ s.TypeIs v T ∧ wpAny (model X.prog X.w) X.A (getItem v (.ref sl)) (EP X pins σ Q) X.xe s := by
    intro xs e p
    obtain ⟨q, vs, rfl, sq, rs⟩ := sim.seqL ra e
    exact sl_list pins s σ H _ v vl vu lo hi sl Q I rx hs pl pu ⟨q, vs, rfl, by rw [hK]; exact sq, q_new p sim (rs.cut lo hi)⟩
  cases ra with
  | @tup a1 xs vs t r =>
    refine sl_tupA pins s σ H _ v vl vu lo hi sl Q I rx hs pl pu ⟨_, _, rfl, .of t, fun w => ?_, fun _ => q_tup p sim (r.cut lo hi)⟩
    refine q_ok p sim (.tup t ?_)
    have e : Mi.cut xs lo hi = xs := by
      unfold Mi.cut
      rw [r.length, w.1, w.2, List.drop_zero, ← r.length, Nat.sub_zero, List.take_length]
    rw [e]; exact r
  | @kl a0 ys vs t r => exact lst ys rfl p
  | @ref l q e =>
    have p : Pst S U m H (orBad (lseq h (.ref l)) fun xs => newOb (.lst (Mi.cut xs lo hi)) h) (QV S Q) := p
    obtain ⟨xs, e, p⟩ := Pst.orBad p
    exact lst xs e p
  | _ => exact p.elim

/-! ### built-in functions -/
def rVsM (S : Sta) (g : List Val → Hh → R Val) : List V → Hp → VK → Prop := fun xs H Q =>
  ∃ U m h vs, Sim S m H h ∧ S.VRs m H vs xs ∧ Pst S U m H (g vs h) (QV S Q)
def bifV : Bif → Value
  | .len => .builtin "len" | .int => .type "int" | .str => .type "str" | .repr => .builtin "repr" | .abs => .builtin "abs" | .sum => .builtin "sum"
  | .min => .builtin "min" | .max => .builtin "max" | .sorted => .builtin "sorted" | .tuple => .type "tuple" | .list => .type "list" | .dict => .type "dict"
theorem asInts_of {K : PySem.W.Frag} {dw : DW} {m : List Addr} {H : Hp} : ∀ {xs : List Val} {vs : List V} {ns : List Int}, Mi.VRs K dw m H xs vs → asInts xs = some ns → vs = ns.map V.int
  | _, _, _, .nil, e => by cases e; rfl
  | _, _, _, .cons (x := x) r t, e => by
    cases r with
    | int i =>
      simp only [asInts, Option.map_eq_some_iff] at e
      obtain ⟨ns', e1, rfl⟩ := e
      rw [asInts_of t e1]; rfl
    | _ => cases e
theorem asStrs_of {K : PySem.W.Frag} {dw : DW} {m : List Addr} {H : Hp} : ∀ {xs : List Val} {vs : List V} {ns : List Str}, Mi.VRs K dw m H xs vs → asStrs xs = some ns → vs = ns.map V.str
  | _, _, _, .nil, e => by cases e; rfl
  | _, _, _, .cons (x := x) r t, e => by
    cases r with
    | str i =>
      simp only [asStrs, Option.map_eq_some_iff] at e
      obtain ⟨ns', e1, rfl⟩ := e
      rw [asStrs_of t e1]; rfl
    | _ => cases e
theorem leInt_of : ∀ {ns : List Int} {i : Int}, leInt ns = some i → i ∈ ns ∧ ∀ y ∈ ns, i ≤ y
  | [], _, e => by cases e
  | a :: r, i, e => by
    simp only [leInt] at e
    split at e
    · rename_i e1
      cases e
      refine ⟨by simp, fun y hy => ?_⟩
      cases r with
      | nil => simp at hy; omega
      | cons b r => simp only [leInt] at e1; split at e1 <;> cases e1
    · rename_i j e1
      obtain ⟨h1, h2⟩ := leInt_of e1
      cases e
      split
      · refine ⟨by simp, fun y hy => ?_⟩
        rcases List.mem_cons.mp hy with rfl | hy
        · exact Int.le_refl _
        · have := h2 y hy; omega
      · refine ⟨List.mem_cons_of_mem _ h1, fun y hy => ?_⟩
        rcases List.mem_cons.mp hy with rfl | hy
        · omega
        · exact h2 y hy
theorem geInt_of : ∀ {ns : List Int} {i : Int}, geInt ns = some i → i ∈ ns ∧ ∀ y ∈ ns, y ≤ i
  | [], _, e => by cases e
  | a :: r, i, e => by
    simp only [geInt] at e
    split at e
    · rename_i e1
      cases e
      refine ⟨by simp, fun y hy => ?_⟩
      cases r with
      | nil => simp at hy; omega
      | cons b r => simp only [geInt] at e1; split at e1 <;> cases e1
    · rename_i j e1
      obtain ⟨h1, h2⟩ := geInt_of e1
      cases e
      split
      · refine ⟨by simp, fun y hy => ?_⟩
        rcases List.mem_cons.mp hy with rfl | hy
        · exact Int.le_refl _
        · have := h2 y hy; omega
      · refine ⟨List.mem_cons_of_mem _ h1, fun y hy => ?_⟩
        rcases List.mem_cons.mp hy with rfl | hy
        · omega
        · exact h2 y hy
theorem insInt_perm (i : Int) : ∀ l : List Int, (insInt i l).Perm (i :: l)
  | [] => .refl _
  | j :: r => by
    unfold insInt
    split
    · exact .refl _
    · exact ((insInt_perm i r).cons j).trans (.swap i j r)
theorem sortInts_perm : ∀ l : List Int, (sortInts l).Perm l
  | [] => .refl _
  | i :: r => (insInt_perm i _).trans ((sortInts_perm r).cons i)
theorem insInt_sorted (i : Int) : ∀ l : List Int, l.Pairwise (· ≤ ·) → (insInt i l).Pairwise (· ≤ ·)
  | [], _ => by simp [insInt]
  | j :: r, h => by
    unfold insInt
    rw [List.pairwise_cons] at h
    split
    · rename_i hij
      rw [List.pairwise_cons]
      refine ⟨fun y hy => ?_, List.pairwise_cons.mpr h⟩
      rcases List.mem_cons.mp hy with rfl | hy
      · exact hij
      · have := h.1 y hy; omega
    · rename_i hij
      rw [List.pairwise_cons]
      refine ⟨fun y hy => ?_, insInt_sorted i r h.2⟩
      rcases List.mem_cons.mp ((insInt_perm i r).mem_iff.mp hy) with rfl | hy
      · omega
      · exact h.1 y hy
theorem sortInts_sorted : ∀ l : List Int, (sortInts l).Pairwise (· ≤ ·)
  | [] => .nil
  | i :: r => insInt_sorted i _ (sortInts_sorted r)
theorem sorted_uniq : ∀ {a b : List Int}, a.Perm b → a.Pairwise (· ≤ ·) → b.Pairwise (· ≤ ·) → a = b := by
  intro a b p ha hb
  exact p.eq_of_pairwise (fun x y _ _ h1 h2 => Int.le_antisymm h1 h2) ha hb
theorem toD_plain (h : Hh) : ∀ (n : Nat) (v : Val) (d : PyData), toD h n v = some d → d.hasDict = false ∧ d.depth ≤ n := by
  have all : ∀ (n : Nat), (∀ v d, toD h n v = some d → d.hasDict = false ∧ d.depth ≤ n) → ∀ xs ds, allD (toD h n) xs = some ds → PyData.hasDictAll ds = false ∧ PyData.depthAll ds ≤ n := by
    intro n ih xs
    induction xs with
    | nil => intro ds e; cases e; simp [PyData.hasDictAll, PyData.depthAll]
    | cons x xs jh =>
      intro ds e
      simp only [allD] at e
      split at e
      · rename_i d ds' e1 e2
        cases e
        have h1 := ih _ _ e1
        have h2 := jh _ e2
        simp only [PyData.hasDictAll, PyData.depthAll]
        refine ⟨by rw [h1.1, h2.1]; rfl, by omega⟩
      · cases e
  intro n
  induction n with
  | zero =>
    intro v d e
    cases v <;> cases e <;> simp [PyData.hasDict, PyData.depth]
  | succ n ih =>
    intro v d e
    cases v with
    | non => cases e; simp [PyData.hasDict, PyData.depth]
    | bl _ => cases e; simp [PyData.hasDict, PyData.depth]
    | int _ => cases e; simp [PyData.hasDict, PyData.depth]
    | str _ => cases e; simp [PyData.hasDict, PyData.depth]
    | kd _ _ => cases e
    | tup xs =>
      simp only [toD, Option.map_eq_some_iff] at e
      obtain ⟨ds, e1, rfl⟩ := e
      have := all n ih _ _ e1
      simp only [PyData.hasDict, PyData.depth]
      exact ⟨this.1, by omega⟩
    | kt xs =>
      simp only [toD, Option.map_eq_some_iff] at e
      obtain ⟨ds, e1, rfl⟩ := e
      have := all n ih _ _ e1
      simp only [PyData.hasDict, PyData.depth]
      exact ⟨this.1, by omega⟩
    | kl xs =>
      simp only [toD, Option.map_eq_some_iff] at e
      obtain ⟨ds, e1, rfl⟩ := e
      have := all n ih _ _ e1
      simp only [PyData.hasDict, PyData.depth]
      exact ⟨this.1, by omega⟩
    | ref l =>
      simp only [toD] at e
      split at e
      · simp only [Option.map_eq_some_iff] at e
        obtain ⟨ds, e1, rfl⟩ := e
        have := all n ih _ _ e1
        simp only [PyData.hasDict, PyData.depth]
        exact ⟨this.1, by omega⟩
      · cases e
theorem call_reprM (hK : X.K = S.K) (hg : X.A.guards = some []) (hu : X.A.units + 65 < cLine) : CallR X (.builtin "repr") (rVsM S (bifop .repr)) := by
  intro pins s σ H xs us Q I rx ⟨U, m, h, vs, sim, rv, p⟩
  cases rv with
  | nil => exact p.elim
  | cons r t =>
    cases t with
    | cons _ _ => exact p.elim
    | nil =>
      obtain ⟨d, e, p⟩ := Pst.orBad p
      obtain ⟨c, p⟩ := Pst.okIf p
      simp only [Bool.and_eq_true, decide_eq_true_eq] at c
      have dp := dp_of sim _ _ _ _ r e
      have pl := toD_plain h _ _ _ e
      obtain ⟨u, rfl, ru⟩ := vals1 rx
      have q := q_ok p sim (.str _)
      obtain ⟨as, rd⟩ := Dp.reads I d _ u (by rw [hK]; exact dp) ru
      cases u with
      | ref a =>
        refine repr_of_reads' rd c.1 (fun z => by rw [pl.1] at z; cases z) hg (by have : deep = 40 := rfl; omega) (fun b o q => q) (fun h' t tk k => ?_) c.2
        exact ⟨.str d.shown, H, I.kept k, ⟨_, rfl⟩, q⟩
      | none => cases rd; exact P.repr_of_none ⟨.str _, H, I.tok _, ⟨_, rfl⟩, q⟩
      | bool b => cases rd; exact P.repr_of_bool ⟨.str _, H, I.tok _, ⟨_, rfl⟩, by simpa only [PyData.shown] using q⟩
      | int i t =>
        cases rd
        have c1 := c.1
        simp only [PyData.showable, decide_eq_true_eq] at c1
        exact P.repr_of_int c1 ⟨.str _, H, I.tok _, ⟨_, rfl⟩, by simpa only [PyData.shown] using q⟩
      | str x t =>
        cases rd
        have c2 := c.2
        simp only [PyData.shown] at c2
        exact P.repr_of_str ⟨.str _, H, I.tok _, ⟨_, rfl⟩, by simpa only [PyData.shown] using q⟩ c2
      | _ => cases rd
end
end Mi

set_option maxHeartbeats 1000000
namespace Mi
open PySem PySem.Spec PyProof.Rows L2

section
variable {X : Cx} {S : Sta}
theorem one_of {K : PySem.W.Frag} {dw : DW} {m : List Addr} {H : Hp} {vs : List Val} {xs : List V} (r : Mi.VRs K dw m H vs xs) : (∃ a x, vs = [a] ∧ xs = [x] ∧ Mi.VR K dw m H a x) ∨ (∃ a b x y, vs = [a, b] ∧ xs = [x, y] ∧ Mi.VR K dw m H a x ∧ Mi.VR K dw m H b y) ∨ vs = [] ∨ ∃ a b c r, vs = a :: b :: c :: r := by
  cases r with
  | nil => exact .inr (.inr (.inl rfl))
  | cons r t =>
    cases t with
    | nil => exact .inl ⟨_, _, rfl, rfl, r⟩
    | cons r' t =>
      cases t with
      | nil => exact .inr (.inl ⟨_, _, _, _, rfl, rfl, r, r'⟩)
      | cons _ _ => exact .inr (.inr (.inr ⟨_, _, _, _, rfl⟩))
theorem call_lenM (hK : X.K = S.K) : CallR X (.builtin "len") (rVsM S (bifop .len)) := by
  intro pins s σ H xs us Q I rx ⟨U, m, h, vs, sim, rv, p⟩
  rcases one_of rv with ⟨a, x, rfl, rfl, r⟩ | ⟨a, b, x, y, rfl, rfl, r, r'⟩ | rfl | ⟨a, b, c, z, rfl⟩
  · by_cases hs : ∃ t, a = .str t
    · obtain ⟨t, rfl⟩ := hs
      cases r
      obtain ⟨c, p⟩ := Pst.okIf p
      exact call_len_str pins s σ H _ us Q I rx ⟨t, rfl, of_decide_eq_true c, q_ok p sim (.int _)⟩
    · have p : Pst S U m H (match seqOf h a with
        | some xs => .ok (.int xs.length) h
        | none => orBad (dictOf h a) fun kvs => okIf (plainKeys kvs) (.ok (.int kvs.length) h)) (QV S Q) := by
        cases r with
        | str t => exact absurd ⟨t, rfl⟩ hs
        | _ => exact p
      split at p
      · rename_i ys e
        obtain ⟨q, zs, rfl, sq, rs⟩ := sim.seq r e
        have qq := q_ok p sim (.int _)
        rw [rs.length] at qq
        exact call_len_seq pins s σ H _ us Q I rx ⟨q, zs, rfl, by rw [hK]; exact sq, qq⟩
      · obtain ⟨kvs, e, p1⟩ := Pst.orBad p
        obtain ⟨c, p2⟩ := Pst.okIf p1
        cases r with
        | @ref l q em =>
          have qq := q_ok p2 sim (.int _)
          have fin : ∀ ws, Rd H q (.dK ws) → ws.length = kvs.length → wpAny (model X.prog X.w) X.A (call (.builtin "len") us) (EP X pins σ Q) X.xe s := fun ws e1 el => by
            obtain ⟨u, rfl, ru⟩ := vals1 rx
            cases ru
            exact d_len I e1 fun t s' I' => ⟨.int ws.length, H, I', ⟨t, rfl⟩, by rw [el]; exact qq⟩
          rcases cellDict sim em e with ⟨rfl, e0⟩ | ⟨nz, ⟨ws, e1, e2⟩ | ⟨ws, e1, e2⟩⟩
          · exact fin [] (.inl e0) rfl
          · exact fin ws e1 (Paired.length e2).symm
          · cases e2 with
            | nil => exact absurd rfl nz
            | cons z _ =>
              simp only [plainKeys, List.all_cons, Bool.and_eq_true] at c
              rw [z.1] at c; exact absurd c.1 (by simp)
        | _ => cases e
  · cases r <;> exact p.elim
  · exact p.elim
  · cases a <;> exact p.elim
theorem call_listM (hK : X.K = S.K) (hc : X.calm = true) : CallR X (.type "list") (rVsM S (bifop .list)) := by
  intro pins s σ H xs us Q I rx ⟨U, m, h, vs, sim, rv, p⟩
  rcases one_of rv with ⟨a, x, rfl, rfl, r⟩ | ⟨a, b, x, y, rfl, rfl, r, r'⟩ | rfl | ⟨a, b, c, z, rfl⟩
  · obtain ⟨ys, e, p⟩ := Pst.orBad p
    simp only [listOf] at e
    split at e
    · rename_i ys' e'
      cases e
      obtain ⟨q, zs, rfl, sq, rs⟩ := sim.seq r e'
      exact call_list_of pins s σ H _ us Q I rx ⟨q, zs, rfl, by rw [hK]; exact sq, q_new p sim rs⟩
    · cases r with
      | @ref l q em =>
        simp only at e
        split at e
        · rename_i kvs eo
          split at e
          · rename_i pk
            cases e
            have fin : ∀ ws, H q = some (.dK ws) → DRk S m H kvs ws → wpAny (model X.prog X.w) X.A (call (.type "list") us) (EP X pins σ Q) X.xe s := fun ws e1 e2 => by
              refine call_list_dK hc pins s σ H _ us Q I rx ⟨q, ws, rfl, e1, q_new p sim ?_⟩
              clear e1 p pk eo
              induction e2 with
              | nil => exact .nil
              | cons z _ ih =>
                refine .cons ?_ ih
                show VR S.K S.dw m H (keyVal _) (kV _)
                rw [z.1]
                simp only [keyVal]
                rename_i b _ _ _
                obtain ⟨k, _⟩ := b
                cases k
                · exact .int _
                · exact .str _
            rcases sim.at_ l q _ em eo with ⟨ws, e1, e2⟩ | ⟨nz, ws, e1, e2⟩
            · exact fin ws e1 e2
            · cases e2 with
              | nil => exact absurd rfl nz
              | cons z _ =>
                simp only [plainKeys, List.all_cons, Bool.and_eq_true] at pk
                rw [z.1] at pk; exact absurd pk.1 (by simp)
          · cases e
        · cases e
      | _ => cases e
  · cases r <;> exact p.elim
  · exact p.elim
  · cases a <;> exact p.elim
theorem dput_map {kvs : List (Kk × Val)} {k : Kk} {v : Val} : dput kvs k v = if (kvs.any fun kv => decide (kv.1 = k)) = true then kvs.map (fun kv => if kv.1 = k then (kv.1, v) else kv) else kvs ++ [(k, v)] := rfl
theorem DRk.anyk {m : List Addr} {H : Hp} (k : L2.Key) : ∀ {kvs : List (Kk × Val)} {ws : List (L2.Key × V)}, DRk S m H kvs ws → (kvs.any fun kv => decide (kv.1 = (.inl k : Kk))) = ws.any fun kv => decide (kv.1 = k)
  | _, _, .nil => rfl
  | _, _, .cons z t => by
    simp only [List.any_cons, DRk.anyk k t, z.1]
    congr 1
    simp
theorem DRk.repl {m : List Addr} {H : Hp} (k : L2.Key) {v : Val} {y : V} (r : S.VR m H v y) : ∀ {kvs : List (Kk × Val)} {ws : List (L2.Key × V)}, DRk S m H kvs ws →
    DRk S m H (kvs.map fun kv => if kv.1 = (.inl k : Kk) then (kv.1, v) else kv) (ws.map fun kv => if kv.1 = k then (kv.1, y) else kv)
  | _, _, .nil => .nil
  | _, _, .cons (a := p) (b := q) z t => by
    refine .cons ?_ (DRk.repl k r t)
    dsimp only
    by_cases e : q.1 = k
    · rw [if_pos e, if_pos (show p.1 = .inl k by rw [z.1, e])]; exact ⟨z.1, r⟩
    · rw [if_neg e, if_neg (show ¬ p.1 = .inl k by rw [z.1]; intro w; exact e (Sum.inl.inj w))]; exact z
theorem DRk.snoc {m : List Addr} {H : Hp} {k : L2.Key} {v : Val} {y : V} (r : S.VR m H v y) : ∀ {kvs : List (Kk × Val)} {ws : List (L2.Key × V)}, DRk S m H kvs ws → DRk S m H (kvs ++ [(.inl k, v)]) (ws ++ [(k, y)])
  | _, _, .nil => .cons ⟨rfl, r⟩ .nil
  | _, _, .cons z t => .cons z (DRk.snoc r t)
theorem DRk.put {m : List Addr} {H : Hp} {k : L2.Key} {v : Val} {y : V} {kvs : List (Kk × Val)} {ws : List (L2.Key × V)} (t : DRk S m H kvs ws) (r : S.VR m H v y) : DRk S m H (dput kvs (.inl k) v) (putK ws k y) := by
  unfold dput putK
  rw [DRk.anyk k t]
  split
  · exact DRk.repl k r t
  · exact DRk.snoc r t
theorem DRt.anyk {m : List Addr} {H : Hp} (k : List L2.Key) : ∀ {kvs : List (Kk × Val)} {ws : List (List L2.Key × V)}, DRt S m H kvs ws → (kvs.any fun kv => decide (kv.1 = (.inr k : Kk))) = ws.any fun kv => decide (kv.1 = k)
  | _, _, .nil => rfl
  | _, _, .cons z t => by
    simp only [List.any_cons, DRt.anyk k t, z.1]
    congr 1
    simp
theorem DRt.repl {m : List Addr} {H : Hp} (k : List L2.Key) {v : Val} {y : V} (r : S.VR m H v y) : ∀ {kvs : List (Kk × Val)} {ws : List (List L2.Key × V)}, DRt S m H kvs ws →
    DRt S m H (kvs.map fun kv => if kv.1 = (.inr k : Kk) then (kv.1, v) else kv) (ws.map fun kv => if kv.1 = k then (kv.1, y) else kv)
  | _, _, .nil => .nil
  | _, _, .cons (a := p) (b := q) z t => by
    refine .cons ?_ (DRt.repl k r t)
    dsimp only
    by_cases e : q.1 = k
    · rw [if_pos e, if_pos (show p.1 = .inr k by rw [z.1, e])]; exact ⟨z.1, r⟩
    · rw [if_neg e, if_neg (show ¬ p.1 = .inr k by rw [z.1]; intro w; exact e (Sum.inr.inj w))]; exact z
theorem DRt.snoc {m : List Addr} {H : Hp} {k : List L2.Key} {v : Val} {y : V} (r : S.VR m H v y) : ∀ {kvs : List (Kk × Val)} {ws : List (List L2.Key × V)}, DRt S m H kvs ws → DRt S m H (kvs ++ [(.inr k, v)]) (ws ++ [(k, y)])
  | _, _, .nil => .cons ⟨rfl, r⟩ .nil
  | _, _, .cons z t => .cons z (DRt.snoc r t)
theorem DRt.put {m : List Addr} {H : Hp} {k : List L2.Key} {v : Val} {y : V} {kvs : List (Kk × Val)} {ws : List (List L2.Key × V)} (t : DRt S m H kvs ws) (r : S.VR m H v y) : DRt S m H (dput kvs (.inr k) v) (putK ws k y) := by
  unfold dput putK
  rw [DRt.anyk k t]
  split
  · exact DRt.repl k r t
  · exact DRt.snoc r t
theorem DRk.merge {m : List Addr} {H : Hp} : ∀ {more : List (Kk × Val)} {ms : List (L2.Key × V)} {kvs : List (Kk × Val)} {ws : List (L2.Key × V)}, DRk S m H more ms → DRk S m H kvs ws → DRk S m H (mergeD kvs more) (mergeK ws ms)
  | _, _, _, _, .nil, t => t
  | _, _, kvs, ws, .cons (a := p) (b := q) z r, t => by
    unfold mergeD mergeK
    rw [List.foldl_cons, List.foldl_cons]
    have e : dput kvs p.1 p.2 = dput kvs (.inl q.1) p.2 := by rw [z.1]
    rw [e]
    exact DRk.merge r (t.put z.2)
theorem DRk.drop {m : List Addr} {H : Hp} (k : L2.Key) : ∀ {kvs : List (Kk × Val)} {ws : List (L2.Key × V)}, DRk S m H kvs ws → DRk S m H (ddrop kvs (.inl k)) (dropK ws k)
  | _, _, .nil => .nil
  | _, _, .cons (a := p) (b := q) z t => by
    unfold ddrop dropK
    rw [List.filter_cons, List.filter_cons]
    by_cases e : q.1 = k
    · have e1 : p.1 = .inl k := by rw [z.1, e]
      rw [if_neg (by simp [e1]), if_neg (by simp [e])]; exact DRk.drop k t
    · have e1 : ¬ p.1 = .inl k := by rw [z.1]; intro w; exact e (Sum.inl.inj w)
      rw [if_pos (by simp [e1]), if_pos (by simp [e])]; exact .cons z (DRk.drop k t)
/-- a plain dict of a cell -/
theorem plainDict {m : List Addr} {H : Hp} {h : Hh} (sim : Sim S m H h) {l : Nat} {q : Addr} {kvs : List (Kk × Val)} (em : m[l]? = some q) (e : dictOf h (.ref l) = some kvs) (c : plainKeys kvs = true) : ∃ ws, Rd H q (.dK ws) ∧ DRk S m H kvs ws := by
  rcases cellDict sim em e with ⟨rfl, e0⟩ | ⟨nz, ⟨ws, e1, e2⟩ | ⟨ws, e1, e2⟩⟩
  · exact ⟨[], .inl e0, .nil⟩
  · exact ⟨ws, e1, e2⟩
  · cases e2 with
    | nil => exact absurd rfl nz
    | cons z _ =>
      simp only [plainKeys, List.all_cons, Bool.and_eq_true] at c
      rw [z.1] at c; exact absurd c.1 (by simp)
theorem q_newD {U : XK} {m : List Addr} {H : Hp} {h : Hh} {Q : VK} {kvs : List (Kk × Val)} {ws : List (L2.Key × V)} (p : Pst S U m H (newOb (.dct kvs) h) (QV S Q)) (s : Sim S m H h) (r : DRk S m H kvs ws) : ∀ q, H q = none → Q (.ref q) (upd H q (.dK ws)) := fun q hq =>
  p (m ++ [q]) _ (Ext.upd_cell hq) (s.newCell hq (.inl ⟨ws, upd_same, r.ext s (Ext.upd_cell hq)⟩)) _ (.ref (by rw [← s.len]; simp))
theorem pairsOf_of {m : List Addr} {H : Hp} {K : PySem.W.Frag} : ∀ {xs : List Val} {vs : List V} {kvs : List (Kk × Val)}, S.VRs m H xs vs → pairsOf xs = some kvs → plainKeys kvs = true →
    ∃ (ps : List Addr) (ws : List (L2.Key × V)), vs = ps.map V.ref ∧ Paired (fun p kv => SqT K H p [kV kv.1, kv.2]) ps ws ∧ DRk S m H kvs ws
  | _, _, _, .nil, e, _ => by cases e; exact ⟨[], [], rfl, .nil, .nil⟩
  | _, _, _, .cons (x := x) r t, e, c => by
    unfold pairsOf at e
    split at e
    · rename_i heq; cases heq
    · rename_i k v r' heq
      cases heq
      split at e
      · rename_i k' kr e1 e2
        cases e
        simp only [plainKeys, List.all_cons, Bool.and_eq_true] at c
        obtain ⟨ps, ws, rfl, h2, h3⟩ := pairsOf_of (K := K) t e2 c.2
        cases r with
        | @tup a _ vs' ht rs =>
          cases rs with
          | cons rk rs =>
            cases rs with
            | cons rv rs =>
              cases rs
              have kr := toKey_of rk e1
              cases k' with
              | inr _ => exact absurd c.1 (by simp)
              | inl k' =>
                have kr : _ = kV k' := kr
                rw [kr] at ht
                exact ⟨a :: ps, (k', _) :: ws, rfl, .cons (.of ht) h2, .cons ⟨rfl, rv⟩ h3⟩
      · cases e
    · cases e
theorem call_dictM (hK : X.K = S.K) (hc : X.calm = true) : CallR X (.type "dict") (rVsM S (bifop .dict)) := by
  intro pins s σ H xs us Q I rx ⟨U, m, h, vs, sim, rv, p⟩
  rcases one_of rv with ⟨a, x, rfl, rfl, r⟩ | ⟨a, b, x, y, rfl, rfl, r, r'⟩ | rfl | ⟨a, b, c, z, rfl⟩
  · have p : Pst S U m H (match dictOf h a with
      | some kvs => okIf (plainKeys kvs) (newOb (.dct kvs) h)
      | none => orBad (lseq h a) fun xs => orBad (pairsOf xs) fun kvs => okIf (plainKeys kvs) (newOb (.dct (mergeD [] kvs)) h)) (QV S Q) := p
    split at p
    · rename_i kvs e
      obtain ⟨c, p1⟩ := Pst.okIf p
      cases r with
      | @ref l q em =>
        obtain ⟨ws, e1, e2⟩ := plainDict sim em e c
        exact call_dictD pins s σ H _ us Q I rx ⟨q, ws, rfl, e1, q_newD p1 sim e2⟩
      | _ => cases e
    · obtain ⟨ys, e, p1⟩ := Pst.orBad p
      obtain ⟨kvs, e1, p2⟩ := Pst.orBad p1
      obtain ⟨c, p3⟩ := Pst.okIf p2
      obtain ⟨q, zs, rfl, sq, rs⟩ := sim.seqL r e
      obtain ⟨ps, ws, rfl, h2, h3⟩ := pairsOf_of (K := X.K) rs e1 c
      exact call_dictP hc pins s σ H _ us Q I rx ⟨q, ps, ws, rfl, by rw [hK]; exact sq, h2, q_newD p3 sim (DRk.merge h3 .nil)⟩
  · cases r <;> exact p.elim
  · exact p.elim
  · cases a <;> exact p.elim
theorem lst_fn {f : Value} {b : Bif} {g : List Int → R Val → R Val} (hK : X.K = S.K) (go : ∀ a h, bifop b [a] h = orBad (lseq h a) fun xs => orBad (asInts xs) fun ns => g ns .bad) : True := trivial
end
end Mi

set_option maxHeartbeats 1000000
namespace Mi
open PySem PySem.Spec PyProof.Rows L2

section
variable {X : Cx} {S : Sta}
/-- a built-in over a list of ints -/
theorem call_intsM {f : Value} {b : Bif} {r : List V → Hp → VK → Prop} (hf : CallR X f r)
    (ho : ∀ U m h H Q vs, Pst S U m H (bifop b vs h) Q → (∃ a xs ns, vs = [a] ∧ lseq h a = some xs ∧ asInts xs = some ns ∧ Pst S U m H (bifop b [a] h) Q) ∨ (∃ i j, vs = [.int i, .int j] ∧ Pst S U m H (bifop b [.int i, .int j] h) Q))
    (h1 : ∀ U m h H Q a xs ns q, Sim S m H h → lseq h a = some xs → asInts xs = some ns → SqL X.K H q (ns.map V.int) → Pst S U m H (bifop b [a] h) (QV S Q) → r [.ref q] H Q)
    (h2 : ∀ U m h H Q i j, Sim S m H h → Pst S U m H (bifop b [.int i, .int j] h) (QV S Q) → r [.int i, .int j] H Q) (hK : X.K = S.K) : CallR X f (rVsM S (bifop b)) := by
  intro pins s σ H xs us Q I rx ⟨U, m, h, vs, sim, rv, p⟩
  rcases ho _ _ _ _ _ _ p with ⟨a, ys, ns, rfl, e1, e2, p⟩ | ⟨i, j, rfl, p⟩
  · cases rv with
    | cons ra t =>
      cases t
      obtain ⟨q, zs, rfl, sq, rs⟩ := sim.seqL ra e1
      rw [asInts_of rs e2] at sq
      exact hf pins s σ H _ us Q I rx (h1 _ _ _ _ _ _ _ _ _ sim e1 e2 (by rw [hK]; exact sq) p)
  · cases rv with
    | cons ra t =>
      cases t with
      | cons rb t =>
        cases t; cases ra; cases rb
        exact hf pins s σ H _ us Q I rx (h2 _ _ _ _ _ _ _ sim p)
theorem bif1 {U : XK} {m : List Addr} {h : Hh} {H : Hp} {Q : Val → List Addr → Hp → Hh → Prop} {a : Val} {g : List Int → R Val} (p : Pst S U m H (orBad (lseq h a) fun xs => orBad (asInts xs) g) Q) : ∃ xs ns, lseq h a = some xs ∧ asInts xs = some ns ∧ Pst S U m H (g ns) Q := by
  obtain ⟨xs, e1, p⟩ := Pst.orBad p
  obtain ⟨ns, e2, p⟩ := Pst.orBad p
  exact ⟨xs, ns, e1, e2, p⟩
theorem call_sumM (hK : X.K = S.K) (hc : X.calm = true) : CallR X (.builtin "sum") (rVsM S (bifop .sum)) := by
  refine call_intsM (r := rSum X.K) (cr_sum hc) (fun U m h H Q vs p => ?_) (fun U m h H Q a xs ns q sim e1 e2 sq p => ?_) (fun U m h H Q i j sim p => p.elim) hK
  · match vs, p with
    | [a], p =>
      obtain ⟨xs, ns, e1, e2, _⟩ := bif1 (S := S) p
      exact .inl ⟨a, xs, ns, rfl, e1, e2, p⟩
  · obtain ⟨xs', ns', e1', e2', p⟩ := bif1 (S := S) p
    rw [e1] at e1'; cases e1'
    rw [e2] at e2'; cases e2'
    exact ⟨q, ns, rfl, sq, q_ok p sim (.int _)⟩
theorem minmax_in {ns : List Int} (h : ns ≠ []) : 0 < ns.length := List.length_pos_iff.mpr h
theorem call_minM (hK : X.K = S.K) (hc : X.calm = true) : CallR X (.builtin "min") (rVsM S (bifop .min)) := by
  refine call_intsM (b := .min) (CallR.or (cr_min hc) (call_min2 hc)) (fun U m h H Q vs p => ?_) (fun U m h H Q a xs ns q sim e1 e2 sq p => ?_) (fun U m h H Q i j sim p => ?_) hK
  · match vs, p with
    | [a], p =>
      obtain ⟨xs, ns, e1, e2, _⟩ := bif1 (S := S) p
      exact .inl ⟨a, xs, ns, rfl, e1, e2, p⟩
    | [.int i, .int j], p => exact .inr ⟨i, j, rfl, p⟩
  · obtain ⟨xs', ns', e1', e2', p⟩ := bif1 (S := S) p
    rw [e1] at e1'; cases e1'
    rw [e2] at e2'; cases e2'
    obtain ⟨i, e3, p⟩ := Pst.orBad p
    obtain ⟨h3, h4⟩ := leInt_of e3
    refine .inl ⟨q, ns, rfl, sq, List.length_pos_of_mem h3, fun k h5 h6 => ?_⟩
    have : k = i := Int.le_antisymm (h6 i h3) (h4 k h5)
    rw [this]; exact q_ok p sim (.int _)
  · exact .inr ⟨i, j, rfl, q_ok p sim (.int _)⟩
theorem call_maxM (hK : X.K = S.K) (hc : X.calm = true) : CallR X (.builtin "max") (rVsM S (bifop .max)) := by
  refine call_intsM (b := .max) (CallR.or (cr_max hc) (call_max2 hc)) (fun U m h H Q vs p => ?_) (fun U m h H Q a xs ns q sim e1 e2 sq p => ?_) (fun U m h H Q i j sim p => ?_) hK
  · match vs, p with
    | [a], p =>
      obtain ⟨xs, ns, e1, e2, _⟩ := bif1 (S := S) p
      exact .inl ⟨a, xs, ns, rfl, e1, e2, p⟩
    | [.int i, .int j], p => exact .inr ⟨i, j, rfl, p⟩
  · obtain ⟨xs', ns', e1', e2', p⟩ := bif1 (S := S) p
    rw [e1] at e1'; cases e1'
    rw [e2] at e2'; cases e2'
    obtain ⟨i, e3, p⟩ := Pst.orBad p
    obtain ⟨h3, h4⟩ := geInt_of e3
    refine .inl ⟨q, ns, rfl, sq, List.length_pos_of_mem h3, fun k h5 h6 => ?_⟩
    have : k = i := Int.le_antisymm (h4 k h5) (h6 i h3)
    rw [this]; exact q_ok p sim (.int _)
  · exact .inr ⟨i, j, rfl, q_ok p sim (.int _)⟩
theorem VRs.ints {K : PySem.W.Frag} {dw : DW} {m : List Addr} {H : Hp} : ∀ ns : List Int, Mi.VRs K dw m H (ns.map .int) (ns.map V.int)
  | [] => .nil
  | n :: r => .cons (.int n) (VRs.ints r)
theorem call_sortedM (hK : X.K = S.K) : CallR X (.builtin "sorted") (rVsM S (bifop .sorted)) := by
  refine call_intsM (b := .sorted) cr_sortedI (fun U m h H Q vs p => ?_) (fun U m h H Q a xs ns q sim e1 e2 sq p => ?_) (fun U m h H Q i j sim p => p.elim) hK
  · match vs, p with
    | [a], p =>
      obtain ⟨xs, ns, e1, e2, _⟩ := bif1 (S := S) p
      exact .inl ⟨a, xs, ns, rfl, e1, e2, p⟩
  · obtain ⟨xs', ns', e1', e2', p⟩ := bif1 (S := S) p
    rw [e1] at e1'; cases e1'
    rw [e2] at e2'; cases e2'
    refine ⟨q, ns, rfl, sq, fun ns' pp h1 h2 hp => ?_⟩
    rw [sorted_uniq (h1.trans (sortInts_perm ns).symm) h2 (sortInts_sorted ns)]
    exact q_new p sim (VRs.ints _) pp hp
theorem call_intM : CallR X (.type "int") (rVsM S (bifop .int)) := by
  intro pins s σ H xs us Q I rx ⟨U, m, h, vs, sim, rv, p⟩
  rcases one_of rv with ⟨a, x, rfl, rfl, r⟩ | ⟨a, b, x, y, rfl, rfl, r, r'⟩ | rfl | ⟨a, b, c, z, rfl⟩
  · cases r with
    | int i => exact call_int1 pins s σ H _ us Q I rx (.inl ⟨i, rfl, q_ok p sim (.int _)⟩)
    | bl k => exact call_int1 pins s σ H _ us Q I rx (.inr ⟨k, rfl, q_ok p sim (.int _)⟩)
    | _ => exact p.elim
  · cases r <;> exact p.elim
  · exact p.elim
  · cases a <;> exact p.elim
theorem call_strM : CallR X (.type "str") (rVsM S (bifop .str)) := by
  intro pins s σ H xs us Q I rx ⟨U, m, h, vs, sim, rv, p⟩
  rcases one_of rv with ⟨a, x, rfl, rfl, r⟩ | ⟨a, b, x, y, rfl, rfl, r, r'⟩ | rfl | ⟨a, b, c, z, rfl⟩
  · cases r with
    | int i =>
      obtain ⟨c, p⟩ := Pst.okIf p
      exact call_str_int pins s σ H _ us Q I rx ⟨i, rfl, of_decide_eq_true c, q_ok p sim (.str _)⟩
    | str k => exact SkE.call_str_str pins s σ H _ us Q I rx ⟨k, rfl, q_ok p sim (.str _)⟩
    | _ => exact p.elim
  · cases r <;> exact p.elim
  · exact p.elim
  · cases a <;> exact p.elim
theorem call_absM : CallR X (.builtin "abs") (rVsM S (bifop .abs)) := by
  intro pins s σ H xs us Q I rx ⟨U, m, h, vs, sim, rv, p⟩
  rcases one_of rv with ⟨a, x, rfl, rfl, r⟩ | ⟨a, b, x, y, rfl, rfl, r, r'⟩ | rfl | ⟨a, b, c, z, rfl⟩
  · cases r with
    | int i => exact call_abs pins s σ H _ us Q I rx ⟨i, rfl, q_ok p sim (.int _)⟩
    | _ => exact p.elim
  · cases r <;> exact p.elim
  · exact p.elim
  · cases a <;> exact p.elim
theorem call_tupleM (hK : X.K = S.K) : CallR X (.type "tuple") (rVsM S (bifop .tuple)) := by
  intro pins s σ H xs us Q I rx ⟨U, m, h, vs, sim, rv, p⟩
  rcases one_of rv with ⟨a, x, rfl, rfl, r⟩ | ⟨a, b, x, y, rfl, rfl, r, r'⟩ | rfl | ⟨a, b, c, z, rfl⟩
  · have lst : ∀ p : Pst S U m H (orBad (lseq h a) fun xs => .ok (.tup xs) h) (QV S Q), wpAny (model X.prog X.w) X.A (call (.type "tuple") us) (EP X pins σ Q) X.xe s := fun p => by
      obtain ⟨ys, e, p⟩ := Pst.orBad p
      obtain ⟨q, zs, rfl, sq, rs⟩ := sim.seqL r e
      exact call_tuple_of pins s σ H _ us Q I rx ⟨q, zs, rfl, .inl ⟨by rw [hK]; exact sq, q_tup p sim rs⟩⟩
    cases r with
    | tup t r => exact call_tuple_of pins s σ H _ us Q I rx ⟨_, _, rfl, .inr ⟨.of t, q_ok p sim (.tup t r)⟩⟩
    | _ => exact lst p
  · cases r <;> exact p.elim
  · exact p.elim
  · cases a <;> exact p.elim
/-- a built-in by its name -/
theorem call_bifM (hK : X.K = S.K) (hc : X.calm = true) (hg : X.A.guards = some []) (hu : X.A.units + 65 < cLine) (b : Bif) : CallR X (bifV b) (rVsM S (bifop b)) := by
  cases b
  · exact call_lenM hK
  · exact call_intM
  · exact call_strM
  · exact call_reprM hK hg hu
  · exact call_absM
  · exact call_sumM hK hc
  · exact call_minM hK hc
  · exact call_maxM hK hc
  · exact call_sortedM hK
  · exact call_tupleM hK
  · exact call_listM hK hc
  · exact call_dictM hK hc

/-! ### methods -/
def rVmM (S : Sta) (g : Val → List Val → Hh → R Val) : V → List V → Hp → VK → Prop := fun x xs H Q =>
  ∃ U m h a vs, Sim S m H h ∧ S.VR m H a x ∧ S.VRs m H vs xs ∧ Pst S U m H (g a vs h) (QV S Q)
theorem mt_appendM : MtR X "list.append" (rVmM S (bmtop .append)) := by
  intro pins s σ H x xs v us Q I rx rxs ⟨U, m, h, a, vs, sim, ra, rv, p⟩
  rcases one_of rv with ⟨b, y, rfl, rfl, r⟩ | ⟨b, c, y, z, rfl, rfl, r, r'⟩ | rfl | ⟨b, c, d, z, rfl⟩
  · cases ra with
    | @ref l q em =>
      obtain ⟨ys, e, p1⟩ := Pst.orBad p
      obtain ⟨c, p2⟩ := Pst.okIf p1
      have c := of_decide_eq_true c
      obtain ⟨ws, e1, rs⟩ := lstOf_of sim em e
      rw [rs.length] at c
      refine mt_append pins s σ H _ _ v us Q I rx rxs ⟨q, ws, y, rfl, rfl, e1, c, ?_⟩
      have x' : Ext m H m (upd H q (.lst (ws ++ [y]))) := Ext.upd_at (mem_of_get em) (nfz e1 (fun _ _ z => nomatch z))
      exact q_set p2 sim (nfz e1 (fun _ _ z => nomatch z)) em ⟨_, upd_same, (rs.append (.cons r .nil)).ext sim x'⟩ .non
    | _ => exact p.elim
  · cases ra <;> exact p.elim
  · cases ra <;> exact p.elim
  · cases ra <;> exact p.elim
theorem mt_extendM : MtR X "list.extend" (rVmM S (bmtop .extend)) := by
  intro pins s σ H x xs v us Q I rx rxs ⟨U, m, h, a, vs, sim, ra, rv, p⟩
  rcases one_of rv with ⟨b, y, rfl, rfl, r⟩ | ⟨b, c, y, z, rfl, rfl, r, r'⟩ | rfl | ⟨b, c, d, z, rfl⟩
  · cases ra with
    | @ref l q em =>
      cases r with
      | @ref l2 q2 em2 =>
        obtain ⟨ys, e, p1⟩ := Pst.orBad p
        obtain ⟨zs, e', p2⟩ := Pst.orBad p1
        obtain ⟨c, p3⟩ := Pst.okIf p2
        have c := of_decide_eq_true c
        obtain ⟨ws, e1, rs⟩ := lstOf_of sim em e
        obtain ⟨ws2, e2, rs2⟩ := lstOf_of sim em2 e'
        rw [rs.length, rs2.length] at c
        refine mt_extend pins s σ H _ _ v us Q I rx rxs ⟨q, q2, ws, ws2, rfl, rfl, e1, e2, c, ?_⟩
        have x' : Ext m H m (upd H q (.lst (ws ++ ws2))) := Ext.upd_at (mem_of_get em) (nfz e1 (fun _ _ z => nomatch z))
        exact q_set p3 sim (nfz e1 (fun _ _ z => nomatch z)) em ⟨_, upd_same, (rs.append rs2).ext sim x'⟩ .non
      | _ => exact p.elim
    | _ => exact p.elim
  · cases ra <;> first | exact p.elim | (cases b <;> exact p.elim)
  · cases ra <;> exact p.elim
  · cases ra <;> first | exact p.elim | (cases b <;> exact p.elim)
theorem dctOf_dict {h : Hh} {l : Nat} {kvs : List (Kk × Val)} (e : dctOf h l = some kvs) : dictOf h (.ref l) = some kvs := by
  simp only [dctOf] at e
  split at e
  · rename_i kvs' eo
    cases e
    simp only [dictOf, eo]
  · cases e
theorem mt_getM (hu : X.A.units + 65 < cLine) : MtR X "dict.get" (rVmM S (bmtop .get)) := by
  intro pins s σ H x xs v us Q I rx rxs ⟨U, m, h, a, vs, sim, ra, rv, p⟩
  have fin : ∀ (kvs : List (Kk × Val)) (k : Kk) (q : Addr) (d : Val) (zd : V), DGR S m H q zd (dget kvs k) ∨ (dget kvs k = none ∧ H q = some (.dK []) ∧ ∃ (ks : List L2.Key) (b : Addr), zd = .ref b ∧ H b = some (.tup (ks.map kV))) → True := fun _ _ _ _ _ _ => trivial
  rcases one_of rv with ⟨b, y, rfl, rfl, r⟩ | ⟨b, c, y, z, rfl, rfl, r, r'⟩ | rfl | ⟨b, c, d, z, rfl⟩
  · cases ra with
    | @ref l q em =>
      cases rx
      obtain ⟨u, rfl, ru⟩ := vals1 rxs
      obtain ⟨kvs, e, p1⟩ := Pst.orBad p
      obtain ⟨k, ek, p2⟩ := Pst.orBad p1
      obtain ⟨ok, p3⟩ := Pst.okIf p2
      rcases dict_get sim em (dctOf_dict e) ek ok r with ⟨o, g, hh⟩ | ⟨d0, e0, ks, b', rfl, eb⟩
      · refine d_get1 (by omega) I g ru fun w' s' I' rw' => ⟨o.getD .non, H, I', rw', ?_⟩
        rcases hh with ⟨v', z', e1, rfl, rz⟩ | ⟨e1, rfl⟩
        · rw [e1] at p3; exact q_ok p3 sim rz
        · rw [e1] at p3; exact q_ok p3 sim .non
      · refine d_get1 (by omega) (conv_t I e0) (dt_none e0 eb) ru fun w' s' I' rw' => ⟨.non, H, ?_, rw', ?_⟩
        · have := conv_k I' upd_same
          rwa [upd_back e0] at this
        · rw [d0] at p3; exact q_ok p3 sim .non
    | _ => exact p.elim
  · cases ra with
    | @ref l q em =>
      cases rx
      obtain ⟨u, w, rfl, ru, rw⟩ := vals2 rxs
      obtain ⟨kvs, e, p1⟩ := Pst.orBad p
      obtain ⟨k, ek, p2⟩ := Pst.orBad p1
      obtain ⟨ok, p3⟩ := Pst.okIf p2
      rcases dict_get sim em (dctOf_dict e) ek ok r with ⟨o, g, hh⟩ | ⟨d0, e0, ks, b', rfl, eb⟩
      · refine d_get2 (by omega) I g ru rw fun w' s' I' rw' => ⟨o.getD z, H, I', rw', ?_⟩
        rcases hh with ⟨v', z', e1, rfl, rz⟩ | ⟨e1, rfl⟩
        · rw [e1] at p3; exact q_ok p3 sim rz
        · rw [e1] at p3; exact q_ok p3 sim r'
      · refine d_get2 (by omega) (conv_t I e0) (dt_none e0 eb) ru rw fun w' s' I' rw' => ⟨z, H, ?_, rw', ?_⟩
        · have := conv_k I' upd_same
          rwa [upd_back e0] at this
        · rw [d0] at p3; exact q_ok p3 sim r'
    | _ => exact p.elim
  · cases ra <;> exact p.elim
  · cases ra <;> exact p.elim
theorem mt_popM : MtR X "dict.pop" (rVmM S (bmtop .pop)) := by
  intro pins s σ H x xs v us Q I rx rxs ⟨U, m, h, a, vs, sim, ra, rv, p⟩
  rcases one_of rv with ⟨b, y, rfl, rfl, r⟩ | ⟨b, c, y, z, rfl, rfl, r, r'⟩ | rfl | ⟨b, c, d, z, rfl⟩
  · cases ra with
    | @ref l q em =>
      cases rx
      obtain ⟨u, rfl, ru⟩ := vals1 rxs
      obtain ⟨kvs, e, p1⟩ := Pst.orBad p
      obtain ⟨k, ek, p2⟩ := Pst.orBad p1
      obtain ⟨pk, p3⟩ := Pst.okIf p2
      obtain ⟨v', ev, p4⟩ := Pst.orBad p3
      simp only [plainKeys, List.all_cons, Bool.and_eq_true] at pk
      have pk0 := pk.1
      have pk := pk.2
      have hq : ∃ ws, H q = some (.dK ws) ∧ DRk S m H kvs ws := by
        simp only [dctOf] at e
        split at e
        · rename_i kvs' eo
          cases e
          rcases sim.at_ l q _ em eo with z | ⟨nz, ws, e1, e2⟩
          · exact z
          · cases e2 with
            | nil => exact absurd rfl nz
            | cons z _ =>
              simp only [List.all_cons, Bool.and_eq_true] at pk
              rw [z.1] at pk; exact absurd pk.1 (by simp)
        · cases e
      obtain ⟨ws, e1, e2⟩ := hq
      have kr := toKey_of r ek
      cases k with
      | inr k => exact absurd pk0 (by simp)
      | inl k =>
        have kr : y = kV k := kr
        subst kr
        rcases e2.get k with ⟨v2, z2, h1, h2, h3⟩ | ⟨h1, h2⟩
        · rw [ev] at h1; cases h1
          refine d_pop I e1 ru h2 (.inl rfl) fun w' s' I' rw' => ⟨z2, _, I', rw', ?_⟩
          have x' : Ext m H m (upd H q (.dK (dropK ws k))) := Ext.upd_at (mem_of_get em) (nfz e1 (fun _ _ z => nomatch z))
          exact q_set p4 sim (nfz e1 (fun _ _ z => nomatch z)) em (.inl ⟨_, upd_same, (e2.drop k).ext sim x'⟩) (h3.ext sim x')
        · rw [ev] at h1; cases h1
    | _ => exact p.elim
  · cases ra <;> exact p.elim
  · cases ra <;> exact p.elim
  · cases ra <;> exact p.elim
theorem mt_joinM (hK : X.K = S.K) : MtR X "str.join" (rVmM S (bmtop .join)) := by
  intro pins s σ H x xs v us Q I rx rxs ⟨U, m, h, a, vs, sim, ra, rv, p⟩
  rcases one_of rv with ⟨b, y, rfl, rfl, r⟩ | ⟨b, c, y, z, rfl, rfl, r, r'⟩ | rfl | ⟨b, c, d, z, rfl⟩
  · cases ra with
    | str t =>
      obtain ⟨ys, e, p1⟩ := Pst.orBad p
      obtain ⟨ts, e1, p2⟩ := Pst.orBad p1
      obtain ⟨c, p3⟩ := Pst.okIf p2
      obtain ⟨q, zs, rfl, sq, rs⟩ := sim.seq r e
      rw [asStrs_of rs e1] at sq
      exact mt_join pins s σ H _ _ v us Q I rx rxs ⟨t, q, ts, rfl, rfl, by rw [hK]; exact sq, of_decide_eq_true c, q_ok p3 sim (.str _)⟩
    | _ => exact p.elim
  · cases ra <;> exact p.elim
  · cases ra <;> exact p.elim
  · cases ra <;> exact p.elim
end
end Mi

set_option maxHeartbeats 1000000
namespace Mi
open PySem PySem.Spec PyProof.Rows L2

/-- the names' values stand in the slots -/
def EnR (S : Sta) (m : List Addr) (H : Hp) (ρ : En) (σ : L2.St) : Prop :=
  ρ.length = σ.length ∧ ∀ (i : Nat) (v : Val), ρ[i]? = some (some v) → ∃ z, σ[i]? = some (some z) ∧ S.VR m H v z
theorem EnR.ext {S : Sta} {m m' : List Addr} {H H' : Hp} {h : Hh} {ρ : En} {σ : L2.St} (e : EnR S m H ρ σ) (s : Sim S m H h) (x : Ext m H m' H') : EnR S m' H' ρ σ :=
  ⟨e.1, fun i v q => let ⟨z, h1, h2⟩ := e.2 i v q; ⟨z, h1, h2.ext s x⟩⟩
theorem EnR.get {S : Sta} {m : List Addr} {H : Hp} {ρ : En} {σ : L2.St} (e : EnR S m H ρ σ) {i : Nat} {v : Val} (g : ρ.get? i = some v) : ∃ z, σ[i]? = some (some z) ∧ S.VR m H v z := by
  refine e.2 i v ?_
  unfold En.get? at g
  cases q : ρ[i]? with
  | none => rw [q] at g; cases g
  | some o => rw [q] at g; cases o with
    | none => cases g
    | some w => cases g; rfl
theorem EnR.set {S : Sta} {m : List Addr} {H : Hp} {ρ : En} {σ : L2.St} (e : EnR S m H ρ σ) {i : Nat} {v : Val} {z : V} (r : S.VR m H v z) : EnR S m H (ρ.set i (some v)) (σ.set i (some z)) := by
  refine ⟨by simp [e.1], fun j w q => ?_⟩
  by_cases h : j = i
  · subst h
    by_cases hl : j < ρ.length
    · rw [List.getElem?_set_self hl] at q
      cases q
      exact ⟨z, List.getElem?_set_self (e.1 ▸ hl), r⟩
    · rw [List.getElem?_eq_none (by simp; omega)] at q; cases q
  · rw [List.getElem?_set_ne (Ne.symm h)] at q ⊢
    exact e.2 j w q
theorem EnR.wipe {S : Sta} {m : List Addr} {H : Hp} {ρ : En} {σ : L2.St} (e : EnR S m H ρ σ) : ∀ vs : List Nat, EnR S m H (Mi.wipe ρ vs) (L2.wipe σ vs)
  | [] => e
  | v :: vs => by
    have ih := EnR.wipe e vs
    refine ⟨by simp [Mi.wipe, L2.wipe, ih.1], fun j w q => ?_⟩
    unfold Mi.wipe at q
    unfold L2.wipe
    by_cases h : j = v
    · subst h
      by_cases hl : j < (Mi.wipe ρ vs).length
      · rw [List.getElem?_set_self hl] at q; cases q
      · rw [List.getElem?_eq_none (by simp; omega)] at q; cases q
    · rw [List.getElem?_set_ne (Ne.symm h)] at q ⊢
      exact ih.2 j w q

/-- an expression's reading: what f reckons -/
def rdE (S : Sta) (W : WX) (f : En → Hh → R Val) : TE := fun σ H Q =>
  ∃ m h ρ, Sim S m H h ∧ EnR S m H ρ σ ∧ Pst S (fun c d H' => W c d σ H') m H (f ρ h) (QV S Q)
def rdA (S : Sta) (W : WX) (f : En → Hh → R (List Val)) : TA := fun σ H Q =>
  ∃ m h ρ, Sim S m H h ∧ EnR S m H ρ σ ∧ Pst S (fun c d H' => W c d σ H') m H (f ρ h) fun vs m' H' _ => ∀ zs, S.VRs m' H' vs zs → Q zs H'
def rdT (S : Sta) (W : WX) (f : En → Hh → R Val) : TT := fun σ H Q =>
  ∃ m h ρ, Sim S m H h ∧ EnR S m H ρ σ ∧ Pst S (fun c d H' => W c d σ H') m H (f ρ h) fun v _ H' h' => ∃ k, truthy h' v = some k ∧ Q k H'
section
variable {S : Sta} {W : WX} {X : Cx}
/-- a part is reckoned, then the rest -/
theorem rdE_step {β : Type} {fa : En → Hh → R Val} {rest : Val → Hh → R β} {m : List Addr} {h : Hh} {ρ : En} {σ : L2.St} {H : Hp} {P : β → List Addr → Hp → Hh → Prop} {Qa : VK} (s : Sim S m H h) (e : EnR S m H ρ σ)
    (p : Pst S (fun c d H' => W c d σ H') m H ((fa ρ h).bind rest) P)
    (k : ∀ m1 H1 h1 v z, fa ρ h = .ok v h1 → Ext m H m1 H1 → Sim S m1 H1 h1 → EnR S m1 H1 ρ σ → S.VR m1 H1 v z → Pst S (fun c d H' => W c d σ H') m1 H1 (rest v h1) P → Qa z H1) : rdE S W fa σ H Qa :=
  ⟨m, h, ρ, s, e, p.bind.mono fun v m1 H1 h1 q x s1 p1 z r => k m1 H1 h1 v z q x s1 (e.ext s x) r p1⟩
theorem rdA_step {β : Type} {fa : En → Hh → R (List Val)} {rest : List Val → Hh → R β} {m : List Addr} {h : Hh} {ρ : En} {σ : L2.St} {H : Hp} {P : β → List Addr → Hp → Hh → Prop} {Qa : List V → Hp → Prop} (s : Sim S m H h) (e : EnR S m H ρ σ)
    (p : Pst S (fun c d H' => W c d σ H') m H ((fa ρ h).bind rest) P)
    (k : ∀ m1 H1 h1 vs zs, fa ρ h = .ok vs h1 → Ext m H m1 H1 → Sim S m1 H1 h1 → EnR S m1 H1 ρ σ → S.VRs m1 H1 vs zs → Pst S (fun c d H' => W c d σ H') m1 H1 (rest vs h1) P → Qa zs H1) : rdA S W fa σ H Qa :=
  ⟨m, h, ρ, s, e, p.bind.mono fun v m1 H1 h1 q x s1 p1 z r => k m1 H1 h1 v z q x s1 (e.ext s x) r p1⟩
theorem rdT_step {β : Type} {fa : En → Hh → R Val} {rest : Val → Hh → R β} {m : List Addr} {h : Hh} {ρ : En} {σ : L2.St} {H : Hp} {P : β → List Addr → Hp → Hh → Prop} {Qa : Bool → Hp → Prop} (s : Sim S m H h) (e : EnR S m H ρ σ)
    (p : Pst S (fun c d H' => W c d σ H') m H ((fa ρ h).bind rest) P)
    (k : ∀ m1 H1 h1 v, Ext m H m1 H1 → Sim S m1 H1 h1 → EnR S m1 H1 ρ σ → Pst S (fun c d H' => W c d σ H') m1 H1 (rest v h1) P → ∃ b, truthy h1 v = some b ∧ Qa b H1) : rdT S W fa σ H Qa :=
  ⟨m, h, ρ, s, e, p.bind.mono fun v m1 H1 h1 _ x s1 p1 => k m1 H1 h1 v x s1 (e.ext s x) p1⟩
theorem _root_.L2.PE.imp {e : Expr} {t t' : TE} (p : PE X e t) (i : ∀ σ H Q, t' σ H Q → t σ H Q) : PE X e t' := ⟨fun pins s σ H Q J q => p.run pins s σ H Q J (i σ H Q q)⟩
theorem _root_.L2.PT.imp {e : Expr} {t t' : TT} (p : PT X e t) (i : ∀ σ H Q, t' σ H Q → t σ H Q) : PT X e t' := ⟨fun pins s σ H Q J q => p.run pins s σ H Q J (i σ H Q q)⟩
theorem _root_.L2.PW.imp {e : Expr} {t t' : TT} (p : PW X e t) (i : ∀ σ H Q, t' σ H Q → t σ H Q) : PW X e t' := ⟨fun w pins s σ H Q J q => p.run w pins s σ H Q J (i σ H Q q)⟩
theorem _root_.L2.PA.imp {e : List Expr} {t t' : TA} (p : PA X e t) (i : ∀ σ H Q, t' σ H Q → t σ H Q) : PA X e t' := ⟨fun ps pins s σ H Q J q => p.run ps pins s σ H Q J (i σ H Q q)⟩
end

/-! ### what the machine looks at apart -/
section
variable {e : Expr} {env : Env}
theorem ok_star (h : okE e = true) (es : List Expr) : starEach (e :: es) env = (false, eval e env) :: starEach es env := by
  cases e <;> first | rfl | cases h
theorem ok_base (h : okE e = true) (f : Str) : attributeBase e f env (eval e env) = eval e env := by
  cases e with
  | Call fn args kw pos =>
    cases fn with
    | Name id p =>
      cases args with
      | nil =>
        cases kw with
        | nil =>
          have hn : id ≠ ("super" : Str) := of_decide_eq_true h
          unfold attributeBase
          simp [hn]
        | cons _ _ => rfl
      | cons _ _ => rfl
    | _ => rfl
  | _ => rfl
theorem ok_mark (h : okE e = true) (op : CmpOp) : behindInMarks op e = false := by
  cases e <;> first | rfl | cases h
theorem ok_fold (h : okE e = true) (x : Value) : foldedSetIterable e env x = pure x := by
  cases e <;> first | rfl | cases h
theorem ok_ix (h : okE e = true) : PlainIx e := fun o i => by
  cases e <;> first | rfl | cases h
end

/-! ### defs: their promises, with what is asked of the stack -/
/-- the def at f keeps the promise sp, wherever there is room and nothing is just being shown -/
structure FnG (P : Program) (w : World) (K : PySem.W.Frag) (mg : Str → Option Value) (base : Heap) (k : Nat) (f : Addr) (fd : FuncData) (ps : List Str) (sp : Sp) : Prop where
  len : ∀ zs H Q E, sp zs H Q E → zs.length = ps.length
  run : ∀ (A : Around) (outer : List Env) (s : Shared) (H : Hp) (args : Args) (us : List Value) (zs : List V) (Q : VK) (E : XK), Room k A → A.guards = some [] → Env0 P w K mg base A outer s H → BindsTo s fd args (ps.zip us) → Vals zs us →
    sp zs H Q E → codeAny (model P w) A (.call (.ref f) args) (CR (L2.CX P w) outer P w H s Q E) s
/-- a call, by the language's own meaning -/
def spM (S : Sta) (G : Prg) (n : Nat) (k : FK) : Sp := fun zs H Q E => ∃ m h xs, Sim S m H h ∧ S.VRs m H xs zs ∧ Pst S E m H (callF G n k xs h) (QV S Q)
/-- what stands at a def's key -/
def Stands (S : Sta) (K : PySem.W.Frag) (mg : Str → Option Value) (k : FK) (a : Addr) : Prop := match k with
  | .fn x => mg x = some (.ref a) ∧ PySem.W.keepIn K (.ref a) = true
  | .mt c x => Meth K (S.C c) x a
  | .mk _ => False
/-- the world, with all calls at most n deep -/
structure Wld (S : Sta) (I : Inf) (G : Prg) (n : Nat) (P : Program) (w : World) (K : PySem.W.Frag) (mg : Str → Option Value) (base : Heap) : Prop where
  hK : K = S.K
  fre : ∀ x ∈ I.fre, mg x = none
  glv : ∀ x v, G.gl x = some v → ∃ z u, mg x = some u ∧ RelV z u ∧ ∀ m H, Mi.VR S.K S.dw m H v z
  dw : DwOk S.K w S.dw
  fns : ∀ j ≤ n, ∀ k f, G.fns.lookup k = some f → ∃ a fd ps, Stands S K mg k a ∧ Binds K fd ps [] ∧ FnG P w K mg base j a fd ps (spM S G j k)
  cls : ∀ c ∈ S.cs, Cls K (S.C c)
  mks : ∀ c ∈ G.cls, c ∈ S.cs ∧ mg c = some (.ref (S.C c)) ∧ PySem.W.makesIn K (S.C c) = true ∧ PySem.W.keepIn K (.ref (S.C c)) = true
  noat : ∀ c f, (c, f) ∈ G.fl → NoAttr K (S.C c) f
end Mi

set_option maxHeartbeats 1000000
namespace Mi
open PySem PySem.Spec PyProof.Rows L2

section
variable {S : Sta} {W : WX} {X : Cx} {Γ : Cxt} {a b c e : Expr} {ca cb cc : Ex} {pos : Pos}
theorem e_lit {v : Val} {z : V} (hp : PE X e (tC z)) (hr : ∀ m H, S.VR m H v z) : PE X e (rdE S W (ev Γ (.lit v))) :=
  hp.imp fun σ H Q ⟨m, h, ρ, s, en, p⟩ => p m H .refl s z (hr m H)
theorem e_loc {i : Nat} (hp : PE X e (tVar i)) : PE X e (rdE S W (ev Γ (.loc i))) :=
  hp.imp fun σ H Q ⟨m, h, ρ, s, en, p⟩ => by
    obtain ⟨v, g, p⟩ := Pst.orBad p
    obtain ⟨z, h1, h2⟩ := en.get g
    exact ⟨z, h1, p m H .refl s z h2⟩
theorem e_glb {x : Str} (hp : ∀ v, Γ.gl x = some v → ∃ z, PE X e (tC z) ∧ ∀ m H, S.VR m H v z) : PE X e (rdE S W (ev Γ (.glb x))) := by
  cases g : Γ.gl x with
  | none => exact ⟨fun pins s σ H Q I ⟨m, h, ρ, s', en, p⟩ => by
      have p : Pst S _ m H (orBad (Γ.gl x) fun v => .ok v h) _ := p
      rw [g] at p; exact p.elim⟩
  | some v =>
    obtain ⟨z, h1, h2⟩ := hp v g
    refine h1.imp fun σ H Q ⟨m, h, ρ, s, en, p⟩ => ?_
    have p : Pst S _ m H (orBad (Γ.gl x) fun v => .ok v h) _ := p
    rw [g] at p
    exact p m H .refl s z (h2 m H)
theorem pt_of_pe {f : En → Hh → R Val} (hK : X.K = S.K) (hp : PE X e (rdE S W f)) (he : ∀ whole, PySem.isTrue e X.env whole = (do let v ← whole; standAt e.pos; holding [v] (PySem.truthy v))) : PT X e (rdT S W f) :=
  (pt_truth hp he).imp fun σ H Q ⟨m, h, ρ, s, en, p⟩ => ⟨m, h, ρ, s, en, p.mono fun v m' H' h' _ x s' ⟨k, e1, q⟩ z r => ⟨k, by rw [hK]; exact tru_of s' r e1, q⟩⟩
theorem e_bin {op : Operator} {o : Bop} (hf : OpR X (binaryOp op) (rV2 S (binop o))) (ha : PE X a (rdE S W (ev Γ ca))) (hb : PE X b (rdE S W (ev Γ cb))) : PE X (.BinOp a op b pos) (rdE S W (ev Γ (.bin o ca cb))) :=
  (pe_op hf ha hb).imp fun σ H Q ⟨m, h, ρ, s, en, p⟩ =>
    rdE_step s en p fun m1 H1 h1 v z _ x s1 en1 r p1 => rdE_step s1 en1 p1 fun m2 H2 h2 u w _ x2 s2 _ r2 p2 => ⟨_, m2, h2, v, u, s2, r.ext s1 x2, r2, p2⟩
theorem un_negM : UnR X (unaryOp .USub) (fun x H Q => ∃ (U : XK) (m : List Addr) (h : Hh) (v : Val), Sim S m H h ∧ S.VR m H v x ∧ Pst S U m H (match v with | .int i => R.ok (Val.int (-i)) h | _ => R.bad) (QV S Q)) := by
  intro pins s σ H x v Q I rx ⟨U, m, h, a, sim, ra, p⟩
  cases ra with
  | int i => exact un_neg pins s σ H _ v Q I rx ⟨i, rfl, q_ok p sim (.int _)⟩
  | _ => exact p.elim
theorem e_neg (ha : PE X a (rdE S W (ev Γ ca))) : PE X (.UnaryOp .USub a pos) (rdE S W (ev Γ (.neg ca))) :=
  (pe_un (un_negM (S := S)) ha).imp fun σ H Q ⟨m, h, ρ, s, en, p⟩ =>
    rdE_step s en p fun m1 H1 h1 v z _ x s1 en1 r p1 => ⟨_, m1, h1, v, s1, r, p1⟩
theorem e_not (hK : X.K = S.K) (ha : PE X a (rdE S W (ev Γ ca))) : PE X (.UnaryOp .Not a pos) (rdE S W (ev Γ (.not ca))) :=
  (pe_notT ha).imp fun σ H Q ⟨m, h, ρ, s, en, p⟩ =>
    rdE_step s en p fun m1 H1 h1 v z _ x s1 en1 r p1 => by
      obtain ⟨k, e1, p2⟩ := Pst.orBad p1
      exact ⟨k, by rw [hK]; exact tru_of s1 r e1, q_ok p2 s1 (.bl _)⟩
theorem t_not (ha : PT X a (rdT S W (ev Γ ca))) : PT X (.UnaryOp .Not a pos) (rdT S W (ev Γ (.not ca))) :=
  (pt_not ha).imp fun σ H Q ⟨m, h, ρ, s, en, p⟩ =>
    rdT_step s en p fun m1 H1 h1 v x s1 en1 p1 => by
      obtain ⟨k, e1, p2⟩ := Pst.orBad p1
      obtain ⟨k', e2, q⟩ := p2 m1 H1 .refl s1
      cases e2
      exact ⟨k, e1, q⟩
theorem e_and {rest : List Expr} (hK : X.K = S.K) (ha : PE X a (rdE S W (ev Γ ca))) (hb : PE X (.BoolOp .And (b :: rest) pos) (rdE S W (ev Γ cb))) : PE X (.BoolOp .And (a :: b :: rest) pos) (rdE S W (ev Γ (.and ca cb))) :=
  (pe_andT ha hb).imp fun σ H Q ⟨m, h, ρ, s, en, p⟩ =>
    rdE_step s en p fun m1 H1 h1 v z _ x s1 en1 r p1 => by
      obtain ⟨k, e1, p2⟩ := Pst.orBad p1
      refine ⟨k, by rw [hK]; exact tru_of s1 r e1, ?_⟩
      cases k with
      | true => exact ⟨m1, h1, ρ, s1, en1, p2⟩
      | false => exact q_ok p2 s1 r
theorem e_or {rest : List Expr} (hK : X.K = S.K) (ha : PE X a (rdE S W (ev Γ ca))) (hb : PE X (.BoolOp .Or (b :: rest) pos) (rdE S W (ev Γ cb))) : PE X (.BoolOp .Or (a :: b :: rest) pos) (rdE S W (ev Γ (.or ca cb))) :=
  (pe_orT ha hb).imp fun σ H Q ⟨m, h, ρ, s, en, p⟩ =>
    rdE_step s en p fun m1 H1 h1 v z _ x s1 en1 r p1 => by
      obtain ⟨k, e1, p2⟩ := Pst.orBad p1
      refine ⟨k, by rw [hK]; exact tru_of s1 r e1, ?_⟩
      cases k with
      | false => exact ⟨m1, h1, ρ, s1, en1, p2⟩
      | true => exact q_ok p2 s1 r
theorem w_and {rest : List Expr} (ha : PT X a (rdT S W (ev Γ ca))) (hb : PW X (.BoolOp .And (b :: rest) pos) (rdT S W (ev Γ cb))) : PW X (.BoolOp .And (a :: b :: rest) pos) (rdT S W (ev Γ (.and ca cb))) :=
  (pw_and ha hb).imp fun σ H Q ⟨m, h, ρ, s, en, p⟩ =>
    rdT_step s en p fun m1 H1 h1 v x s1 en1 p1 => by
      obtain ⟨k, e1, p2⟩ := Pst.orBad p1
      refine ⟨k, e1, ?_⟩
      cases k with
      | true => exact ⟨m1, h1, ρ, s1, en1, p2⟩
      | false =>
        obtain ⟨k', e2, q⟩ := p2 m1 H1 .refl s1
        rw [e1] at e2; cases e2
        exact q
theorem w_or {rest : List Expr} (ha : PT X a (rdT S W (ev Γ ca))) (hb : PW X (.BoolOp .Or (b :: rest) pos) (rdT S W (ev Γ cb))) : PW X (.BoolOp .Or (a :: b :: rest) pos) (rdT S W (ev Γ (.or ca cb))) :=
  (pw_or ha hb).imp fun σ H Q ⟨m, h, ρ, s, en, p⟩ =>
    rdT_step s en p fun m1 H1 h1 v x s1 en1 p1 => by
      obtain ⟨k, e1, p2⟩ := Pst.orBad p1
      refine ⟨k, e1, ?_⟩
      cases k with
      | false => exact ⟨m1, h1, ρ, s1, en1, p2⟩
      | true =>
        obtain ⟨k', e2, q⟩ := p2 m1 H1 .refl s1
        rw [e1] at e2; cases e2
        exact q
theorem e_cmp {op : CmpOp} (hf : OpR X (compareOp op) (rC2 S (cmpop (copOf op)) false)) (hm : behindInMarks op b = false) (ha : PE X a (rdE S W (ev Γ ca))) (hb : PE X b (rdE S W (ev Γ cb))) : PE X (.Compare a [op] [b] pos) (rdE S W (ev Γ (.cmp (copOf op) ca cb))) :=
  (pe_cmpR hf ha hb hm).imp fun σ H Q ⟨m, h, ρ, s, en, p⟩ =>
    rdE_step s en p fun m1 H1 h1 v z _ x s1 en1 r p1 => rdE_step s1 en1 p1 fun m2 H2 h2 u w _ x2 s2 _ r2 p2 => by
      obtain ⟨k, e1, p3⟩ := Pst.orBad p2
      exact ⟨m2, h2, v, u, k, s2, r.ext s1 x2, r2, e1, q_ok p3 s2 (.bl _)⟩
theorem t_cmp {op : CmpOp} (hf : OpR X (compareOp op) (rC2 S (cmpop (copOf op)) false)) (hm : behindInMarks op b = false) (ha : PE X a (rdE S W (ev Γ ca))) (hb : PE X b (rdE S W (ev Γ cb))) : PT X (.Compare a [op] [b] pos) (rdT S W (ev Γ (.cmp (copOf op) ca cb))) :=
  (pt_cmpR hf ha hb hm).imp fun σ H Q ⟨m, h, ρ, s, en, p⟩ =>
    rdE_step s en p fun m1 H1 h1 v z _ x s1 en1 r p1 => rdE_step s1 en1 p1 fun m2 H2 h2 u w _ x2 s2 _ r2 p2 => by
      obtain ⟨k, e1, p3⟩ := Pst.orBad p2
      obtain ⟨k', e2, q⟩ := p3 m2 H2 .refl s2
      cases e2
      exact ⟨m2, h2, v, u, k, s2, r.ext s1 x2, r2, e1, k, rfl, q⟩
theorem e_chn {op op2 : CmpOp} (hf : OpR X (compareOp op) (rC2 S (cmpop (copOf op)) false)) (hf2 : OpR X (compareOp op2) (rC2 S (cmpop (copOf op2)) false)) (hm : lastMarks [op, op2] [b, c] = false) (ha : PE X a (rdE S W (ev Γ ca)))
    (hb : PE X b (rdE S W (ev Γ cb))) (hc : PE X c (rdE S W (ev Γ cc))) : PE X (.Compare a [op, op2] [b, c] pos) (rdE S W (ev Γ (.chn (copOf op) (copOf op2) ca cb cc))) :=
  (pe_chain hf hf2 ha hb hc hm).imp fun σ H Q ⟨m, h, ρ, s, en, p⟩ =>
    rdE_step s en p fun m1 H1 h1 v z _ x s1 en1 r p1 => rdE_step s1 en1 p1 fun m2 H2 h2 u w _ x2 s2 en2 r2 p2 => by
      obtain ⟨k, e1, p3⟩ := Pst.orBad p2
      refine ⟨m2, h2, v, u, k, s2, r.ext s1 x2, r2, e1, k, rfl, ?_⟩
      cases k with
      | true =>
        refine rdE_step s2 en2 p3 fun m3 H3 h3 t y _ x3 s3 _ r3 p4 => ?_
        obtain ⟨k2, e2, p5⟩ := Pst.orBad p4
        exact ⟨m3, h3, u, t, k2, s3, r2.ext s2 x3, r3, e2, q_ok p5 s3 (.bl _)⟩
      | false => exact q_ok p3 s2 (.bl _)
theorem t_chn {op op2 : CmpOp} (hf : OpR X (compareOp op) (rC2 S (cmpop (copOf op)) false)) (hf2 : OpR X (compareOp op2) (rC2 S (cmpop (copOf op2)) false)) (hm : lastMarks [op, op2] [b, c] = false) (ha : PE X a (rdE S W (ev Γ ca)))
    (hb : PE X b (rdE S W (ev Γ cb))) (hc : PE X c (rdE S W (ev Γ cc))) : PT X (.Compare a [op, op2] [b, c] pos) (rdT S W (ev Γ (.chn (copOf op) (copOf op2) ca cb cc))) :=
  (pt_chain hf hf2 ha hb hc hm).imp fun σ H Q ⟨m, h, ρ, s, en, p⟩ =>
    rdE_step s en p fun m1 H1 h1 v z _ x s1 en1 r p1 => rdE_step s1 en1 p1 fun m2 H2 h2 u w _ x2 s2 en2 r2 p2 => by
      obtain ⟨k, e1, p3⟩ := Pst.orBad p2
      refine ⟨m2, h2, v, u, k, s2, r.ext s1 x2, r2, e1, k, rfl, ?_⟩
      cases k with
      | true =>
        refine rdE_step s2 en2 p3 fun m3 H3 h3 t y _ x3 s3 _ r3 p4 => ?_
        obtain ⟨k2, e2, p5⟩ := Pst.orBad p4
        obtain ⟨k', e3, q⟩ := p5 m3 H3 .refl s3
        cases e3
        exact ⟨m3, h3, u, t, k2, s3, r2.ext s2 x3, r3, e2, k2, rfl, q⟩
      | false =>
        obtain ⟨k', e3, q⟩ := p3 m2 H2 .refl s2
        cases e3
        exact ⟨false, rfl, q⟩
theorem e_ite (hc : PT X c (rdT S W (ev Γ cc))) (ha : PE X a (rdE S W (ev Γ ca))) (hb : PE X b (rdE S W (ev Γ cb))) : PE X (.IfExp c a b pos) (rdE S W (ev Γ (.ite cc ca cb))) :=
  (pe_ifExp hc ha hb).imp fun σ H Q ⟨m, h, ρ, s, en, p⟩ =>
    rdT_step s en p fun m1 H1 h1 v x s1 en1 p1 => by
      obtain ⟨k, e1, p2⟩ := Pst.orBad p1
      refine ⟨k, e1, ?_⟩
      cases k with
      | true => exact ⟨m1, h1, ρ, s1, en1, p2⟩
      | false => exact ⟨m1, h1, ρ, s1, en1, p2⟩
theorem pt_ifE {tc ta tb : TT} (hc : PT X c tc) (ha : PT X a ta) (hb : PT X b tb) : PT X (.IfExp c a b pos) (fun σ H Q => tc σ H fun k H1 => if k = true then ta σ H1 Q else tb σ H1 Q) := by
  refine ⟨fun pins s σ H Q I q => ?_⟩
  have e : PySem.isTrue (.IfExp c a b pos) X.env (eval (.IfExp c a b pos) X.env) = (PySem.isTrue c X.env (eval c X.env)).bind fun k => if k = true then PySem.isTrue a X.env (eval a X.env) else PySem.isTrue b X.env (eval b X.env) := by
    simp only [PySem.isTrue]; rfl
  rw [e]
  refine wpAny_bind (thn (hc.run pins s σ H _ I q) fun k s1 ⟨H1, I1, q1⟩ => ?_)
  cases k with
  | true => exact ha.run pins s1 σ H1 Q I1 q1
  | false => exact hb.run pins s1 σ H1 Q I1 q1
theorem t_ite (hc : PT X c (rdT S W (ev Γ cc))) (ha : PT X a (rdT S W (ev Γ ca))) (hb : PT X b (rdT S W (ev Γ cb))) : PT X (.IfExp c a b pos) (rdT S W (ev Γ (.ite cc ca cb))) :=
  (pt_ifE hc ha hb).imp fun σ H Q ⟨m, h, ρ, s, en, p⟩ =>
    rdT_step s en p fun m1 H1 h1 v x s1 en1 p1 => by
      obtain ⟨k, e1, p2⟩ := Pst.orBad p1
      refine ⟨k, e1, ?_⟩
      cases k with
      | true => exact ⟨m1, h1, ρ, s1, en1, p2⟩
      | false => exact ⟨m1, h1, ρ, s1, en1, p2⟩
theorem e_idx (hf : IxR X (rO2 S idxop)) (hi : PlainIx b) (ha : PE X a (rdE S W (ev Γ ca))) (hb : PE X b (rdE S W (ev Γ cb))) : PE X (.Subscript a b pos) (rdE S W (ev Γ (.idx ca cb))) :=
  (pe_ix hf ha hb hi).imp fun σ H Q ⟨m, h, ρ, s, en, p⟩ =>
    rdE_step s en p fun m1 H1 h1 v z _ x s1 en1 r p1 => rdE_step s1 en1 p1 fun m2 H2 h2 u w _ x2 s2 _ r2 p2 => by
      obtain ⟨k, e1, p3⟩ := Pst.orBad p2
      exact ⟨m2, h2, v, u, k, s2, r.ext s1 x2, r2, e1, fun z rz => q_ok p3 s2 rz⟩
/-- a slice's part -/
def rdO (S : Sta) (W : WX) (f : En → Hh → R Val) : TO := fun σ H Q =>
  ∃ m h ρ, Sim S m H h ∧ EnR S m H ρ σ ∧ Pst S (fun c d H' => W c d σ H') m H (f ρ h) fun v _ H' _ => ∃ o, part v = some o ∧ Q o H'
theorem o_none {o : Option Expr} (ho : o = none) : PO X o (rdO S W (ev Γ (.lit .non))) := by
  subst ho
  refine ⟨fun pins s σ H Q I ⟨m, h, ρ, s', en, p⟩ => ?_⟩
  obtain ⟨o, e, q⟩ := p m H .refl s'
  cases e
  exact po_none.run pins s σ H Q I q
theorem o_some (ha : PE X a (rdE S W (ev Γ ca))) : PO X (some a) (rdO S W (ev Γ ca)) := by
  refine ⟨fun pins s σ H Q I ⟨m, h, ρ, s', en, p⟩ => ?_⟩
  rw [evalPart_some]
  refine thn (ha.run pins s σ H (fun z H' => ∃ o, Q o H' ∧ ((z = .non ∧ o = none) ∨ ∃ i, z = .int i ∧ o = some i)) I ⟨m, h, ρ, s', en, p.mono fun v m' H' h' _ _ _ ⟨o, e, q⟩ z r => ⟨o, q, ?_⟩⟩) fun u s1 ⟨z, H1, I1, r1, o, q, hz⟩ => ?_
  · cases r with
    | non => cases e; exact .inl ⟨rfl, rfl⟩
    | int i => cases e; exact .inr ⟨i, rfl, rfl⟩
    | _ => cases e
  · rcases hz with ⟨rfl, rfl⟩ | ⟨i, rfl, rfl⟩
    · cases r1; exact ⟨none, H1, I1, .none, q⟩
    · obtain ⟨t, rfl⟩ := r1
      exact ⟨some i, H1, I1, .int i t, q⟩
theorem rdO_step {β : Type} {fa : En → Hh → R Val} {rest : Val → Hh → R β} {m : List Addr} {h : Hh} {ρ : En} {σ : L2.St} {H : Hp} {P : β → List Addr → Hp → Hh → Prop} {Qa : Option Int → Hp → Prop} (s : Sim S m H h) (e : EnR S m H ρ σ)
    (p : Pst S (fun c d H' => W c d σ H') m H ((fa ρ h).bind rest) P)
    (k : ∀ m1 H1 h1 v, Ext m H m1 H1 → Sim S m1 H1 h1 → EnR S m1 H1 ρ σ → Pst S (fun c d H' => W c d σ H') m1 H1 (rest v h1) P → ∃ b, part v = some b ∧ Qa b H1) : rdO S W fa σ H Qa :=
  ⟨m, h, ρ, s, e, p.bind.mono fun v m1 H1 h1 _ x s1 p1 => k m1 H1 h1 v x s1 (e.ext s x) p1⟩
end
end Mi

set_option maxHeartbeats 1000000
namespace Mi
open PySem PySem.Spec PyProof.Rows L2

/-! ### an object that is no cell is put out of sight -/
section
variable {S : Sta} {m m' : List Addr} {H H' : Hp} {h h' : Hh}
mutual
theorem VR.move (ht : ∀ a vs, H a = some (.tup vs) → H' a = some (.tup vs)) (hl : ∀ a vs, LK S.K H a vs → LK S.K H' a vs) (hm : ∀ (l : Nat) a, m[l]? = some a → m'[l]? = some a) : ∀ {v : Val} {y : V}, S.VR m H v y → S.VR m' H' v y
  | _, _, .non => .non
  | _, _, .bl b => .bl b
  | _, _, .int i => .int i
  | _, _, .str t => .str t
  | _, _, .tup t r => .tup (ht _ _ t) (VRs.move ht hl hm r)
  | _, _, .kl t r => .kl (hl _ _ t) (VRs.move ht hl hm r)
  | _, _, .kt t r => .kt t (VRs.move ht hl hm r)
  | _, _, .kd t => .kd t
  | _, _, .ref e => .ref (hm _ _ e)
theorem VRs.move (ht : ∀ a vs, H a = some (.tup vs) → H' a = some (.tup vs)) (hl : ∀ a vs, LK S.K H a vs → LK S.K H' a vs) (hm : ∀ (l : Nat) a, m[l]? = some a → m'[l]? = some a) : ∀ {xs : List Val} {vs : List V}, S.VRs m H xs vs → S.VRs m' H' xs vs
  | _, _, .nil => .nil
  | _, _, .cons r t => .cons (VR.move ht hl hm r) (VRs.move ht hl hm t)
end
theorem OR.move (ht : ∀ a vs, H a = some (.tup vs) → H' a = some (.tup vs)) (hl : ∀ a vs, LK S.K H a vs → LK S.K H' a vs) (hm : ∀ (l : Nat) a, m[l]? = some a → m'[l]? = some a) {a : Addr} {o : Ob} (e : H' a = H a) (r : OR S m H a o) : OR S m' H' a o := by
  have k : ∀ {fs : List (Kk × Val)} {ws : List (L2.Key × V)}, DRk S m H fs ws → DRk S m' H' fs ws := fun r => Paired.mapP r fun _ _ z => ⟨z.1, z.2.move ht hl hm⟩
  have t : ∀ {fs : List (Kk × Val)} {ws : List (List L2.Key × V)}, DRt S m H fs ws → DRt S m' H' fs ws := fun r => Paired.mapP r fun _ _ z => ⟨z.1, z.2.move ht hl hm⟩
  cases o with
  | lst xs => obtain ⟨vs, q, t⟩ := r; exact ⟨vs, e.trans q, t.move ht hl hm⟩
  | dct kvs =>
    rcases r with ⟨ws, q, z⟩ | ⟨ne, ws, q, z⟩
    · exact .inl ⟨ws, e.trans q, k z⟩
    · exact .inr ⟨ne, ws, e.trans q, t z⟩
  | kdct kvs =>
    rcases r with ⟨o, ws, q, z⟩ | ⟨ne, o, ws, q, z⟩
    · exact .inl ⟨o, ws, e.trans q, k z⟩
    · exact .inr ⟨ne, o, ws, e.trans q, t z⟩
  | ins c fs => obtain ⟨hc, dx, ws, q, z⟩ := r; exact ⟨hc, dx, ws, e.trans q, Paired.mapP z fun _ _ z => ⟨z.1, z.2.move ht hl hm⟩⟩
def del (H : Hp) (p : Addr) : Hp := fun b => if b = p then none else H b
theorem del_same {p : Addr} : del H p p = none := if_pos rfl
theorem del_ne {p b : Addr} (h : b ≠ p) : del H p b = H b := if_neg h
theorem upd_del {p : Addr} {o : HO} : upd (del H p) p o = upd H p o := by
  funext b
  by_cases e : b = p
  · subst e; rw [upd_same, upd_same]
  · rw [upd_ne e, upd_ne e, del_ne e]
/-- p holds something that no value leans on -/
def Loose (H : Hp) (p : Addr) : Prop := (∀ vs, H p ≠ some (.tup vs)) ∧ ∀ o vs, H p ≠ some (.frz o (.lst vs))
theorem Loose.ht {p : Addr} (l : Loose H p) : ∀ a vs, H a = some (.tup vs) → del H p a = some (.tup vs) := fun a vs e => by
  rw [del_ne (fun q => by subst q; exact l.1 vs e)]; exact e
theorem Loose.hl {p : Addr} (l : Loose H p) : ∀ a vs, LK S.K H a vs → LK S.K (del H p) a vs := fun a vs e => by
  rcases e with ⟨o, e⟩ | e
  · exact .inl ⟨o, by rw [del_ne (fun q => by subst q; exact l.2 o vs e)]; exact e⟩
  · exact .inr e
theorem Sim.hide (s : Sim S m H h) {p : Addr} (hp : p ∉ m) (l : Loose H p) : Sim S m (del H p) h :=
  ⟨s.len, s.nd, fun k a o e1 e2 => (s.at_ k a o e1 e2).move l.ht l.hl (fun _ _ e => e) (del_ne (fun q => hp (by rw [← q]; exact List.mem_of_getElem? e1)))⟩
/-- an object laid ahead of the steps from H to H2 becomes a cell behind them -/
theorem Ext.late {m2 : List Addr} {H2 : Hp} {p : Addr} {o u : HO} (hp : H p = none) (x : Ext m (upd H p u) m2 H2) : Ext m H (m2 ++ [p]) (upd H2 p o) := by
  obtain ⟨t, rfl, ft⟩ := x.pre
  refine ⟨⟨t ++ [p], by simp, fun b hb => ?_⟩, fun b ob hb e => ?_, fun b hb => ?_, fun b ob w e => by
    have nb : b ≠ p := ne_of_none e hp
    rw [upd_ne nb]
    exact x.lock b ob w (by rw [upd_ne nb]; exact e)⟩
  · rcases List.mem_append.mp hb with q | q
    · have := ft b q
      by_cases e : b = p
      · rw [e]; exact hp
      · rw [upd_ne e] at this; exact this
    · rw [List.mem_singleton.mp q]; exact hp
  · have nb : b ≠ p := ne_of_none e hp
    rw [upd_ne nb]
    exact x.keep b ob hb (by rw [upd_ne nb]; exact e)
  · by_cases e : b = p
    · subst e; rw [upd_same]; simp
    · rw [upd_ne e]; exact x.there b (by rw [upd_ne e]; exact hb)
theorem Ext.notNew {m2 : List Addr} {H2 : Hp} {p : Addr} {u : HO} (s : Sim S m H h) (hp : H p = none) (x : Ext m (upd H p u) m2 H2) : p ∉ m2 := fun q => by
  obtain ⟨t, rfl, ft⟩ := x.pre
  rcases List.mem_append.mp q with q | q
  · exact s.fresh hp q
  · have := ft p q
    rw [upd_same] at this; cases this
theorem Sim.late {m2 : List Addr} {H2 : Hp} {h2 : Hh} {p : Addr} {o : HO} {b : Ob} (s2 : Sim S m2 H2 h2) (hp : p ∉ m2) (l : Loose H2 p) (r : OR S (m2 ++ [p]) (upd H2 p o) p b) : Sim S (m2 ++ [p]) (upd H2 p o) (h2 ++ [b]) := by
  have := (s2.hide hp l).newCell (o := o) (b := b) del_same (by rw [upd_del]; exact r)
  rwa [upd_del] at this
theorem VR.late {m2 : List Addr} {H2 : Hp} {p : Addr} {o : HO} {v : Val} {y : V} (l : Loose H2 p) (r : S.VR m2 H2 v y) : S.VR (m2 ++ [p]) (upd H2 p o) v y :=
  r.move (fun a vs e => by rw [upd_ne (fun q => by subst q; exact l.1 vs e)]; exact e) (fun a vs e => by
    rcases e with ⟨ob, e⟩ | e
    · exact .inl ⟨ob, by rw [upd_ne (fun q => by subst q; exact l.2 ob vs e)]; exact e⟩
    · exact .inr e) (fun k a e => by rw [List.getElem?_append_left (List.getElem?_eq_some_iff.mp e).1, e])
theorem VRs.late {m2 : List Addr} {H2 : Hp} {p : Addr} {o : HO} (l : Loose H2 p) : ∀ {xs : List Val} {ys : List V}, S.VRs m2 H2 xs ys → S.VRs (m2 ++ [p]) (upd H2 p o) xs ys
  | _, _, .nil => .nil
  | _, _, .cons r t => .cons (VR.late l r) (VRs.late l t)
end

section
variable {S : Sta} {W : WX} {X : Cx} {Γ : Cxt} {a b c e o : Expr} {es : List Expr} {ca cb cc co ces : Ex} {pos : Pos}
theorem e_slc {lo hi : Option Expr} {cl ch : Ex} {p2 : Pos} (hf : SlR X (rSlM S)) (ha : PE X a (rdE S W (ev Γ ca))) (hl : PO X lo (rdO S W (ev Γ cl))) (hh : PO X hi (rdO S W (ev Γ ch))) :
    PE X (.Subscript a (.Slice lo hi none p2) pos) (rdE S W (ev Γ (.slc ca cl ch))) :=
  (pe_slice hf ha hl hh).imp fun σ H Q ⟨m, h, ρ, s, en, p⟩ =>
    rdE_step s en p fun m1 H1 h1 v z _ x s1 en1 r p1 => rdO_step s1 en1 p1 fun m2 H2 h2 l x2 s2 en2 p2 => by
      obtain ⟨lo', e1, p3⟩ := Pst.orBad p2
      refine ⟨lo', e1, rdO_step s2 en2 p3 fun m3 H3 h3 u x3 s3 en3 p4 => ?_⟩
      obtain ⟨hi', e2, p5⟩ := Pst.orBad p4
      exact ⟨hi', e2, _, m3, h3, v, s3, (r.ext s1 x2).ext s2 x3, p5⟩
theorem e_rev {k : Nat} {p1 p2 p3 : Pos} (hK : X.K = S.K) (ha : PE X a (rdE S W (ev Γ ca))) : PE X (.Subscript a (.Slice none none (some (.UnaryOp .USub (.Constant (.int 1) k p1) p2)) p3) pos) (rdE S W (ev Γ (.rev ca))) :=
  (pe_revL ha).imp fun σ H Q ⟨m, h, ρ, s, en, p⟩ =>
    rdE_step s en p fun m1 H1 h1 v z _ x s1 en1 r p1 => by
      cases r with
      | @ref l q em =>
        obtain ⟨xs, e1, p2⟩ := Pst.orBad p1
        obtain ⟨vs, h2, r2⟩ := lstOf_of s1 em e1
        exact ⟨q, vs, rfl, .of h2, q_new p2 s1 r2.reverse⟩
      | _ => exact p1.elim
/-! ### arguments, displays -/
def exLen : Ex → Nat
  | .cons _ es => exLen es + 1
  | _ => 0
theorem evs_len : ∀ {ces : Ex} {ρ : En} {h h' : Hh} {vs : List Val}, evs Γ ces ρ h = .ok vs h' → vs.length = exLen ces
  | .nil, _, _, _, _, e => by cases e; rfl
  | .cons c cs, ρ, h, h', vs, e => by
    simp only [evs] at e
    cases q : ev Γ c ρ h with
    | ok v h1 =>
      rw [q] at e
      simp only [R.bind_ok] at e
      cases q2 : evs Γ cs ρ h1 with
      | ok ws h2 =>
        rw [q2] at e
        cases e
        simp only [List.length_cons, exLen]
        rw [evs_len q2]
      | exc _ _ => rw [q2] at e; cases e
      | bad => rw [q2] at e; cases e
    | exc _ _ => rw [q] at e; cases e
    | bad => rw [q] at e; cases e
  | .lit _, _, _, _, _, e => by simp only [evs] at e; cases e
  | .loc _, _, _, _, _, e => by simp only [evs] at e; cases e
  | .glb _, _, _, _, _, e => by simp only [evs] at e; cases e
  | .tup _, _, _, _, _, e => by simp only [evs] at e; cases e
  | .lst _, _, _, _, _, e => by simp only [evs] at e; cases e
  | .dct _, _, _, _, _, e => by simp only [evs] at e; cases e
  | .kv _ _ _, _, _, _, _, e => by simp only [evs] at e; cases e
  | .bin _ _ _, _, _, _, _, e => by simp only [evs] at e; cases e
  | .neg _, _, _, _, _, e => by simp only [evs] at e; cases e
  | .not _, _, _, _, _, e => by simp only [evs] at e; cases e
  | .and _ _, _, _, _, _, e => by simp only [evs] at e; cases e
  | .or _ _, _, _, _, _, e => by simp only [evs] at e; cases e
  | .cmp _ _ _, _, _, _, _, e => by simp only [evs] at e; cases e
  | .chn _ _ _ _ _, _, _, _, _, e => by simp only [evs] at e; cases e
  | .ite _ _ _, _, _, _, _, e => by simp only [evs] at e; cases e
  | .idx _ _, _, _, _, _, e => by simp only [evs] at e; cases e
  | .slc _ _ _, _, _, _, _, e => by simp only [evs] at e; cases e
  | .rev _, _, _, _, _, e => by simp only [evs] at e; cases e
  | .fld _ _, _, _, _, _, e => by simp only [evs] at e; cases e
  | .call _ _, _, _, _, _, e => by simp only [evs] at e; cases e
  | .mth _ _ _, _, _, _, _, e => by simp only [evs] at e; cases e
  | .mk _ _, _, _, _, _, e => by simp only [evs] at e; cases e
  | .bif _ _, _, _, _, _, e => by simp only [evs] at e; cases e
  | .bmt _ _ _, _, _, _, _, e => by simp only [evs] at e; cases e
  | .isi _ _, _, _, _, _, e => by simp only [evs] at e; cases e
  | .cmpr _ _ _, _, _, _, _, e => by simp only [evs] at e; cases e
  | .lck _ _, _, _, _, _, e => by simp only [evs] at e; cases e
  | .itm _, _, _, _, _, e => by simp only [evs] at e; cases e
  | .gen _ _ _ _, _, _, _, _, e => by simp only [evs] at e; cases e
  | .itr _, _, _, _, _, e => by simp only [evs] at e; cases e
  | .enu _, _, _, _, _, e => by simp only [evs] at e; cases e
  | .rng _ _, _, _, _, _, e => by simp only [evs] at e; cases e
theorem a_nil : PA X [] (rdA S W (evs Γ .nil)) :=
  pa_nil.imp fun σ H Q ⟨m, h, ρ, s, en, p⟩ => p m H .refl s [] .nil
theorem a_cons (hs : starEach (e :: es) X.env = (false, eval e X.env) :: starEach es X.env) (he : PE X e (rdE S W (ev Γ cc))) (hr : PA X es (rdA S W (evs Γ ces))) : PA X (e :: es) (rdA S W (evs Γ (.cons cc ces))) :=
  (pa_cons he hr hs).imp fun σ H Q ⟨m, h, ρ, s, en, p⟩ =>
    rdE_step (rest := fun v h => (evs Γ ces ρ h).bind fun vs h => R.ok (v :: vs) h) s en p fun m1 H1 h1 v z _ x s1 en1 r p1 => rdA_step s1 en1 p1 fun m2 H2 h2 vs zs _ x2 s2 _ rs p2 => p2 m2 H2 .refl s2 _ (.cons (r.ext s1 x2) rs)
theorem e_tup {k : Nat} (hn : exLen ces ≤ 1000) (ha : PA X es (rdA S W (evs Γ ces))) : PE X (.Tuple es k pos) (rdE S W (ev Γ (.tup ces))) :=
  (pe_tup ha).imp fun σ H Q ⟨m, h, ρ, s, en, p⟩ =>
    rdA_step s en p fun m1 H1 h1 vs zs q x s1 en1 r p1 => ⟨by rw [← r.length, evs_len q]; exact Nat.le_trans hn (by decide), q_tup p1 s1 r⟩
theorem e_lst (hn : exLen ces ≤ 1000) (ha : PA X es (rdA S W (evs Γ ces))) : PE X (.List es pos) (rdE S W (ev Γ (.lst ces))) :=
  (pe_lst ha).imp fun σ H Q ⟨m, h, ρ, s, en, p⟩ =>
    rdA_step s en p fun m1 H1 h1 vs zs q x s1 en1 r p1 => ⟨by rw [← r.length, evs_len q]; exact Nat.le_trans hn (by decide), q_new p1 s1 r⟩

/-! ### fields, calls -/
theorem insOf_of {m : List Addr} {H : Hp} {h : Hh} {v : Val} {z : V} {p : Nat × Str × List (Str × Val)} (s : Sim S m H h) (r : S.VR m H v z) (e : insOf h v = some p) :
    ∃ q dx ws, v = .ref p.1 ∧ z = .ref q ∧ m[p.1]? = some q ∧ p.2.1 ∈ S.cs ∧ H q = some (.ins (S.C p.2.1) dx ws) ∧ FR S m H p.2.2 ws := by
  cases r with
  | @ref l a em =>
    simp only [insOf] at e
    split at e
    · rename_i c fs eo
      cases e
      obtain ⟨hc, dx, ws, e1, e2⟩ := s.at_ l a _ em eo
      exact ⟨a, dx, ws, rfl, rfl, em, hc, e1, e2⟩
    · cases e
  | _ => cases e
theorem FR.look {m : List Addr} {H : Hp} (f : Str) : ∀ {fs : List (Str × Val)} {ws : List (Str × V)}, FR S m H fs ws → (∃ v z, fs.lookup f = some v ∧ ws.lookup f = some z ∧ S.VR m H v z) ∨ (fs.lookup f = none ∧ ws.lookup f = none)
  | _, _, .nil => .inr ⟨rfl, rfl⟩
  | (p :: fs), (q :: ws), .cons z t => by
    obtain ⟨pn, pv⟩ := p
    obtain ⟨qn, qv⟩ := q
    have e : pn = qn := z.1
    subst e
    simp only [List.lookup_cons]
    by_cases h : (f == pn) = true
    · rw [h]; exact .inl ⟨pv, qv, rfl, rfl, z.2⟩
    · rw [Bool.not_eq_true] at h
      rw [h]; exact FR.look f t
theorem e_fld {f : Str} (hb : attributeBase a f X.env (eval a X.env) = eval a X.env) (hc : ∀ c ∈ S.cs, Cls X.K (S.C c)) (hn : ∀ c, Γ.fl c f = true → NoAttr X.K (S.C c) f) (ha : PE X a (rdE S W (ev Γ ca))) : PE X (.Attribute a f pos) (rdE S W (ev Γ (.fld ca f))) :=
  (pe_fld ha hb).imp fun σ H Q ⟨m, h, ρ, s, en, p⟩ =>
    rdE_step s en p fun m1 H1 h1 v z _ x s1 en1 r p1 => by
      obtain ⟨pp, e1, p2⟩ := Pst.orBad p1
      obtain ⟨c1, p3⟩ := Pst.okIf p2
      obtain ⟨u, e2, p4⟩ := Pst.orBad p3
      obtain ⟨q, dx, ws, rfl, rfl, em, hcs, e3, fr⟩ := insOf_of s1 r e1
      rcases fr.look f with ⟨v', z', h2, h3, rz⟩ | ⟨h2, _⟩
      · rw [e2] at h2; cases h2
        exact ⟨q, _, dx, ws, z', rfl, e3, hc _ hcs, hn _ c1, h3, q_ok p4 s1 rz⟩
      · rw [e2] at h2; cases h2
end
end Mi

set_option maxHeartbeats 1000000
namespace Mi
open PySem PySem.Spec PyProof.Rows L2

theorem star_map {env : Env} : ∀ {es : List Expr}, (∀ e ∈ es, okE e = true) → starEach es env = es.map fun e => (false, eval e env)
  | [], _ => rfl
  | e :: es, h => by
    rw [ok_star (h e (by simp)), star_map fun x hx => h x (by simp [hx])]; rfl
theorem star_none {env : Env} {pos : Pos} {es : List Expr} (h : ∀ e ∈ es, okE e = true) : (backTo pos (starEach es env)).any (·.1) = false := by
  rw [star_map h]
  unfold backTo
  induction es with
  | nil => rfl
  | cons e es ih => simp only [List.map_cons, List.any_cons, Bool.false_or]; exact ih fun x hx => h x (by simp [hx])
theorem form_ok {env : Env} {pos : Pos} {es : List Expr} (h : ∀ e ∈ es, okE e = true) (hn : es.length < 30) : ((backTo pos (starEach es env)).all (fun x => !x.1) && (backToKw pos (keywordEach [] env)).all (fun x => x.1.isSome)
      && decide (es.length + ([] : List Keyword).length + (if ([] : List Keyword).isEmpty then 0 else 1) < 30)) = true := by
  have h1 : (backTo pos (starEach es env)).all (fun x => !x.1) = true := by
    have := star_none (env := env) (pos := pos) h
    rw [List.any_eq_false] at this
    rw [List.all_eq_true]
    intro x hx
    simpa using this x hx
  rw [h1]
  simpa [backToKw, keywordEach] using hn
section
variable {S : Sta} {W : WX} {X : Cx} {Γ : Cxt} {a b c e o : Expr} {es : List Expr} {ca cb cc co ces : Ex} {pos apos p : Pos}
/-- the callee runs -/
theorem run_M {pins : List (Addr × Obj)} {σ : L2.St} {H : Hp} {s : Shared} {Q : VK} {E : XK} {us : List Value} {zs : List V} {k : Nat} {f : Addr} {fd : FuncData} {ps : List Str} {sp : Sp} (F : FnG X.prog X.w X.K X.mg X.base k f fd ps sp) (hr : Room k X.A) (hg : X.A.guards = some [])
    (hb : Binds X.K fd ps []) (tk : Takes X W) (hE : ∀ c d H', E c d H' → W c d σ H') (I : Inv X pins σ H s) (r : Vals zs us) (q : sp zs H Q E) : wpAny (model X.prog X.w) X.A (call (.ref f) us) (EP X pins σ Q) X.xe s := by
  have hl : (us ++ []).length = ps.length := by rw [List.append_nil, ← r.length]; exact F.len _ _ _ _ q
  have bt := hb s us I.kIn hl
  rw [List.append_nil] at bt
  refine wpAny_call (codeAny_mono (F.run X.A X.stack s H ⟨us, []⟩ us zs Q E hr hg I.env0 bt r q) fun fl s' h => ?_)
  match fl, h with
  | .error u, h => exact tk _ _ (XE.of_call I hE h)
  | .ok (.ret u), h => exact I.after h
theorem run_mkM {pins : List (Addr × Obj)} {σ : L2.St} {H : Hp} {s : Shared} {Q : VK} {E : XK} {us : List Value} {zs : List V} {k : Nat} {f C : Addr} {fd : FuncData} {ps : List Str} {sp : Sp} (M : Mk X.K C f) (F : FnG X.prog X.w X.K X.mg X.base k f fd ps sp) (hr : Room (k + 1) X.A)
    (hg : X.A.guards = some []) (hb : Binds X.K fd ps []) (tk : Takes X W) (hE : ∀ c d H', E c d H' → W c d σ H') (I : Inv X pins σ H s) (r : Vals zs us)
    (q : ∀ x dx, H x = none → H dx = none → dx ≠ x → sp (.ref x :: zs) (upd (upd H dx (.own x)) x (.ins C dx [])) (fun v H2 => v = .non ∧ Q (.ref x) H2) E) :
    wpAny (model X.prog X.w) X.A (call (.ref C) us) (EP X pins σ Q) X.xe s := by
  have q1 := q (s.heap.objs.size + 1) s.heap.objs.size (I.hok.fresh (Nat.le_succ _)) (I.hok.fresh (Nat.le_refl _)) (Nat.ne_of_lt (Nat.lt_succ_self _))
  have J := Inv.made (C := C) I
  have r2 : Vals (V.ref (s.heap.objs.size + 1) :: zs) (Value.ref (s.heap.objs.size + 1) :: us) := .cons rfl r
  have hl : ((Value.ref (s.heap.objs.size + 1) :: us) ++ []).length = ps.length := by
    rw [List.append_nil, ← r2.length]; exact F.len _ _ _ _ q1
  have bt := hb _ (Value.ref (s.heap.objs.size + 1) :: us) J.kIn hl
  rw [List.append_nil] at bt
  have hg2 : (X.A.under (.builtin "type.__call__" ⟨.ref C :: us, []⟩)).guards = some [] := by
    have : (Code.builtin "type.__call__" ⟨.ref C :: us, []⟩).guards = [] := by
      unfold Code.guards
      have : (Code.builtin "type.__call__" ⟨.ref C :: us, []⟩).isGuard = false := by
        simp [Code.isGuard, guardIds]
      rw [this]; rfl
    unfold Around.under
    simp [hg, this, pushGuards]
  refine wpAny_call (make_map (f := f) I.kIn M.makes M.init (beq_iff_eq.mp M.fn) (codeAny_mono (F.run _ X.stack _ _ ⟨Value.ref (s.heap.objs.size + 1) :: us, []⟩ _ _ _ E (hr.make C us []) hg2 (J.env0.make C us []) bt r2 q1) fun fl s' h => ?_))
  match fl, h with
  | .error u, h => exact tk _ _ (XE.of_call J hE h)
  | .ok (.ret u), h =>
    obtain ⟨v, H', J2, rv, ev, q3⟩ := J.after h
    subst ev
    exact ⟨rv, ⟨V.ref (s.heap.objs.size + 1), H', J2, rfl, q3⟩⟩
/-- f(..), by what the call asks -/
theorem e_callR {x : Str} {f : Addr} {r : List V → Hp → L2.St → VK → Prop} (hgl : Gl X x) (hm : X.mg x = some (.ref f)) (hk : PySem.W.keepIn X.K (.ref f) = true) (hd : (x == ("__debug__" : Str)) = false) (hes : ∀ e ∈ es, okE e = true) (hn : es = [] → ces = .nil)
    (ha : PA X es (rdA S W (evs Γ ces))) (hr : ∀ pins s σ H us zs Q, Inv X pins σ H s → Vals zs us → r zs H σ Q → wpAny (model X.prog X.w) X.A (call (.ref f) us) (EP X pins σ Q) X.xe s) :
    PE X (.Call (.Name x p) es [] pos) (fun σ H Q => rdA S W (evs Γ ces) σ H fun zs H1 => r zs H1 σ Q) := by
  refine ⟨fun pins s σ H Q I h => wpAny_Call_Name_kw (ld_glob I hgl hm ?_ hd)⟩
  cases es with
  | nil =>
    obtain ⟨m, h', ρ, s', en, p⟩ := h
    rw [hn rfl] at p
    exact PySem.W.callWith_K0 I.kIn hk (hr _ _ _ _ _ _ _ I .nil (p m H .refl s' [] .nil))
  | cons e es =>
    exact PySem.W.callWith_K (h₀ := X.base) I.ok.mod.kin hk (thn (ha.run pos pins s σ H _ I h) fun us s1 ⟨zs, H1, I1, rz, q⟩ => ⟨I1.kIn, hr _ _ _ _ _ _ _ I1 rz q⟩)
      (ok_star (hes e (by simp)) es) (star_none fun y hy => hes y (by simp [hy]))
/-- o.m(..) of an instance, by what the call asks -/
theorem e_mthR {ι : Type} {x : Str} {r : ι → V → List V → Hp → L2.St → VK → Prop} {R : ι → V → Hp → Prop} (hb : attributeBase o x X.env (eval o X.env) = eval o X.env) (hline : (apos.endLine == pos.line) = true) (hfew : es.length < 30) (hes : ∀ e ∈ es, okE e = true) (hn : es = [] → ces = .nil)
    (ho : PE X o (rdE S W (ev Γ co))) (ha : PA X es (rdA S W (evs Γ ces)))
    (hr : ∀ i a H, R i (.ref a) H → ∃ C dx fs f, H a = some (.ins C dx fs) ∧ Cls X.K C ∧ Meth X.K C x f ∧ fs.lookup x = none ∧ ∀ pins s σ H us zs Q, Inv X pins σ H s → Vals zs us → r i (.ref a) zs H σ Q → wpAny (model X.prog X.w) X.A (call (.ref f) (.ref a :: us)) (EP X pins σ Q) X.xe s) :
    PE X (.Call (.Attribute o x apos) es [] pos) (fun σ H Q => rdE S W (ev Γ co) σ H fun z H1 => ∃ i a, z = .ref a ∧ R i z H1 ∧ rdA S W (evs Γ ces) σ H1 fun zs H2 => r i z zs H2 σ Q) := by
  have fm := form_ok (env := X.env) (pos := pos) hes hfew
  have he : eval (.Call (.Attribute o x apos) es [] pos) X.env = (do
      let ov ← eval o X.env
      standAt apos.atName
      let (f, first) ← holding [ov] (getMethod ov x (do return (← importBound o X.env).getD true))
      callWith pos f first (backTo pos (starEach es X.env)) (backToKw pos (keywordEach [] X.env))) := by
    rw [arm_eval_Call, hb]
    have fm' : methodCallForm (es.length + ([] : List Keyword).length) (backTo pos (starEach es X.env)) (backToKw pos (keywordEach [] X.env)) = true := fm
    simp only [methodCall, calleeOf, methodCallPos, fm', hline]
    rfl
  refine ⟨fun pins s σ H Q I h => PySem.W.methodCall_KW (thn (ho.run pins s σ H _ I h) fun u s1 ⟨z, H1, I1, rz, i, a, ez, hR, q⟩ => ?_) he⟩
  subst ez
  obtain rfl : u = Value.ref a := rz
  obtain ⟨C, dx, fs, f, e1, cl, mt, l, run⟩ := hr i a H1 hR
  refine getmeth_ok I1 e1 cl mt l ?_
  cases es with
  | nil =>
    obtain ⟨m, h', ρ, s', en, p⟩ := q
    rw [hn rfl] at p
    exact PySem.W.callWith_K0 (first := [.ref a]) I1.kIn mt.kp (run _ _ _ _ _ _ _ I1 .nil (p m H1 .refl s' [] .nil))
  | cons e es =>
    exact PySem.W.callWith_K (first := [.ref a]) (h₀ := X.base) I.ok.mod.kin mt.kp (thn (ha.run pos pins s1 σ H1 _ I1 q) fun us s2 ⟨zs, H2, I2, rz2, q2⟩ => ⟨I2.kIn, run _ _ _ _ _ _ _ I2 rz2 q2⟩)
      (ok_star (hes e (by simp)) es) (star_none fun y hy => hes y (by simp [hy]))
end
end Mi

set_option maxHeartbeats 1000000
namespace Mi
open PySem PySem.Spec PyProof.Rows L2

/-- what the language takes of the program's table -/
def Prg.Γ (G : Prg) (n : Nat) : Cxt := ⟨callF G n, G.gl, whileMost, fun c f => G.fl.contains (c, f), fun c m => (G.fns.lookup (.mt c m)).isSome⟩
/-- where one stands: in a def's body, or a comprehension's block -/
structure XOk (S : Sta) (I : Inf) (G : Prg) (n : Nat) (N : List Str) (sc : Scope) (W : WX) (X : Cx) : Prop where
  wld : Wld S I G n X.prog X.w X.K X.mg X.base
  hN : X.N = N
  scp : ∀ y, (sc.names.lookup y = some .cell ∨ sc.names.lookup y = some .free) → X.env.scope.names.lookup y = some .cell ∨ X.env.scope.names.lookup y = some .free
  nd : N.Nodup
  calm : X.calm = true
  tk : Takes X W
  room : Room n X.A
  grd : X.A.guards = some []
  vis : ∀ x, Sc.isLoc sc.names x = true → Vis X.env.scope x
  sto : ∀ x, Sc.isSto sc.names x = true → Loc X.env.scope x ∧ (X.fn x = true ∨ X.env.scope.names.lookup x = some .local)
  gl : ∀ x, Sc.isGl sc.names x = true → Gl X x
section
variable {S : Sta} {I : Inf} {G : Prg} {n : Nat} {N : List Str} {sc : Scope} {W : WX} {X : Cx} {a b c e o : Expr} {es : List Expr} {ca cb cc co ces : Ex} {pos apos p : Pos}
theorem XOk.units (k : XOk S I G n N sc W X) : X.A.units + 65 < cLine := by have := k.room.un; omega
theorem plain_dbg {x : Str} (h : plainName x = true) : (x == ("__debug__" : Str)) = false ∧ (x == ("__classdict__" : Str)) = false ∧ x ≠ "__name__" := by
  simp only [plainName, Bool.and_eq_true, decide_eq_true_eq] at h
  exact ⟨beq_eq_false_iff_ne.mpr h.1.1, beq_eq_false_iff_ne.mpr h.1.2, h.2⟩
theorem e_name (k : XOk S I G n N sc W X) {x : Str} (h : cName I N sc.names x = some ca) : PE X (.Name x pos) (rdE S W (ev (G.Γ n) ca)) := by
  simp only [cName] at h
  split at h
  · rename_i hp
    obtain ⟨h1, h2, h3⟩ := plain_dbg hp
    split at h
    · rename_i hl
      simp only [Option.map_eq_some_iff] at h
      obtain ⟨i, e1, rfl⟩ := h
      exact e_loc (pe_var (by rw [k.hN]; exact posOf_at e1) (k.vis x hl) h1 h2)
    · split at h
      · rename_i hg
        cases h
        have hg := (Bool.and_eq_true_iff.mp hg)
        have hg1 : Sc.isGl sc.names x = true := by simpa using hg.1
        refine e_glb fun v g => ?_
        obtain ⟨z, u, e1, e2, e3⟩ := k.wld.glv x v g
        exact ⟨z, pe_glob (k.gl x hg1) e1 e2 h1, e3⟩
      · cases h
  · cases h
theorem e_call (k : XOk S I G n N sc W X) {x : Str} (hp : plainName x = true) (hgl : Sc.isGl sc.names x = true) (hin : ∃ f, G.fns.lookup (.fn x) = some f) (hes : ∀ e ∈ es, okE e = true) (hn : es = [] → ces = .nil) (ha : PA X es (rdA S W (evs (G.Γ n) ces))) :
    PE X (.Call (.Name x p) es [] pos) (rdE S W (ev (G.Γ n) (.call x ces))) := by
  obtain ⟨f, hf⟩ := hin
  obtain ⟨q, fd, ps, ⟨st1, st2⟩, hb, F⟩ := k.wld.fns n (Nat.le_refl _) _ _ hf
  refine (e_callR (r := fun zs H σ Q => ∃ m h vs, Sim S m H h ∧ S.VRs m H vs zs ∧ Pst S (fun c d H' => W c d σ H') m H (callF G n (.fn x) vs h) (QV S Q)) (k.gl x hgl) st1 st2 (plain_dbg hp).1 hes hn ha ?_).imp ?_
  · rintro pins s σ H us zs Q J r ⟨m, h, vs, s1, r1, p⟩
    exact run_M F k.room k.grd hb k.tk (fun _ _ _ z => z) J r ⟨m, h, vs, s1, r1, p⟩
  · rintro σ H Q ⟨m, h, ρ, s, en, p⟩
    exact rdA_step s en p fun m1 H1 h1 vs zs _ x s1 en1 r p1 => ⟨m1, h1, vs, s1, r, p1⟩
theorem e_mk (k : XOk S I G n N sc W X) {x : Str} (hp : plainName x = true) (hgl : Sc.isGl sc.names x = true) (hin : x ∈ G.cls) (hinit : ∀ f, G.fns.lookup (.mt x "__init__") = some f → True) (hes : ∀ e ∈ es, okE e = true) (hn : es = [] → ces = .nil) (ha : PA X es (rdA S W (evs (G.Γ n) ces))) :
    PE X (.Call (.Name x p) es [] pos) (rdE S W (ev (G.Γ n) (.mk x ces))) := by
  obtain ⟨hcs, st1, st2, st3⟩ := k.wld.mks x hin
  refine (e_callR (r := fun zs H σ Q => ∃ m h vs, Sim S m H h ∧ S.VRs m H vs zs ∧ Pst S (fun c d H' => W c d σ H') m H (callF G n (.mk x) vs h) (QV S Q)) (k.gl x hgl) st1 st3 (plain_dbg hp).1 hes hn ha ?_).imp ?_
  · rintro pins s σ H us zs Q J r ⟨m, h, vs, s1, r1, p⟩
    cases n with
    | zero => exact p.elim
    | succ n =>
      obtain ⟨_, p1⟩ := Pst.okIf p
      cases hf : G.fns.lookup (.mt x "__init__") with
      | none =>
        exfalso
        cases n with
        | zero => exact p1
        | succ n =>
          have e0 : callF G (n + 1) (.mt x "__init__") (.ref h.length :: vs) (h ++ [.ins x []]) = .bad := by
            simp only [callF, hf, orBad_none]
          rw [e0] at p1
          exact p1
      | some f =>
        obtain ⟨q, fd, ps, st, hb, F⟩ := k.wld.fns n (Nat.le_succ _) _ _ hf
        have st : Meth X.K (S.C x) "__init__" q := st
        refine run_mkM ⟨st2, st.at_, st.fn, st3⟩ F k.room k.grd hb k.tk (fun _ _ _ z => z) J r fun y dx hy hdx hne => ?_
        have x1 : Ext m H m (upd H dx (.own y)) := Ext.upd_new hdx
        have hy2 : upd H dx (.own y) y = none := by rw [upd_ne (Ne.symm hne)]; exact hy
        have s2 : Sim S m (upd H dx (.own y)) h := s1.new hdx
        have x2 := Ext.upd_cell (m := m) (o := .ins (S.C x) dx []) hy2
        have x3 := x1.trans x2
        refine ⟨m ++ [y], h ++ [.ins x []], .ref h.length :: vs, s2.newCell (b := .ins x []) hy2 ⟨hcs, dx, [], upd_same, .nil⟩, .cons (.ref (by rw [← s1.len]; simp)) (r1.ext s1 x3), ?_⟩
        refine (p1.bind.ext x3).mono fun v m1 H1 h1 _ x4 s4 p4 z rz => ?_
        cases rz with
        | non => exact ⟨rfl, q_ok p4 s4 (.ref (x4.get (by rw [← s1.len]; simp)))⟩
        | _ => exact p4.elim
  · rintro σ H Q ⟨m, h, ρ, s, en, p⟩
    exact rdA_step s en p fun m1 H1 h1 vs zs _ x s1 en1 r p1 => ⟨m1, h1, vs, s1, r, p1⟩
theorem e_mth (k : XOk S I G n N sc W X) {x : Str} (hb : attributeBase o x X.env (eval o X.env) = eval o X.env) (hline : (apos.endLine == pos.line) = true) (hfew : es.length < 30) (hes : ∀ e ∈ es, okE e = true) (hn : es = [] → ces = .nil)
    (ho : PE X o (rdE S W (ev (G.Γ n) co))) (ha : PA X es (rdA S W (evs (G.Γ n) ces))) : PE X (.Call (.Attribute o x apos) es [] pos) (rdE S W (ev (G.Γ n) (.mth co x ces))) := by
  refine (e_mthR (ι := Str) (R := fun c z H => ∃ q dx ws f, z = .ref q ∧ c ∈ S.cs ∧ H q = some (.ins (S.C c) dx ws) ∧ ws.lookup x = none ∧ G.fns.lookup (.mt c x) = some f)
    (r := fun c z zs H σ Q => ∃ m h v vs, Sim S m H h ∧ S.VR m H v z ∧ S.VRs m H vs zs ∧ Pst S (fun c d H' => W c d σ H') m H (callF G n (.mt c x) (v :: vs) h) (QV S Q))
    hb hline hfew hes hn ho ha ?_).imp ?_
  · rintro c a H ⟨q, dx, ws, f, e0, hc, e1, l, hf⟩
    cases e0
    obtain ⟨g, fd, ps, st, hbd, F⟩ := k.wld.fns n (Nat.le_refl _) _ _ hf
    have st : Meth X.K (S.C c) x g := st
    refine ⟨S.C c, dx, ws, g, e1, k.wld.cls c hc, st, l, ?_⟩
    rintro pins s σ H2 us zs Q J r ⟨m, h, v, vs, s2, rv, rvs, p⟩
    exact run_M F k.room k.grd hbd k.tk (fun _ _ _ z => z) J (.cons (show L2.RelV (V.ref a) (Value.ref a) from rfl) r) ⟨m, h, v :: vs, s2, .cons rv rvs, p⟩
  · rintro σ H Q ⟨m, h, ρ, s, en, p⟩
    refine rdE_step s en p fun m1 H1 h1 v z _ xx s1 en1 r p1 => ?_
    obtain ⟨pp, e1, p2⟩ := Pst.orBad p1
    obtain ⟨q, dx, ws, rfl, rfl, em, hcs, e3, fr⟩ := insOf_of s1 r e1
    split at p2
    · rename_i hl
      obtain ⟨c1, p3⟩ := Pst.okIf p2
      have hw : ws.lookup x = none := by
        rcases fr.look x with ⟨v', z', h2, h3, rz⟩ | ⟨_, h3⟩
        · rw [hl] at h2; cases h2
        · exact h3
      obtain ⟨f, hf⟩ := Option.isSome_iff_exists.mp c1
      refine ⟨pp.2.1, q, rfl, ⟨q, dx, ws, f, rfl, hcs, e3, hw, hf⟩, rdA_step s1 en1 p3 fun m2 H2 h2 vs zs _ x2 s2 en2 r2 p4 => ⟨m2, h2, _, vs, s2, r.ext s1 x2, r2, p4⟩⟩
    · exact p2.elim
/-! ### built-ins -/
theorem bif_boot : ∀ {x : Str} {b : Bif}, bifOf x = some b → bootBuiltins x = some (bifV b) := by
  intro x b h
  unfold bifOf at h
  repeat' split at h
  all_goals first | (cases h; subst x; decide +kernel) | cases h
theorem e_bif (k : XOk S I G n N sc W X) {x : Str} {b : Bif} (hx : bifOf x = some b) (hp : plainName x = true) (hgl : Sc.isGl sc.names x = true) (hm : X.mg x = none) (hes : ∀ y ∈ e :: es, okE y = true) (ha : PA X (e :: es) (rdA S W (evs (G.Γ n) ces))) :
    PE X (.Call (.Name x p) (e :: es) [] pos) (rdE S W (ev (G.Γ n) (.bif b ces))) := by
  have hb := bif_boot hx
  have hc := call_bifM (X := X) (S := S) k.wld.hK k.calm k.grd k.units b
  obtain ⟨h1, h2, h3⟩ := plain_dbg hp
  have hs := ok_star (env := X.env) (hes e (by simp)) es
  have hpl := star_none (env := X.env) (pos := pos) (es := es) fun y hy => hes y (by simp [hy])
  have fin : ∀ {r : List V → Hp → VK → Prop}, PE X (.Call (.Name x p) (e :: es) [] pos) (tCB (rVsM S (bifop b)) (rdA S W (evs (G.Γ n) ces))) → PE X (.Call (.Name x p) (e :: es) [] pos) (rdE S W (ev (G.Γ n) (.bif b ces))) := fun hh =>
    hh.imp fun σ H Q ⟨m, h, ρ, s, en, p⟩ => rdA_step s en p fun m1 H1 h1 vs zs _ x s1 en1 r p1 => ⟨_, m1, h1, vs, s1, r, p1⟩
  cases b <;> first
    | exact fin (r := fun _ _ _ => True) (pe_callB hc (k.gl x hgl) hm hb ha h3 h1 hs hpl)
    | exact fin (r := fun _ _ _ => True) (pe_callTy hc (k.gl x hgl) hm hb ha h3 h1 hs hpl)
end
end Mi

set_option maxHeartbeats 1000000
namespace Mi
open PySem PySem.Spec PyProof.Rows L2

section
variable {S : Sta} {I : Inf} {G : Prg} {n : Nat} {N : List Str} {sc : Scope} {W : WX} {X : Cx} {Γ : Cxt} {a b c e o : Expr} {es : List Expr} {ca cb cc co ces : Ex} {pos apos p : Pos}
/-! ### methods of built-in types -/
theorem recv_lst {m : List Addr} {H : Hp} {h : Hh} {v : Val} {z : V} (s : Sim S m H h) (r : S.VR m H v z) (q : ∃ l, v = .ref l ∧ (lstOf h l).isSome = true) : tyV X.K "list" z H := by
  obtain ⟨l, rfl, e⟩ := q
  obtain ⟨xs, e⟩ := Option.isSome_iff_exists.mp e
  cases r with
  | @ref _ a em =>
    obtain ⟨vs, h1, _⟩ := lstOf_of s em e
    exact .inl ⟨rfl, vs, .of h1⟩
theorem recv_dct {m : List Addr} {H : Hp} {h : Hh} {v : Val} {z : V} (s : Sim S m H h) (r : S.VR m H v z) (q : ∃ l, v = .ref l ∧ (dctOf h l).isSome = true) : tyV X.K "dict" z H := by
  obtain ⟨l, rfl, e⟩ := q
  obtain ⟨xs, e⟩ := Option.isSome_iff_exists.mp e
  cases r with
  | @ref _ a em =>
    unfold dctOf at e
    split at e
    · rename_i kvs eo
      obtain ⟨ws, h1, _⟩ | ⟨_, ws, h1, _⟩ := s.at_ l a _ em eo
      · exact .inr (.inr (.inl ⟨rfl, .inl ⟨_, h1⟩⟩))
      · exact .inr (.inr (.inl ⟨rfl, .inr ⟨_, h1⟩⟩))
    · cases e
theorem e_bmt {bm : Bmt} {name : Str} (hK : X.K = S.K) (hu : X.A.units + 65 < cLine) (hx : bmtOf name = some bm) (hb : attributeBase o name X.env (eval o X.env) = eval o X.env) (hline : (apos.endLine == pos.line) = true) (hfew : (e :: es).length < 30) (hes : ∀ y ∈ e :: es, okE y = true)
    (ho : PE X o (rdE S W (ev Γ co))) (ha : PA X (e :: es) (rdA S W (evs Γ ces))) : PE X (.Call (.Attribute o name apos) (e :: es) [] pos) (rdE S W (ev Γ (.bmt bm co ces))) := by
  have fm := form_ok (env := X.env) (pos := pos) hes hfew
  have hs := ok_star (env := X.env) (hes e (by simp)) es
  have hpl := star_none (env := X.env) (pos := pos) (es := es) fun y hy => hes y (by simp [hy])
  have fin : ∀ {T : String}, (∀ m H h v z, Sim S m H h → S.VR m H v z → recv bm v h = true → tyV X.K T z H) → PE X (.Call (.Attribute o name apos) (e :: es) [] pos) (tBM X.K T (rVmM S (bmtop bm)) (rdE S W (ev Γ co)) (rdA S W (evs Γ ces))) →
      PE X (.Call (.Attribute o name apos) (e :: es) [] pos) (rdE S W (ev Γ (.bmt bm co ces))) := fun hT hh =>
    hh.imp fun σ H Q ⟨m, h, ρ, s, en, p⟩ => rdE_step s en p fun m1 H1 h1 v z _ x s1 en1 r p1 => by
      obtain ⟨c, p2⟩ := Pst.okIf p1
      exact ⟨hT _ _ _ _ _ s1 r c, rdA_step s1 en1 p2 fun m2 H2 h2 vs zs _ x2 s2 en2 r2 p3 => ⟨_, m2, h2, v, vs, s2, r.ext s1 x2, r2, p3⟩⟩
  unfold bmtOf at hx
  split at hx
  · rename_i en; cases hx; subst en
    refine fin (T := "list") (fun m H h v z s r q => recv_lst s r ?_) (pe_bm F.plainAttrs_list F.slot_list_append F.type_list_append mt_appendM ho ha hb fm hline hs hpl)
    cases v <;> simp only [recv] at q <;> first | exact ⟨_, rfl, q⟩ | cases q
  split at hx
  · rename_i en; cases hx; subst en
    refine fin (T := "list") (fun m H h v z s r q => recv_lst s r ?_) (pe_bm F.plainAttrs_list F.slot_list_extend F.type_list_extend mt_extendM ho ha hb fm hline hs hpl)
    cases v <;> simp only [recv] at q <;> first | exact ⟨_, rfl, q⟩ | cases q
  split at hx
  · rename_i en; cases hx; subst en
    refine fin (T := "dict") (fun m H h v z s r q => recv_dct s r ?_) (pe_bm F.plainAttrs_dict F.slot_dict_pop F.type_dict_pop mt_popM ho ha hb fm hline hs hpl)
    cases v <;> simp only [recv] at q <;> first | exact ⟨_, rfl, q⟩ | cases q
  split at hx
  · rename_i en; cases hx; subst en
    refine fin (T := "dict") (fun m H h v z s r q => recv_dct s r ?_) (pe_bm F.plainAttrs_dict F.slot_dict_get F.type_dict_get (mt_getM hu) ho ha hb fm hline hs hpl)
    cases v <;> simp only [recv] at q <;> first | exact ⟨_, rfl, q⟩ | cases q
  split at hx
  · rename_i en; cases hx; subst en
    refine fin (T := "str") (fun m H h v z s r q => ?_) (pe_bm F.plainAttrs_str F.slot_str_join F.type_str_join (mt_joinM hK) ho ha hb fm hline hs hpl)
    cases r <;> simp only [recv] at q <;> first | rfl | cases q
  · cases hx

/-! ### isinstance -/
def tyN (t : Str) : Option String := if t = "int" then some "int" else if t = "bool" then some "bool" else if t = "str" then some "str" else if t = "tuple" then some "tuple" else if t = "list" then some "list" else if t = "dict" then some "dict" else none
theorem tyN_boot : ∀ {x : Str} {T : String}, tyN x = some T → bootBuiltins x = some (.type T) := by
  intro x T h
  unfold tyN at h
  repeat' split at h
  all_goals first | (cases h; subst x; decide +kernel) | cases h
theorem isi_ty {m : List Addr} {H : Hp} {h : Hh} {v : Val} {z : V} {t : Str} {T : String} {b : Bool} (s : Sim S m H h) (r : S.VR m H v z) (hT : tyN t = some T) (e : isiop v t h = some b) : ∃ A, TyX S.K H z (.type A) ∧ kitB A T = some b := by
  have fin : ∀ {t : Str} {T : String}, tyN t = some T → kitB "NoneType" T = some false ∧ kitB "bool" T = some (decide (t = "bool" ∨ t = "int")) ∧ kitB "int" T = some (decide (t = "int")) ∧ kitB "str" T = some (decide (t = "str")) ∧
      kitB "tuple" T = some (decide (t = "tuple")) ∧ kitB "list" T = some (decide (t = "list")) ∧ kitB "dict" T = some (decide (t = "dict")) := by
    intro t T h
    unfold tyN at h
    repeat' split at h
    all_goals first | (cases h; subst t; decide +kernel) | cases h
  obtain ⟨k1, k2, k3, k4, k5, k6, k7⟩ := fin hT
  cases r with
  | non => cases e; exact ⟨_, .base .non, k1⟩
  | bl b => cases e; exact ⟨_, .base (.bl b), k2⟩
  | int i => cases e; exact ⟨_, .base (.int i), k3⟩
  | str i => cases e; exact ⟨_, .base (.str i), k4⟩
  | tup t r => cases e; exact ⟨_, .base (.tup t), k5⟩
  | kt t r =>
    cases e
    obtain ⟨o, its, n, h1, h2, _⟩ := t
    exact ⟨_, .kTuple h1 h2, k5⟩
  | kl t r =>
    cases e
    rcases t with ⟨o, h1⟩ | ⟨o, its, n, h1, h2, _⟩
    · exact ⟨_, .base (.frz h1), k6⟩
    · exact ⟨_, .kList h1 h2, k6⟩
  | kd t => cases e
  | @ref l a em =>
    simp only [isiop] at e
    split at e
    · rename_i eo
      cases e
      obtain ⟨vs, h1, _⟩ := s.at_ l a _ em eo
      exact ⟨_, .base (.lst h1), k6⟩
    · rename_i eo
      cases e
      obtain ⟨ws, h1, _⟩ | ⟨_, ws, h1, _⟩ := s.at_ l a _ em eo
      · exact ⟨_, .base (.dK h1), k7⟩
      · exact ⟨_, .base (.dT h1), k7⟩
    · cases e
theorem e_isi (hK : X.K = S.K) {t : Str} {T : String} {x : Str} {q : Pos} (hx : x = "isinstance") (hT : tyN t = some T) (hg : Gl X x) (hm : X.mg x = none) (hgt : Gl X t) (hmt : X.mg t = none) (hp : plainName t = true) (ha1 : okE a = true) (ha : PE X a (rdE S W (ev Γ ca))) :
    PE X (.Call (.Name x p) [a, .Name t q] [] pos) (rdE S W (ev Γ (.isi ca t))) := by
  subst hx
  obtain ⟨h1, h2, h3⟩ := plain_dbg hp
  have pt : PE X (.Name t q) (tC (.ty T)) := pe_bltn hgt hmt (tyN_boot hT) rfl h3 h1
  refine (pe_callB (call_isi (X := X)) hg hm (by decide +kernel) (pa_cons ha (pa_cons pt pa_nil (by rfl)) (ok_star ha1 _)) (by decide) (by decide) (ok_star ha1 _) (by rfl)).imp ?_
  rintro σ H Q ⟨m, h, ρ, s, en, p⟩
  refine rdE_step s en p fun m1 H1 h1 v z _ x s1 en1 r p1 => ?_
  obtain ⟨b, e1, p2⟩ := Pst.orBad p1
  obtain ⟨A, ty, kb⟩ := isi_ty s1 r hT e1
  exact ⟨z, .ty T, _, _, b, rfl, .ty T, by rw [hK]; exact ty, kit_ty kb, q_ok p2 s1 (.bl b)⟩

/-! ### a dict's display -/
/-- the pairs are reckoned -/
def PPsR (S : Sta) (W : WX) (X : Cx) (Γ : Cxt) (pos : Pos) (ks : List (Option Expr)) (vs : List Expr) (c : Ex) : Prop :=
  ∃ trs, PPs X pos ks vs trs ∧ ∀ σ H Q m h ρ acc, Sim S m H h → EnR S m H ρ σ → Pst S (fun c d H' => W c d σ H') m H (evd Γ c ρ acc h) (fun _ _ _ _ => True) →
    (∀ (ms : List (L2.Key × V)) (more : List (Kk × Val)) m2 H2 h2, Ext m H m2 H2 → Sim S m2 H2 h2 → DRk S m2 H2 more ms → ms.length = vs.length → evd Γ c ρ acc h = newOb (.dct (mergeD acc more)) h2 → Q (ms.map fun kv => (kV kv.1, kv.2)) H2) → tPairs trs σ H Q
theorem ppr_nil : PPsR S W X Γ pos [] [] .nil := ⟨[], pps_nil, fun σ H Q m h ρ acc s en p k => k [] [] m H h .refl s .nil rfl rfl⟩
theorem ok_of_bind {α β : Type} {r : R α} {f : α → Hh → R β} {v : α} {h : Hh} (e : r = .ok v h) : r.bind f = f v h := by rw [e]; rfl
theorem ppr_cons {k v : Expr} {ks : List (Option Expr)} {vs : List Expr} {ck cv cr : Ex} (hk : PE X k (rdE S W (ev Γ ck))) (hv : PE X v (rdE S W (ev Γ cv))) (hr : PPsR S W X Γ pos ks vs cr) : PPsR S W X Γ pos (some k :: ks) (v :: vs) (.kv ck cv cr) := by
  obtain ⟨trs, pp, hr⟩ := hr
  refine ⟨_, pps_cons hk hv pp, fun σ H Q m h ρ acc s en p hQ => ?_⟩
  refine rdE_step s en p fun m1 H1 h1 x zx e1 x1 s1 en1 rx p1 => rdE_step s1 en1 p1 fun m2 H2 h2 y zy e2 x2 s2 en2 ry p2 => ?_
  obtain ⟨kk, e3, p3⟩ := Pst.orBad p2
  obtain ⟨c, p4⟩ := Pst.okIf p3
  refine hr σ H2 _ m2 h2 ρ _ s2 en2 p4 fun ms more m3 H3 h3 x3 s3 rd hl e4 => ?_
  cases kk with
  | inl kk =>
    have hz : zx = kV kk := toKey_of (rx.ext s1 x2) e3
    subst hz
    have q := hQ ((kk, zy) :: ms) ((.inl kk, y) :: more) m3 H3 h3 ((x1.trans x2).trans x3) s3 (.cons ⟨rfl, ry.ext s2 x3⟩ rd) (by simp [hl]) ?_
    · exact q
    · have ee : evd Γ (.kv ck cv cr) ρ acc h = evd Γ cr ρ (dput acc (.inl kk) y) h2 := by
        simp only [evd]
        rw [e1, R.bind_ok, e2, R.bind_ok, e3, orBad_some]
        simp only [okIf, c, if_true]
      rw [ee, e4]; rfl
  | inr kk => cases c
theorem e_dct0 : PE X (.Dict [] [] pos) (rdE S W (ev Γ (.dct .nil))) := pe_dnewK.imp fun σ H Q ⟨m, h, ρ, s, en, p⟩ q hq =>
  p (m ++ [q]) _ (Ext.upd_cell hq) (s.newCell hq (.inl ⟨[], upd_same, .nil⟩)) _ (.ref (by rw [← s.len]; simp))
theorem e_dct {ks : List (Option Expr)} {vs : List Expr} {c : Ex} (hl : ks.length = vs.length) (hn : ks.length ≤ 15) (h0 : ks ≠ []) (ha : ks.all (·.isSome) = true) (hp : PPsR S W X Γ pos ks vs c) : PE X (.Dict ks vs pos) (rdE S W (ev Γ (.dct c))) := by
  obtain ⟨trs, pp, hr⟩ := hp
  refine (pe_disp pp ha hl h0 hn).imp ?_
  rintro σ H Q ⟨m, h, ρ, s, en, p⟩ q hq
  have x0 : Ext m H m (upd H q (.dK [])) := Ext.upd_new hq
  have p' : Pst S (fun c d H' => W c d σ H') m (upd H q (.dK [])) (evd Γ c ρ [] h) fun _ _ _ _ => True := (Pst.mono p fun _ _ _ _ _ _ _ _ => trivial).ext x0
  refine hr σ _ _ m h ρ [] (s.new hq) (en.ext s x0) p' fun ms more m2 H2 h2 x2 s2 rd hl2 e2 => ?_
  have hm : q ∉ m := s.fresh hq
  have e3 : H2 q = some (.dK []) := x2.keep q _ hm upd_same
  have hq2 : q ∉ m2 := x2.notNew s hq
  have lo : Loose H2 q := ⟨fun vs e => (by rw [e3] at e; cases e), fun o vs e => (by rw [e3] at e; cases e)⟩
  refine ⟨e3, ms, rfl, by omega, ?_⟩
  have p : Pst S (fun c d H' => W c d σ H') m H (evd Γ c ρ [] h) (QV S Q) := p
  rw [e2] at p
  have rd2 : DRk S (m2 ++ [q]) (upd H2 q (.dK (mergeK [] ms))) (mergeD [] more) (mergeK [] ms) := Paired.mapP (DRk.merge rd .nil) fun _ _ z => ⟨z.1, z.2.late lo⟩
  exact p (m2 ++ [q]) _ (Ext.late hq x2) (s2.late hq2 lo (b := .dct (mergeD [] more)) (.inl ⟨_, upd_same, rd2⟩)) _ (.ref (by rw [← s2.len]; simp))
end
/-! ### a dict that is locked, list(d.items()) -/
section
variable {S : Sta} {W : WX} {X : Cx} {Γ : Cxt} {e : Expr} {ce : Ex} {pos : Pos}
theorem key_VR {m : List Addr} {H : Hp} (k : L2.Key) : S.VR m H (keyV k) (kV k) := by
  cases k with
  | inl i => exact .int i
  | inr t => exact .str t
theorem Loose.upd_ht {H : Hp} {p : Addr} {o : HO} (l : Loose H p) : ∀ a vs, H a = some (.tup vs) → upd H p o a = some (.tup vs) := fun a vs e => by
  rw [upd_ne (fun q => by subst q; exact l.1 vs e)]; exact e
theorem Loose.upd_hl {H : Hp} {p : Addr} {o : HO} (l : Loose H p) : ∀ a vs, LK S.K H a vs → LK S.K (upd H p o) a vs := fun a vs e => by
  rcases e with ⟨ob, e⟩ | e
  · exact .inl ⟨ob, by rw [upd_ne (fun q => by subst q; exact l.2 ob vs e)]; exact e⟩
  · exact .inr e
/-- a cell is written, whatever stood there -/
theorem Sim.putL {m : List Addr} {H : Hp} {h : Hh} (s : Sim S m H h) {l : Nat} {p : Addr} {o : HO} {b : Ob} (lo : Loose H p) (hp : m[l]? = some p) (r : OR S m (upd H p o) p b) : Sim S m (upd H p o) (h.set l b) := by
  refine ⟨by simp [s.len], s.nd, fun k a c e1 e2 => ?_⟩
  by_cases hk : k = l
  · subst hk
    rw [hp] at e1; cases e1
    rw [List.getElem?_set_self (by rw [← s.len]; exact (List.getElem?_eq_some_iff.mp hp).1)] at e2
    cases e2
    exact r
  · rw [List.getElem?_set_ne (Ne.symm hk)] at e2
    have ha : a ≠ p := fun q => hk (by subst q; exact nodup_at s.nd e1 hp)
    exact (s.at_ k a c e1 e2).move lo.upd_ht lo.upd_hl (fun _ _ e => e) (upd_ne ha)
/-- the dict at a is locked while the steps from H to H2 run -/
theorem Ext.unlock {m m2 : List Addr} {H H2 : Hp} {a : Addr} {od : Obj} {u : HO} (hu : H a = some u) (nf : NoFrz H a) (ha : a ∈ m) (x : Ext m (upd H a (.frz od u)) m2 H2) : Ext m H m2 (upd H2 a u) := by
  obtain ⟨t, rfl, ft⟩ := x.pre
  refine ⟨⟨t, rfl, fun b hb => ?_⟩, fun b ob hb e => ?_, fun b hb => ?_, fun b ob w e => ?_⟩
  · have q := ft b hb
    by_cases e : b = a
    · subst e; rw [upd_same] at q; cases q
    · rw [upd_ne e] at q; exact q
  · have nb : b ≠ a := fun q => hb (by rw [q]; exact ha)
    rw [upd_ne nb]
    exact x.keep b ob hb (by rw [upd_ne nb]; exact e)
  · by_cases e : b = a
    · subst e; rw [upd_same]; simp
    · rw [upd_ne e]; exact x.there b (by rw [upd_ne e]; exact hb)
  · have nb : b ≠ a := fun q => nf ob w (by rw [← q]; exact e)
    rw [upd_ne nb]
    exact x.lock b ob w (by rw [upd_ne nb]; exact e)
theorem plOf_of {m : List Addr} {H : Hp} {h : Hh} {v : Val} {y : V} {l : Nat} {kvs : List (Kk × Val)} (s : Sim S m H h) (r : S.VR m H v y) (e : plOf h v = some (l, kvs)) : v = .ref l ∧ h[l]? = some (.dct kvs) ∧ ∃ a ws, y = .ref a ∧ m[l]? = some a ∧ H a = some (.dK ws) ∧ DRk S m H kvs ws := by
  unfold plOf at e
  split at e
  · rename_i l'
    split at e
    · rename_i ks eo
      split at e
      · rename_i pk
        cases e
        cases r with
        | @ref _ a em =>
          obtain ⟨ws, e1, e2⟩ := plain_dK s em eo pk
          exact ⟨rfl, eo, a, ws, rfl, em, e1, e2⟩
      · cases e
    · cases e
  · cases e
theorem e_lck {i : Nat} (he : PE X e (rdE S W (ev Γ ce))) : PE X e (rdE S W (ev Γ (.lck i ce))) := by
  refine (pe_lock he).imp ?_
  rintro σ H Q ⟨m, h, ρ, s, en, p⟩
  have p : Pst S (fun c d H' => W c d σ H') m H (orBad (lkOf ρ h i) fun p => (noexc (ev Γ ce ρ (h.set p.1 (.kdct p.2)))).bind fun v h => .ok v (h.set p.1 (.dct p.2))) (QV S Q) := p
  obtain ⟨⟨l, kvs⟩, e1, p⟩ := Pst.orBad p
  unfold lkOf at e1
  split at e1
  rotate_left
  · cases e1
  rename_i v ev1
  obtain ⟨z, _, rz⟩ := en.get ev1
  obtain ⟨rfl, eo, a, ws, _, em, e2, e3⟩ := plOf_of s rz e1
  have nf : NoFrz H a := nfz e2 fun o u q => by cases q
  have lo : Loose H a := ⟨fun vs q => (by rw [e2] at q; cases q), fun o vs q => (by rw [e2] at q; cases q)⟩
  have am : a ∈ m := List.mem_of_getElem? em
  refine ⟨a, _, e2, trivial, fun od => ?_⟩
  have x1 : Ext m H m (upd H a (.frz od (.dK ws))) := Ext.upd_at am nf
  have s1 : Sim S m (upd H a (.frz od (.dK ws))) (h.set l (.kdct kvs)) := s.put nf em (.inl ⟨od, ws, upd_same, e3.ext s x1⟩)
  refine ⟨m, _, ρ, s1, en.ext s x1, ?_⟩
  cases q : ev Γ ce ρ (h.set l (.kdct kvs)) with
  | bad => simp only [q] at p; exact p.elim
  | exc _ _ => simp only [q] at p; exact p.elim
  | ok v2 h2 =>
    simp only [q, noexc_ok, R.bind_ok] at p
    intro m2 H2 x2 s2 y ry
    have e4 : H2 a = some (.frz od (.dK ws)) := x2.lock a od _ upd_same
    have lo2 : Loose H2 a := ⟨fun vs q => (by rw [e4] at q; cases q), fun o vs q => (by rw [e4] at q; cases q)⟩
    have x3 : Ext m H m2 (upd H2 a (.dK ws)) := Ext.unlock e2 nf am x2
    refine ⟨e4, p m2 _ x3 (s2.putL lo2 (x2.get em) (.inl ⟨ws, upd_same, e3.ext s x3⟩)) y ?_⟩
    exact ry.move lo2.upd_ht lo2.upd_hl fun _ _ e => e
theorem itm_VRs {m : List Addr} {H H' : Hp} {p : Addr} (hk : ∀ b o, H b = some o → H' b = some o) : ∀ {kvs : List (Kk × Val)} {ws : List (L2.Key × V)} {ts : List Addr}, DRk S m H kvs ws → Paired (fun (t : Addr) (q : L2.Key × V) => H' t = some (.tup [kV q.1, q.2])) ts ws → S.VRs (m ++ [p]) H' (itmOf kvs) (ts.map V.ref)
  | _, _, _, .nil, t => by cases t; exact .nil
  | _, _, _, .cons z r, t => by
    cases t with
    | cons t1 t2 =>
      refine .cons ?_ (itm_VRs hk r t2)
      simp only [z.1]
      refine .tup t1 (.cons (key_VR _) (.cons ?_ .nil))
      refine z.2.move (fun a vs e => hk _ _ e) (fun a vs e => ?_) fun i a e => by rw [List.getElem?_append_left (List.getElem?_eq_some_iff.mp e).1, e]
      rcases e with ⟨o, e⟩ | e
      · exact .inl ⟨o, hk _ _ e⟩
      · exact .inr e
theorem e_itm {apos cpos p : Pos} {x mm : Str} (hc : X.calm = true) (hx : x = "list") (hmm : mm = "items") (hg : Gl X x) (hm : X.mg x = none) (ho : okE e = true) (hl : (apos.endLine == cpos.line) = true) (he : PE X e (rdE S W (ev Γ ce))) :
    PE X (.Call (.Name x p) [.Call (.Attribute e mm apos) [] [] cpos] [] pos) (rdE S W (ev Γ (.itm ce))) := by
  subst hx hmm
  refine (LiI.pe_listItems hc he hg hm rfl (ok_base ho _) hl (ok_star rfl _)).imp ?_
  rintro σ H Q ⟨m, h, ρ, s, en, p⟩
  refine rdE_step s en p fun m1 H1 h1 v z e1 x1 s1 en1 r p1 => ?_
  obtain ⟨⟨l, kvs⟩, e2, p2⟩ := Pst.orBad p1
  obtain ⟨rfl, eo, a, ws, rfl, em, e3, e4⟩ := plOf_of s1 r e2
  refine ⟨a, ws, rfl, e3, fun H' q ts hk hq ht hn hl2 hp => ?_⟩
  have p2 : Pst S _ m1 H1 (newOb (.lst (itmOf kvs)) h1) _ := p2
  have x2 : Ext m1 H1 (m1 ++ [q]) H' := ⟨⟨[q], rfl, fun b hb => by rw [List.mem_singleton.mp hb]; exact hq⟩, fun b o _ e => hk b o e, fun b hb => by
    cases c : H1 b with
    | none => exact absurd c hb
    | some o => rw [hk b o c]; simp, fun b o u e => hk b _ e⟩
  have lkk : ∀ a vs, LK S.K H1 a vs → LK S.K H' a vs := fun a vs e => by
    rcases e with ⟨o, e⟩ | e
    · exact .inl ⟨o, hk _ _ e⟩
    · exact .inr e
  have nm := s1.fresh hq
  have s2 : Sim S (m1 ++ [q]) H' (h1 ++ [.lst (itmOf kvs)]) := by
    refine ⟨by simp [s1.len], List.nodup_append.mpr ⟨s1.nd, by simp, fun a ha b hb => ?_⟩, fun i b c f1 f2 => ?_⟩
    · rw [List.mem_singleton.mp hb]; exact fun w => nm (w ▸ ha)
    · by_cases hi : i < m1.length
      · rw [List.getElem?_append_left hi] at f1
        rw [List.getElem?_append_left (s1.len ▸ hi)] at f2
        refine (s1.at_ i b c f1 f2).move (fun a vs e => hk _ _ e) lkk (fun j d e => by rw [List.getElem?_append_left (List.getElem?_eq_some_iff.mp e).1, e]) ?_
        obtain ⟨u, g, _⟩ := s1.cell (List.mem_of_getElem? f1)
        rw [g, hk b u g]
      · have hi' : i = m1.length := by
          have := (List.getElem?_eq_some_iff.mp f1).1
          simp at this; omega
        subst hi'
        rw [List.getElem?_append_right (Nat.le_refl _)] at f1
        rw [s1.len, List.getElem?_append_right (Nat.le_refl _)] at f2
        simp at f1 f2
        subst f1; subst f2
        exact ⟨_, hl2, itm_VRs hk e4 hp⟩
  exact p2 (m1 ++ [q]) H' x2 s2 _ (.ref (by rw [← s1.len]; simp))
end
end Mi

set_option maxHeartbeats 1000000
namespace Mi
open PySem PySem.Spec PyProof.Rows L2

/-! ### what is walked -/
def srcAt (h : Hh) : Src → Option (List Val)
  | .fix xs => some xs
  | .dyn l en => (seqOf h (.ref l)).map fun xs => if en then enumFrom 0 xs else xs
theorem enumFrom_len : ∀ (n : Nat) (xs : List Val), (enumFrom n xs).length = xs.length
  | _, [] => rfl
  | n, x :: xs => by simp [enumFrom, enumFrom_len]
theorem enumFrom_get : ∀ (n : Nat) (xs : List Val) (i : Nat), (enumFrom n xs)[i]? = (xs[i]?).map fun x => .tup [.int ((n + i : Nat) : Int), x]
  | _, [], _ => rfl
  | n, x :: xs, 0 => rfl
  | n, x :: xs, i + 1 => by
    simp only [enumFrom, List.getElem?_cons_succ, enumFrom_get]
    rw [show n + 1 + i = n + (i + 1) by omega]
/-- what is not written stands as it stood -/
structure Ext0 (m0 : List Addr) (H0 : Hp) (m : List Addr) (H : Hp) : Prop where
  tup : ∀ a vs, H0 a = some (.tup vs) → H a = some (.tup vs)
  frz : ∀ a o vs, H0 a = some (.frz o (.lst vs)) → H a = some (.frz o (.lst vs))
  get : ∀ (l : Nat) a, m0[l]? = some a → m[l]? = some a
  lock : ∀ b o u, H0 b = some (.frz o u) → H b = some (.frz o u)
theorem Ext0.of {S : Sta} {m0 m : List Addr} {H0 H : Hp} {h : Hh} (s : Sim S m0 H0 h) (x : Ext m0 H0 m H) : Ext0 m0 H0 m H := ⟨fun _ _ t => s.tup x t, fun a o vs e => by
  refine x.keep a _ (fun q => ?_) e
  obtain ⟨u, e', _, n⟩ := s.cell q
  rw [e] at e'; cases e'; exact n o vs rfl, fun _ _ e => x.get e, x.lock⟩
theorem Ext0.lk {K : PySem.W.Frag} {m0 m : List Addr} {H0 H : Hp} (x : Ext0 m0 H0 m H) (a : Addr) (vs : List V) (t : LK K H0 a vs) : LK K H a vs := by
  rcases t with ⟨o, e⟩ | t
  · exact .inl ⟨o, x.frz _ _ _ e⟩
  · exact .inr t
theorem Ext0.vrs {S : Sta} {m0 m : List Addr} {H0 H : Hp} (x : Ext0 m0 H0 m H) {xs : List Val} {vs : List V} (r : S.VRs m0 H0 xs vs) : S.VRs m H xs vs := VRs.move x.tup x.lk x.get r
/-- J hands out the items of src -/
def ItOk (S : Sta) (J : It) (src : Src) (m0 : List Addr) (H0 : Hp) : Prop :=
  ∀ m H h, Ext0 m0 H0 m H → Sim S m H h → ∀ xs, srcAt h src = some xs → ∀ i, (xs[i]? = none → J.stop i H) ∧ ∀ v, xs[i]? = some v → J.go i H ∧ ∀ x H', J.yld i H x H' → Ext m H m H' ∧ Sim S m H' h ∧ S.VR m H' v x
theorem SqL_inj {K : PySem.W.Frag} {H : Hp} {a : Addr} {xs ys : List V} (h : SqL K H a xs) (q : SqL K H a ys) : True := trivial
section
variable {S : Sta} {W : WX} {X : Cx} {Γ : Cxt} {tg e : Expr}
def rdI (S : Sta) (W : WX) (f : En → Hh → R Src) : TI := fun σ H Q =>
  ∃ m h ρ, Sim S m H h ∧ EnR S m H ρ σ ∧ Pst S (fun c d H' => W c d σ H') m H (f ρ h) fun src m' H' h' => ∀ J, ItOk S J src m' H' → Q J H'
theorem _root_.L2.PI.imp {it : Expr} {t t' : TI} (p : PI X tg it t) (i : ∀ σ H Q, t' σ H Q → t σ H Q) : PI X tg it t' := ⟨fun pins s σ H Q J q => p.run pins s σ H Q J (i σ H Q q)⟩
/-- one reading of several, by what stands there -/
theorem _root_.L2.PI.or {it : Expr} {t u v : TI} (p : PI X tg it t) (p' : PI X tg it u) (i : ∀ σ H Q, v σ H Q → t σ H Q ∨ u σ H Q) : PI X tg it v :=
  ⟨fun pins s σ H Q J q => (i σ H Q q).elim (p.run pins s σ H Q J) (p'.run pins s σ H Q J)⟩
theorem it_list {m0 : List Addr} {H0 : Hp} {a : Addr} {xs : List Val} {vs : List V} (hx : LK S.K H0 a vs) (s0 : ∃ h, Sim S m0 H0 h) (r : S.VRs m0 H0 xs vs) : ItOk S (Itl S.K a) (.fix xs) m0 H0 := by
  obtain ⟨h0, s0⟩ := s0
  intro m H h x s ys e i
  cases e
  have lk := (x.lk _ _ hx).seq
  have rs := x.vrs r
  refine ⟨fun q => ⟨vs, lk, ?_⟩, fun v q => ?_⟩
  · have := rs.none q
    exact List.getElem?_eq_none_iff.mp this
  · obtain ⟨z, e1, e2⟩ := rs.get q
    exact ⟨⟨vs, z, lk, e1⟩, fun y H' ⟨e3, e4⟩ => by
      subst e3
      have := e4 vs lk
      rw [e1] at this; cases this
      exact ⟨.refl, s, e2⟩⟩
theorem it_enumL {m0 : List Addr} {H0 : Hp} {a : Addr} {xs : List Val} {vs : List V} (hx : LK S.K H0 a vs) (s0 : ∃ h, Sim S m0 H0 h) (r : S.VRs m0 H0 xs vs) : ItOk S (Ite S.K a) (.fix (enumFrom 0 xs)) m0 H0 := by
  obtain ⟨h0, s0⟩ := s0
  intro m H h x s ys e i
  cases e
  have lk := (x.lk _ _ hx).seq
  have rs := x.vrs r
  rw [enumFrom_get]
  refine ⟨fun q => ⟨vs, lk, ?_⟩, fun v q => ?_⟩
  · have := rs.none (Option.map_eq_none_iff.mp q)
    exact List.getElem?_eq_none_iff.mp this
  · obtain ⟨w, q1, rfl⟩ := Option.map_eq_some_iff.mp q
    obtain ⟨z, e1, e2⟩ := rs.get q1
    exact ⟨⟨vs, z, lk, e1⟩, fun y H' ⟨T, z', e3, hT, e4, e5⟩ => by
      subst e3 e4
      have := e5 vs lk
      rw [e1] at this; cases this
      have x2 : Ext m H m (upd H T (.tup [.int ((i : Nat) : Int), z])) := Ext.upd_new hT
      exact ⟨x2, s.new hT, .tup upd_same (.cons (by rw [Nat.zero_add]; exact .int _) (.cons (e2.ext s x2) .nil))⟩⟩
theorem it_tup {m0 : List Addr} {H0 : Hp} {a : Addr} {xs : List Val} {vs : List V} (hx : ∀ m H, Ext0 m0 H0 m H → SqT S.K H a vs) (hu : ∀ m H, Ext0 m0 H0 m H → ∀ ws, SqT S.K H a ws → ws = vs ∨ True) (s0 : ∃ h, Sim S m0 H0 h) (r : S.VRs m0 H0 xs vs) : ItOk S (Itt S.K a) (.fix xs) m0 H0 := by
  obtain ⟨h0, s0⟩ := s0
  intro m H h x s ys e i
  cases e
  have lk := hx _ _ x
  have rs := x.vrs r
  refine ⟨fun q => ⟨vs, lk, ?_⟩, fun v q => ?_⟩
  · have := rs.none q
    exact List.getElem?_eq_none_iff.mp this
  · obtain ⟨z, e1, e2⟩ := rs.get q
    exact ⟨⟨vs, z, lk, e1⟩, fun y H' ⟨e3, e4⟩ => by
      subst e3
      have := e4 vs lk
      rw [e1] at this; cases this
      exact ⟨.refl, s, e2⟩⟩
theorem it_dyn {m0 : List Addr} {H0 : Hp} {l : Nat} {a : Addr} (em : m0[l]? = some a) : ItOk S (Itl S.K a) (.dyn l false) m0 H0 := by
  intro m H h x s ys e i
  obtain ⟨xs, e0, e1⟩ := Option.map_eq_some_iff.mp e
  subst e1
  have em := x.get _ _ em
  obtain ⟨vs, h1, rs⟩ := lstOf_of s em (show lstOf h l = some xs from e0)
  have lk : SqL S.K H a vs := .of h1
  simp only [Bool.false_eq_true, if_false]
  refine ⟨fun q => ⟨vs, lk, ?_⟩, fun v q => ?_⟩
  · have := rs.none q
    exact List.getElem?_eq_none_iff.mp this
  · obtain ⟨z, e1, e2⟩ := rs.get q
    exact ⟨⟨vs, z, lk, e1⟩, fun y H' ⟨e3, e4⟩ => by
      subst e3
      have := e4 vs lk
      rw [e1] at this; cases this
      exact ⟨.refl, s, e2⟩⟩
theorem it_dynE {m0 : List Addr} {H0 : Hp} {l : Nat} {a : Addr} (em : m0[l]? = some a) : ItOk S (Ite S.K a) (.dyn l true) m0 H0 := by
  intro m H h x s ys e i
  obtain ⟨xs, e0, e1⟩ := Option.map_eq_some_iff.mp e
  subst e1
  have em := x.get _ _ em
  obtain ⟨vs, h1, rs⟩ := lstOf_of s em (show lstOf h l = some xs from e0)
  have lk : SqL S.K H a vs := .of h1
  simp only [if_true, enumFrom_get]
  refine ⟨fun q => ⟨vs, lk, ?_⟩, fun v q => ?_⟩
  · have := rs.none (Option.map_eq_none_iff.mp q)
    exact List.getElem?_eq_none_iff.mp this
  · obtain ⟨w, q1, rfl⟩ := Option.map_eq_some_iff.mp q
    obtain ⟨z, e1, e2⟩ := rs.get q1
    exact ⟨⟨vs, z, lk, e1⟩, fun y H' ⟨T, z', e3, hT, e4, e5⟩ => by
      subst e3 e4
      have := e5 vs lk
      rw [e1] at this; cases this
      have x2 : Ext m H m (upd H T (.tup [.int ((i : Nat) : Int), z])) := Ext.upd_new hT
      exact ⟨x2, s.new hT, .tup upd_same (.cons (by rw [Nat.zero_add]; exact .int _) (.cons (e2.ext s x2) .nil))⟩⟩
theorem it_rng {m0 : List Addr} {H0 : Hp} {lo : Int} {n : Nat} : ItOk S (Itr lo n) (.fix (rangeV lo n)) m0 H0 := by
  intro m H h x s ys e i
  cases e
  have hg : (rangeV lo n)[i]? = if i < n then some (.int (lo + (i : Nat))) else none := by
    unfold rangeV
    rw [List.getElem?_map]
    by_cases hi : i < n
    · rw [if_pos hi, List.getElem?_range hi]; rfl
    · rw [if_neg hi, List.getElem?_eq_none (by simp; omega)]; rfl
  rw [hg]
  by_cases hi : i < n
  · rw [if_pos hi]
    refine ⟨fun q => (by cases q), fun v q => ?_⟩
    cases q
    exact ⟨hi, fun y H' ⟨e3, e4⟩ => by subst e3 e4; exact ⟨.refl, s, .int _⟩⟩
  · rw [if_neg hi]
    exact ⟨fun _ => Nat.le_of_not_lt hi, fun v q => (by cases q)⟩
theorem it_str {m0 : List Addr} {H0 : Hp} {t : Str} : ItOk S (Its t) (.fix (t.cps.toList.map fun c => .str ⟨#[c]⟩)) m0 H0 := by
  intro m H h x s ys e i
  cases e
  rw [List.getElem?_map, Array.getElem?_toList]
  refine ⟨fun q => Array.getElem?_eq_none_iff.mp (Option.map_eq_none_iff.mp q), fun v q => ?_⟩
  obtain ⟨c, q1, rfl⟩ := Option.map_eq_some_iff.mp q
  obtain ⟨hi, _⟩ := Array.getElem?_eq_some_iff.mp q1
  exact ⟨hi, fun y H' ⟨e3, c', e4, e5⟩ => by
    subst e3 e5
    rw [q1] at e4; cases e4
    exact ⟨.refl, s, .str _⟩⟩
theorem it_keys {m0 : List Addr} {H0 : Hp} {a : Addr} {od : Obj} {kvs : List (Kk × Val)} {ws : List (L2.Key × V)} (hx : H0 a = some (.frz od (.dK ws))) (r : DRk S m0 H0 kvs ws) : ItOk S (Itk a od ws) (.fix (kvs.map fun kv => keyVal kv.1)) m0 H0 := by
  intro m H h x s ys e i
  cases e
  have lk := x.lock _ _ _ hx
  have hl : kvs.length = ws.length := Paired.length r
  refine ⟨fun q => ⟨lk, ?_⟩, fun v q => ?_⟩
  · have := List.getElem?_eq_none_iff.mp q
    rw [List.length_map] at this; omega
  · rw [List.getElem?_map] at q
    obtain ⟨kv, q1, rfl⟩ := Option.map_eq_some_iff.mp q
    obtain ⟨w, e1, e2⟩ := LiI.paired_get r q1
    exact ⟨⟨lk, (List.getElem?_eq_some_iff.mp e1).1⟩, fun y H' ⟨e3, k, v, e4, e5⟩ => by
      subst e3 e5
      rw [e1] at e4; cases e4
      rw [e2.1]
      exact ⟨.refl, s, key_VR _⟩⟩
/-! ### the readings of what is walked -/
variable {a b : Expr} {ce ca cb : Ex} {p pos : Pos}
theorem i_itr (hK : X.K = S.K) (he : PE X e (rdE S W (ev Γ ce))) : PI X tg e (rdI S W (evi Γ (.itr ce))) := by
  refine ((((pi_list (tg := tg) he).or (pi_tup (tg := tg) he) fun σ H R q => q).or (pi_str (tg := tg) he) fun σ H R q => q).or (pi_keys (tg := tg) he) fun σ H R q => q).imp ?_
  rintro σ H R ⟨m, h, ρ, s, en, p⟩
  have p : Pst S _ m H ((ev Γ ce ρ h).bind fun x h => orBad (srcOf h x) fun s => .ok s h) _ := p
  cases q : ev Γ ce ρ h with
  | bad => rw [q] at p; exact p.elim
  | exc x h' => exact .inl (.inl (.inl ⟨m, h, ρ, s, en, by rw [q] at p ⊢; exact p⟩))
  | ok v h1 =>
    have go : ∀ {T : VK}, (∀ m1 H1 z, Ext m H m1 H1 → Sim S m1 H1 h1 → S.VR m1 H1 v z → Pst S (fun c d H' => W c d σ H') m1 H1 (orBad (srcOf h1 v) fun s => .ok s h1) (fun src m' H' h' => ∀ J, ItOk S J src m' H' → R J H') → T z H1) → rdE S W (ev Γ ce) σ H T := fun {T} k =>
      rdE_step s en p fun m1 H1 h2 v2 z e2 x s1 en1 r p1 => by
        rw [q] at e2; cases e2
        exact k m1 H1 z x s1 r p1
    cases v with
    | tup xs =>
      refine .inl (.inl (.inr (go fun m1 H1 z x s1 r p1 => ?_)))
      cases r with
      | tup t rs => exact ⟨_, rfl, ⟨_, .of t⟩, by rw [hK]; exact p1 m1 H1 .refl s1 _ (it_tup (fun m2 H2 x2 => .of (x2.tup _ _ t)) (fun _ _ _ _ _ => .inr trivial) ⟨h1, s1⟩ rs)⟩
    | kt xs =>
      refine .inl (.inl (.inr (go fun m1 H1 z x s1 r p1 => ?_)))
      cases r with
      | kt t rs => exact ⟨_, rfl, ⟨_, by rw [hK]; exact t.seq⟩, by rw [hK]; exact p1 m1 H1 .refl s1 _ (it_tup (fun m2 H2 x2 => t.seq) (fun _ _ _ _ _ => .inr trivial) ⟨h1, s1⟩ rs)⟩
    | kl xs =>
      refine .inl (.inl (.inl (go fun m1 H1 z x s1 r p1 => ?_)))
      cases r with
      | kl t rs => exact ⟨_, rfl, ⟨_, by rw [hK]; exact t.seq⟩, by rw [hK]; exact p1 m1 H1 .refl s1 _ (it_list t ⟨h1, s1⟩ rs)⟩
    | str t =>
      refine .inl (.inr (go fun m1 H1 z x s1 r p1 => ?_))
      cases r with
      | str t => exact ⟨t, rfl, p1 m1 H1 .refl s1 _ it_str⟩
    | ref l =>
      cases eo : h1[l]? with
      | none =>
        rw [q, Mi.R.bind_ok] at p
        obtain ⟨src, e1, _⟩ := Pst.orBad p
        simp only [srcOf, eo] at e1; cases e1
      | some ob =>
      cases ob with
      | lst xs =>
        refine .inl (.inl (.inl (go fun m1 H1 z x s1 r p1 => ?_)))
        cases r with
        | @ref _ a em =>
          obtain ⟨src, e1, p2⟩ := Pst.orBad p1
          simp only [srcOf, eo] at e1
          cases e1
          obtain ⟨vs, h2, rs⟩ := lstOf_of s1 em (show lstOf h1 l = some xs from by unfold lstOf; rw [eo])
          exact ⟨a, rfl, ⟨vs, .of h2⟩, by rw [hK]; exact p2 m1 H1 .refl s1 _ (it_dyn em)⟩
      | kdct kvs =>
        refine .inr (go fun m1 H1 z x s1 r p1 => ?_)
        cases r with
        | @ref _ a em =>
          obtain ⟨src, e1, p2⟩ := Pst.orBad p1
          simp only [srcOf, eo] at e1
          split at e1
          · rename_i pk
            cases e1
            rcases s1.at_ l a _ em eo with ⟨od, ws, g1, g2⟩ | ⟨ne, od, ws, g1, g2⟩
            · exact ⟨a, od, rfl, .inl ⟨ws, g1, p2 m1 H1 .refl s1 _ (it_keys g1 g2)⟩⟩
            · cases g2 with
              | nil => exact absurd rfl ne
              | cons z _ =>
                simp only [plainKeys, List.all_cons, Bool.and_eq_true] at pk
                rw [z.1] at pk
                exact absurd pk.1 (by simp)
          · cases e1
      | dct kvs =>
        rw [q, Mi.R.bind_ok] at p
        obtain ⟨src, e1, _⟩ := Pst.orBad p
        simp only [srcOf, eo] at e1; cases e1
      | ins c fs =>
        rw [q, Mi.R.bind_ok] at p
        obtain ⟨src, e1, _⟩ := Pst.orBad p
        simp only [srcOf, eo] at e1; cases e1
    | _ =>
      rw [q, Mi.R.bind_ok] at p
      obtain ⟨src, e1, _⟩ := Pst.orBad p
      cases e1
theorem i_enu (hK : X.K = S.K) {elts : List Expr} {kk : Nat} {tpos : Pos} {x : Str} (hx : x = "enumerate") (hg : Gl X x) (hm : X.mg x = none) (ho : okE e = true) (he : PE X e (rdE S W (ev Γ ce))) : PI X (.Tuple elts kk tpos) (.Call (.Name x p) [e] [] pos) (rdI S W (evi Γ (.enu ce))) := by
  subst hx
  refine (pi_enum hg hm (pa_cons he pa_nil (ok_star ho _)) (ok_star ho _)).imp ?_
  rintro σ H R ⟨m, h, ρ, s, en, p⟩
  refine rdE_step s en p fun m1 H1 h1 v z e1 x s1 en1 r p1 => ?_
  obtain ⟨src, e2, p2⟩ := Pst.orBad p1
  cases r with
  | kl t rs => cases e2; exact ⟨_, _, rfl, by rw [hK]; exact t.seq, by rw [hK]; exact p2 m1 H1 .refl s1 _ (it_enumL t ⟨h1, s1⟩ rs)⟩
  | @ref l a em =>
    simp only [enuOf] at e2
    split at e2
    · rename_i xs eo
      cases e2
      obtain ⟨vs, h2, rs⟩ := lstOf_of s1 em (show lstOf h1 l = some xs from by unfold lstOf; rw [eo])
      exact ⟨a, vs, rfl, .of h2, by rw [hK]; exact p2 m1 H1 .refl s1 _ (it_dynE em)⟩
    · cases e2
  | _ => cases e2
theorem i_rng1 {x : Str} (hx : x = "range") (hg : Gl X x) (hm : X.mg x = none) (ho : okE a = true) (ha : PE X a (rdE S W (ev Γ ca))) : PI X tg (.Call (.Name x p) [a] [] pos) (rdI S W (evi Γ (.rng (.lit (.int 0)) ca))) := by
  subst hx
  refine (pi_range1 hg hm (pa_cons ha pa_nil (ok_star ho _)) (ok_star ho _)).imp ?_
  rintro σ H R ⟨m, h, ρ, s, en, p⟩
  have p : Pst S _ m H ((ev Γ ca ρ h).bind fun y h => orBad (rngOf (.int 0) y) fun s => .ok s h) _ := p
  refine rdE_step s en p fun m1 H1 h1 v z e1 x s1 en1 r p1 => ?_
  obtain ⟨src, e2, p2⟩ := Pst.orBad p1
  cases r with
  | int j =>
    simp only [rngOf] at e2
    split at e2
    · rename_i c
      cases e2
      exact ⟨j, rfl, c.2.2.1, c.2.2.2, p2 m1 H1 .refl s1 _ (by rw [Int.sub_zero]; exact it_rng)⟩
    · cases e2
  | _ => cases e2
theorem i_rng2 {x : Str} (hx : x = "range") (hg : Gl X x) (hm : X.mg x = none) (ho : okE a = true) (ho2 : okE b = true) (ha : PE X a (rdE S W (ev Γ ca))) (hb : PE X b (rdE S W (ev Γ cb))) : PI X tg (.Call (.Name x p) [a, b] [] pos) (rdI S W (evi Γ (.rng ca cb))) := by
  subst hx
  refine (pi_range2 hg hm (pa_cons ha (pa_cons hb pa_nil (ok_star ho2 _)) (ok_star ho _)) (by rw [ok_star ho, ok_star ho2]; rfl) (by rw [ok_star ho2]; rfl)).imp ?_
  rintro σ H R ⟨m, h, ρ, s, en, p⟩
  refine rdE_step s en p fun m1 H1 h1 v z e1 x s1 en1 r p1 => rdE_step s1 en1 p1 fun m2 H2 h2 u y e2 x2 s2 en2 r2 p2 => ?_
  obtain ⟨src, e3, p3⟩ := Pst.orBad p2
  have r := r.ext s1 x2
  cases r with
  | int i =>
    cases r2 with
    | int j =>
      simp only [rngOf] at e3
      split at e3
      · rename_i c
        cases e3
        exact ⟨i, j, rfl, c, p3 m2 H2 .refl s2 _ it_rng⟩
      · cases e3
    | _ => cases e3
  | _ => cases e3
end
end Mi

set_option maxHeartbeats 1000000
namespace Mi
open PySem PySem.Spec PyProof.Rows L2

/-! ### targets -/
def rdG (S : Sta) (t : Tg) : TG := fun z σ H Q => ∃ m h ρ v ρ', Sim S m H h ∧ EnR S m H ρ σ ∧ S.VR m H v z ∧ t.put v ρ = some ρ' ∧ ∀ σ', EnR S m H ρ' σ' → (∀ vs, (∀ i ∈ t.slots, i ∈ vs) → L2.wipe σ' vs = L2.wipe σ vs) → Q σ' H
def rdGA (S : Sta) (t : Tg) : TG := fun z σ H Q => ∃ m h ρ v ρ', Sim S m H h ∧ EnR S m H ρ σ ∧ S.VR m H v z ∧ t.put (spread h t v) ρ = some ρ' ∧ ∀ σ', EnR S m H ρ' σ' → (∀ vs, (∀ i ∈ t.slots, i ∈ vs) → L2.wipe σ' vs = L2.wipe σ vs) → Q σ' H
def rdGs (S : Sta) (t : Tg) : TGs := fun zs σ H Q => ∃ m h ρ xs ρ', Sim S m H h ∧ EnR S m H ρ σ ∧ S.VRs m H xs zs ∧ t.put (.tup xs) ρ = some ρ' ∧ ∀ σ', EnR S m H ρ' σ' → (∀ vs, (∀ i ∈ t.slots, i ∈ vs) → L2.wipe σ' vs = L2.wipe σ vs) → Q σ' H
theorem wipe_set : ∀ {vs : List Nat} {σ : L2.St} {i : Nat} {o : Option V}, i ∈ vs → L2.wipe (σ.set i o) vs = L2.wipe σ vs
  | v :: vs, σ, i, o, h => by
    unfold L2.wipe
    by_cases e : i ∈ vs
    · rw [wipe_set e]
    · have hv : i = v := (List.mem_cons.mp h).resolve_right e
      subst hv
      have go : ∀ (ws : List Nat) (τ : L2.St), i ∉ ws → L2.wipe (τ.set i o) ws = (L2.wipe τ ws).set i o := by
        intro ws
        induction ws with
        | nil => intro τ _; rfl
        | cons w ws ih =>
          intro τ hw
          unfold L2.wipe
          rw [ih τ (fun q => hw (List.mem_cons_of_mem _ q)), List.set_comm]
          intro q; exact hw (by rw [q]; exact List.mem_cons_self ..)
      rw [go vs σ e, List.set_set]
section
variable {S : Sta} {W : WX} {X : Cx} {Γ : Cxt} {pos : Pos}
theorem _root_.L2.PG.imp {e : Expr} {t t' : TG} (p : PG X e t) (i : ∀ z σ H Q, t' z σ H Q → t z σ H Q) : PG X e t' := ⟨fun pins s σ H v u Q J r q => p.run pins s σ H v u Q J r (i v σ H Q q)⟩
theorem _root_.L2.PGs.imp {e : List Expr} {t t' : TGs} (p : PGs X e t) (i : ∀ z σ H Q, t' z σ H Q → t z σ H Q) : PGs X e t' := ⟨fun pins s σ H v u Q J r q => p.run pins s σ H v u Q J r (i v σ H Q q)⟩
theorem g_nm {i : Nat} {x : Str} (hN : X.N.Nodup) (hi : X.N[i]? = some x) (hx : Loc X.env.scope x) (hf : X.fn x = true ∨ X.env.scope.names.lookup x = some .local) : PG X (.Name x pos) (rdG S (.nm i)) :=
  (pg_name hN hi hx hf).imp fun z σ H Q ⟨m, h, ρ, v, ρ', s, en, r, e, k⟩ => by
    simp only [Tg.put] at e
    split at e
    · cases e
      exact k _ (en.set r) fun vs hv => wipe_set (hv i (by simp [Tg.slots]))
    · cases e
theorem gs_nil : PGs X [] (rdGs S .nil) := pgs_nil.imp fun zs σ H Q ⟨m, h, ρ, xs, ρ', s, en, r, e, k⟩ => by
  cases xs with
  | nil => cases r; cases e; exact ⟨rfl, k σ en fun _ _ => rfl⟩
  | cons x xs => cases e
theorem gs_cons {e : Expr} {es : List Expr} {t ts : Tg} (he : PG X e (rdG S t)) (hes : PGs X es (rdGs S ts)) (hs : (assignEach (e :: es) X.env).map (·.2) = assign e X.env :: (assignEach es X.env).map (·.2)) : PGs X (e :: es) (rdGs S (.cons t ts)) :=
  (pgs_cons he hes hs).imp fun zs σ H Q ⟨m, h, ρ, xs, ρ', s, en, r, e, k⟩ => by
    cases xs with
    | nil => cases e
    | cons x xs =>
      cases r with
      | cons r rs =>
        simp only [Tg.put, tupOf] at e
        split at e
        · rename_i ρ1 e1
          refine ⟨_, _, rfl, m, h, ρ, x, ρ1, s, en, r, e1, fun σ1 en1 k1 => ⟨m, h, ρ1, xs, ρ', s, en1, rs, e, fun σ2 en2 k2 => k σ2 en2 fun vs hv => ?_⟩⟩
          rw [k2 vs fun i hi => hv i (List.mem_append_right _ hi), k1 vs fun i hi => hv i (List.mem_append_left _ hi)]
        · cases e
theorem put_len : ∀ {t : Tg} {v : Val} {xs : List Val} {ρ ρ' : En}, (t = .nil ∨ ∃ a b, t = .cons a b) → tupOf v = some xs → t.put v ρ = some ρ' → t.put (.tup xs) ρ = some ρ'
  | .nil, v, xs, ρ, ρ', _, e, h => by
    simp only [Tg.put, e] at h
    exact h
  | .cons a b, v, xs, ρ, ρ', _, e, h => by
    simp only [Tg.put, e] at h
    exact h
  | .nm i, v, xs, ρ, ρ', q, e, h => by rcases q with q | ⟨a, b, q⟩ <;> cases q
def Tg.len : Tg → Nat
  | .cons _ ts => ts.len + 1
  | _ => 0
/-- the targets of a tuple: names alone -/
inductive Tg.Flat : Tg → Prop where
  | nil : Tg.Flat .nil
  | cons {i : Nat} {ts : Tg} : Tg.Flat ts → Tg.Flat (.cons (.nm i) ts)
theorem flat_len : ∀ {t : Tg} {xs : List Val} {ρ ρ' : En}, t.Flat → t.put (.tup xs) ρ = some ρ' → xs.length = t.len
  | _, xs, ρ, ρ', .nil, h => by
    cases xs with
    | nil => rfl
    | cons _ _ => cases h
  | _, xs, ρ, ρ', .cons (i := i) (ts := ts) f, h => by
    cases xs with
    | nil => cases h
    | cons x xs =>
      simp only [Tg.put, tupOf] at h
      split at h
      · rename_i ρ1 e1
        rw [List.length_cons, flat_len f h]; rfl
      · cases h
theorem g_tup {es : List Expr} {k : Nat} {t : Tg} (hK : X.K = S.K) (hc : X.calm = true) (hf : t.Flat) (h : PGs X es (rdGs S t)) (hn : (assignEach es X.env).length = t.len) (hst : (assignEach es X.env).findIdx? (·.1) = none) : PG X (.Tuple es k pos) (rdG S t) :=
  (pg_tup hc h hn hst).imp fun z σ H Q ⟨m, h, ρ, v, ρ', s, en, r, e, k⟩ => by
    have hs : t = .nil ∨ ∃ a b, t = .cons a b := by
      cases hf with
      | nil => exact .inl rfl
      | cons f => exact .inr ⟨_, _, rfl⟩
    have ht : ∃ xs, tupOf v = some xs := by
      cases hf with
      | nil =>
        simp only [Tg.put] at e
        split at e
        · exact ⟨_, by assumption⟩
        · cases e
      | cons f =>
        simp only [Tg.put] at e
        split at e
        · exact ⟨_, by assumption⟩
        · cases e
    obtain ⟨xs, ht⟩ := ht
    have e2 := put_len hs ht e
    cases r with
    | tup q rs => cases ht; exact ⟨_, _, rfl, .of q, by rw [← rs.length, flat_len hf e2], m, h, ρ, _, ρ', s, en, rs, e2, k⟩
    | kt q rs => cases ht; exact ⟨_, _, rfl, by rw [hK]; exact q.seq, by rw [← rs.length, flat_len hf e2], m, h, ρ, _, ρ', s, en, rs, e2, k⟩
    | _ => cases ht
theorem spread_or (h : Hh) (t : Tg) (v : Val) : spread h t v = v ∨ ∃ a b l xs, t = .cons a b ∧ v = .ref l ∧ h[l]? = some (.lst xs) ∧ spread h t v = .tup xs := by
  unfold spread
  split
  · rename_i l
    split
    · rename_i xs e
      refine .inr ⟨_, _, l, xs, rfl, rfl, ?_, rfl⟩
      unfold lstOf at e
      split at e
      · rename_i o; cases e; exact o
      · cases e
    · exact .inl rfl
  · exact .inl rfl
theorem g_tupA {es : List Expr} {k : Nat} {t : Tg} (hK : X.K = S.K) (hc : X.calm = true) (hf : t.Flat) (h : PGs X es (rdGs S t)) (hn : (assignEach es X.env).length = t.len) (hst : (assignEach es X.env).findIdx? (·.1) = none) (hg : PG X (.Tuple es k pos) (rdG S t)) : PG X (.Tuple es k pos) (rdGA S t) := by
  refine ⟨fun pins s σ H v u Q I r hw => ?_⟩
  obtain ⟨m, hh, ρ, w, ρ', sm, en, rv, e, kk⟩ := hw
  rcases spread_or hh t w with q | ⟨a, b, l, xs, rfl, rfl, el, q⟩
  · rw [q] at e
    exact hg.run pins s σ H v u Q I r ⟨m, hh, ρ, w, ρ', sm, en, rv, e, kk⟩
  · rw [q] at e
    cases rv with
    | ref ea =>
      rename_i ad
      obtain ⟨vs, e1, e2⟩ := sm.at_ l ad _ ea el
      exact (pg_unl hc h hn hst).run pins s σ H _ u Q I r ⟨ad, vs, rfl, .of e1, by rw [← e2.length, flat_len hf e], m, hh, ρ, xs, ρ', sm, en, e2, e, kk⟩
end

/-! ### walks -/
/-- what is left of a walk at its turn i, n the measure -/
def restW {A T : Type} (f : Val → A → Hh → R (A ⊕ T)) (src : Src) (n i : Nat) (a : A) (h : Hh) : R (A ⊕ T) := match src with
  | .fix xs => walkF f (xs.drop i) a h
  | .dyn l en => walkD l en f n i a h
def okN (src : Src) (n i : Nat) : Prop := match src with
  | .fix xs => n = xs.length - i
  | .dyn _ _ => True
section
variable {A T : Type} {f : Val → A → Hh → R (A ⊕ T)} {src : Src} {a : A} {h : Hh} {C : R (A ⊕ T) → Prop}
theorem walk_start (hb : ¬ C .bad) (p : C (walk src f a h)) : ∃ n, okN src n 0 ∧ C (restW f src n 0 a h) := by
  cases src with
  | fix xs => exact ⟨xs.length, by simp [okN], p⟩
  | dyn l en =>
    have p : C (orBad (seqOf h (.ref l)) fun xs => walkD l en f xs.length 0 a h) := p
    cases e : seqOf h (.ref l) with
    | none => rw [e] at p; exact (hb p).elim
    | some xs => rw [e] at p; exact ⟨xs.length, trivial, p⟩
theorem walk_turn {S : Sta} {J : It} {n i : Nat} {m0 m : List Addr} {H0 H : Hp} (hb : ¬ C .bad) (hJ : ItOk S J src m0 H0) (x : Ext0 m0 H0 m H) (s : Sim S m H h) (hn : okN src n i) (p : C (restW f src n i a h)) :
    (J.stop i H ∧ C (.ok (.inl a) h)) ∨ (J.go i H ∧ ∃ v n', n' < n ∧ okN src n' (i + 1) ∧ (∀ z H', J.yld i H z H' → Ext m H m H' ∧ Sim S m H' h ∧ S.VR m H' v z) ∧
      C ((f v a h).bind fun r h => match r with | .inl a => restW f src n' (i + 1) a h | .inr t => .ok (.inr t) h)) := by
  cases src with
  | fix xs =>
    have hn : n = xs.length - i := hn
    subst hn
    have j := hJ m H h x s xs rfl i
    cases q : xs[i]? with
    | none =>
      refine .inl ⟨j.1 q, ?_⟩
      have p : C (walkF f (xs.drop i) a h) := p
      rw [List.drop_eq_nil_of_le (List.getElem?_eq_none_iff.mp q)] at p
      exact p
    | some v =>
      obtain ⟨hi, e⟩ := List.getElem?_eq_some_iff.mp q
      obtain ⟨g, y⟩ := j.2 v q
      refine .inr ⟨g, v, xs.length - (i + 1), by omega, rfl, y, ?_⟩
      have p : C (walkF f (xs.drop i) a h) := p
      rw [List.drop_eq_getElem_cons hi, e] at p
      exact p
  | dyn l en =>
    have p : C (walkD l en f n i a h) := p
    unfold walkD at p
    cases e : seqOf h (.ref l) with
    | none => rw [e] at p; exact (hb p).elim
    | some xs =>
    rw [e, orBad_some] at p
    have j := hJ m H h x s _ (show srcAt h (.dyn l en) = some _ from by simp only [srcAt, e]; rfl) i
    cases q : xs[i]? with
    | none =>
      rw [q] at p
      refine .inl ⟨j.1 ?_, p⟩
      cases en
      · exact q
      · simp only [if_true, enumFrom_get, q]; rfl
    | some v =>
      rw [q] at p
      cases n with
      | zero => exact (hb p).elim
      | succ n =>
        obtain ⟨g, y⟩ := j.2 (if en then .tup [.int (i : Nat), v] else v) (by
          cases en
          · exact q
          · simp only [if_true, enumFrom_get, q, Option.map_some, Nat.zero_add])
        exact .inr ⟨g, _, n, Nat.lt_succ_self n, trivial, y, p⟩
end
/-! ### answers that come -/
theorem okB {α β : Type} {r : R α} {f : α → Hh → R β} {v : β} {h' : Hh} (e : r.bind f = .ok v h') : ∃ a h1, r = .ok a h1 ∧ f a h1 = .ok v h' := by
  cases r with
  | ok a h1 => exact ⟨a, h1, rfl, e⟩
  | exc _ _ => cases e
  | bad => cases e
theorem okO {α β : Type} {o : Option α} {f : α → R β} {v : β} {h' : Hh} (e : orBad o f = .ok v h') : ∃ a, o = some a ∧ f a = .ok v h' := by
  cases o with
  | some a => exact ⟨a, rfl, e⟩
  | none => cases e
theorem okI {α : Type} {c : Bool} {r : R α} {v : α} {h' : Hh} (e : okIf c r = .ok v h') : c = true ∧ r = .ok v h' := by
  cases c with
  | true => exact ⟨rfl, e⟩
  | false => cases e
theorem wipe_wipe (σ : L2.St) : ∀ vs : List Nat, L2.wipe (L2.wipe σ vs) vs = L2.wipe σ vs := fun vs => by
  have go : ∀ us : List Nat, (∀ i ∈ us, i ∈ vs) → L2.wipe (L2.wipe σ us) vs = L2.wipe σ vs := by
    intro us
    induction us with
    | nil => intro _; rfl
    | cons u us ih =>
      intro h
      show L2.wipe ((L2.wipe σ us).set u none) vs = _
      rw [wipe_set (h u (List.mem_cons_self ..)), ih fun i hi => h i (List.mem_cons_of_mem _ hi)]
  exact go vs fun _ h => h

/-! ### a list that grows aside -/
section
variable {S : Sta} {m m2 : List Addr} {H H2 : Hp} {h : Hh} {D : Addr} {o : HO}
theorem Ext.last (x : Ext m H m2 H2) (hD : H D = none) : Ext m H (m2 ++ [D]) (upd H2 D o) := by
  obtain ⟨t, rfl, ft⟩ := x.pre
  refine ⟨⟨t ++ [D], by simp, fun b hb => ?_⟩, fun b ob hb e => ?_, fun b hb => ?_, fun b ob w e => by rw [upd_ne (ne_of_none e hD)]; exact x.lock b ob w e⟩
  · rcases List.mem_append.mp hb with q | q
    · exact ft b q
    · rw [List.mem_singleton.mp q]; exact hD
  · rw [upd_ne (ne_of_none e hD)]; exact x.keep b ob hb e
  · by_cases e : b = D
    · subst e; rw [upd_same]; simp
    · rw [upd_ne e]; exact x.there b hb
theorem Ext.aside (x : Ext m H m2 H2) (hD : H D = none) : Ext m H m2 (upd H2 D o) := by
  refine ⟨x.pre, fun b ob hb e => ?_, fun b hb => ?_, fun b ob w e => by rw [upd_ne (ne_of_none e hD)]; exact x.lock b ob w e⟩
  · rw [upd_ne (ne_of_none e hD)]; exact x.keep b ob hb e
  · by_cases e : b = D
    · subst e; rw [upd_same]; simp
    · rw [upd_ne e]; exact x.there b hb
theorem Ext.notIn (x : Ext m H m2 H2) (hm : D ∉ m) (hD : H D ≠ none) : D ∉ m2 := fun q => by
  obtain ⟨t, rfl, ft⟩ := x.pre
  rcases List.mem_append.mp q with q | q
  · exact hm q
  · exact hD (ft D q)
theorem Sim.aside (s : Sim S m H h) (hm : D ∉ m) (l : Loose H D) : Sim S m (upd H D o) h := by
  have := (s.hide hm l).new (o := o) del_same
  rwa [upd_del] at this
theorem VR.aside {v : Val} {y : V} (l : Loose H D) (r : S.VR m H v y) : S.VR m (upd H D o) v y :=
  r.move (fun a vs e => by rw [upd_ne (fun q => by subst q; exact l.1 vs e)]; exact e) (fun a vs e => by
    rcases e with ⟨ob, e⟩ | e
    · exact .inl ⟨ob, by rw [upd_ne (fun q => by subst q; exact l.2 ob vs e)]; exact e⟩
    · exact .inr e) (fun k a e => e)
theorem VRs.aside (l : Loose H D) : ∀ {xs : List Val} {ys : List V}, S.VRs m H xs ys → S.VRs m (upd H D o) xs ys
  | _, _, .nil => .nil
  | _, _, .cons r t => .cons (VR.aside l r) (VRs.aside l t)
theorem EnR.aside {ρ : En} {σ : L2.St} (l : Loose H D) (e : EnR S m H ρ σ) : EnR S m (upd H D o) ρ σ :=
  ⟨e.1, fun i v q => let ⟨z, h1, h2⟩ := e.2 i v q; ⟨z, h1, VR.aside l h2⟩⟩
theorem loose_lst {zs : List V} (e : H D = some (.lst zs)) : Loose H D := ⟨fun vs q => (by rw [e] at q; cases q), fun o vs q => (by rw [e] at q; cases q)⟩
theorem upd_id {o : HO} (e : H D = some o) : upd H D o = H := by
  funext b
  by_cases q : b = D
  · subst q; rw [upd_same, e]
  · rw [upd_ne q]
end
/-- nothing is raised -/
def W0 : WX := fun _ _ _ _ => False
section
variable {S : Sta} {W : WX} {X : Cx} {Γ : Cxt} {pos : Pos}
theorem ts_nil : PTs X [] (rdT S W (ev Γ (.lit (.bl true)))) := ⟨fun pins s σ H Q I ⟨m, h, ρ, s1, en, p⟩ => by
  obtain ⟨k, e, q⟩ := p m H .refl s1
  cases e
  exact pts_nil.run pins s σ H Q I q⟩
theorem lc_rd {t : Tg} {ce ci cc : Ex} {vs : List Nat} (hv : ∀ i ∈ t.slots, i ∈ vs) :
    ∀ σ H Q, rdE S W (ev Γ (.cmpr ce (.gen t ci cc .nil) vs)) σ H Q → tLc (rdI S W (evi Γ ci)) (rdG S t) (rdT S W0 (ev Γ cc)) (rdE S W0 (ev Γ ce)) vs σ H Q := by
  rintro σ H Q ⟨m, h, ρ, s, en, p⟩
  refine ⟨m, h, ρ, s, en, ?_⟩
  refine (Pst.bind p).mono fun src m1 H1 h1 e1 x1 s1 p1 J hJ D hD => ?_
  revert p1
  generalize hf : (fun (x : Val) (acc : List Val) (h : Hh) => orBad (t.put x (wipe ρ vs)) fun ρ1 => (ev Γ cc ρ1 h).bind fun y h => orBad (truthy h y) fun k =>
      if k then (evg Γ .nil (fun ρ2 h => ev Γ ce ρ2 h) ρ1 acc h).bind fun acc h => R.ok (Sum.inl acc) h else R.ok (Sum.inl acc) h) = f
  intro p1
  have p1 : Pst S _ m1 H1 ((noexc (walk (T := Unit) src f [] h1)).bind fun r h => match r with
      | .inl acc => newOb (.lst acc) h
      | .inr _ => .bad) (QV S Q) := p1
  cases q : walk (T := Unit) src f [] h1 with
  | bad => rw [q] at p1; exact p1.elim
  | exc _ _ => rw [q] at p1; exact p1.elim
  | ok r hF =>
  rw [q] at p1
  cases r with
  | inr _ => exact p1.elim
  | inl accF =>
  have p1 : Pst S _ m1 H1 (newOb (.lst accF) hF) (QV S Q) := p1
  have hb : ¬ ((.bad : R (List Val ⊕ Unit)) = .ok (.inl accF) hF) := fun z => by cases z
  obtain ⟨n0, ok0, q0⟩ := walk_start (C := fun r => r = .ok (.inl accF) hF) hb q
  have en1 := en.ext s x1
  refine ⟨fun i n H' => ∃ m' h' acc zs, okN src n i ∧ Ext m1 H1 m' H' ∧ Sim S m' H' h' ∧ D ∉ m' ∧ H' D = some (.lst zs) ∧ S.VRs m' H' acc zs ∧ restW f src n i acc h' = .ok (.inl accF) hF,
    ⟨n0, m1, h1, [], [], ok0, Ext.upd_new hD, s1.new hD, s1.fresh hD, upd_same, .nil, q0⟩, ?_⟩
  rintro i n H2 ⟨m2, h2, acc, zs, okn, x2, s2, hDm, hDl, rs, q2⟩
  rcases walk_turn (C := fun r => r = .ok (.inl accF) hF) hb hJ (.of s1 x2) s2 okn q2 with ⟨st, e⟩ | ⟨go, v, n', hn', okn', y, e⟩
  · cases e
    refine .inl ⟨st, ?_⟩
    have xl := Ext.last (o := .lst zs) x2 hD
    have sl := s2.late (o := .lst zs) (b := .lst accF) hDm (loose_lst hDl) ⟨zs, upd_same, VRs.late (loose_lst hDl) rs⟩
    rw [upd_id hDl] at xl sl
    exact p1 _ H2 xl sl _ (.ref (by rw [← s2.len]; simp))
  · refine .inr ⟨go, fun H' => ∃ m' h' acc zs, okN src n' (i + 1) ∧ Ext m1 H1 m' H' ∧ Sim S m' H' h' ∧ D ∉ m' ∧ H' D = some (.lst zs) ∧ S.VRs m' H' acc zs ∧ restW f src n' (i + 1) acc h' = .ok (.inl accF) hF, fun H' z => ⟨n', hn', z⟩, fun xv H3 hy => ?_⟩
    obtain ⟨x3, s3, rv⟩ := y xv H3 hy
    obtain ⟨a1, h4, e1, e2⟩ := okB e
    subst hf
    obtain ⟨ρ1, ep, e1⟩ := okO e1
    obtain ⟨yy, h5, ec, e1⟩ := okB e1
    obtain ⟨k, et, e1⟩ := okO e1
    have x23 := x2.trans x3
    refine ⟨m2, h2, wipe ρ vs, v, ρ1, s3, (en1.ext s1 x23).wipe vs, rv, ep, fun σ2 en2 k2 => ⟨by rw [k2 vs hv, wipe_wipe], ?_⟩⟩
    refine ⟨m2, h2, ρ1, s3, en2, ?_⟩
    rw [ec]
    intro m4 H4 x4 s4
    refine ⟨k, et, ?_⟩
    have x34 := x3.trans x4
    have hD4 : H4 D = some (.lst zs) := x34.keep D _ hDm hDl
    have hm4 : D ∉ m4 := x34.notIn hDm (by rw [hDl]; simp)
    have rs4 := rs.ext s2 x34
    have x24 := x2.trans x34
    cases k with
    | false =>
      cases e1
      exact ⟨m4, _, acc, zs, okn', x24, s4, hm4, hD4, rs4, e2⟩
    | true =>
      obtain ⟨acc2, h6, e3, e4⟩ := okB e1
      cases e4
      obtain ⟨v2, h7, e5, e6⟩ := okB (show (ev Γ ce ρ1 h5).bind (fun v h => okIf (decide (acc.length < sizeLine)) (.ok (acc ++ [v]) h)) = .ok acc2 h4 from e3)
      obtain ⟨c, e7⟩ := okI e6
      cases e7
      refine ⟨m4, h5, ρ1, s4, en2.ext s3 x4, ?_⟩
      rw [e5]
      intro m5 H5 x5 s5 z rz
      have hD5 : H5 D = some (.lst zs) := x5.keep D _ hm4 hD4
      have hm5 : D ∉ m5 := x5.notIn hm4 (by rw [hD4]; simp)
      refine ⟨zs, hD5, by rw [← rs.length]; exact of_decide_eq_true c, m5, _, acc ++ [v2], zs ++ [z], okn', (x24.trans x5).aside hD, s5.aside hm5 (loose_lst hD5), hm5, upd_same, ?_, e2⟩
      exact VRs.aside (loose_lst hD5) ((rs4.ext s4 x5).append (.cons rz .nil))
theorem e_lc {elt tg iter : Expr} {ifs : List Expr} {scope : Scope} {own : List (Str × Nat)} {t : Tg} {ce ci cc : Ex} (hc : X.calm = true) (hN : X.N.Nodup) (hv : ∀ i ∈ t.slots, i ∈ own.map (·.2)) (hi : PI X tg iter (rdI S W (evi Γ ci))) (ok : BlkOk X.N X.env.scope scope own)
    (hg : ∀ (s : Shared) (H : Hp) (C : Addr) (cl : List (Str × Addr)) (fp : List Addr), PG (X.blk s H scope (compEnvC scope cl C X.env) fp) tg (rdG S t)) (ht : ∀ (s : Shared) (H : Hp) (C : Addr) (cl : List (Str × Addr)) (fp : List Addr), PTs (X.blk s H scope (compEnvC scope cl C X.env) fp) ifs (rdT S W0 (ev Γ cc)))
    (he : ∀ (s : Shared) (H : Hp) (C : Addr) (cl : List (Str × Addr)) (fp : List Addr), PE (X.blk s H scope (compEnvC scope cl C X.env) fp) elt (rdE S W0 (ev Γ ce))) (hs : ∀ x, foldedSetIterable iter X.env x = pure x) :
    PE X (.ListComp elt [⟨tg, iter, ifs, 0⟩] scope pos) (rdE S W (ev Γ (.cmpr ce (.gen t ci cc .nil) (own.map (·.2))))) :=
  (pe_lc hc hN hi ok hg ht he hs).imp (lc_rd hv)
theorem lc2_rd {t t1 : Tg} {ce ci cc ci1 cc1 : Ex} {vs : List Nat} (hv : ∀ i ∈ t.slots, i ∈ vs) :
    ∀ σ H Q, rdE S W (ev Γ (.cmpr ce (.gen t ci cc (.gen t1 ci1 cc1 .nil)) vs)) σ H Q → tLc2 (rdI S W (evi Γ ci)) (rdG S t) (rdT S W0 (ev Γ cc)) (rdI S W0 (evi Γ ci1)) (rdG S t1) (rdT S W0 (ev Γ cc1)) (rdE S W0 (ev Γ ce)) vs t1.slots σ H Q := by
  rintro σ H Q ⟨m, h, ρ, s, en, p⟩
  refine ⟨m, h, ρ, s, en, ?_⟩
  refine (Pst.bind p).mono fun src m1 H1 h1 e1 x1 s1 p1 J hJ D hD => ?_
  revert p1
  generalize hf : (fun (x : Val) (acc : List Val) (h : Hh) => orBad (t.put x (wipe ρ vs)) fun ρ1 => (ev Γ cc ρ1 h).bind fun y h => orBad (truthy h y) fun k =>
      if k then (evg Γ (.gen t1 ci1 cc1 .nil) (fun ρ2 h => ev Γ ce ρ2 h) ρ1 acc h).bind fun acc h => R.ok (Sum.inl acc) h else R.ok (Sum.inl acc) h) = f
  intro p1
  have p1 : Pst S _ m1 H1 ((noexc (walk (T := Unit) src f [] h1)).bind fun r h => match r with
      | .inl acc => newOb (.lst acc) h
      | .inr _ => .bad) (QV S Q) := p1
  cases q : walk (T := Unit) src f [] h1 with
  | bad => rw [q] at p1; exact p1.elim
  | exc _ _ => rw [q] at p1; exact p1.elim
  | ok r hF =>
  rw [q] at p1
  cases r with
  | inr _ => exact p1.elim
  | inl accF =>
  have p1 : Pst S _ m1 H1 (newOb (.lst accF) hF) (QV S Q) := p1
  have hb : ∀ (a : List Val) (g : Hh), ¬ ((.bad : R (List Val ⊕ Unit)) = .ok (.inl a) g) := fun a g z => by cases z
  obtain ⟨n0, ok0, q0⟩ := walk_start (C := fun r => r = .ok (.inl accF) hF) (hb _ _) q
  have en1 := en.ext s x1
  refine ⟨fun i n H' => ∃ m' h' acc zs, okN src n i ∧ Ext m1 H1 m' H' ∧ Sim S m' H' h' ∧ D ∉ m' ∧ H' D = some (.lst zs) ∧ S.VRs m' H' acc zs ∧ restW f src n i acc h' = .ok (.inl accF) hF,
    ⟨n0, m1, h1, [], [], ok0, Ext.upd_new hD, s1.new hD, s1.fresh hD, upd_same, .nil, q0⟩, ?_⟩
  rintro i n H2 ⟨m2, h2, acc, zs, okn, x2, s2, hDm, hDl, rs, q2⟩
  rcases walk_turn (C := fun r => r = .ok (.inl accF) hF) (hb _ _) hJ (.of s1 x2) s2 okn q2 with ⟨st, e⟩ | ⟨go, v, n', hn', okn', y, e⟩
  · cases e
    refine .inl ⟨st, ?_⟩
    have xl := Ext.last (o := .lst zs) x2 hD
    have sl := s2.late (o := .lst zs) (b := .lst accF) hDm (loose_lst hDl) ⟨zs, upd_same, VRs.late (loose_lst hDl) rs⟩
    rw [upd_id hDl] at xl sl
    exact p1 _ H2 xl sl _ (.ref (by rw [← s2.len]; simp))
  · refine .inr ⟨go, fun H' => ∃ m' h' acc zs, okN src n' (i + 1) ∧ Ext m1 H1 m' H' ∧ Sim S m' H' h' ∧ D ∉ m' ∧ H' D = some (.lst zs) ∧ S.VRs m' H' acc zs ∧ restW f src n' (i + 1) acc h' = .ok (.inl accF) hF, fun H' z => ⟨n', hn', z⟩, fun xv H3 hy => ?_⟩
    obtain ⟨x3, s3, rv⟩ := y xv H3 hy
    obtain ⟨a1, h4, e1, e2⟩ := okB e
    subst hf
    obtain ⟨ρ1, ep, e1⟩ := okO e1
    obtain ⟨yy, h5, ec, e1⟩ := okB e1
    obtain ⟨k, et, e1⟩ := okO e1
    have x23 := x2.trans x3
    refine ⟨m2, h2, wipe ρ vs, v, ρ1, s3, (en1.ext s1 x23).wipe vs, rv, ep, fun σ2 en2 k2 => ⟨by rw [k2 vs hv, wipe_wipe], ?_⟩⟩
    refine ⟨m2, h2, ρ1, s3, en2, ?_⟩
    rw [ec]
    intro m4 H4 x4 s4
    refine ⟨k, et, ?_⟩
    have x34 := x3.trans x4
    have hD4 : H4 D = some (.lst zs) := x34.keep D _ hDm hDl
    have hm4 : D ∉ m4 := x34.notIn hDm (by rw [hDl]; simp)
    have rs4 := rs.ext s2 x34
    have x24 := x2.trans x34
    cases k with
    | false =>
      cases e1
      exact ⟨m4, _, acc, zs, okn', x24, s4, hm4, hD4, rs4, e2⟩
    | true =>
      obtain ⟨acc2, h6, e3, e4⟩ := okB e1
      cases e4
      obtain ⟨src1, h7, e5, e6⟩ := okB (show (evi Γ ci1 ρ1 h5).bind (fun src h => (walk (T := Unit) src (fun x acc h => orBad (t1.put x (wipe ρ1 t1.slots)) fun ρ2 => (ev Γ cc1 ρ2 h).bind fun y h => orBad (truthy h y) fun k =>
          if k then (evg Γ .nil (fun ρ2 h => ev Γ ce ρ2 h) ρ2 acc h).bind fun acc h => R.ok (Sum.inl acc) h else R.ok (Sum.inl acc) h) acc h).bind fun r h => match r with
        | .inl acc => .ok acc h
        | .inr _ => .bad) = .ok acc2 h4 from e3)
      obtain ⟨r1, h8, e7, e8⟩ := okB e6
      cases r1 with
      | inr _ => cases e8
      | inl acc3 =>
      cases e8
      generalize hf1 : (fun (x : Val) (acc : List Val) (h : Hh) => orBad (t1.put x (wipe ρ1 t1.slots)) fun ρ2 => (ev Γ cc1 ρ2 h).bind fun y h => orBad (truthy h y) fun k =>
          if k then (evg Γ .nil (fun ρ2 h => ev Γ ce ρ2 h) ρ2 acc h).bind fun acc h => R.ok (Sum.inl acc : List Val ⊕ Unit) h else R.ok (Sum.inl acc) h) = f1 at e7
      have en4 := en2.ext s3 x4
      refine ⟨m4, h5, ρ1, s4, en4, ?_⟩
      rw [e5]
      intro m5 H5 x5 s5 J1 hJ1
      have hD5 : H5 D = some (.lst zs) := x5.keep D _ hm4 hD4
      have hm5 : D ∉ m5 := x5.notIn hm4 (by rw [hD4]; simp)
      have rs5 := rs4.ext s4 x5
      have x25 := x24.trans x5
      have en5 := en4.ext s4 x5
      obtain ⟨n1, okm, q5⟩ := walk_start (C := fun r => r = .ok (.inl acc2) h4) (hb _ _) e7
      refine ⟨fun j l H' => ∃ m' h' acc' zs', okN src1 l j ∧ Ext0 m5 H5 m' H' ∧ Ext m1 H1 m' H' ∧ Sim S m' H' h' ∧ D ∉ m' ∧ H' D = some (.lst zs') ∧ S.VRs m' H' acc' zs' ∧ EnR S m' H' ρ1 σ2 ∧ restW f1 src1 l j acc' h' = .ok (.inl acc2) h4,
        ⟨n1, m5, h7, acc, zs, okm, .of s5 .refl, x25, s5, hm5, hD5, rs5, en5, q5⟩, ?_⟩
      rintro j l H6 ⟨m6, h9, acc', zs', okl, y6, x6, s6, hm6, hD6, rs6, en6, q6⟩
      rcases walk_turn (C := fun r => r = .ok (.inl acc2) h4) (hb _ _) hJ1 y6 s6 okl q6 with ⟨st, e⟩ | ⟨go1, v1, l', hl', okl', yy1, e⟩
      · cases e
        exact .inl ⟨st, m6, _, _, zs', okn', x6, s6, hm6, hD6, rs6, e2⟩
      · refine .inr ⟨go1, fun H' => ∃ m' h' acc' zs', okN src1 l' (j + 1) ∧ Ext0 m5 H5 m' H' ∧ Ext m1 H1 m' H' ∧ Sim S m' H' h' ∧ D ∉ m' ∧ H' D = some (.lst zs') ∧ S.VRs m' H' acc' zs' ∧ EnR S m' H' ρ1 σ2 ∧ restW f1 src1 l' (j + 1) acc' h' = .ok (.inl acc2) h4, fun H' z => ⟨l', hl', z⟩, fun xv1 H7 hy1 => ?_⟩
        obtain ⟨x7, s7, rv1⟩ := yy1 xv1 H7 hy1
        obtain ⟨a2, h10, g1, g2⟩ := okB e
        subst hf1
        obtain ⟨ρ2, gp, g1⟩ := okO g1
        obtain ⟨zz, h11, gc, g1⟩ := okB g1
        obtain ⟨k1, gt, g1⟩ := okO g1
        refine ⟨m6, h9, wipe ρ1 t1.slots, v1, ρ2, s7, (en6.ext s6 x7).wipe _, rv1, gp, fun σ3 en7 k3 => ⟨by rw [k3 _ fun _ hi => hi, wipe_wipe], ?_⟩⟩
        refine ⟨m6, h9, ρ2, s7, en7, ?_⟩
        rw [gc]
        intro m8 H8 x8 s8
        refine ⟨k1, gt, ?_⟩
        have x78 := x7.trans x8
        have hD8 : H8 D = some (.lst zs') := x78.keep D _ hm6 hD6
        have hm8 : D ∉ m8 := x78.notIn hm6 (by rw [hD6]; simp)
        have rs8 := rs6.ext s6 x78
        have x68 := x6.trans x78
        have z8 := Ext0.of s6 x78
        have y8 : Ext0 m5 H5 m8 H8 := ⟨fun a vs e => z8.tup _ _ (y6.tup _ _ e), fun a o vs e => z8.frz _ _ _ (y6.frz _ _ _ e), fun i a e => z8.get _ _ (y6.get _ _ e), fun a o u e => z8.lock _ _ _ (y6.lock _ _ _ e)⟩
        have en8 := en6.ext s6 x78
        cases k1 with
        | false =>
          cases g1
          exact ⟨m8, _, acc', zs', okl', y8, x68, s8, hm8, hD8, rs8, en8, g2⟩
        | true =>
          obtain ⟨acc4, h12, g3, g4⟩ := okB g1
          cases g4
          obtain ⟨v2, h13, g5, g6⟩ := okB (show (ev Γ ce ρ2 h11).bind (fun v h => okIf (decide (acc'.length < sizeLine)) (.ok (acc' ++ [v]) h)) = .ok acc4 h10 from g3)
          obtain ⟨c, g7⟩ := okI g6
          cases g7
          refine ⟨m8, h11, ρ2, s8, en7.ext s7 x8, ?_⟩
          rw [g5]
          intro m9 H9 x9 s9 z rz
          have hD9 : H9 D = some (.lst zs') := x9.keep D _ hm8 hD8
          have hm9 : D ∉ m9 := x9.notIn hm8 (by rw [hD8]; simp)
          have z9 := Ext0.of s8 x9
          have en9 := en8.ext s8 x9
          have l9 := loose_lst hD9
          refine ⟨zs', hD9, by rw [← rs6.length]; exact of_decide_eq_true c, m9, _, acc' ++ [v2], zs' ++ [z], okl', ⟨fun a vs e => by
            have e := z9.tup _ _ (y8.tup _ _ e)
            rw [upd_ne (fun q => by subst q; exact l9.1 vs e)]; exact e, fun a o vs e => by
            have e := z9.frz _ _ _ (y8.frz _ _ _ e)
            rw [upd_ne (fun q => by subst q; exact l9.2 o vs e)]; exact e, fun i a e => z9.get _ _ (y8.get _ _ e), fun a o u e => by
            have e := z9.lock _ _ _ (y8.lock _ _ _ e)
            rw [upd_ne (fun q => by subst q; rw [hD9] at e; cases e)]; exact e⟩, (x68.trans x9).aside hD, s9.aside hm9 l9, hm9, upd_same, ?_, en9.aside l9, g2⟩
          exact VRs.aside l9 ((rs8.ext s8 x9).append (.cons rz .nil))
theorem e_lc2 {elt tg iter tg1 iter1 : Expr} {ifs ifs1 : List Expr} {scope : Scope} {own : List (Str × Nat)} {t t1 : Tg} {ce ci cc ci1 cc1 : Ex} (hc : X.calm = true) (hN : X.N.Nodup) (hv : ∀ i ∈ t.slots, i ∈ own.map (·.2)) (hv1 : ∀ i ∈ t1.slots, i ∈ own.map (·.2)) (hi : PI X tg iter (rdI S W (evi Γ ci))) (ok : BlkOk X.N X.env.scope scope own)
    (hg : ∀ (s : Shared) (H : Hp) (C : Addr) (cl : List (Str × Addr)) (fp : List Addr), PG (X.blk s H scope (compEnvC scope cl C X.env) fp) tg (rdG S t)) (ht : ∀ (s : Shared) (H : Hp) (C : Addr) (cl : List (Str × Addr)) (fp : List Addr), PTs (X.blk s H scope (compEnvC scope cl C X.env) fp) ifs (rdT S W0 (ev Γ cc)))
    (hi1 : ∀ (s : Shared) (H : Hp) (C : Addr) (cl : List (Str × Addr)) (fp : List Addr), PI (X.blk s H scope (compEnvC scope cl C X.env) fp) tg1 iter1 (rdI S W0 (evi Γ ci1)))
    (hg1 : ∀ (s : Shared) (H : Hp) (C : Addr) (cl : List (Str × Addr)) (fp : List Addr), PG (X.blk s H scope (compEnvC scope cl C X.env) fp) tg1 (rdG S t1)) (ht1 : ∀ (s : Shared) (H : Hp) (C : Addr) (cl : List (Str × Addr)) (fp : List Addr), PTs (X.blk s H scope (compEnvC scope cl C X.env) fp) ifs1 (rdT S W0 (ev Γ cc1)))
    (he : ∀ (s : Shared) (H : Hp) (C : Addr) (cl : List (Str × Addr)) (fp : List Addr), PE (X.blk s H scope (compEnvC scope cl C X.env) fp) elt (rdE S W0 (ev Γ ce))) (hs : ∀ x, foldedSetIterable iter X.env x = pure x) (hs1 : ∀ env x, foldedSetIterable iter1 env x = pure x) :
    PE X (.ListComp elt [⟨tg, iter, ifs, 0⟩, ⟨tg1, iter1, ifs1, 0⟩] scope pos) (rdE S W (ev Γ (.cmpr ce (.gen t ci cc (.gen t1 ci1 cc1 .nil)) (own.map (·.2))))) :=
  (pe_lc2 hc hN hi ok hv1 hg ht hi1 hg1 ht1 he hs hs1).imp (lc2_rd hv)
end
end Mi

set_option maxHeartbeats 2000000
namespace Mi
open PySem PySem.Spec PyProof.Rows L2

/-- an expression's two readings -/
structure EOk (S : Sta) (W : WX) (X : Cx) (Γ : Cxt) (e : Expr) (c : Ex) : Prop where
  pe : PE X e (rdE S W (ev Γ c))
  pt : PT X e (rdT S W (ev Γ c))
/-- what the text is said to have, the program has -/
structure IOk (I : Inf) (G : Prg) : Prop where
  fns : ∀ x ∈ I.fns, ∃ f, G.fns.lookup (.fn x) = some f
  cls : ∀ x ∈ I.cls, x ∈ G.cls

section
variable {S : Sta} {I : Inf} {G : Prg} {n : Nat} {N : List Str} {sc : Scope} {W : WX} {X : Cx} {Γ : Cxt} {f : Expr → Option Ex}
theorem cE_ok {d : Nat} {e : Expr} {c : Ex} (h : cE I N d sc e = some c) : okE e = true := by
  cases d with
  | zero => cases h
  | succ d =>
    unfold cE at h
    split at h
    · assumption
    · cases h
theorem all_A (hf : ∀ e c, f e = some c → PE X e (rdE S W (ev Γ c))) : ∀ {es : List Expr} {ces : Ex}, es.all okE = true → cAll f es = some ces → PA X es (rdA S W (evs Γ ces)) ∧ exLen ces = es.length ∧ (es = [] → ces = .nil)
  | [], ces, _, h => by cases h; exact ⟨a_nil, rfl, fun _ => rfl⟩
  | e :: es, ces, ho, h => by
    simp only [cAll] at h
    simp only [List.all_cons, Bool.and_eq_true] at ho
    split at h
    · rename_i c cs e1 e2
      cases h
      obtain ⟨h1, h2, h3⟩ := all_A hf ho.2 e2
      exact ⟨a_cons (ok_star ho.1 es) (hf _ _ e1) h1, by simp [exLen, h2], fun q => by cases q⟩
    · cases h
theorem kvs_A {pos : Pos} (hf : ∀ e c, f e = some c → PE X e (rdE S W (ev Γ c))) : ∀ {ks : List (Option Expr)} {vs : List Expr} {c : Ex}, cKvs f ks vs = some c → PPsR S W X Γ pos ks vs c ∧ ks.length = vs.length ∧ ks.all (·.isSome) = true ∧ (ks = [] → c = .nil)
  | [], [], c, h => by cases h; exact ⟨ppr_nil, rfl, rfl, fun _ => rfl⟩
  | [], _ :: _, c, h => by cases h
  | none :: _, _, c, h => by simp only [cKvs] at h; cases h
  | some _ :: _, [], c, h => by cases h
  | some k :: ks, v :: vs, c, h => by
    simp only [cKvs] at h
    split at h
    · rename_i a b r e1 e2 e3
      cases h
      obtain ⟨h1, h2, h3, h4⟩ := kvs_A (pos := pos) hf e3
      exact ⟨ppr_cons (hf _ _ e1) (hf _ _ e2) h1, by simp [h2], by simpa using h3, fun q => by cases q⟩
    · cases h
theorem chain_A {op : BoolOp} {pos : Pos} (hK : X.K = S.K) (hf : ∀ e c, f e = some c → EOk S W X Γ e c) : ∀ {es : List Expr} {c : Ex}, cChain f op es = some c → PE X (.BoolOp op es pos) (rdE S W (ev Γ c)) ∧ PW X (.BoolOp op es pos) (rdT S W (ev Γ c))
  | [], c, h => by cases h
  | [e], c, h => by
    have q : EOk S W X Γ e c := hf e c h
    refine ⟨pe_one q.pe, ?_⟩
    cases op with
    | And => exact pw_and1 q.pt
    | Or => exact pw_or1 q.pt
  | e :: e2 :: es, c, h => by
    simp only [cChain] at h
    split at h
    · rename_i a b h1 h2
      have h1 := hf _ _ h1
      obtain ⟨h3, h4⟩ := chain_A (pos := pos) hK hf h2
      cases op with
      | And => cases h; exact ⟨e_and hK h1.pe h3, w_and h1.pt h4⟩
      | Or => cases h; exact ⟨e_or hK h1.pe h3, w_or h1.pt h4⟩
    · cases h
theorem it_A (k : XOk S I G n N sc W X) {tg e : Expr} {ci : Ex} (hf : ∀ e c, f e = some c → PE X e (rdE S W (ev (G.Γ n) c))) (h : cIt I sc.names f e = some ci) (ht : tgIt tg ci = true) : PI X tg e (rdI S W (evi (G.Γ n) ci)) := by
  have base : ∀ {e : Expr}, (f e).map .itr = some ci → PI X tg e (rdI S W (evi (G.Γ n) ci)) := fun {e} h => by
    obtain ⟨c, h1, rfl⟩ := Option.map_eq_some_iff.mp h
    exact i_itr k.wld.hK (hf _ _ h1)
  have fre : ∀ {x : Str}, I.fre.contains x = true → X.mg x = none := fun h => k.wld.fre _ (by simpa using h)
  unfold cIt at h
  split at h
  · split at h
    · rename_i c
      split at h
      · obtain ⟨a, h1, rfl⟩ := Option.map_eq_some_iff.mp h
        cases tg with
        | Tuple elts kk tpos => exact i_enu k.wld.hK c.1 (k.gl _ c.2.1) (fre c.2.2) (by assumption) (hf _ _ h1)
        | _ => cases ht
      · cases h
    · split at h
      · rename_i c
        split at h
        · obtain ⟨a, h1, rfl⟩ := Option.map_eq_some_iff.mp h
          exact i_rng1 c.1 (k.gl _ c.2.1) (fre c.2.2) (by assumption) (hf _ _ h1)
        · cases h
      · exact base h
  · split at h
    · rename_i c
      split at h
      · rename_i h1 h2
        split at h
        · rename_i o
          cases h
          simp only [Bool.and_eq_true] at o
          exact i_rng2 c.1 (k.gl _ c.2.1) (fre c.2.2) o.1 o.2 (hf _ _ h1) (hf _ _ h2)
        · cases h
      · cases h
    · exact base h
  · exact base h
theorem nm_A (k : XOk S I G n N sc W X) {e : Expr} {i : Nat} (h : cNm N sc.names e = some i) : ∃ x p, e = .Name x p ∧ X.N[i]? = some x ∧ Loc X.env.scope x ∧ (X.fn x = true ∨ X.env.scope.names.lookup x = some .local) := by
  unfold cNm at h
  split at h
  · rename_i x p
    split at h
    · rename_i c
      simp only [Bool.and_eq_true] at c
      obtain ⟨h1, h2⟩ := k.sto x c.2
      exact ⟨x, p, rfl, by rw [k.hN]; exact posOf_at h, h1, h2⟩
    · cases h
  · cases h
theorem tgs_A (k : XOk S I G n N sc W X) : ∀ {es : List Expr} {t : Tg}, cTgs N sc.names es = some t → t.Flat ∧ PGs X es (rdGs S t) ∧ (assignEach es X.env).length = t.len ∧ (assignEach es X.env).findIdx? (·.1) = none
  | [], t, h => by cases h; exact ⟨.nil, gs_nil, rfl, rfl⟩
  | e :: es, t, h => by
    simp only [cTgs] at h
    split at h
    · rename_i i ts h1 h2
      cases h
      obtain ⟨x, p, rfl, hi, hx, hfn⟩ := nm_A k h1
      obtain ⟨q1, q2, q3, q4⟩ := tgs_A k h2
      refine ⟨.cons q1, gs_cons (g_nm (by rw [k.hN]; exact k.nd) hi hx hfn) q2 (by rfl), ?_, ?_⟩
      · show ((false, _) :: assignEach es X.env).length = _
        rw [List.length_cons, q3]; rfl
      · show List.findIdx? (·.1) ((false, _) :: assignEach es X.env) = none
        rw [List.findIdx?_cons]
        simp [q4]
    · cases h
theorem tg_A (k : XOk S I G n N sc W X) {e : Expr} {t : Tg} (h : cTg N sc.names e = some t) : PG X e (rdG S t) := by
  unfold cTg at h
  split at h
  · obtain ⟨q1, q2, q3, q4⟩ := tgs_A k h
    exact g_tup k.wld.hK k.calm q1 q2 q3 q4
  · obtain ⟨i, h1, rfl⟩ := Option.map_eq_some_iff.mp h
    obtain ⟨x, p, rfl, hi, hx, hfn⟩ := nm_A k h1
    exact g_nm (by rw [k.hN]; exact k.nd) hi hx hfn
theorem tgA_A (k : XOk S I G n N sc W X) {es : List Expr} {kk : Nat} {pos : Pos} {t : Tg} (h : cTg N sc.names (.Tuple es kk pos) = some t) : PG X (.Tuple es kk pos) (rdGA S t) := by
  have hg := tg_A k h
  unfold cTg at h
  obtain ⟨q1, q2, q3, q4⟩ := tgs_A k h
  exact g_tupA k.wld.hK k.calm q1 q2 q3 q4 hg
end
end Mi

set_option maxHeartbeats 4000000
namespace Mi
open PySem PySem.Spec PyProof.Rows L2

section
variable {S : Sta} {I : Inf} {G : Prg} {n : Nat} {N : List Str} {sc : Scope} {W : WX} {X : Cx} {Γ : Cxt} {f : Expr → Option Ex}
theorem isLoc_vis {sc : Scope} {x : Str} (h : Sc.isLoc sc.names x = true) : Vis sc x := by
  unfold Sc.isLoc at h
  split at h
  · exact .inl (by assumption)
  · exact .inr (.inl (by assumption))
  · exact .inr (.inr (by assumption))
  · cases h
theorem isSto_loc {sc : Scope} {x : Str} (h : Sc.isSto sc.names x = true) : sc.names.lookup x = some .local ∨ sc.names.lookup x = some .cell := by
  unfold Sc.isSto at h
  split at h
  · exact .inl (by assumption)
  · exact .inr (by assumption)
  · cases h
theorem isGl_gl {sc : Scope} {x : Str} (h : Sc.isGl sc.names x = true) : sc.names.lookup x = some .globalImplicit := by
  unfold Sc.isGl at h
  split at h
  · assumption
  · cases h
theorem lookup_rel {c : Str → NameKind → Bool} : ∀ {names : List (Str × NameKind)} {x : Str} {k : NameKind}, names.lookup x = some k → (names.map fun (n, k) => if c n k = true then (n, NameKind.cell) else (n, k)).lookup x = some (if c x k = true then .cell else k)
  | [], _, _, h => by simp at h
  | (n, k0) :: r, x, k, h => by
    rw [List.map_cons]
    have ih := @lookup_rel c r x k
    simp only [List.lookup_cons] at h ⊢
    by_cases e : x = n
    · subst e
      simp only [beq_self_eq_true, Option.some.injEq] at h
      subst h
      by_cases q : c x k0 = true <;> simp [q]
    · have e2 : (x == n) = false := beq_eq_false_iff_ne.mpr e
      rw [e2] at h
      show List.lookup x ((if c n k0 = true then (n, NameKind.cell) else (n, k0)) :: _) = _
      by_cases q : c n k0 = true
      · rw [if_pos q, List.lookup_cons, e2]; exact ih h
      · rw [if_neg q, List.lookup_cons, e2]; exact ih h
theorem lookup_relab {scope : Scope} {env : Env} {x : Str} {k : NameKind} (h : scope.names.lookup x = some k) : (relabel scope env).names.lookup x = some k ∨ (k = .free ∧ (relabel scope env).names.lookup x = some .cell) := by
  have q := lookup_rel (c := fun n k => (k == .free && env.scope.kind == .function && env.kindOf n == some .cell)) h
  by_cases c : (k == .free && env.scope.kind == .function && env.kindOf x == some .cell) = true
  · rw [if_pos c] at q
    simp only [Bool.and_eq_true] at c
    exact .inr ⟨by simpa using c.1.1, q⟩
  · rw [if_neg c] at q
    exact .inl q
theorem XOk.blk (k : XOk S I G n N sc W X) (s : Shared) (H : Hp) (scope : Scope) (C : Addr) (cl : List (Str × Addr)) (fp : List Addr) : XOk S I G n N scope W0 (X.blk s H scope (compEnvC scope cl C X.env) fp) where
  wld := k.wld
  hN := k.hN
  scp := fun y h => by
    show (relabel scope X.env).names.lookup y = _ ∨ (relabel scope X.env).names.lookup y = _
    rcases h with h | h
    · rcases lookup_relab (env := X.env) h with q | ⟨_, q⟩
      · exact .inl q
      · exact .inl q
    · rcases lookup_relab (env := X.env) h with q | ⟨_, q⟩
      · exact .inr q
      · exact .inl q
  nd := k.nd
  calm := k.calm
  tk := fun u s' ⟨a, B, sI, pins, σ, H, cls, d, e, I, nb, up, sky, na, os, ag, w⟩ => w.elim
  room := k.room
  grd := k.grd
  vis := fun x h => by
    show (relabel scope X.env).names.lookup x = _ ∨ (relabel scope X.env).names.lookup x = _ ∨ (relabel scope X.env).names.lookup x = _
    rcases isLoc_vis h with h | h | h
    · rcases lookup_relab (env := X.env) h with q | ⟨q, _⟩
      · exact .inl q
      · cases q
    · rcases lookup_relab (env := X.env) h with q | ⟨q, _⟩
      · exact .inr (.inl q)
      · cases q
    · rcases lookup_relab (env := X.env) h with q | ⟨_, q⟩
      · exact .inr (.inr q)
      · exact .inr (.inl q)
  sto := fun x h => by
    show ((relabel scope X.env).names.lookup x = _ ∨ (relabel scope X.env).names.lookup x = _) ∧ ((scope.names.lookup x == some .cell) = true ∨ (relabel scope X.env).names.lookup x = _)
    rcases isSto_loc h with h | h
    · rcases lookup_relab (env := X.env) h with q | ⟨q, _⟩
      · exact ⟨.inl q, .inr q⟩
      · cases q
    · rcases lookup_relab (env := X.env) h with q | ⟨q, _⟩
      · exact ⟨.inr q, .inl (by rw [h]; rfl)⟩
      · cases q
  gl := fun x h => by
    show (relabel scope X.env).names.lookup x = _
    rcases lookup_relab (env := X.env) (isGl_gl h) with q | ⟨q, _⟩
    · exact q
    · cases q
theorem XOk.blkOk (k : XOk S I G n N sc W X) {scope : Scope} {own : List (Str × Nat)} (h : blkC N sc scope own = true) : BlkOk X.N X.env.scope scope own := by
  obtain ⟨h1, h2, h3, h4, h5⟩ := blkOk_by h
  rw [k.hN]
  exact ⟨h1, h2, h3, fun y hy e => k.scp _ (h4 y hy e), h5⟩
theorem EOk.of {e : Expr} {c : Ex} (hK : X.K = S.K) (pe : PE X e (rdE S W (ev Γ c))) (he : ∀ whole, PySem.isTrue e X.env whole = (do let v ← whole; standAt e.pos; holding [v] (PySem.truthy v))) : EOk S W X Γ e c := ⟨pe, pt_of_pe hK pe he⟩
theorem tyN_of {t : Str} (h : isTy t = true) : ∃ T, tyN t = some T := by
  unfold isTy at h
  simp only [Bool.or_eq_true, decide_eq_true_eq] at h
  rcases h with ((((h | h) | h) | h) | h) | h <;> subst h
  · exact ⟨"int", by decide +kernel⟩
  · exact ⟨"bool", by decide +kernel⟩
  · exact ⟨"str", by decide +kernel⟩
  · exact ⟨"tuple", by decide +kernel⟩
  · exact ⟨"list", by decide +kernel⟩
  · exact ⟨"dict", by decide +kernel⟩
theorem call_A (io : IOk I G) (k : XOk S I G n N sc W X) {x : Str} {p pos : Pos} {es : List Expr} {c : Ex} (hf : ∀ e c, f e = some c → PE X e (rdE S W (ev (G.Γ n) c))) (h : cCall I sc.names x es (cAll f es) = some c) : PE X (.Call (.Name x p) es [] pos) (rdE S W (ev (G.Γ n) c)) := by
  unfold cCall at h
  split at h
  · cases h
  · rename_i ces e1
    split at h
    · rename_i c1
      simp only [Bool.and_eq_true] at c1
      obtain ⟨⟨⟨c1, c2⟩, c3⟩, c4⟩ := c1
      obtain ⟨h1, h2, h3⟩ := all_A hf c4 e1
      have ho : ∀ e ∈ es, okE e = true := fun e he => List.all_eq_true.mp c4 e he
      split at h
      · rename_i c5
        cases h
        exact e_mk k c2 c1 (io.cls x (by simpa using c5)) (fun _ _ => trivial) ho h3 h1
      · split at h
        · rename_i c5
          cases h
          exact e_call k c2 c1 (io.fns x (by simpa using c5)) ho h3 h1
        · split at h
          · rename_i c5
            obtain ⟨b, hb, rfl⟩ := Option.map_eq_some_iff.mp h
            simp only [Bool.and_eq_true] at c5
            cases es with
            | nil => exact absurd c5.2 (by decide)
            | cons e es => exact e_bif k hb c2 c1 (k.wld.fre _ (by simpa using c5.1)) ho h1
          · cases h
    · cases h
theorem meth_A (k : XOk S I G n N sc W X) {m : Str} {o : Expr} {apos pos : Pos} {es : List Expr} {c : Ex} (hf : ∀ e c, f e = some c → PE X e (rdE S W (ev (G.Γ n) c))) (ho : okE o = true) (h : cMeth m apos es pos (f o) (cAll f es) = some c) : PE X (.Call (.Attribute o m apos) es [] pos) (rdE S W (ev (G.Γ n) c)) := by
  unfold cMeth at h
  split at h
  · rename_i co ces e0 e1
    split at h
    · rename_i c1
      simp only [Bool.and_eq_true, decide_eq_true_eq] at c1
      obtain ⟨⟨c1, c2⟩, c4⟩ := c1
      obtain ⟨h1, h2, h3⟩ := all_A hf c4 e1
      have hok : ∀ e ∈ es, okE e = true := fun e he => List.all_eq_true.mp c4 e he
      split at h
      · rename_i b hb
        split at h
        · cases h
        · rename_i ne
          cases h
          cases es with
          | nil => exact absurd rfl ne
          | cons e es => exact e_bmt k.wld.hK k.units hb (ok_base ho m) c2 c1 hok (hf _ _ e0) h1
      · cases h
        exact e_mth k (ok_base ho m) c2 c1 hok h3 (hf _ _ e0) h1
    · cases h
  · cases h
theorem isi_A (k : XOk S I G n N sc W X) {x : Str} {p pos : Pos} {es : List Expr} {c : Ex} (hf : ∀ e c, f e = some c → PE X e (rdE S W (ev (G.Γ n) c))) (h : cIsi I sc.names f x es = some c) : PE X (.Call (.Name x p) es [] pos) (rdE S W (ev (G.Γ n) c)) := by
  unfold cIsi at h
  split at h
  · split at h
    · rename_i a t q c1
      simp only [Bool.and_eq_true, decide_eq_true_eq] at c1
      obtain ⟨⟨⟨⟨⟨⟨⟨c1, c2⟩, c3⟩, c4⟩, c5⟩, c6⟩, c7⟩, c8⟩ := c1
      obtain ⟨ca, h1, rfl⟩ := Option.map_eq_some_iff.mp h
      obtain ⟨T, hT⟩ := tyN_of c4
      exact e_isi k.wld.hK c1 hT (k.gl _ c3) (k.wld.fre _ (by simpa using c2)) (k.gl _ c6) (k.wld.fre _ (by simpa using c5)) c7 c8 (hf _ _ h1)
    · cases h
  · cases h
theorem lckOf_or (t it : Expr) (ifs : List Expr) (i c : Ex) : lckOf t it ifs i c = c ∨ ∃ j, lckOf t it ifs i c = .lck j c := by
  unfold lckOf
  split
  · split
    · exact .inr ⟨_, rfl⟩
    · exact .inl rfl
  · exact .inl rfl
theorem lck_A {e t it : Expr} {ifs : List Expr} {i c : Ex} (h : PE X e (rdE S W (ev Γ c))) : PE X e (rdE S W (ev Γ (lckOf t it ifs i c))) := by
  rcases lckOf_or t it ifs i c with q | ⟨j, q⟩
  · rw [q]; exact h
  · rw [q]; exact e_lck h
theorem itm_A (k : XOk S I G n N sc W X) {x : Str} {p pos : Pos} {es : List Expr} {c : Ex} (hf : ∀ e c, f e = some c → PE X e (rdE S W (ev (G.Γ n) c))) (h : cItm I sc.names f x pos es = some c) : PE X (.Call (.Name x p) es [] pos) (rdE S W (ev (G.Γ n) c)) := by
  unfold cItm at h
  split at h
  · split at h
    · rename_i c1
      simp only [Bool.and_eq_true, decide_eq_true_eq] at c1
      obtain ⟨⟨⟨⟨⟨c1, c2⟩, c3⟩, c4⟩, c5⟩, c6⟩ := c1
      obtain ⟨ca, h1, rfl⟩ := Option.map_eq_some_iff.mp h
      exact e_itm k.calm c1 c2 (k.gl _ c4) (k.wld.fre _ (by simpa using c3)) c5 c6 (hf _ _ h1)
    · cases h
  · cases h
theorem part_A {o : Option Expr} {c : Ex} (hf : ∀ e c, f e = some c → PE X e (rdE S W (ev Γ c))) (h : cPart f o = some c) : PO X o (rdO S W (ev Γ c)) := by
  unfold cPart at h
  split at h
  · cases h; exact o_none rfl
  · exact o_some (hf _ _ h)
theorem soundE (io : IOk I G) : ∀ (d : Nat) {sc : Scope} {e : Expr} {c : Ex} {X : Cx} {W : WX}, XOk S I G n N sc W X → cE I N d sc e = some c → EOk S W X (G.Γ n) e c := by
  intro d
  induction d with
  | zero => intro sc e c X W k h; cases h
  | succ d ih =>
    intro sc e c X W k h
    have hK := k.wld.hK
    have hf : ∀ e c, cE I N d sc e = some c → EOk S W X (G.Γ n) e c := fun e c q => ih k q
    have hp : ∀ e c, cE I N d sc e = some c → PE X e (rdE S W (ev (G.Γ n) c)) := fun e c q => (ih k q).pe
    unfold cE at h
    split at h
    rotate_left
    · cases h
    rename_i ho
    split at h
    · cases h; exact .of hK (e_lit pe_non fun _ _ => .non) fun _ => rfl
    · cases h; exact .of hK (e_lit pe_bl fun _ _ => .bl _) fun _ => rfl
    · cases h; exact .of hK (e_lit pe_int fun _ _ => .int _) fun _ => rfl
    · cases h; exact .of hK (e_lit pe_str fun _ _ => .str _) fun _ => rfl
    · exact .of hK (e_name k h) fun _ => rfl
    · split at h
      · rename_i c1
        simp only [Bool.and_eq_true, few, decide_eq_true_eq] at c1
        obtain ⟨ces, h1, rfl⟩ := Option.map_eq_some_iff.mp h
        obtain ⟨q1, q2, _⟩ := all_A hp c1.2 h1
        exact .of hK (e_tup (by rw [q2]; exact c1.1) q1) fun _ => rfl
      · cases h
    · split at h
      · rename_i c1
        simp only [Bool.and_eq_true, few, decide_eq_true_eq] at c1
        obtain ⟨ces, h1, rfl⟩ := Option.map_eq_some_iff.mp h
        obtain ⟨q1, q2, _⟩ := all_A hp c1.2 h1
        exact .of hK (e_lst (by rw [q2]; exact c1.1) q1) fun _ => rfl
      · cases h
    · split at h
      · rename_i ks vs _ c1
        simp only [decide_eq_true_eq] at c1
        obtain ⟨cc, h1, rfl⟩ := Option.map_eq_some_iff.mp h
        obtain ⟨q1, q2, q3, q4⟩ := kvs_A hp h1
        by_cases h0 : ks = []
        · have := q4 h0
          subst this
          subst h0
          have hv : vs = [] := List.length_eq_zero_iff.mp (by simpa using q2.symm)
          subst hv
          exact .of hK e_dct0 fun _ => rfl
        · exact .of hK (e_dct q2 c1 h0 q3 q1) fun _ => rfl
      · cases h
    · split at h
      · rename_i h1 h2 h3
        cases h
        exact .of hK (e_bin (op_binM hK h1) (hp _ _ h2) (hp _ _ h3)) fun _ => rfl
      · cases h
    · obtain ⟨cc, h1, rfl⟩ := Option.map_eq_some_iff.mp h
      exact .of hK (e_neg (hp _ _ h1)) fun _ => rfl
    · obtain ⟨cc, h1, rfl⟩ := Option.map_eq_some_iff.mp h
      exact ⟨e_not hK (hp _ _ h1), t_not (hf _ _ h1).pt⟩
    · obtain ⟨h1, h2⟩ := chain_A hK hf h
      exact ⟨h1, h2.pt⟩
    · split at h
      · rename_i h1 h2
        split at h
        · rename_i ob
          cases h
          exact ⟨e_cmp (op_copM hK k.units _) (ok_mark ob _) (hp _ _ h1) (hp _ _ h2), t_cmp (op_copM hK k.units _) (ok_mark ob _) (hp _ _ h1) (hp _ _ h2)⟩
        · cases h
      · cases h
    · split at h
      · rename_i h1 h2 h3
        split at h
        · rename_i ob
          cases h
          exact ⟨e_chn (op_copM hK k.units _) (op_copM hK k.units _) (ok_mark ob _) (hp _ _ h1) (hp _ _ h2) (hp _ _ h3), t_chn (op_copM hK k.units _) (op_copM hK k.units _) (ok_mark ob _) (hp _ _ h1) (hp _ _ h2) (hp _ _ h3)⟩
        · cases h
      · cases h
    · split at h
      · rename_i h1 h2 h3
        cases h
        exact ⟨e_ite (hf _ _ h1).pt (hp _ _ h2) (hp _ _ h3), t_ite (hf _ _ h1).pt (hf _ _ h2).pt (hf _ _ h3).pt⟩
      · cases h
    · split at h
      · rename_i h1 h2 h3
        cases h
        exact .of hK (e_slc (sl_M hK) (hp _ _ h1) (part_A hp h2) (part_A hp h3)) fun _ => rfl
      · cases h
    · obtain ⟨cc, h1, rfl⟩ := Option.map_eq_some_iff.mp h
      exact .of hK (e_rev hK (hp _ _ h1)) fun _ => rfl
    · split at h
      · rename_i h1 h2
        split at h
        · rename_i ob
          cases h
          exact .of hK (e_idx (ix_M hK k.units k.wld.dw) (ok_ix ob) (hp _ _ h1) (hp _ _ h2)) fun _ => rfl
        · cases h
      · cases h
    · split at h
      · rename_i oa
        obtain ⟨cc, h1, rfl⟩ := Option.map_eq_some_iff.mp h
        exact .of hK (e_fld (ok_base oa _) k.wld.cls (fun c q => k.wld.noat _ _ (by simpa [Prg.Γ] using q)) (hp _ _ h1)) fun _ => rfl
      · cases h
    · split at h
      · rename_i h1
        cases h
        exact .of hK (isi_A k hp h1) fun _ => rfl
      · split at h
        · rename_i h1
          cases h
          exact .of hK (itm_A k hp h1) fun _ => rfl
        · exact .of hK (call_A io k hp h) fun _ => rfl
    · rename_i oe _ _ _ _
      have oo : okE oe = true := by
        unfold cMeth at h
        split at h
        · rename_i e1 _
          exact cE_ok e1
        · cases h
      exact .of hK (meth_A k hp oo h) fun _ => rfl
    · split at h
      · rename_i c1
        simp only [Bool.and_eq_true, decide_eq_true_eq] at c1
        obtain ⟨⟨rfl, c2⟩, c3⟩ := c1
        split at h
        · rename_i h1 h2 h3 h4
          split at h
          · rename_i c4
            simp only [Bool.and_eq_true, List.all_eq_true] at c4
            cases h
            refine .of hK (lck_A (e_lc k.calm (by rw [k.hN]; exact k.nd) (fun i hi => by simpa using c4.2 i hi) (it_A k hp h3 c4.1) (k.blkOk c3) ?_ ?_ ?_ (ok_fold c2))) fun _ => rfl
            · intro s H C cl fp
              exact tg_A (k.blk s H _ C cl fp) h2
            · intro s H C cl fp
              unfold cIf at h4
              split at h4
              · cases h4; exact ts_nil
              · exact pts_one (ih (k.blk s H _ C cl fp) h4).pt
              · cases h4
            · intro s H C cl fp
              exact (ih (k.blk s H _ C cl fp) h1).pe
          · cases h
        · cases h
      · cases h
    · split at h
      · rename_i c1
        simp only [Bool.and_eq_true, decide_eq_true_eq] at c1
        obtain ⟨⟨⟨⟨rfl, rfl⟩, c2⟩, c3⟩, c4⟩ := c1
        split at h
        · rename_i h1 h2 h3 h4
          split at h
          · rename_i g2 g3 g4
            split at h
            · rename_i c5
              simp only [Bool.and_eq_true, List.all_eq_true] at c5
              cases h
              refine .of hK (e_lc2 k.calm (by rw [k.hN]; exact k.nd) (fun i hi => by simpa using c5.1.2 i hi) (fun i hi => by simpa using c5.2 i hi) (it_A k hp h3 c5.1.1.1) (k.blkOk c4) ?_ ?_ ?_ ?_ ?_ ?_ (ok_fold c2) fun _ => ok_fold c3) fun _ => rfl
              · intro s H C cl fp
                exact tg_A (k.blk s H _ C cl fp) h2
              · intro s H C cl fp
                unfold cIf at h4
                split at h4
                · cases h4; exact ts_nil
                · exact pts_one (ih (k.blk s H _ C cl fp) h4).pt
                · cases h4
              · intro s H C cl fp
                exact it_A (k.blk s H _ C cl fp) (fun e c q => (ih (k.blk s H _ C cl fp) q).pe) g3 c5.1.1.2
              · intro s H C cl fp
                exact tg_A (k.blk s H _ C cl fp) g2
              · intro s H C cl fp
                unfold cIf at g4
                split at g4
                · cases g4; exact ts_nil
                · exact pts_one (ih (k.blk s H _ C cl fp) g4).pt
                · cases g4
              · intro s H C cl fp
                exact (ih (k.blk s H _ C cl fp) h1).pe
            · cases h
          · cases h
        · cases h
      · cases h
    · cases h
end
end Mi

set_option maxHeartbeats 2000000
namespace Mi
open PySem PySem.Spec PyProof.Rows L2

/-- what is wanted behind a statement, by how it ends -/
def FlP (S : Sta) (W : WX) (D : Ends) : Fl → List Addr → Hp → Hh → Prop := fun f m H _ => match f with
  | .nx ρ => ∀ σ, EnR S m H ρ σ → D.nx σ H
  | .bk ρ => ∀ σ, EnR S m H ρ σ → D.bk σ H
  | .ct ρ => ∀ σ, EnR S m H ρ σ → D.ct σ H
  | .rt v => ∀ z, S.VR m H v z → D.rt z H
  | .xc x ρ => ∀ cls d σ, XR S m H x cls d → EnR S m H ρ σ → W cls d σ H
def X0 : XK := fun _ _ _ => False
def rdS (S : Sta) (W : WX) (f : En → Hh → R Fl) : TS := fun D σ H => ∃ m h ρ, Sim S m H h ∧ EnR S m H ρ σ ∧ Pst S X0 m H (f ρ h) (FlP S W D)
theorem R.bind_assoc {α β γ : Type} (r : R α) (f : α → Hh → R β) (g : β → Hh → R γ) : (r.bind f).bind g = r.bind fun a h => (f a h).bind g := by cases r <;> rfl
theorem orBad_bind {α β γ : Type} (o : Option α) (f : α → R β) (g : β → Hh → R γ) : (orBad o f).bind g = orBad o fun a => (f a).bind g := by cases o <;> rfl
section
variable {S : Sta} {W : WX} {X : Cx} {Γ : Cxt} {pos : Pos} {D : Ends} {m : List Addr} {h : Hh} {ρ : En} {σ : L2.St} {H : Hp}
theorem _root_.L2.PS.imp {e : Stmt} {t t' : TS} (p : PS X e t) (i : ∀ D σ H, t' D σ H → t D σ H) : PS X e t' := ⟨fun pins s σ H D J q => p.run pins s σ H D J (i D σ H q)⟩
theorem _root_.L2.PSs.imp {e : List Stmt} {t t' : TS} (p : PSs X e t) (i : ∀ D σ H, t' D σ H → t D σ H) : PSs X e t' := ⟨fun pins s σ H D J q => p.run pins s σ H D J (i D σ H q)⟩
theorem rdE_held {fa : En → Hh → R Val} {rest : Val → Hh → R Fl} {Qa : VK} (s : Sim S m H h) (e : EnR S m H ρ σ) (p : Pst S X0 m H (held (fa ρ h) ρ rest) (FlP S W D))
    (k : ∀ m1 H1 h1 v z, fa ρ h = .ok v h1 → Ext m H m1 H1 → Sim S m1 H1 h1 → EnR S m1 H1 ρ σ → S.VR m1 H1 v z → Pst S X0 m1 H1 (rest v h1) (FlP S W D) → Qa z H1) : rdE S W fa σ H Qa := by
  refine ⟨m, h, ρ, s, e, ?_⟩
  cases q : fa ρ h with
  | ok v h1 =>
    rw [q] at p
    exact fun m1 H1 x s1 z r => k m1 H1 h1 v z q x s1 (e.ext s x) r (p.ext x)
  | exc y h1 =>
    rw [q] at p
    exact fun m1 H1 cls d x s1 xr => p m1 H1 x s1 cls d σ xr (e.ext s x)
  | bad => rw [q] at p; exact p.elim
theorem rdT_held {fa : En → Hh → R Val} {rest : Val → Hh → R Fl} {Qa : Bool → Hp → Prop} (s : Sim S m H h) (e : EnR S m H ρ σ) (p : Pst S X0 m H (held (fa ρ h) ρ rest) (FlP S W D))
    (k : ∀ m1 H1 h1 v, Ext m H m1 H1 → Sim S m1 H1 h1 → EnR S m1 H1 ρ σ → Pst S X0 m1 H1 (rest v h1) (FlP S W D) → ∃ b, truthy h1 v = some b ∧ Qa b H1) : rdT S W fa σ H Qa := by
  refine ⟨m, h, ρ, s, e, ?_⟩
  cases q : fa ρ h with
  | ok v h1 =>
    rw [q] at p
    exact fun m1 H1 x s1 => k m1 H1 h1 v x s1 (e.ext s x) (p.ext x)
  | exc y h1 =>
    rw [q] at p
    exact fun m1 H1 cls d x s1 xr => p m1 H1 x s1 cls d σ xr (e.ext s x)
  | bad => rw [q] at p; exact p.elim
theorem rdI_held {fa : En → Hh → R Src} {rest : Src → Hh → R Fl} {Qa : It → Hp → Prop} (s : Sim S m H h) (e : EnR S m H ρ σ) (p : Pst S X0 m H (held (fa ρ h) ρ rest) (FlP S W D))
    (k : ∀ m1 H1 h1 src J, Ext m H m1 H1 → Sim S m1 H1 h1 → EnR S m1 H1 ρ σ → ItOk S J src m1 H1 → Pst S X0 m1 H1 (rest src h1) (FlP S W D) → Qa J H1) : rdI S W fa σ H Qa := by
  refine ⟨m, h, ρ, s, e, ?_⟩
  cases q : fa ρ h with
  | ok v h1 =>
    rw [q] at p
    exact fun m1 H1 x s1 J hJ => k m1 H1 h1 v J x s1 (e.ext s x) hJ (p.ext x)
  | exc y h1 =>
    rw [q] at p
    exact fun m1 H1 cls d x s1 xr => p m1 H1 x s1 cls d σ xr (e.ext s x)
  | bad => rw [q] at p; exact p.elim

/-! ### small statements -/
variable {e : Expr} {c : Ex} {st : Stmt} {rest : List Stmt} {a b : Sm}
theorem s_never : PS X st (rdS S W (ex Γ .never)) := ⟨fun _ _ _ _ _ _ ⟨_, _, _, _, _, p⟩ => p.elim⟩
theorem s_doc {x j p} : PS X (.Expr (.Constant (.str x) j p) pos) (rdS S W (ex Γ .nop)) := ps_doc.imp fun D σ H ⟨m, h, ρ, s, en, p⟩ => p m H .refl s σ en
theorem s_pass : PS X (.Pass pos) (rdS S W (ex Γ .nop)) := ps_pass.imp fun D σ H ⟨m, h, ρ, s, en, p⟩ => p m H .refl s σ en
theorem s_brk : PS X (.Break pos) (rdS S W (ex Γ .brk)) := ps_break.imp fun D σ H ⟨m, h, ρ, s, en, p⟩ => p m H .refl s σ en
theorem s_cont : PS X (.Continue pos) (rdS S W (ex Γ .cont)) := ps_continue.imp fun D σ H ⟨m, h, ρ, s, en, p⟩ => p m H .refl s σ en
theorem s_retN : PS X (.Return none pos) (rdS S W (ex Γ .retN)) := ps_retN.imp fun D σ H ⟨m, h, ρ, s, en, p⟩ => p m H .refl s .non .non
theorem s_ret (he : PE X e (rdE S W (ev Γ c))) : PS X (.Return (some e) pos) (rdS S W (ex Γ (.ret c))) := (ps_ret he).imp fun D σ H ⟨m, h, ρ, s, en, p⟩ =>
  rdE_held s en p fun m1 H1 h1 v z _ x s1 en1 r p1 => p1 m1 H1 .refl s1 z r
theorem noComp_none (h : isComp e = false) (l : Nat) (env : Env) : swapsWith e none l env = pure false := by
  cases e <;> first | rfl | cases h
theorem noComp_some (h : isComp e = false) (t : Expr) (l : Nat) (env : Env) : swapsWith e (some t) l env = pure false := by
  cases e <;> first | rfl | cases h
theorem noTup_stores (h : isTupE e = false) (t : Expr) (env : Env) : swappedStores [t] e env = pure none := by
  cases e <;> cases t <;> first | rfl | cases h
theorem s_exp (hn : isComp e = false) (he : PE X e (rdE S W (ev Γ c))) : PS X (.Expr e pos) (rdS S W (ex Γ (.exp c))) := (ps_expr he (noComp_none hn _ _)).imp fun D σ H ⟨m, h, ρ, s, en, p⟩ =>
  rdE_held s en p fun m1 H1 h1 v z _ x s1 en1 r p1 => p1 m1 H1 .refl s1 σ en1
theorem s_if {xs ys : List Stmt} (he : PT X e (rdT S W (ev Γ c))) (ha : PSs X xs (rdS S W (ex Γ a))) (hb : PSs X ys (rdS S W (ex Γ b))) : PS X (.If e xs ys pos) (rdS S W (ex Γ (.ifs c a b))) := (ps_if he ha hb).imp fun D σ H ⟨m, h, ρ, s, en, p⟩ =>
  rdT_held s en p fun m1 H1 h1 v x s1 en1 p1 => by
    obtain ⟨k, e1, p2⟩ := Pst.orBad p1
    refine ⟨k, e1, ?_⟩
    cases k with
    | true => exact ⟨m1, h1, ρ, s1, en1, p2⟩
    | false => exact ⟨m1, h1, ρ, s1, en1, p2⟩
theorem ss_nil : PSs X [] (rdS S W (ex Γ .nop)) := pss_nil.imp fun D σ H ⟨m, h, ρ, s, en, p⟩ => p m H .refl s σ en
theorem ss_cons (ha : PS X st (rdS S W (ex Γ a))) (hb : PSs X rest (rdS S W (ex Γ b))) : PSs X (st :: rest) (rdS S W (ex Γ (.seq a b))) := (pss_cons ha hb).imp fun D σ H ⟨m, h, ρ, s, en, p⟩ => by
  refine ⟨m, h, ρ, s, en, (Pst.bind p).mono fun fl m1 H1 h1 _ x s1 p1 => ?_⟩
  cases fl with
  | nx ρ1 => exact fun σ1 en1 => ⟨m1, h1, ρ1, s1, en1, p1⟩
  | bk ρ1 => exact p1 m1 H1 .refl s1
  | ct ρ1 => exact p1 m1 H1 .refl s1
  | rt v => exact p1 m1 H1 .refl s1
  | xc y ρ1 => exact p1 m1 H1 .refl s1
/-! ### stores -/
theorem asg_rd {t : Tg} (D : Ends) (σ : L2.St) (H : Hp) (q : rdS S W (ex Γ (.asg t c)) D σ H) : rdE S W (ev Γ c) σ H fun x H1 => rdGA S t x σ H1 D.nx := by
  obtain ⟨m, h, ρ, s, en, p⟩ := q
  refine rdE_held s en p fun m1 H1 h1 v z _ x s1 en1 r p1 => ?_
  obtain ⟨ρ1, e1, p2⟩ := Pst.orBad p1
  exact ⟨m1, h1, ρ, v, ρ1, s1, en1, r, e1, fun σ1 en2 _ => p2 m1 H1 .refl s1 σ1 en2⟩
theorem nm_rd {i : Nat} {z : V} {σ : L2.St} {H : Hp} {Q : L2.St → Hp → Prop} (q : rdGA S (.nm i) z σ H Q) : gName i z σ H Q := by
  obtain ⟨m, h, ρ, v, ρ', s, en, r, e, k⟩ := q
  simp only [spread, Tg.put] at e
  split at e
  · cases e
    exact k _ (en.set r) fun vs hv => wipe_set (hv i (by simp [Tg.slots]))
  · cases e
theorem rdE_mono {fa : En → Hh → R Val} {Q Q' : VK} (p : rdE S W fa σ H Q) (h : ∀ z H', Q z H' → Q' z H') : rdE S W fa σ H Q' := by
  obtain ⟨m, hh, ρ, s, en, p⟩ := p
  exact ⟨m, hh, ρ, s, en, p.mono fun v m' H' h' _ _ _ q z r => h z H' (q z r)⟩
theorem s_set {i : Nat} {x : Str} {px : Pos} (hN : X.N.Nodup) (hi : X.N[i]? = some x) (hx : Loc X.env.scope x) (hf : X.fn x = true ∨ X.env.scope.names.lookup x = some .local) (hc : isComp e = false) (he : PE X e (rdE S W (ev Γ c))) :
    PS X (.Assign [.Name x px] e pos) (rdS S W (ex Γ (.asg (.nm i) c))) :=
  (ps_set hN hi hx he (noComp_some hc _ _ _) hf).imp fun D σ H q => rdE_mono (asg_rd D σ H q) fun z H' q => nm_rd q
theorem s_tup {ts : List Expr} {k : Nat} {p : Pos} {t : Tg} (hc : isComp e = false) (ht : isTupE e = false) (hg : PG X (.Tuple ts k p) (rdGA S t)) (he : PE X e (rdE S W (ev Γ c))) : PS X (.Assign [.Tuple ts k p] e pos) (rdS S W (ex Γ (.asg t c))) :=
  (ps_asg he hg (by unfold swapsWithSole; exact noComp_some hc _ _ _) (noTup_stores ht _ _) (by rfl)).imp fun D σ H q => asg_rd D σ H q
theorem s_lc {i : Nat} {x : Str} {px : Pos} {elt tg iter : Expr} {ifs : List Expr} {scope : Scope} {own : List (Str × Nat)} {lpos : Pos} {t : Tg} {ce ci cc : Ex} (hc : X.calm = true) (hN : X.N.Nodup) (hi : X.N[i]? = some x) (hxl : X.env.scope.names.lookup x = some .local)
    (hsw : swapsWith (.ListComp elt [⟨tg, iter, ifs, 0⟩] scope lpos) (some (.Name x px)) pos.line X.env = pure true) (hv : ∀ i ∈ t.slots, i ∈ own.map (·.2)) (hit : PI X tg iter (rdI S W (evi Γ ci))) (ok : BlkOk X.N X.env.scope scope own)
    (hg : ∀ (s : Shared) (H : Hp) (C : Addr) (cl : List (Str × Addr)) (fp : List Addr), PG (X.blk s H scope (compEnvC scope cl C X.env) fp) tg (rdG S t)) (ht : ∀ (s : Shared) (H : Hp) (C : Addr) (cl : List (Str × Addr)) (fp : List Addr), PTs (X.blk s H scope (compEnvC scope cl C X.env) fp) ifs (rdT S W0 (ev Γ cc)))
    (he : ∀ (s : Shared) (H : Hp) (C : Addr) (cl : List (Str × Addr)) (fp : List Addr), PE (X.blk s H scope (compEnvC scope cl C X.env) fp) elt (rdE S W0 (ev Γ ce))) (hs : ∀ x, foldedSetIterable iter X.env x = pure x) :
    PS X (.Assign [.Name x px] (.ListComp elt [⟨tg, iter, ifs, 0⟩] scope lpos) pos) (rdS S W (ex Γ (.asg (.nm i) (.cmpr ce (.gen t ci cc .nil) (own.map (·.2)))))) :=
  (ps_setLc hc hN hi hxl hsw hit ok hg ht he hs).imp fun D σ H q => lc_rd hv σ H _ (rdE_mono (asg_rd D σ H q) fun z H' q => nm_rd q)
/-- o[i] = v, by values -/
def rSubM (S : Sta) : TSet := fun o i v H Q => ∃ U m h a b w, Sim S m H h ∧ S.VR m H a o ∧ S.VR m H b i ∧ S.VR m H w v ∧ Pst S U m H (subop a b w h) (fun _ _ H' _ => Q H')
theorem set_M (hK : X.K = S.K) (hu : X.A.units + 65 < cLine) : PSet X (rSubM S) := by
  intro pins s σ H o i v ov iv u Q I ro ri rv ⟨U, m, h, a, b, w, sim, ra, rb, rw', p⟩
  cases ra with
  | @ref l q em =>
    simp only [subop] at p
    split at p
    · rename_i xs eo
      cases rb with
      | int k =>
        obtain ⟨j, e1, p1⟩ := Pst.orBad p
        obtain ⟨vs, h1, rs⟩ := sim.at_ l q _ em eo
        have x1 : Ext m H m (upd H q (.lst (vs.set j v))) := Ext.upd_at (mem_of_get em) (nfz h1 (fun _ _ z => nomatch z))
        refine set_list pins s σ H _ _ v ov iv u Q I ro ri rv ⟨q, vs, k, j, rfl, rfl, h1, by rw [← rs.length]; exact e1, ?_⟩
        exact p1 m _ x1 (sim.put (nfz h1 (fun _ _ z => nomatch z)) em ⟨_, upd_same, ((VRs.set j rw' rs).ext sim x1)⟩)
      | _ => exact p.elim
    · rename_i kvs eo
      obtain ⟨k, e1, p1⟩ := Pst.orBad p
      obtain ⟨c, p2⟩ := Pst.okIf p1
      simp only [Bool.and_eq_true, decide_eq_true_eq] at c
      obtain ⟨c1, c2⟩ := c
      have kr := toKey_of rb e1
      cases k with
      | inl k =>
        have ek : i = kV k := kr
        subst ek
        have fin : ∀ ws, H q = some (.dK ws) → DRk S m H kvs ws → wpAny (model X.prog X.w) X.A (setItem ov iv u) (fun _ s' => ∃ H', Inv X pins σ H' s' ∧ Q H') X.xe s := fun ws h1 rs => by
          have x1 : Ext m H m (upd H q (.dK (putK ws k v))) := Ext.upd_at (mem_of_get em) (nfz h1 (fun _ _ z => nomatch z))
          refine set_dict (by omega) pins s σ H _ _ v ov iv u Q I ro ri rv ⟨q, _, rfl, DPut.k h1 (by rw [← Paired.length rs]; exact c2), ?_⟩
          exact p2 m _ x1 (sim.put (nfz h1 (fun _ _ z => nomatch z)) em (.inl ⟨_, upd_same, (DRk.put rs rw').ext sim x1⟩))
        rcases sim.at_ l q _ em eo with ⟨ws, h1, rs⟩ | ⟨nz, ws, h1, rs⟩
        · exact fin ws h1 rs
        · exfalso
          cases rs with
          | nil => exact nz rfl
          | cons z _ =>
            simp only [oneKind, List.all_cons, Bool.and_eq_true] at c1
            rw [z.1] at c1; exact absurd c1.1 (by simp)
      | inr ks =>
        obtain ⟨b', rfl, eb⟩ := kr
        rcases sim.at_ l q _ em eo with ⟨ws, h1, rs⟩ | ⟨nz, ws, h1, rs⟩
        · cases rs with
          | cons z _ =>
            exfalso
            simp only [oneKind, List.all_cons, Bool.and_eq_true] at c1
            rw [z.1] at c1; exact absurd c1.1 (by simp)
          | nil =>
            have nb : b' ≠ q := fun z => by subst z; rw [h1] at eb; cases eb
            have x1 : Ext m H m (upd H q (.dT (putK [] ks v))) := Ext.upd_at (mem_of_get em) (nfz h1 (fun _ _ z => nomatch z))
            refine set_dict (by omega) pins s σ _ _ _ v ov iv u Q (conv_t I h1) ro ri rv ⟨q, _, rfl, DPut.t upd_same (by rw [upd_ne nb]; exact eb) (by exact c2), ?_⟩
            rw [upd_upd]
            exact p2 m _ x1 (sim.put (nfz h1 (fun _ _ z => nomatch z)) em (.inr ⟨by simp [dput], _, upd_same, (DRt.put .nil rw').ext sim x1⟩))
        · have x1 : Ext m H m (upd H q (.dT (putK ws ks v))) := Ext.upd_at (mem_of_get em) (nfz h1 (fun _ _ z => nomatch z))
          refine set_dict (by omega) pins s σ H _ _ v ov iv u Q I ro ri rv ⟨q, _, rfl, DPut.t h1 eb (by rw [← Paired.length rs]; exact c2), ?_⟩
          refine p2 m _ x1 (sim.put (nfz h1 (fun _ _ z => nomatch z)) em (.inr ⟨?_, _, upd_same, (DRt.put rs rw').ext sim x1⟩))
          unfold dput
          split
          · intro z; exact nz (List.map_eq_nil_iff.mp z)
          · intro z; simp at z
    · exact p.elim
  | _ => exact p.elim
theorem s_sub {o i : Expr} {co ci : Ex} {px : Pos} (hK : X.K = S.K) (hu : X.A.units + 65 < cLine) (hs : swapsWith e (some (.Subscript o i px)) pos.line X.env = pure false) (he : PE X e (rdE S W (ev Γ c))) (ho : PE X o (rdE S W (ev Γ co))) (hi : PE X i (rdE S W (ev Γ ci))) :
    PS X (.Assign [.Subscript o i px] e pos) (rdS S W (ex Γ (.sub co ci c))) := by
  refine ⟨fun pins s σ H D I ⟨m, h, ρ, s0, en, p⟩ => ?_⟩
  refine wpAny_Assign_Subscript (thn (he.run pins s σ H (fun v H1 => rdE S W (ev Γ co) σ H1 fun x H2 => rdE S W (ev Γ ci) σ H2 fun y H3 => rSubM S x y v H3 fun H4 => D.nx σ H4) I ?_) fun r s1 ⟨v, H1, I1, rv, q1⟩ => thn (ho.run pins s1 σ H1 _ I1 q1) fun u s2 ⟨x, H2, I2, rx, q2⟩ => thn (hi.run pins s2 σ H2 _ I2 q2) fun iv s3 ⟨y, H3, I3, ry, q3⟩ =>
    thn (set_M hK hu pins s3 σ H3 x y v u iv r _ I3 rx ry rv q3) fun _ s4 ⟨H4, I4, q4⟩ => ⟨σ, H4, I4, q4⟩) hs
  refine rdE_held s0 en p fun m1 H1 h1 v z _ x1 s1 en1 r1 p1 => rdE_held s1 en1 p1 fun m2 H2 h2 v2 z2 _ x2 s2 en2 r2 p2 => rdE_held s2 en2 p2 fun m3 H3 h3 v3 z3 _ x3 s3 en3 r3 p3 => ?_
  refine ⟨X0, m3, h3, v2, v3, v, s3, r2.ext s2 x3, r3, (r1.ext s1 x2).ext s2 x3, (Pst.bind p3).mono fun _ m4 H4 h4 _ x4 s4 p4 => p4 m4 H4 .refl s4 σ (en3.ext s3 x4)⟩
theorem FR.put {m : List Addr} {H : Hp} {f : Str} {v : Val} {z : V} (r : S.VR m H v z) : ∀ {fs : List (Str × Val)} {ws : List (Str × V)}, FR S m H fs ws → FR S m H (putFs f v fs) (putF f z ws)
  | _, _, .nil => .cons ⟨rfl, r⟩ .nil
  | (p :: fs), (q :: ws), .cons zz t => by
    obtain ⟨pn, pv⟩ := p
    obtain ⟨qn, qv⟩ := q
    have e : pn = qn := zz.1
    subst e
    unfold putFs putF
    by_cases e2 : pn = f
    · rw [if_pos e2, if_pos e2]; exact .cons ⟨rfl, r⟩ t
    · rw [if_neg e2, if_neg e2]; exact .cons zz (FR.put r t)
theorem s_fas {o : Expr} {co : Ex} {f : Str} {px : Pos} (hK : X.K = S.K) (hc : ∀ c ∈ S.cs, Cls X.K (S.C c)) (hn : ∀ c, Γ.fl c f = true → NoAttr X.K (S.C c) f) (hs : swapsWith e (some (.Attribute o f px)) pos.line X.env = pure false) (he : PE X e (rdE S W (ev Γ c))) (ho : PE X o (rdE S W (ev Γ co))) :
    PS X (.Assign [.Attribute o f px] e pos) (rdS S W (ex Γ (.fas co f c))) := (ps_fld ho he hs).imp fun D σ H ⟨m, h, ρ, s, en, p⟩ =>
  rdE_held s en p fun m1 H1 h1 v z _ x1 s1 en1 r1 p1 => rdE_held s1 en1 p1 fun m2 H2 h2 v2 z2 _ x2 s2 en2 r2 p2 => by
    obtain ⟨pp, e1, p3⟩ := Pst.orBad p2
    obtain ⟨c1, p4⟩ := Pst.okIf p3
    simp only [Bool.and_eq_true, decide_eq_true_eq] at c1
    obtain ⟨q, dx, ws, rfl, rfl, em, hcs, e3, fr⟩ := insOf_of s2 r2 e1
    have x3 : Ext m2 H2 m2 (upd H2 q (.ins (S.C pp.2.1) dx (putF f z ws))) := Ext.upd_at (mem_of_get em) (nfz e3 (fun _ _ z => nomatch z))
    refine ⟨q, _, dx, ws, rfl, e3, hc _ hcs, hn _ c1.1, by rw [← Paired.length fr]; exact c1.2, ?_⟩
    exact p4 m2 _ x3 (s2.put (nfz e3 (fun _ _ z => nomatch z)) em ⟨hcs, dx, _, upd_same, Paired.mapP (FR.put (r1.ext s1 x2) fr) fun _ _ z => ⟨z.1, z.2.ext s2 x3⟩⟩) σ (en2.ext s2 x3)
theorem aug_ip {op : Operator} {o : Bop} (ho : augOf op = some o) : PIp X op (fun x y H Q => ∃ U m h a b, Sim S m H h ∧ S.VR m H a x ∧ S.VR m H b y ∧ Pst S U m H (augop o a b h) (QV S Q)) := by
  cases op <;> cases ho
  · refine fun pins s σ H x y v u Q I rx ry ⟨U, m, h, a, b, sim, ra, rb, p⟩ => ?_
    cases ra with
    | int i =>
      cases rb with
      | int j => exact ip_add pins s σ H _ _ v u Q I rx ry ⟨i, j, rfl, rfl, q_ok p sim (.int _)⟩
      | _ => exact p.elim
    | _ => exact p.elim
  · refine fun pins s σ H x y v u Q I rx ry ⟨U, m, h, a, b, sim, ra, rb, p⟩ => ?_
    cases ra with
    | int i =>
      cases rb with
      | int j => exact ip_sub pins s σ H _ _ v u Q I rx ry ⟨i, j, rfl, rfl, q_ok p sim (.int _)⟩
      | _ => exact p.elim
    | _ => exact p.elim
theorem s_aug {op : Operator} {o : Bop} {i : Nat} {x : Str} {px : Pos} (ho : augOf op = some o) (hN : X.N.Nodup) (hi : X.N[i]? = some x) (hx : Loc X.env.scope x) (hf : X.fn x = true ∨ X.env.scope.names.lookup x = some .local) (he : PE X e (rdE S W (ev Γ c))) : PS X (.AugAssign (.Name x px) op e pos) (rdS S W (ex Γ (.aug i o c))) := by
  have go : ∀ {ti : TIp}, PIp X op ti → (∀ {x y : V} {H : Hp} {Q : VK}, (∃ U m h a b, Sim S m H h ∧ S.VR m H a x ∧ S.VR m H b y ∧ Pst S U m H (augop o a b h) (QV S Q)) → ti x y H Q) → PS X (.AugAssign (.Name x px) op e pos) (rdS S W (ex Γ (.aug i o c))) := fun {ti} hp ht =>
    (ps_aug hN hi hx he hp hf).imp fun D σ H ⟨m, h, ρ, s, en, p⟩ => by
      obtain ⟨v, e1, p1⟩ := Pst.orBad p
      obtain ⟨z, e2, rz⟩ := en.get e1
      refine ⟨z, e2, rdE_held s en p1 fun m1 H1 h1 v1 z1 _ x1 s1 en1 r1 p2 => ht ⟨X0, m1, h1, v, v1, s1, rz.ext s x1, r1, (Pst.bind p2).mono fun w m2 H2 h2 _ x2 s2 p3 z2 r2 => ?_⟩⟩
      obtain ⟨ρ1, e3, p4⟩ := Pst.orBad p3
      simp only [Tg.put] at e3
      split at e3
      · cases e3; exact p4 m2 H2 .refl s2 _ ((en1.ext s1 x2).set r2)
      · cases e3
  exact go (aug_ip (X := X) (S := S) ho) fun q => q

/-! ### loops -/
theorem s_for {tg iter : Expr} {body : List Stmt} {t : Tg} {ci : Ex} (hp : PassesOwn (model X.prog X.w) X.A X.env X.xe) (hc : X.calm = true) (hi : PI X tg iter (rdI S W (evi Γ ci))) (hg : PG X tg (rdG S t)) (hb : PSs X body (rdS S W (ex Γ b))) (hs : ∀ x, foldedSetIterable iter X.env x = pure x) :
    PS X (.For tg iter body [] pos) (rdS S W (ex Γ (.for_ t ci b))) := (ps_for hp hc hi hg hb hs).imp fun D σ H ⟨m, h, ρ, s, en, p⟩ => by
  refine rdI_held s en p fun m1 H1 h1 src J x1 s1 en1 hJ p1 => ?_
  have p1 : Pst S X0 m1 H1 ((walk src (forTurn (ex Γ b) t) ρ h1).bind fun r h => .ok (flOf r) h) (FlP S W D) := p1
  have hbad : ∀ m H, ¬ Pst S X0 m H ((R.bad : R (En ⊕ Fl)).bind fun r h => .ok (flOf r) h) (FlP S W D) := fun _ _ z => z
  obtain ⟨n0, ok0, q0⟩ := walk_start (C := fun r => Pst S X0 m1 H1 (r.bind fun r h => .ok (flOf r) h) (FlP S W D)) (hbad _ _) p1
  refine ⟨fun i n σ' H' => ∃ m' h' ρ', okN src n i ∧ Ext m1 H1 m' H' ∧ Sim S m' H' h' ∧ EnR S m' H' ρ' σ' ∧ Pst S X0 m' H' ((restW (forTurn (ex Γ b) t) src n i ρ' h').bind fun r h => .ok (flOf r) h) (FlP S W D), ⟨n0, m1, h1, ρ, ok0, .refl, s1, en1, q0⟩, ?_⟩
  rintro i n σ2 H2 ⟨m2, h2, ρ2, okn, x2, s2, en2, q2⟩
  rcases walk_turn (C := fun r => Pst S X0 m2 H2 (r.bind fun r h => .ok (flOf r) h) (FlP S W D)) (hbad _ _) hJ (.of s1 x2) s2 okn q2 with ⟨st, e⟩ | ⟨go, v, n', hn', okn', y, e⟩
  · exact .inl ⟨st, e m2 H2 .refl s2 σ2 en2⟩
  · refine .inr ⟨go, fun σ' H' => ∃ m' h' ρ', okN src n' (i + 1) ∧ Ext m1 H1 m' H' ∧ Sim S m' H' h' ∧ EnR S m' H' ρ' σ' ∧ Pst S X0 m' H' ((restW (forTurn (ex Γ b) t) src n' (i + 1) ρ' h').bind fun r h => .ok (flOf r) h) (FlP S W D), fun σ' H' z => ⟨n', hn', z⟩, fun xv H3 hy => ?_⟩
    obtain ⟨x3, s3, rv⟩ := y xv H3 hy
    simp only [forTurn, orBad_bind, R.bind_assoc] at e
    obtain ⟨ρ3, ep, e⟩ := Pst.orBad e
    refine ⟨m2, h2, ρ2, v, ρ3, s3, en2.ext s2 x3, rv, ep, fun σ3 en3 _ => ⟨m2, h2, ρ3, s3, en3, (Pst.bind (e.ext x3)).mono fun fl m4 H4 h4 _ x4 s4 p4 => ?_⟩⟩
    cases fl with
    | nx ρ4 => exact fun σ4 en4 => ⟨m4, h4, ρ4, okn', (x2.trans x3).trans x4, s4, en4, p4⟩
    | ct ρ4 => exact fun σ4 en4 => ⟨m4, h4, ρ4, okn', (x2.trans x3).trans x4, s4, en4, p4⟩
    | bk ρ4 => exact p4 m4 H4 .refl s4
    | rt w => exact p4 m4 H4 .refl s4
    | xc y ρ4 => exact p4 m4 H4 .refl s4
theorem s_whl {body : List Stmt} (hp : PassesOwn (model X.prog X.w) X.A X.env X.xe) (hc : PT X e (rdT S W (ev Γ c))) (hb : PSs X body (rdS S W (ex Γ b))) : PS X (.While e body [] pos) (rdS S W (ex Γ (.whl c b))) := (ps_while hp hc hb).imp fun D σ H ⟨m, h, ρ, s, en, p⟩ => by
  refine ⟨fun n σ' H' => ∃ m' h' ρ', Sim S m' H' h' ∧ EnR S m' H' ρ' σ' ∧ Pst S X0 m' H' (whileF (ev Γ c) (ex Γ b) n ρ' h') (FlP S W D), ⟨Γ.wf, m, h, ρ, s, en, p⟩, ?_⟩
  rintro n σ2 H2 ⟨m2, h2, ρ2, s2, en2, p2⟩
  cases n with
  | zero => exact p2.elim
  | succ n =>
    unfold whileF at p2
    refine rdT_held s2 en2 p2 fun m3 H3 h3 v x3 s3 en3 p3 => ?_
    obtain ⟨k, e1, p4⟩ := Pst.orBad p3
    refine ⟨k, e1, ?_⟩
    cases k with
    | false => exact p4 m3 H3 .refl s3 σ2 en3
    | true =>
      refine ⟨fun σ' H' => ∃ m' h' ρ', Sim S m' H' h' ∧ EnR S m' H' ρ' σ' ∧ Pst S X0 m' H' (whileF (ev Γ c) (ex Γ b) n ρ' h') (FlP S W D), fun σ' H' z => ⟨n, Nat.lt_succ_self n, z⟩, m3, h3, ρ2, s3, en3, (Pst.bind p4).mono fun fl m4 H4 h4 _ x4 s4 p5 => ?_⟩
      cases fl with
      | nx ρ4 => exact fun σ4 en4 => ⟨m4, h4, ρ4, s4, en4, p5⟩
      | ct ρ4 => exact fun σ4 en4 => ⟨m4, h4, ρ4, s4, en4, p5⟩
      | bk ρ4 => exact p5 m4 H4 .refl s4
      | rt w => exact p5 m4 H4 .refl s4
      | xc y ρ4 => exact p5 m4 H4 .refl s4
end

/-! ### all statements -/
section
variable {S : Sta} {I : Inf} {G : Prg} {n : Nat} {N : List Str} {sc : Scope} {W : WX} {X : Cx}
/-- where a def's body runs -/
structure XBody (S : Sta) (I : Inf) (G : Prg) (n : Nat) (N : List Str) (sc : Scope) (W : WX) (X : Cx) : Prop where
  ok : XOk S I G n N sc W X
  own : PassesOwn (model X.prog X.w) X.A X.env X.xe
  scope : X.env.scope = sc
theorem XBody.nod (k : XBody S I G n N sc W X) : X.N.Nodup := by rw [k.ok.hN]; exact k.ok.nd
theorem nvr {st : Stmt} {o : Option Sm} {s : Sm} (h : ∀ s, o = some s → PS X st (rdS S W (ex (G.Γ n) s))) : PS X st (rdS S W (ex (G.Γ n) (orNever o))) := by
  cases o with
  | none => exact s_never
  | some s => exact h s rfl
theorem nm_at (k : XOk S I G n N sc W X) {x : Str} {p : Pos} {i : Nat} (h : cNm N sc.names (.Name x p) = some i) : X.N[i]? = some x ∧ Loc X.env.scope x ∧ (X.fn x = true ∨ X.env.scope.names.lookup x = some .local) := by
  obtain ⟨y, q, e, r⟩ := nm_A k h
  cases e
  exact r
theorem swaps_sub {o i e : Expr} {p : Pos} {l : Nat} {env : Env} : swapsWith e (some (.Subscript o i p)) l env = pure false := by cases e <;> rfl
theorem swaps_att {o e : Expr} {f : Str} {p : Pos} {l : Nat} {env : Env} : swapsWith e (some (.Attribute o f p)) l env = pure false := by cases e <;> rfl
theorem lc_A (io : IOk I G) (k : XBody S I G n N sc W X) {x : Str} {px : Pos} {pos : Pos} {i : Nat} {e : Expr} {c : Ex} (hi : cNm N sc.names (.Name x px) = some i) (hl : lcSole sc x px e = true) (h : cE I N depth sc e = some c) : PS X (.Assign [.Name x px] e pos) (rdS S W (ex (G.Γ n) (.asg (.nm i) c))) := by
  obtain ⟨h1, h2, h3⟩ := nm_at k.ok hi
  unfold lcSole at hl
  split at hl
  · rename_i elt t it ifs a scope lpos
    simp only [Bool.and_eq_true, decide_eq_true_eq] at hl
    obtain ⟨⟨⟨⟨l0, l1⟩, l2⟩, l3⟩, l4⟩ := hl
    have hp : ∀ e c, cE I N 39 sc e = some c → PE X e (rdE S W (ev (G.Γ n) c)) := fun e c q => (soundE io 39 k.ok q).pe
    unfold depth at h
    unfold cE at h
    split at h
    · simp only at h
      split at h
      · rename_i c1
        simp only [Bool.and_eq_true, decide_eq_true_eq] at c1
        obtain ⟨⟨rfl, c2⟩, c3⟩ := c1
        split at h
        · rename_i h1' h2' h3' h4'
          split at h
          · rename_i c4
            simp only [Bool.and_eq_true, List.all_eq_true] at c4
            have nk : ∀ i c, lckOf t it ifs i c = c := fun i c => by
              unfold lckOf
              rw [if_neg]
              intro q
              rw [q] at l0
              exact absurd l0 (by simp)
            rw [nk] at h
            cases h
            refine s_lc k.ok.calm k.nod h1 (by rw [k.scope]; exact l2) (sw_true (by rw [k.scope]; exact l1) (by rw [k.scope]; exact l2) l3 (by simpa using l4)) (fun i hi => by simpa using c4.2 i hi) (it_A k.ok hp h3' c4.1) (k.ok.blkOk c3) ?_ ?_ ?_ (ok_fold c2)
            · intro s H C cl fp
              exact tg_A (k.ok.blk s H _ C cl fp) h2'
            · intro s H C cl fp
              unfold cIf at h4'
              split at h4'
              · cases h4'; exact ts_nil
              · exact pts_one (soundE io 39 (k.ok.blk s H _ C cl fp) h4').pt
              · cases h4'
            · intro s H C cl fp
              exact (soundE io 39 (k.ok.blk s H _ C cl fp) h1').pe
          · cases h
        · cases h
      · cases h
    · cases h
  · cases hl
theorem asg_A (io : IOk I G) (k : XBody S I G n N sc W X) {pos : Pos} {t e : Expr} {s : Sm} (h : cAsg I N sc e t = some s) : PS X (.Assign [t] e pos) (rdS S W (ex (G.Γ n) s)) := by
  have hp : ∀ {e c}, cE I N depth sc e = some c → PE X e (rdE S W (ev (G.Γ n) c)) := fun q => (soundE io depth k.ok q).pe
  unfold cAsg at h
  split at h
  · split at h
    · rename_i x px i c h1 h2
      split at h
      · rename_i c1
        cases h
        obtain ⟨q1, q2, q3⟩ := nm_at k.ok h1
        by_cases hc : isComp e = true
        · rw [hc] at c1
          exact lc_A io k h1 (by simpa using c1) h2
        · exact s_set k.nod q1 q2 q3 (by simpa using hc) (hp h2)
      · cases h
    · cases h
  · split at h
    · rename_i h1 h2
      split at h
      · rename_i c1
        simp only [Bool.and_eq_true, Bool.not_eq_true'] at c1
        cases h
        exact s_tup c1.1 c1.2 (tgA_A k.ok h1) (hp h2)
      · cases h
    · cases h
  · split at h
    · rename_i h1 h2 h3
      cases h
      exact s_sub k.ok.wld.hK k.ok.units swaps_sub (hp h3) (hp h1) (hp h2)
    · cases h
  · split at h
    · rename_i h1 h2
      cases h
      exact s_fas k.ok.wld.hK k.ok.wld.cls (fun c q => k.ok.wld.noat _ _ (by simpa [Prg.Γ] using q)) swaps_att (hp h2) (hp h1)
    · cases h
  · cases h
theorem ss_A {f : Stmt → Sm} (hf : ∀ st, PS X st (rdS S W (ex (G.Γ n) (f st)))) : ∀ sts : List Stmt, PSs X sts (rdS S W (ex (G.Γ n) (cSs f sts)))
  | [] => ss_nil
  | [s] => pss_one (hf s)
  | s :: s2 :: r => ss_cons (hf s) (ss_A hf (s2 :: r))
theorem soundS (io : IOk I G) (k : XBody S I G n N sc W X) : ∀ (d : Nat) (st : Stmt), PS X st (rdS S W (ex (G.Γ n) (cS I N d sc st))) := by
  have hq : ∀ {e c}, cE I N depth sc e = some c → EOk S W X (G.Γ n) e c := fun q => soundE io depth k.ok q
  intro d
  induction d with
  | zero => exact fun _ => s_never
  | succ d ih =>
    intro st
    unfold cS
    split
    · exact s_doc
    · split
      · exact s_never
      · rename_i hc
        refine nvr (s := .never) fun s q => ?_
        obtain ⟨c, h1, rfl⟩ := Option.map_eq_some_iff.mp q
        exact s_exp (by simpa using hc) (hq h1).pe
    · exact s_retN
    · refine nvr (s := .never) fun s q => ?_
      obtain ⟨c, h1, rfl⟩ := Option.map_eq_some_iff.mp q
      exact s_ret (hq h1).pe
    · exact s_pass
    · exact s_brk
    · exact s_cont
    · refine nvr (s := .never) fun s q => ?_
      obtain ⟨c, h1, rfl⟩ := Option.map_eq_some_iff.mp q
      exact s_if (hq h1).pt (ss_A ih _) (ss_A ih _)
    · refine nvr (s := .never) fun s q => ?_
      obtain ⟨c, h1, rfl⟩ := Option.map_eq_some_iff.mp q
      exact s_whl k.own (hq h1).pt (ss_A ih _)
    · split
      · rename_i h1 h2
        split
        · rename_i c1
          simp only [Bool.and_eq_true] at c1
          exact s_for k.own k.ok.calm (it_A k.ok (fun e c q => (hq q).pe) h2 c1.1) (tg_A k.ok h1) (ss_A ih _) (ok_fold c1.2)
        · exact s_never
      · exact s_never
    · exact nvr (s := .never) fun s q => asg_A io k q
    · split
      · rename_i h1 h2 h3
        obtain ⟨q1, q2, q3⟩ := nm_at k.ok h2
        exact s_aug h1 k.nod q1 q2 q3 (hq h3).pe
      · exact s_never
    · exact s_never
end
end Mi

set_option maxHeartbeats 2000000
namespace Mi
open PySem PySem.Spec PyProof.Rows L2

/-- the def of the text at key k, and what the language has for it -/
structure DefOk (S : Sta) (I : Inf) (K : PySem.W.Frag) (mg : Str → Option Value) (k : FK) (fn : Fn) (a : Addr) (fd : FuncData) (ps : List Str) : Prop where
  ex : ∃ (N : List Str) (x qual : Str) (params : Arguments) (body : List Stmt) (scope : Scope), FunD K x qual params body scope [] [] a fd ∧ FnScope N ps scope ∧ fn.sl = N.length ∧ fn.body = cSs (cS I N depth scope) body
  at_ : Stands S K mg k a
  binds : Binds K fd ps []
  ar : fn.ar = ps.length
/-- the world, without its calls -/
structure Wd (S : Sta) (I : Inf) (G : Prg) (P : Program) (w : World) (K : PySem.W.Frag) (mg : Str → Option Value) : Prop where
  hK : K = S.K
  fre : ∀ x ∈ I.fre, mg x = none
  glv : ∀ x v, G.gl x = some v → ∃ z u, mg x = some u ∧ RelV z u ∧ ∀ m H, Mi.VR S.K S.dw m H v z
  dw : DwOk S.K w S.dw
  cls : ∀ c ∈ S.cs, Cls K (S.C c)
  mks : ∀ c ∈ G.cls, c ∈ S.cs ∧ mg c = some (.ref (S.C c)) ∧ PySem.W.makesIn K (S.C c) = true ∧ PySem.W.keepIn K (.ref (S.C c)) = true
  noat : ∀ c f, (c, f) ∈ G.fl → NoAttr K (S.C c) f
  io : IOk I G
  defs : ∀ k f, G.fns.lookup k = some f → ∃ a fd ps, DefOk S I K mg k f a fd ps

section
variable {S : Sta} {I : Inf} {G : Prg} {P : Program} {w : World} {K : PySem.W.Frag} {mg : Str → Option Value} {base : Heap} {n : Nat}
theorem start_R {m : List Addr} {H : Hp} {fn : Fn} {N : List Str} {xs : List Val} {zs : List V} (r : S.VRs m H xs zs) (hs : fn.sl = N.length) : EnR S m H (startE fn xs) (L2.start N zs) := by
  have hl := r.length
  refine ⟨by simp [startE, L2.start, hs, hl], fun i v e => ?_⟩
  unfold startE at e
  unfold L2.start
  by_cases h : i < xs.length
  · rw [List.getElem?_append_left (by simpa using h), List.getElem?_map] at e
    obtain ⟨v', e1, e2⟩ := Option.map_eq_some_iff.mp e
    cases e2
    obtain ⟨z, e3, e4⟩ := r.get e1
    exact ⟨z, by rw [List.getElem?_append_left (by simpa [← hl] using h), List.getElem?_map, e3]; rfl, e4⟩
  · rw [List.getElem?_append_right (by simpa using h), List.getElem?_replicate] at e
    split at e <;> cases e
theorem guards_deeper {A : Around} {env : Env} (h : A.guards = some []) : (A.deeper env).guards = some [] := h
theorem callF_def {k : FK} {xs : List Val} {h : Hh} {f : Fn} (hk : G.fns.lookup k = some f) (hm : ∀ c, k ≠ .mk c) : callF G (n + 1) k xs h = okIf (decide (xs.length = f.ar)) ((noexc (ex (G.Γ n) f.body (startE f xs) h)).bind fun r h => match r with
    | .nx _ => .ok .non h
    | .rt v => .ok v h
    | .xc x _ => .exc x h
    | _ => .bad) := by
  cases k with
  | mk c => exact absurd rfl (hm c)
  | fn x => simp only [callF, hk, orBad_some]; rfl
  | mt c x => simp only [callF, hk, orBad_some]; rfl
theorem stands_ne {k : FK} {a : Addr} (h : Stands S K mg k a) (c : Str) : k ≠ .mk c := fun e => by subst e; exact h
theorem fn_G {k : FK} {f : Fn} {a : Addr} {fd : FuncData} {ps : List Str} (wl : Wld S I G n P w K mg base) (io : IOk I G) (D : DefOk S I K mg k f a fd ps) (hk : G.fns.lookup k = some f) : FnG P w K mg base (n + 1) a fd ps (spM S G (n + 1) k) := by
  obtain ⟨N, x, qual, params, body, scope, F, sc, h1, h2⟩ := D.ex
  obtain ⟨oc, od, dV, kV, doc, pm, an, cdv, ct, osl, rfl, lk, hcd, _, _⟩ := F.ex
  have hl : ∀ zs H Q E, spM S G (n + 1) k zs H Q E → zs.length = ps.length := fun zs H Q E ⟨m, h, xs, s, r, p⟩ => by
    rw [callF_def hk (stands_ne D.at_)] at p
    obtain ⟨c, _⟩ := Pst.okIf p
    rw [← r.length, of_decide_eq_true c, D.ar]
  refine ⟨hl, fun A outer s H args us zs Q E room grd e0 bt rel sp => ?_⟩
  have len := hl _ _ _ _ sp
  have kin : K.In s.heap := e0.mod.kin.keeps fun b o e => (e0.bs b o e).1
  have par : ∀ y ∈ ps.zip us, scope.names.lookup y.1 = some .local ∨ (scope.names.lookup y.1 = some .cell ∧ ((cellsFrom (s.heap.objs.size + 1) scope.names []).lookup y.1).isSome = true) := by
    rintro ⟨y, v⟩ hy
    exact (sc.par y (List.of_mem_zip hy).1).imp id fun q => ⟨q, PySem.W.cellsFrom_some _ _ _ (.inl q)⟩
  refine codeAny_call_function room.depth (kin _ _ lk) rfl sc.co sc.gen rfl (PySem.W.codeRec_of kin hcd) (bt _ _ _ _ (wpAny_newFunctionEnv_cells sc.kind par ?_))
  rintro env rfl s1 x1
  refine ⟨(e0.mod.nolimit.keeps fun b o e => (e0.bs b o e).1).keeps x1.toInCall.keep, codeAny_func ?_⟩
  let X := cxOf (L2.CX P w) P w K mg base N qual scope a cdv A outer s H E
  have ok : XBody S I G n N scope (fun c d _ H' => E c d H') X :=
    { ok :=
        { wld := wl, hN := rfl, scp := fun _ q => q, nd := sc.nd, calm := rfl, tk := takes_of rfl rfl rfl rfl, room := room.deeper _, grd := guards_deeper grd
          vis := fun _ q => isLoc_vis q, sto := fun _ q => ⟨isSto_loc q, .inl rfl⟩, gl := fun _ q => isGl_gl q }
      own := passes_of rfl
      scope := rfl }
  have body_ok : PSs X body (rdS S (fun c d _ H' => E c d H') (ex (G.Γ n) f.body)) := by rw [h2]; exact ss_A (soundS io ok depth) body
  obtain ⟨m, h, xs, sim, rs, p⟩ := sp
  rw [callF_def hk (stands_ne D.at_)] at p
  obtain ⟨_, p⟩ := Pst.okIf p
  have run := body_ok.run [] s1 (L2.start N zs) H { nx := fun _ H' => Q .non H', rt := Q } (inv_start sc room.hd e0 len rel x1) ⟨m, h, startE f xs, sim, start_R rs h1, by
    cases q : ex (G.Γ n) f.body (startE f xs) h with
    | bad => rw [q] at p; exact p.elim
    | exc y h1 => rw [q] at p; exact p.elim
    | ok fl h1 =>
      rw [q] at p
      cases fl with
      | nx ρ => exact fun m' H' xx ss σ en => p m' H' xx ss .non .non
      | rt v => exact fun m' H' xx ss => p m' H' xx ss
      | xc y ρ => exact fun m' H' xx ss cls d σ xr en => p m' H' cls d xx ss xr
      | bk ρ => exact p.elim
      | ct ρ => exact p.elim⟩
  refine wpAny_mono run (fun fl s' hs => ?_) fun e s' hs => hs
  have fin : ∀ {σ' : L2.St} {H' : Hp} {v : V} {u : Value}, Inv X [] σ' H' s' → RelV v u → Q v H' → CE outer P w H s Q u s' := fun {_ H' v _} J rv q => ⟨v, H', J.os, J.bare, J.base, J.hok, rv, q⟩
  match fl, hs with
  | .ret u, ⟨v, σ', H', J, rv, q⟩ => exact fin J rv q
  | .next, ⟨σ', H', J, q⟩ => exact fin (v := V.non) (u := Value.none) J rfl q
  | .brk, ⟨_, _, _, q⟩ => exact q.elim
  | .cont, ⟨_, _, _, q⟩ => exact q.elim
theorem wld_of (wd : Wd S I G P w K mg) : ∀ n, Wld S I G n P w K mg base := by
  have step : ∀ n, (∀ j ≤ n, ∀ k f, G.fns.lookup k = some f → ∃ a fd ps, Stands S K mg k a ∧ Binds K fd ps [] ∧ FnG P w K mg base j a fd ps (spM S G j k)) → Wld S I G n P w K mg base := fun n h =>
    ⟨wd.hK, wd.fre, wd.glv, wd.dw, h, wd.cls, wd.mks, wd.noat⟩
  have zero : ∀ k f, G.fns.lookup k = some f → ∃ a fd ps, Stands S K mg k a ∧ Binds K fd ps [] ∧ FnG P w K mg base 0 a fd ps (spM S G 0 k) := fun k f h => by
    obtain ⟨a, fd, ps, D⟩ := wd.defs k f h
    refine ⟨a, fd, ps, D.at_, D.binds, fun _ _ _ _ ⟨_, _, _, _, _, p⟩ => p.elim, fun _ _ _ _ _ _ _ _ _ _ _ _ _ _ ⟨_, _, _, _, _, p⟩ => p.elim⟩
  intro n
  induction n with
  | zero => exact step 0 fun j hj => by cases Nat.le_zero.mp hj; exact zero
  | succ n ih =>
    refine step (n + 1) fun j hj k f h => ?_
    rcases Nat.lt_or_eq_of_le hj with lt | rfl
    · exact ih.fns j (Nat.le_of_lt_succ lt) k f h
    · obtain ⟨a, fd, ps, D⟩ := wd.defs k f h
      exact ⟨a, fd, ps, D.at_, D.binds, fn_G ih wd.io D h⟩
/-- the promise of the law's def -/
theorem law_G (wd : Wd S I G P w K mg) {k : FK} {f : Fn} (hk : G.fns.lookup k = some f) (n : Nat) : ∃ a fd ps, DefOk S I K mg k f a fd ps ∧ ∀ base, FnG P w K mg base n a fd ps (spM S G n k) := by
  obtain ⟨a, fd, ps, D⟩ := wd.defs k f hk
  refine ⟨a, fd, ps, D, fun base => ?_⟩
  cases n with
  | zero => exact ⟨fun _ _ _ _ ⟨_, _, _, _, _, p⟩ => p.elim, fun _ _ _ _ _ _ _ _ _ _ _ _ _ _ ⟨_, _, _, _, _, p⟩ => p.elim⟩
  | succ n => exact fn_G (wld_of wd n) wd.io D hk
end
end Mi

set_option maxHeartbeats 2000000
namespace Mi
open PySem PySem.Spec PyProof.Rows L2

section
variable {P : Program} {w : World} {K : PySem.W.Frag} {mg mb : Str → Option Value} {k : Nat} {fa a : Addr} {fd : FuncData} {x : Str} {sp : Sp} {s : Shared} {vs : List Value} {ns : List Int}
/-- the law's call, over a heap in which the script alone may be known -/
theorem law_core {H : Hp} (kin : K.In s.heap) (hns : s.heap.Ns mainGlobals mg) (hb : s.heap.Ns builtinsNs mb) (bb : ∀ x : Str, x ≠ "__name__" → mb x = bootBuiltins x) (lim : s.heap.NoLimit) (gens : s.gens = #[])
    (at_ : s.heap.get? a = some { cls := .type "list", data := .seq vs.toArray }) (room : Room k callerA) (F : ∀ base : Heap, FnG P w K mg base k fa fd [x] sp) (bt : Binds K fd [x] [])
    (only : Only H) (ok : HOk P w H s.heap) (alone : ∀ b, H b ≠ none → b = a) (out : H a ≠ none → K.lookup a = none) (q : sp [.ref a] H (fun v _ => v = .bl true) X0) :
    codeAny (model P w) callerA (.call (.ref fa) ⟨[.ref a], []⟩) (fun r s' => r = .ok (.ret (.bool true)) ∧ OldK s.heap s'.heap ∧ s'.os = s.os ∧ AllBare s'.gens) s := by
  have keep : ∀ {b : Addr} {o : Obj}, s.heap.get? b = some o → H b = none → (hidT s.heap H).get? b = some o := fun e n => hidT_get e n
  have free : ∀ {b : Addr} {o : Obj} {es : Array DictEntry} {ep : Nat}, s.heap.get? b = some o → o.data = .dict es ep → H b = none := by
    intro b o es ep e d
    by_cases n : H b = none
    · exact n
    · cases alone b n
      rw [at_] at e
      cases e
      cases d
  have space : ∀ {b : Addr} {m : Str → Option Value}, s.heap.Ns b m → (hidT s.heap H).Ns b m := by
    rintro b m ⟨o, es, ep, e, d, r⟩
    exact ⟨o, es, ep, keep e (free e d), d, r⟩
  have kin2 : K.In (hidT s.heap H) := by
    intro b o e
    refine keep (kin b o e) ?_
    by_cases n : H b = none
    · exact n
    · cases alone b n
      rw [out n] at e
      cases e
  have env : Env0 P w K mg (hidT s.heap H) callerA [] s H :=
    ⟨rfl, ⟨kin2, space hns, ⟨mb, space hb, bb⟩, let ⟨mc, h1, h2⟩ := lim; ⟨mc, space h1, h2⟩⟩, fun b o e => of_hidT e, Nat.le_of_eq (hidT_size _ _), trivial, fun b z => absurd (show b ∈ ([] : List Addr) from z) (by simp), ok, .of_eq gens⟩
  have run := (F (hidT s.heap H)).run callerA [] s H ⟨[.ref a], []⟩ [.ref a] [.ref a] (fun v _ => v = .bl true) X0 room rfl env (by have := bt s [.ref a] kin rfl; simpa using this) (.cons rfl .nil) q
  refine codeAny_mono run fun r s' z => ?_
  match r, z with
  | .error e, ⟨_, _, _, _, _, _, _, _, _, _, _, _, no⟩ => exact no.elim
  | .ok .next, z => exact False.elim z
  | .ok .brk, z => exact False.elim z
  | .ok .cont, z => exact False.elim z
  | .ok (.ret u), ⟨v, H', os, bare, un, ok', rv, hv⟩ =>
    have hv : v = .bl true := hv
    subst hv
    have hu : u = Value.bool true := rv
    subst hu
    refine ⟨rfl, OldK.of_keep fun b o e => ?_, os, bare⟩
    rcases only b with n | ⟨ob, xs, n⟩
    · exact un.keep b o e n (fun z => absurd (show b ∈ ([] : List Addr) from z) (by simp)) (by simp)
    · have e1 := (ok b _ n).1
      have e2 := (ok' b _ (un.frzs b ob _ n)).1
      rw [e] at e1
      cases e1
      exact e2
end

/-- the walk of a law, by its promise -/
theorem walk_M {l : PySem.W.OpenLaw} {n k : Nat} {q : Program} {loose : List Str} {XP : (Str → Option Value) → Heap → Prop} {YP : World → Heap → Prop} {d : DefRec}
    (most : l.most = some n) (small : n ≤ sizeLine) (dfl : d.params.defaults = []) (room : Room k callerA)
    (F : ∀ (w : World) (mg : Str → Option Value) (fa : Addr) (h : Heap), YP w h → h.Ns mainGlobals mg → mg d.name = some (.ref fa) →
      ∃ (K : PySem.W.Frag) (fd : FuncData) (sp : Sp) (x : Str), K.In h ∧ Binds K fd [x] [] ∧
        (∀ (H : Hp) (a : Addr) (ns : List Int), ns.length ≤ n → LK K H a (ns.map V.int) → sp [.ref a] H (fun v _ => v = .bl true) X0) ∧ ∀ base : Heap, FnG l.prog w K mg base k fa fd [x] sp) :
    PySem.W.WalkO q loose XP YP l.row.toRowW d [] (fun f vs => PySem.call f vs) := by
  refine Att.attach_call most dfl fun w s₀ s mg mb fa o pm cd doc a vs ns G Y _ _ _ hmg at_ hin len gens => ?_
  obtain ⟨K, fd, sp, x, kin, bt, q, f⟩ := F w mg fa _ Y G.T.g hmg
  have small2 : ns.length ≤ sizeLine := Nat.le_trans len small
  have rel := vals_ints hin
  have go : ∀ H : Hp, Only H → HOk l.prog w H s.heap → (∀ b, H b ≠ none → b = a) → (H a ≠ none → K.lookup a = none) → LK K H a (ns.map V.int) → _ :=
    fun H h1 h2 h3 h4 h5 => law_core kin G.T.g G.T.b G.T.builtins G.T.nolimit gens at_ room f bt h1 h2 h3 h4 (q H a ns len h5)
  cases hk : K.lookup a with
  | some o =>
    have e := kin a o hk
    rw [at_] at e
    cases e
    exact go (fun _ => none) (fun _ => .inl rfl) (fun b u z => by cases z) (fun b z => absurd rfl z) (fun z => absurd rfl z) (.inr ⟨_, vs.toArray, _, hk, rfl, rfl, rfl, by rw [List.size_toArray, hin.length]; exact small2, by simpa using rel⟩)
  | none =>
    let o : HO := .frz { cls := .type "list", data := .seq vs.toArray } (.lst (ns.map V.int))
    have same : (fun b => if b = a then some o else none : Hp) a = some o := if_pos rfl
    have none_ : ∀ {b}, b ≠ a → (fun b => if b = a then some o else none : Hp) b = none := fun h => if_neg h
    refine go (fun b => if b = a then some o else none) (fun b => ?_) (fun b u z => ?_) (fun b z => ?_) (fun _ => hk) (.inl ⟨_, same⟩)
    · by_cases h : b = a
      · subst h; exact .inr ⟨_, _, same⟩
      · exact .inl (none_ h)
    · by_cases h : b = a
      · subst h
        rw [same] at z
        cases z
        exact ⟨at_, by rw [List.length_map]; exact small2, vs, _, rel, at_⟩
      · rw [none_ h] at z; cases z
    · by_cases h : b = a
      · exact h
      · exact absurd (none_ h) z
end Mi

set_option maxHeartbeats 2000000
namespace Mi
open PySem PySem.Spec PyProof.Rows L2

/-! ### constants of the module -/
mutual
def valB (K : PySem.W.Frag) : Val → Value → Bool
  | .non, .none => true
  | .bl b, .bool c => b == c
  | .int i, .int j _ => decide (i = j)
  | .str x, .str y _ => decide (x = y)
  | .kt xs, .ref a => match K.lookup a with
    | some ⟨.type c, _, .seq its _, _⟩ => decide (c = "tuple") && (decide (its.size ≤ sizeLine) && valsB K xs its.toList)
    | _ => false
  | .kl xs, .ref a => match K.lookup a with
    | some ⟨.type c, none, .seq its _, _⟩ => decide (c = "list") && (decide (its.size ≤ sizeLine) && valsB K xs its.toList)
    | _ => false
  | _, _ => false
def valsB (K : PySem.W.Frag) : List Val → List Value → Bool
  | [], [] => true
  | v :: vs, u :: us => valB K v u && valsB K vs us
  | _, _ => false
end
mutual
theorem valB_ok {K : PySem.W.Frag} {dw : DW} : ∀ {v : Val} {u : Value}, valB K v u = true → ∃ z, RelV z u ∧ ∀ m H, Mi.VR K dw m H v z
  | .non, .none, _ => ⟨.non, rfl, fun _ _ => .non⟩
  | .bl b, .bool c, h => ⟨.bl b, by rw [eq_of_beq (show (b == c) = true from h)]; rfl, fun _ _ => .bl _⟩
  | .int i, .int j t, h => ⟨.int i, ⟨t, by rw [of_decide_eq_true h]⟩, fun _ _ => .int _⟩
  | .str x, .str y t, h => ⟨.str x, ⟨t, by rw [of_decide_eq_true h]⟩, fun _ _ => .str _⟩
  | .kt xs, .ref a, h => by
    unfold valB at h
    split at h
    · rename_i c d its n sl q
      simp only [Bool.and_eq_true, decide_eq_true_eq] at h
      obtain ⟨h1, h2, h3⟩ := h
      obtain ⟨zs, r, v⟩ := valsB_ok (dw := dw) h3
      exact ⟨.ref a, rfl, fun m H => .kt ⟨_, its, n, q, congrArg Value.type h1, rfl, h2, r⟩ (v m H)⟩
    · cases h
  | .kl xs, .ref a, h => by
    unfold valB at h
    split at h
    · rename_i c its n sl q
      simp only [Bool.and_eq_true, decide_eq_true_eq] at h
      obtain ⟨h1, h2, h3⟩ := h
      obtain ⟨zs, r, v⟩ := valsB_ok (dw := dw) h3
      exact ⟨.ref a, rfl, fun m H => .kl (.inr ⟨_, its, n, q, congrArg Value.type h1, rfl, rfl, h2, r⟩) (v m H)⟩
    · cases h
theorem valsB_ok {K : PySem.W.Frag} {dw : DW} : ∀ {vs : List Val} {us : List Value}, valsB K vs us = true → ∃ zs, Vals zs us ∧ ∀ m H, Mi.VRs K dw m H vs zs
  | [], [], _ => ⟨[], .nil, fun _ _ => .nil⟩
  | v :: vs, u :: us, h => by
    simp only [valsB, Bool.and_eq_true] at h
    obtain ⟨z, r, q⟩ := valB_ok (dw := dw) h.1
    obtain ⟨zs, rs, qs⟩ := valsB_ok (dw := dw) h.2
    exact ⟨z :: zs, .cons r rs, fun m H => .cons (q m H) (qs m H)⟩
end
def glB (K : PySem.W.Frag) (p : Str × Val) : Bool := match PySem.W.nsIn K mainGlobals p.1 with
  | some (some u) => valB K p.2 u
  | _ => false

/-! ### a text -/
/-- a def: its key, its datum, its names, its parameters -/
structure TDef where
  key : FK
  dd : He.DefD
  N : List Str
  ps : List Str
structure Txt where
  inf : Inf
  defs : List TDef
  fl : List (Str × Str)
  gl : List (Str × Val)
def keyAt : FK → Str × Option Str
  | .fn x => (x, none)
  | .mt c m => (c, some m)
  | .mk c => (c, none)
def keyFa : FK → He.Fa
  | .fn x => .glo x
  | .mt c m => .meth c m
  | .mk c => .glo c
def Txt.fa (T : Txt) : List He.Fa := T.inf.fre.map .free ++ (T.inf.cls.flatMap fun c => [.glo c, .cls c, .mkr c]) ++ (T.fl.map fun p => .noat p.1 p.2) ++ T.defs.map fun d => keyFa d.key
def Txt.core (T : Txt) (d : TDef) : Sm := cSs (cS T.inf d.N depth d.dd.scope) d.dd.body
def Txt.fn (T : Txt) (d : TDef) : Fn := ⟨d.ps.length, d.N.length, T.core d⟩
def Txt.G (T : Txt) : Prg := ⟨T.defs.map fun d => (d.key, T.fn d), fun x => T.gl.lookup x, T.inf.cls, T.fl⟩
def Txt.S (T : Txt) (K : PySem.W.Frag) : Sta := ⟨K, fun _ _ _ => False, He.ga K, T.inf.cls⟩
structure TDef.Ok (d : TDef) : Prop where
  scope : FnScope d.N d.ps d.dd.scope
  dfl : d.dd.dfl = []
  kwd : d.dd.kwd = []
  at_ : d.dd.at_ = keyAt d.key
  nmk : ∀ c, d.key ≠ .mk c
  bind : ∀ (kV doc pm : Value) (an : Option Addr) (cdv ct : Value) (us : List Value), us.length = d.ps.length → bindArgs (PySem.W.fnOf d.dd.name d.dd.qual d.dd.params d.dd.body d.dd.scope .none kV doc pm an cdv ct) ⟨us, []⟩ = pure (d.ps.zip us)
def obsM (T : Txt) (K : PySem.W.Frag) : He.AlD := ((T.fa.all fun f => f.ok K) && ((T.defs.all fun d => d.dd.ok K) && T.gl.all fun p => glB K p), T.defs.map fun d => He.fnW K d.dd.at_)
def valM (T : Txt) : He.AlD := (true, T.defs.map fun d => d.dd.val)
def obsMG (n : Nat) (T : Txt) (g : Addr → Option Obj) : He.AlD := obsM T (He.frG g (He.asD g n))
def hookM (n : Nat) (T : Txt) : PySem.W.Hook where
  α := He.AlD
  obs := fun s => obsMG n T s.heap.get?
  val := fun _ => valM T
  says := fun _ h => ∃ K : PySem.W.Frag, K.In h ∧ obsM T K = valM T
  of := fun _ _ e => ⟨_, He.frG_in, e⟩
  keeps := fun _ _ _ ⟨K, hK, c⟩ k => ⟨K, PySem.W.Frag.In.keeps hK k, c⟩
def obM (n : Nat) (T : Txt) (s : PySem.W.SharedT) : He.AlD := obsMG n T (HandSHeadRun.getT s)
theorem obM_eq (n : Nat) (T : Txt) (s : PySem.W.SharedT) : obM n T s = (hookM n T).obs s.abs := by
  have e : HandSHeadRun.getT s = s.abs.heap.get? := funext (HandSHeadRun.getT_eq s)
  show obsMG n T (HandSHeadRun.getT s) = obsMG n T s.abs.heap.get?
  rw [e]
theorem lookup_map {α β γ : Type} [BEq α] [LawfulBEq α] {f : γ → α} {g : γ → β} {k : α} {b : β} : ∀ {l : List γ}, (l.map fun d => (f d, g d)).lookup k = some b → ∃ d ∈ l, f d = k ∧ g d = b
  | [], h => by cases h
  | d :: l, h => by
    simp only [List.map_cons, List.lookup_cons] at h
    split at h
    · rename_i e
      cases h
      exact ⟨d, List.mem_cons_self .., (eq_of_beq e).symm, rfl⟩
    · obtain ⟨x, h1, h2⟩ := lookup_map h
      exact ⟨x, List.mem_cons_of_mem _ h1, h2⟩
section
variable {T : Txt} {P : Program} {w : World} {K : PySem.W.Frag} {h : Heap} {mg : Str → Option Value}
theorem wd_of (ok : ∀ d ∈ T.defs, d.Ok) (io : IOk T.inf T.G) (X : K.In h) (G : h.Ns mainGlobals mg) (c : obsM T K = valM T) : Wd (T.S K) T.inf T.G P w K mg := by
  have c1 : ((T.fa.all fun f => f.ok K) && ((T.defs.all fun d => d.dd.ok K) && T.gl.all fun p => glB K p)) = true := congrArg (fun z : He.AlD => z.1) c
  have c2 : (T.defs.map fun d => He.fnW K d.dd.at_) = T.defs.map fun d => d.dd.val := congrArg (fun z : He.AlD => z.2) c
  simp only [Bool.and_eq_true, List.all_eq_true] at c1
  obtain ⟨c1, c3, c4⟩ := c1
  have hf : ∀ f, f ∈ T.fa → f.ok K = true := fun f hf => c1 f hf
  have mf : ∀ f, f ∈ T.inf.fre.map He.Fa.free ∨ f ∈ (T.inf.cls.flatMap fun c => [He.Fa.glo c, .cls c, .mkr c]) ∨ f ∈ (T.fl.map fun p => He.Fa.noat p.1 p.2) ∨ f ∈ (T.defs.map fun d => keyFa d.key) → f.ok K = true := fun f q => hf f (by
    unfold Txt.fa
    simp only [List.mem_append]
    rcases q with q | q | q | q
    · exact .inl (.inl (.inl q))
    · exact .inl (.inl (.inr q))
    · exact .inl (.inr q)
    · exact .inr q)
  have fcl : ∀ x ∈ T.inf.cls, ∀ f ∈ [He.Fa.glo x, .cls x, .mkr x], f.ok K = true := fun x hx f q => mf f (.inr (.inl (List.mem_flatMap.mpr ⟨x, hx, q⟩)))
  refine ⟨rfl, fun x hx => He.free_ok X G (mf _ (.inl (List.mem_map.mpr ⟨x, hx, rfl⟩))), fun x v e => ?_, fun _ _ _ _ _ z => z.elim, fun x hx => He.cls_ok (fcl x hx (.cls x) (by simp)), fun x hx => ?_, fun x f q => He.noat_ok (mf (.noat x f) (.inr (.inr (.inl (List.mem_map.mpr ⟨(x, f), q, rfl⟩))))), io, fun k f e => ?_⟩
  · have hm : (x, v) ∈ T.gl := by
      have e : T.gl.lookup x = some v := e
      exact PySem.mem_of_lookup e
    have q := c4 _ hm
    unfold glB at q
    split at q
    · rename_i u e1
      obtain ⟨z, r, q⟩ := valB_ok (dw := (T.S K).dw) q
      exact ⟨z, u, PySem.W.mg_of X G e1, r, q⟩
    · cases q
  · have m := He.mkr_ok (fcl x hx (.mkr x) (by simp))
    exact ⟨hx, He.glo_ok X G (fcl x hx (.glo x) (by simp)), m.makes, m.kp⟩
  · obtain ⟨d, hd, rfl, rfl⟩ := lookup_map e
    have o := ok d hd
    have e1 : He.fnW K d.dd.at_ = d.dd.val := by
      obtain ⟨i, hi, q⟩ := List.getElem_of_mem hd
      have := congrArg (fun l => l[i]?) c2
      simp only [List.getElem?_map, List.getElem?_eq_getElem hi, q, Option.map_some, Option.some.injEq] at this
      exact this
    obtain ⟨fd, F⟩ := He.DefD.funD e1 (c3 d hd)
    have ed : d.dd.dvs K = [] := by simp [He.DefD.dvs, o.dfl]
    have ek : d.dd.kws K = [] := by simp [He.DefD.kws, o.kwd]
    rw [ed, ek] at F
    have fk := mf (keyFa d.key) (.inr (.inr (.inr (List.mem_map.mpr ⟨d, hd, rfl⟩))))
    refine ⟨_, fd, d.ps, ⟨⟨d.N, _, _, _, _, _, F, o.scope, rfl, rfl⟩, ?_, fun s us _ hl => ?_, rfl⟩⟩
    · have kp := F.kp
      have ea := o.at_
      have nm := o.nmk
      rw [ea] at kp ⊢
      cases e2 : d.key with
      | mk c => exact absurd e2 (nm c)
      | fn x => rw [e2] at fk kp; exact ⟨He.glo_ok X G fk, kp⟩
      | mt c m => rw [e2] at fk; exact He.meth_ok fk
    · rw [List.append_nil] at hl ⊢
      exact FunD.bindsA F o.bind s us hl
/-- a law over such a head -/
theorem end_M {l : PySem.W.OpenLaw} {n k j : Nat} {q : Program} {loose : List Str} {XP : (Str → Option Value) → Heap → Prop} {d : DefRec} {f : Fn} (T : Txt) (ok : ∀ d ∈ T.defs, d.Ok) (io : IOk T.inf T.G)
    (most : l.most = some n) (small : n ≤ sizeLine) (dfl : d.params.defaults = []) (room : Room k callerA) (hk : T.G.fns.lookup (.fn d.name) = some f) (ha : f.ar = 1)
    (law : ∀ ns : List Int, ns.length ≤ n → ∃ h, callF T.G k (.fn d.name) [.kl (ns.map .int)] [] = .ok (.bl true) h) : PySem.W.WalkO q loose XP (hookM j T).says l.row.toRowW d [] (fun f vs => PySem.call f vs) := by
  refine walk_M most small dfl room fun w mg fa h ⟨K, X, c⟩ G hm => ?_
  have wd := wd_of (P := l.prog) (w := w) ok io X G c
  obtain ⟨a, fd, ps, D, F⟩ := law_G wd hk k
  have e : mg d.name = some (.ref a) := D.at_.1
  rw [hm] at e
  cases e
  have hl : ps.length = 1 := by rw [← D.ar, ha]
  match ps, hl, D, F with
  | [x], _, D, F =>
    refine ⟨K, fd, _, x, X, D.binds, fun H a ns len lk => ?_, F⟩
    obtain ⟨hF, e⟩ := law ns len
    refine ⟨[], [], [.kl (ns.map .int)], ⟨rfl, List.nodup_nil, fun _ _ _ z => by cases z⟩, .cons (.kl lk (VRs.ints ns)) .nil, ?_⟩
    rw [e]
    intro m' H' _ _ z r
    cases r
    rfl
end
end Mi

set_option maxHeartbeats 200000
namespace Mi
open PySem

/-! ### stepping: an answer comes, and this holds of it -/
def Okk {α : Type} (r : R α) (Q : α → Hh → Prop) : Prop := match r with
  | .ok a h => Q a h
  | _ => False
section
variable {α β : Type} {r r' : R α} {f : α → Hh → R β} {Q : β → Hh → Prop} {P P' : α → Hh → Prop} {h : Hh} {ρ : En}
theorem Okk_congr (e : r = r') : Okk r P = Okk r' P := by rw [e]
theorem bind_congr_ (e : r = r') : r.bind f = r'.bind f := by rw [e]
theorem held_congr {g : α → Hh → R Fl} (e : r = r') : held r ρ g = held r' ρ g := by rw [e]
theorem orBad_congr {o o' : Option α} {f : α → R β} (e : o = o') : orBad o f = orBad o' f := by rw [e]
@[simp] theorem Okk_ok {a : α} : Okk (.ok a h) P = P a h := rfl
@[simp] theorem Okk_bind : Okk (r.bind f) Q = Okk r fun a h => Okk (f a h) Q := by cases r <;> rfl
@[simp] theorem Okk_noexc : Okk (noexc r) P = Okk r P := by cases r <;> rfl
theorem Okk_held {g : α → Hh → R Fl} {Q : Fl → Hh → Prop} (e : Okk r fun a h => Okk (g a h) Q) : Okk (held r ρ g) Q := by cases r <;> first | exact e | exact e.elim
theorem Okk_orBad {o : Option α} {f : α → R β} : Okk (orBad o f) Q = ∃ a, o = some a ∧ Okk (f a) Q := by
  cases o with
  | none => simp [Okk]
  | some a => simp
theorem Okk.mono (p : Okk r P) (h : ∀ a h, P a h → P' a h) : Okk r P' := by
  cases r with
  | ok a h' => exact h a h' p
  | exc _ _ => exact p
  | bad => exact p
theorem Okk.get (p : Okk r P) : ∃ a h, r = .ok a h ∧ P a h := by
  cases r with
  | ok a h' => exact ⟨a, h', rfl, p⟩
  | exc _ _ => exact p.elim
  | bad => exact p.elim
end
theorem call_eq {G : Prg} {k : FK} {f : Fn} {n : Nat} {xs : List Val} {h : Hh} (hk : G.fns.lookup k = some f) (hm : ∀ c, k ≠ .mk c) : callF G (n + 1) k xs h = okIf (decide (xs.length = f.ar)) ((noexc (ex (G.Γ n) f.body (startE f xs) h)).bind fun r h => match r with
    | .nx _ => .ok .non h
    | .rt v => .ok v h
    | .xc x _ => .exc x h
    | _ => .bad) := callF_def hk hm
/-! ### walks -/
theorem walkF_inv {A T : Type} {f : Val → A → Hh → R (A ⊕ T)} {xs : List Val} {a : A} {h : Hh} {Q : A ⊕ T → Hh → Prop} (I : Nat → A → Hh → Prop) (h0 : I 0 a h)
    (hs : ∀ i x a h, xs[i]? = some x → I i a h → Okk (f x a h) fun r h' => match r with
      | .inl a' => I (i + 1) a' h'
      | .inr t => Q (.inr t) h') (hd : ∀ a h, I xs.length a h → Q (.inl a) h) : Okk (walkF f xs a h) Q := by
  induction xs generalizing a h I with
  | nil => exact hd a h h0
  | cons x xs ih =>
    show Okk ((f x a h).bind _) Q
    rw [Okk_bind]
    refine (hs 0 x a h rfl h0).mono fun r h' q => ?_
    cases r with
    | inl a' => exact ih (fun i => I (i + 1)) q (fun i y a h e => hs (i + 1) y a h (by simpa using e)) hd
    | inr t => exact q
theorem walkD_inv {A T : Type} {l : Nat} {en : Bool} {f : Val → A → Hh → R (A ⊕ T)} {xs : List Val} {a : A} {h : Hh} {Q : A ⊕ T → Hh → Prop} (I : Nat → A → Hh → Prop) (h0 : I 0 a h) (hl : ∀ i a h, I i a h → h[l]? = some (.lst xs))
    (hs : ∀ i x a h, xs[i]? = some x → I i a h → Okk (f (if en then .tup [.int i, x] else x) a h) fun r h' => match r with
      | .inl a' => I (i + 1) a' h'
      | .inr t => Q (.inr t) h') (hd : ∀ a h, I xs.length a h → Q (.inl a) h) : Okk (walk (.dyn l en) f a h) Q := by
  have go : ∀ n i a h, i + n = xs.length → I i a h → Okk (walkD l en f n i a h) Q := by
    intro n
    induction n with
    | zero =>
      intro i a h e p
      unfold walkD
      simp only [seqOf, hl i a h p, orBad_some]
      have e1 : xs[i]? = none := List.getElem?_eq_none (by omega)
      have e2 : i = xs.length := by omega
      subst e2
      rw [e1]
      exact hd a h p
    | succ n ih =>
      intro i a h e p
      unfold walkD
      simp only [seqOf, hl i a h p, orBad_some]
      have hi : i < xs.length := by omega
      rw [List.getElem?_eq_getElem hi]
      show Okk ((f _ a h).bind _) Q
      rw [Okk_bind]
      refine (hs i _ a h (List.getElem?_eq_getElem hi) p).mono fun r h' q => ?_
      cases r with
      | inl a' => exact ih (i + 1) a' h' (by omega) q
      | inr t => exact q
  show Okk (orBad (seqOf h (.ref l)) _) Q
  simp only [seqOf, hl 0 a h h0, orBad_some]
  exact go xs.length 0 a h (by simp) h0
end Mi

set_option maxHeartbeats 200000
namespace Mi
open PySem

/-! ### heaps that grow -/
def Grow (h h' : Hh) : Prop := ∃ t, h' = h ++ t
theorem Grow.refl {h : Hh} : Grow h h := ⟨[], by simp⟩
theorem Grow.trans {h h1 h2 : Hh} (a : Grow h h1) (b : Grow h1 h2) : Grow h h2 := by
  obtain ⟨t, rfl⟩ := a
  obtain ⟨u, rfl⟩ := b
  exact ⟨t ++ u, by simp⟩
theorem Grow.app {h t : Hh} : Grow h (h ++ t) := ⟨t, rfl⟩
theorem Grow.get {h h' : Hh} (g : Grow h h') {l : Nat} {o : Ob} (e : h[l]? = some o) : h'[l]? = some o := by
  obtain ⟨t, rfl⟩ := g
  rw [List.getElem?_append_left (List.getElem?_eq_some_iff.mp e).1, e]
theorem Grow.len {h h' : Hh} (g : Grow h h') : h.length ≤ h'.length := by
  obtain ⟨t, rfl⟩ := g
  simp
theorem get_new {h : Hh} {o : Ob} : (h ++ [o])[h.length]? = some o := by simp
/-- grows, and answers v -/
def Gives (r : R Val) (h : Hh) (v : Val) : Prop := ∃ h', r = .ok v h' ∧ Grow h h'
theorem Gives.of {h : Hh} {v : Val} : Gives (.ok v h) h v := ⟨h, rfl, .refl⟩

/-! ### comprehensions -/
section
variable {Γ : Cxt} {ρ : En} {own : List Nat} {i : Nat} {elt it : Ex} {h0 hs : Hh}
theorem step_lc {xs : List Val} {h : Hh} {acc : List Val} {x : Val} {v : Val} {h' : Hh} (hi : i < (wipe ρ own).length) (hl : acc.length < sizeLine) (e : ev Γ elt ((wipe ρ own).set i (some x)) h = .ok v h') :
    (orBad ((Tg.nm i).put x (wipe ρ own)) fun ρ1 => (ev Γ (.lit (.bl true)) ρ1 h).bind fun y h => orBad (truthy h y) fun k =>
      if k then (evg Γ .nil (fun ρ2 h => ev Γ elt ρ2 h) ρ1 acc h).bind fun acc h => R.ok (Sum.inl acc : List Val ⊕ Unit) h else R.ok (Sum.inl acc) h) = .ok (.inl (acc ++ [v])) h' := by
  have e0 : (Tg.nm i).put x (wipe ρ own) = some ((wipe ρ own).set i (some x)) := by simp only [Tg.put, if_pos hi]
  rw [e0, orBad_some]
  have e2 : evg Γ .nil (fun ρ2 h => ev Γ elt ρ2 h) ((wipe ρ own).set i (some x)) acc h = .ok (acc ++ [v]) h' := by
    simp only [evg]
    rw [e, R.bind_ok]
    simp only [okIf, decide_eq_true hl, if_true]
  simp only [ev, R.bind_ok, truthy, orBad_some, if_true]
  rw [e2]
  rfl
variable {ι : Type} {vf g : ι → Val} {xs : List ι}
/-- over items that stand; the heap may grow -/
theorem lc_fix (hi : i < (wipe ρ own).length) (hx : xs.length < sizeLine) (hit : evi Γ it ρ hs = .ok (.fix (xs.map vf)) h0) (he : ∀ x ∈ xs, ∀ h, Grow h0 h → Gives (ev Γ elt ((wipe ρ own).set i (some (vf x))) h) h (g x)) :
    ∃ h' , ev Γ (.cmpr elt (.gen (.nm i) it (.lit (.bl true)) .nil) own) ρ hs = .ok (.ref h'.length) (h' ++ [.lst (xs.map g)]) ∧ Grow h0 h' := by
  have go : ∀ (ys : List ι) (acc : List Val) (h : Hh), (∀ y ∈ ys, y ∈ xs) → acc.length + ys.length < sizeLine → Grow h0 h → ∃ h', walkF (T := Unit) (fun x acc h => orBad ((Tg.nm i).put x (wipe ρ own)) fun ρ1 => (ev Γ (.lit (.bl true)) ρ1 h).bind fun y h => orBad (truthy h y) fun k =>
      if k then (evg Γ .nil (fun ρ2 h => ev Γ elt ρ2 h) ρ1 acc h).bind fun acc h => R.ok (Sum.inl acc) h else R.ok (Sum.inl acc) h) (ys.map vf) acc h = .ok (.inl (acc ++ ys.map g)) h' ∧ Grow h0 h' := by
    intro ys
    induction ys with
    | nil => intro acc h _ _ gr; exact ⟨h, by simp [walkF], gr⟩
    | cons y ys ih =>
      intro acc h hm hl gr
      obtain ⟨h1, e1, g1⟩ := he y (hm y (List.mem_cons_self ..)) h gr
      simp only [List.length_cons] at hl
      obtain ⟨h2, e2, g2⟩ := ih (acc ++ [g y]) h1 (fun z hz => hm z (List.mem_cons_of_mem _ hz)) (by simp; omega) (gr.trans g1)
      refine ⟨h2, ?_, g2⟩
      rw [List.map_cons]
      unfold walkF
      rw [step_lc (xs := []) hi (by omega) e1, R.bind_ok]
      simp only
      rw [e2]
      simp
  obtain ⟨h', e, gr⟩ := go xs [] h0 (fun _ h => h) (by simpa using hx) .refl
  refine ⟨h', ?_, gr⟩
  simp only [ev, hit, R.bind_ok, walk]
  simp only [ev, R.bind_ok] at e
  rw [e]
  simp [newOb]
/-- over a list that stands -/
theorem lc_dyn {l : Nat} (hi : i < (wipe ρ own).length) (hx : xs.length < sizeLine) (hl : h0[l]? = some (.lst (xs.map vf))) (hit : evi Γ it ρ hs = .ok (.dyn l false) h0) (he : ∀ x ∈ xs, ∀ h, Grow h0 h → Gives (ev Γ elt ((wipe ρ own).set i (some (vf x))) h) h (g x)) :
    ∃ h' , ev Γ (.cmpr elt (.gen (.nm i) it (.lit (.bl true)) .nil) own) ρ hs = .ok (.ref h'.length) (h' ++ [.lst (xs.map g)]) ∧ Grow h0 h' := by
  have go : ∀ (n k : Nat) (acc : List Val) (h : Hh), k + n = xs.length → acc = (xs.take k).map g → Grow h0 h → ∃ h', walkD (T := Unit) l false (fun x acc h => orBad ((Tg.nm i).put x (wipe ρ own)) fun ρ1 => (ev Γ (.lit (.bl true)) ρ1 h).bind fun y h => orBad (truthy h y) fun k =>
      if k then (evg Γ .nil (fun ρ2 h => ev Γ elt ρ2 h) ρ1 acc h).bind fun acc h => R.ok (Sum.inl acc) h else R.ok (Sum.inl acc) h) n k acc h = .ok (.inl (xs.map g)) h' ∧ Grow h0 h' := by
    intro n
    induction n with
    | zero =>
      intro k acc h e ea gr
      refine ⟨h, ?_, gr⟩
      unfold walkD
      have : seqOf h (.ref l) = some (xs.map vf) := by simp only [seqOf, gr.get hl]
      rw [this, orBad_some, List.getElem?_eq_none (by simp; omega)]
      rw [ea, List.take_of_length_le (by omega)]
    | succ n ih =>
      intro k acc h e ea gr
      have hk : k < xs.length := by omega
      have ex : xs[k]? = some xs[k] := List.getElem?_eq_getElem hk
      obtain ⟨h1, e1, g1⟩ := he xs[k] (List.getElem_mem hk) h gr
      obtain ⟨h2, e2, g2⟩ := ih (k + 1) (acc ++ [g xs[k]]) h1 (by omega) (by rw [ea, List.take_add_one, ex, List.map_append]; rfl) (gr.trans g1)
      refine ⟨h2, ?_, g2⟩
      unfold walkD
      have : seqOf h (.ref l) = some (xs.map vf) := by simp only [seqOf, gr.get hl]
      rw [this, orBad_some, List.getElem?_map, ex]
      simp only [Option.map_some, Bool.false_eq_true, if_false]
      rw [step_lc (xs := []) hi (by rw [ea]; simp; omega) e1, R.bind_ok]
      exact e2
  obtain ⟨h', e, gr⟩ := go xs.length 0 [] h0 (by simp) (by simp) .refl
  refine ⟨h', ?_, gr⟩
  have s0 : seqOf h0 (.ref l) = some (xs.map vf) := by simp only [seqOf, hl]
  simp only [ev, hit, R.bind_ok, walk, s0, orBad_some, List.length_map]
  simp only [ev, R.bind_ok] at e
  rw [e]
  simp [newOb]
end
end Mi

set_option maxHeartbeats 200000
namespace Mi
open PySem

/-! ### how long a text of data is -/
mutual
def wide : PyData → Nat
  | .none => 5
  | .bool _ => 5
  | .int _ => 1930
  | .str x => 10 * x.length + 2
  | .list xs => wides xs + 5
  | .tuple xs => wides xs + 5
  | .dict _ => 0
def wides : List PyData → Nat
  | [] => 0
  | x :: xs => wide x + 2 + wides xs
end
mutual
/-- data whose text is plain -/
def fine : PyData → Bool
  | .none => true
  | .bool _ => true
  | .int i => decide (i.natAbs.log2 < 1920)
  | .str x => x.cps.toList.all fun c => decide (c < 16 ^ 8)
  | .list xs => fines xs
  | .tuple xs => fines xs
  | .dict _ => false
def fines : List PyData → Bool
  | [] => true
  | x :: xs => fine x && fines xs
end
mutual
theorem fine_show : ∀ {d : PyData}, fine d = true → d.showable = true
  | .none, _ => by simp only [PyData.showable]
  | .bool _, _ => by simp only [PyData.showable]
  | .int i, h => by
    simp only [fine] at h
    simp only [PyData.showable]
    exact h
  | .str x, _ => by simp only [PyData.showable]
  | .list xs, h => by
    simp only [PyData.showable]
    exact fines_show (by simpa only [fine] using h)
  | .tuple xs, h => by
    simp only [PyData.showable]
    exact fines_show (by simpa only [fine] using h)
theorem fines_show : ∀ {ds : List PyData}, fines ds = true → PyData.showableAll ds = true
  | [], _ => by simp only [PyData.showableAll]
  | x :: xs, h => by
    simp only [fines, Bool.and_eq_true] at h
    simp only [PyData.showableAll, fine_show h.1, fines_show h.2, Bool.and_self]
end
theorem int_str_len {i : Int} (h : i.natAbs.log2 < 1920) : ((toString i : String) : Str).length ≤ 1930 := by
  have h1 := int_text_length_le (a := i) (k := 1920) (by decide) h
  rw [ofString_length]; omega
theorem tupleText_le (ts : List Str) : (tupleText ts).length ≤ piled ts + 5 := by
  unfold tupleText
  rw [strLen_append, strLen_append]
  have e1 : ((("(" : String) : Str)).length = 1 := rfl
  have e3 : (((if ts.length == 1 then ",)" else ")" : String) : Str)).length ≤ 2 := by split <;> decide
  rw [e1]
  by_cases h : ts = []
  · subst h
    have : (Str.join ", " ([] : List Str)).length = 0 := rfl
    omega
  · have := join_length_add ts h
    omega
theorem listText_le (ts : List Str) : (listText ts).length ≤ piled ts + 5 := by
  have h := listText_len_le ts
  have e : piled ts = (ts.map (·.length)).sum + 2 * ts.length := by
    induction ts with
    | nil => rfl
    | cons t ts ih =>
      rw [piled_cons, ih (listText_len_le ts)]
      simp only [List.map_cons, List.sum_cons, List.length_cons]
      omega
  omega
mutual
theorem shown_le : ∀ {d : PyData}, fine d = true → d.shown.length ≤ wide d
  | .none, _ => by simp only [PyData.shown, wide]; decide
  | .bool b, _ => by cases b <;> simp only [PyData.shown, wide] <;> decide
  | .int i, h => by
    simp only [fine, decide_eq_true_eq] at h
    simp only [PyData.shown, wide]
    exact int_str_len h
  | .str x, h => by
    simp only [fine, List.all_eq_true, decide_eq_true_eq] at h
    simp only [PyData.shown, wide]
    exact StrLaws.reprText_len x h
  | .list xs, h => by
    simp only [fine] at h
    simp only [PyData.shown, wide]
    exact Nat.le_trans (listText_le _) (Nat.add_le_add_right (showns_le h) 5)
  | .tuple xs, h => by
    simp only [fine] at h
    simp only [PyData.shown, wide]
    exact Nat.le_trans (tupleText_le _) (Nat.add_le_add_right (showns_le h) 5)
theorem showns_le : ∀ {ds : List PyData}, fines ds = true → piled (PyData.shownAll ds) ≤ wides ds
  | [], _ => by simp only [PyData.shownAll, piled_nil, wides]; exact Nat.le_refl _
  | x :: xs, h => by
    simp only [fines, Bool.and_eq_true] at h
    have h1 := shown_le h.1
    have h2 := showns_le h.2
    simp only [PyData.shownAll, piled_cons, wides]
    omega
end
/-- repr of fine data -/
theorem repr_eq {v : Val} {h : Hh} {d : PyData} (e : toD h deep v = some d) (f : fine d = true) (w : wide d ≤ sizeLine) : bifop .repr [v] h = .ok (.str d.shown) h := by
  have h1 := shown_le f
  have h2 : d.shown.length ≤ sizeLine := Nat.le_trans h1 w
  simp only [bifop, e, orBad_some, fine_show f, Bool.true_and, decide_eq_true h2, okIf_true]
/-! ### texts as they are written -/
theorem map_inj : ∀ {a b : List Char}, a.map Char.toNat = b.map Char.toNat → a = b
  | [], [], _ => rfl
  | [], _ :: _, h => by cases h
  | _ :: _, [], h => by cases h
  | x :: xs, y :: ys, h => by
    simp only [List.map_cons, List.cons.injEq] at h
    rw [map_inj h.2, Char.ext (UInt32.toNat_inj.mp h.1)]
@[simp] theorem ofS (a b : String) : (Str.ofString a = Str.ofString b) = (a = b) := by
  rw [Str.ofString_eq_toList, Str.ofString_eq_toList]
  refine propext ⟨fun h => ?_, fun h => by rw [h]⟩
  simp only [Str.mk.injEq] at h
  exact String.toList_inj.mp (map_inj (List.toArray_inj h))
@[simp] theorem ofSb (a b : String) : (Str.ofString a == Str.ofString b) = decide (a = b) := by
  rw [Bool.eq_iff_iff]
  simp [ofS]
/-! ### the language, case by case -/
section
variable {h : Hh} {b c : Bool} {i j : Int} {s t : Str} {xs ys : List Val} {u v : Val} {l m : Nat} {lo hi : Option Int} {o : Ob} {x : Exn} {ρ : En} {k : Val → Hh → R Fl}
@[simp] theorem q0 : truthy h .non = some false := rfl
@[simp] theorem q1 : truthy h (.bl b) = some b := rfl
@[simp] theorem q2 : truthy h (.int i) = some (i != 0) := rfl
@[simp] theorem q3 : truthy h (.tup xs) = some (!xs.isEmpty) := rfl
@[simp] theorem q4 : cmpop .eq u v h = pyEq h u v := rfl
@[simp] theorem q5 : cmpop .ne u v h = (pyEq h u v).map (!·) := rfl
@[simp] theorem q6 : cmpop .inn u v h = inVal h u v := rfl
@[simp] theorem q7 : cmpop .nin u v h = (inVal h u v).map (!·) := rfl
@[simp] theorem q8 : cmpop .lt (.int i) (.int j) h = some (decide (i < j)) := rfl
@[simp] theorem q9 : cmpop .le (.int i) (.int j) h = some (decide (i ≤ j)) := rfl
@[simp] theorem q10 : cmpop .gt (.int i) (.int j) h = some (decide (j < i)) := rfl
@[simp] theorem q11 : cmpop .ge (.int i) (.int j) h = some (decide (j ≤ i)) := rfl
@[simp] theorem q12 : cmpop .is .non .non h = some true := rfl
@[simp] theorem q13 : cmpop .isn .non .non h = some false := rfl
@[simp] theorem q14 : cmpop .is (.bl b) .non h = some false := rfl
@[simp] theorem q15 : cmpop .isn (.bl b) .non h = some true := rfl
@[simp] theorem q16 : cmpop .is (.int i) .non h = some false := rfl
@[simp] theorem q17 : cmpop .isn (.int i) .non h = some true := rfl
@[simp] theorem q18 : cmpop .is (.str t) .non h = some false := rfl
@[simp] theorem q19 : cmpop .isn (.str t) .non h = some true := rfl
@[simp] theorem q20 : cmpop .is (.tup xs) .non h = some false := rfl
@[simp] theorem q21 : cmpop .isn (.tup xs) .non h = some true := rfl
@[simp] theorem q22 : cmpop .is (.kl xs) .non h = some false := rfl
@[simp] theorem q23 : cmpop .isn (.kl xs) .non h = some true := rfl
@[simp] theorem q24 : cmpop .is (.kt xs) .non h = some false := rfl
@[simp] theorem q25 : cmpop .isn (.kt xs) .non h = some true := rfl
@[simp] theorem q26 : cmpop .is (.ref l) .non h = some false := rfl
@[simp] theorem q27 : cmpop .isn (.ref l) .non h = some true := rfl
@[simp] theorem q28 : pyEq h (.str s) (.str t) = some (s == t) := rfl
@[simp] theorem q29 : pyEq h (.int i) (.int j) = some (i == j) := rfl
@[simp] theorem q30 : pyEq h (.bl b) (.bl c) = some (b == c) := rfl
@[simp] theorem q31 : pyEq h .non .non = some true := rfl
@[simp] theorem q32 : pyEq h (.str s) .non = some false := rfl
@[simp] theorem q33 : pyEq h .non (.str s) = some false := rfl
@[simp] theorem q34 : binop .add (.int i) (.int j) h = .ok (.int (i + j)) h := rfl
@[simp] theorem q35 : binop .sub (.int i) (.int j) h = .ok (.int (i - j)) h := rfl
@[simp] theorem q36 : binop .mul (.int i) (.int j) h = okIf (smallI i || smallI j) (.ok (.int (i * j)) h) := rfl
@[simp] theorem q37 : binop .mod (.int i) (.int j) h = okIf (decide (0 < j)) (.ok (.int (i % j)) h) := rfl
@[simp] theorem q38 : binop .fdiv (.int i) (.int j) h = okIf (decide (0 < j ∧ j < 1073741824)) (.ok (.int (i / j)) h) := rfl
@[simp] theorem q39 : binop .pow (.int i) (.int j) h = okIf (decide (0 ≤ j ∧ j ≤ 1000000 ∧ i.natAbs < 2 ^ 64)) (.ok (.int (i ^ j.toNat)) h) := rfl
@[simp] theorem q40 : binop .add (.str s) (.str t) h = okIf (decide (s.length + t.length ≤ sizeLine)) (.ok (.str (s ++ t)) h) := rfl
@[simp] theorem q41 : binop .add (.tup xs) (.tup ys) h = okIf (decide (xs.length + ys.length ≤ sizeLine)) (.ok (.tup (xs ++ ys)) h) := rfl
@[simp] theorem q42 : binop .add (.ref l) (.ref m) h = orBad (lstOf h l) fun xs => orBad (lstOf h m) fun ys => okIf (decide (xs.length + ys.length ≤ sizeLine)) (newOb (.lst (xs ++ ys)) h) := rfl
@[simp] theorem q43 : idxop (.tup xs) (.int i) h = L2.atI xs i := rfl
@[simp] theorem q44 : toKey (.str s) = some (.inl (.inr s)) := rfl
@[simp] theorem q45 : toKey (.int i) = some (.inl (.inl i)) := rfl
@[simp] theorem q46 : bmtop .append (.ref l) [v] h = orBad (lstOf h l) fun xs => okIf (decide (xs.length < sizeLine)) (setOb l (.lst (xs ++ [v])) .non h) := rfl
@[simp] theorem q47 : bmtop .extend (.ref l) [.ref m] h = orBad (lstOf h l) fun xs => orBad (lstOf h m) fun ys => okIf (decide (xs.length + ys.length ≤ sizeLine)) (setOb l (.lst (xs ++ ys)) .non h) := rfl
@[simp] theorem q48 : bmtop .get (.ref l) [u] h = orBad (dctOf h l) fun kvs => orBad (toKey u) fun k => okIf (oneKind k kvs) (.ok ((dget kvs k).getD .non) h) := rfl
@[simp] theorem q49 : bmtop .get (.ref l) [u, v] h = orBad (dctOf h l) fun kvs => orBad (toKey u) fun k => okIf (oneKind k kvs) (.ok ((dget kvs k).getD v) h) := rfl
@[simp] theorem q50 : recv .append (.ref l) h = (lstOf h l).isSome := rfl
@[simp] theorem q51 : recv .extend (.ref l) h = (lstOf h l).isSome := rfl
@[simp] theorem q52 : recv .get (.ref l) h = (dctOf h l).isSome := rfl
@[simp] theorem q53 : recv .pop (.ref l) h = (dctOf h l).isSome := rfl
@[simp] theorem q54 : recv .join (.str s) h = true := rfl
@[simp] theorem q55 : bifop .int [.int i] h = .ok (.int i) h := rfl
@[simp] theorem q56 : bifop .abs [.int i] h = .ok (.int (if i < 0 then -i else i)) h := rfl
@[simp] theorem q57 : bifop .tuple [.tup xs] h = .ok (.tup xs) h := rfl
@[simp] theorem q58 : bifop .sum [v] h = orBad (lseq h v) fun xs => orBad (asInts xs) fun ns => .ok (.int ns.sum) h := rfl
@[simp] theorem q59 : bifop .min [.ref l] h = orBad (lseq h (.ref l)) fun xs => orBad (asInts xs) fun ns => orBad (leInt ns) fun i => .ok (.int i) h := rfl
@[simp] theorem q60 : bifop .max [.ref l] h = orBad (lseq h (.ref l)) fun xs => orBad (asInts xs) fun ns => orBad (geInt ns) fun i => .ok (.int i) h := rfl
@[simp] theorem q61 : bifop .sorted [v] h = orBad (lseq h v) fun xs => orBad (asInts xs) fun ns => newOb (.lst ((sortInts ns).map .int)) h := rfl
@[simp] theorem q62 : bifop .len [.tup xs] h = .ok (.int xs.length) h := rfl
@[simp] theorem q63 : bifop .len [.kl xs] h = .ok (.int xs.length) h := rfl
@[simp] theorem q64 : bifop .len [.kt xs] h = .ok (.int xs.length) h := rfl
@[simp] theorem q65 : bifop .tuple [.ref l] h = orBad (lseq h (.ref l)) fun xs => .ok (.tup xs) h := rfl
@[simp] theorem q66 : srcOf h (.tup xs) = some (.fix xs) := rfl
@[simp] theorem q67 : srcOf h (.kl xs) = some (.fix xs) := rfl
@[simp] theorem q68 : srcOf h (.kt xs) = some (.fix xs) := rfl
@[simp] theorem q69 : part .non = some none := rfl
@[simp] theorem q70 : part (.int i) = some (some i) := rfl
@[simp] theorem q71 : slcop (.tup xs) lo hi h = .ok (.tup (Mi.cut xs lo hi)) h := rfl
@[simp] theorem q72 : slcop (.ref l) lo hi h = orBad (lseq h (.ref l)) fun xs => newOb (.lst (Mi.cut xs lo hi)) h := rfl
@[simp] theorem q73 : newOb o h = .ok (.ref h.length) (h ++ [o]) := rfl
@[simp] theorem q74 : setOb l o v h = .ok v (h.set l o) := rfl
@[simp] theorem q75 : noexc (.exc x h : R Val) = .bad := rfl
@[simp] theorem q76 : held (.ok v h : R Val) ρ k = k v h := rfl
theorem r_lst {vs : List Val} (e : h[l]? = some (.lst vs)) : lstOf h l = some vs := by simp only [lstOf, e]
theorem r_lseq {vs : List Val} (e : h[l]? = some (.lst vs)) : lseq h (.ref l) = some vs := by simp only [lseq, e]
theorem r_seq {vs : List Val} (e : h[l]? = some (.lst vs)) : seqOf h (.ref l) = some vs := by simp only [seqOf, e]
theorem r_dct {ks : List (Kk × Val)} (e : h[l]? = some (.dct ks)) : dctOf h l = some ks := by simp only [dctOf, e]
theorem r_ins {c : Str} {fs : List (Str × Val)} (e : h[l]? = some (.ins c fs)) : insOf h (.ref l) = some (l, c, fs) := by simp only [insOf, e]
theorem r_src {vs : List Val} (e : h[l]? = some (.lst vs)) : srcOf h (.ref l) = some (.dyn l false) := by simp only [srcOf, e]
theorem r_len {vs : List Val} (e : h[l]? = some (.lst vs)) : bifop .len [.ref l] h = .ok (.int vs.length) h := by simp only [bifop, seqOf, e]
theorem r_idx {vs : List Val} (e : h[l]? = some (.lst vs)) : idxop (.ref l) (.int i) h = L2.atI vs i := by simp only [idxop, dictOf, seqOf, e]
theorem r_idd {ks : List (Kk × Val)} {kk : Kk} (e : h[l]? = some (.dct ks)) (ek : toKey u = some kk) (ok : oneKind kk ks = true) : idxop (.ref l) u h = dget ks kk := by simp only [idxop, dictOf, e, ek, ok, if_true]
theorem r_sub {vs : List Val} (e : h[l]? = some (.lst vs)) : subop (.ref l) (.int i) v h = orBad (L2.ixN vs.length i) fun j => setOb l (.lst (vs.set j v)) .non h := by simp only [subop, e]
theorem r_put {ks : List (Kk × Val)} {kk : Kk} (e : h[l]? = some (.dct ks)) (ek : toKey u = some kk) : subop (.ref l) u v h = okIf (oneKind kk ks && decide (ks.length < sizeLine)) (setOb l (.dct (dput ks kk v)) .non h) := by simp only [subop, e, ek, orBad_some]
@[simp] theorem walk_fix {S T : Type} {f : Val → S → Hh → R (S ⊕ T)} {a : S} : walk (.fix xs) f a h = walkF f xs a h := rfl
@[simp] theorem inv_tup : inVal h u (.tup xs) = inSeq h u xs := rfl
end
section
variable {Γ : Cxt} {ρ : En} {h : Hh} {v : Val} {i : Nat} {x : Str} {a b c e : Ex} {o : Bop} {p q : Cop} {f : Bif} {m : Bmt} {kvs : List (Kk × Val)} {t : Tg} {sa sb : Sm}
@[simp] theorem v0 : ev Γ (.lit v) ρ h = .ok v h := by first | (simp only [ev, evs, evd, evi]; done) | (simp only [ev, evs, evd, evi]; rfl)
@[simp] theorem v1 : ev Γ (.loc i) ρ h = orBad (ρ.get? i) fun v => .ok v h := by first | (simp only [ev, evs, evd, evi]; done) | (simp only [ev, evs, evd, evi]; rfl)
@[simp] theorem v2 : ev Γ (.glb x) ρ h = orBad (Γ.gl x) fun v => .ok v h := by first | (simp only [ev, evs, evd, evi]; done) | (simp only [ev, evs, evd, evi]; rfl)
@[simp] theorem v3 : ev Γ (.tup e) ρ h = (evs Γ e ρ h).bind fun vs h => .ok (.tup vs) h := by first | (simp only [ev, evs, evd, evi]; done) | (simp only [ev, evs, evd, evi]; rfl)
@[simp] theorem v4 : ev Γ (.lst e) ρ h = (evs Γ e ρ h).bind fun vs h => newOb (.lst vs) h := by first | (simp only [ev, evs, evd, evi]; done) | (simp only [ev, evs, evd, evi]; rfl)
@[simp] theorem v5 : ev Γ (.dct e) ρ h = evd Γ e ρ [] h := by first | (simp only [ev, evs, evd, evi]; done) | (simp only [ev, evs, evd, evi]; rfl)
@[simp] theorem v6 : ev Γ (.bin o a b) ρ h = (ev Γ a ρ h).bind fun x h => (ev Γ b ρ h).bind fun y h => binop o x y h := by first | (simp only [ev, evs, evd, evi]; done) | (simp only [ev, evs, evd, evi]; rfl)
@[simp] theorem v7 : ev Γ (.neg a) ρ h = (ev Γ a ρ h).bind fun x h => match x with | .int i => .ok (.int (-i)) h | _ => .bad := by first | (simp only [ev, evs, evd, evi]; done) | (simp only [ev, evs, evd, evi]; rfl)
@[simp] theorem v8 : ev Γ (.not a) ρ h = (ev Γ a ρ h).bind fun x h => orBad (truthy h x) fun k => .ok (.bl (!k)) h := by first | (simp only [ev, evs, evd, evi]; done) | (simp only [ev, evs, evd, evi]; rfl)
@[simp] theorem v9 : ev Γ (.and a b) ρ h = (ev Γ a ρ h).bind fun x h => orBad (truthy h x) fun k => if k then ev Γ b ρ h else .ok x h := by first | (simp only [ev, evs, evd, evi]; done) | (simp only [ev, evs, evd, evi]; rfl)
@[simp] theorem v10 : ev Γ (.or a b) ρ h = (ev Γ a ρ h).bind fun x h => orBad (truthy h x) fun k => if k then .ok x h else ev Γ b ρ h := by first | (simp only [ev, evs, evd, evi]; done) | (simp only [ev, evs, evd, evi]; rfl)
@[simp] theorem v11 : ev Γ (.cmp p a b) ρ h = (ev Γ a ρ h).bind fun x h => (ev Γ b ρ h).bind fun y h => orBad (cmpop p x y h) fun k => .ok (.bl k) h := by first | (simp only [ev, evs, evd, evi]; done) | (simp only [ev, evs, evd, evi]; rfl)
@[simp] theorem v12 : ev Γ (.chn p q a b c) ρ h = (ev Γ a ρ h).bind fun x h => (ev Γ b ρ h).bind fun y h => orBad (cmpop p x y h) fun k =>
    if k then (ev Γ c ρ h).bind fun z h => orBad (cmpop q y z h) fun k => .ok (.bl k) h else .ok (.bl false) h := by first | (simp only [ev, evs, evd, evi]; done) | (simp only [ev, evs, evd, evi]; rfl)
@[simp] theorem v13 : ev Γ (.ite c a b) ρ h = (ev Γ c ρ h).bind fun x h => orBad (truthy h x) fun k => if k then ev Γ a ρ h else ev Γ b ρ h := by first | (simp only [ev, evs, evd, evi]; done) | (simp only [ev, evs, evd, evi]; rfl)
@[simp] theorem v14 : ev Γ (.idx a b) ρ h = (ev Γ a ρ h).bind fun x h => (ev Γ b ρ h).bind fun y h => orBad (idxop x y h) fun v => .ok v h := by first | (simp only [ev, evs, evd, evi]; done) | (simp only [ev, evs, evd, evi]; rfl)
@[simp] theorem v15 : ev Γ (.slc a b c) ρ h = (ev Γ a ρ h).bind fun x h => (ev Γ b ρ h).bind fun l h => orBad (part l) fun l => (ev Γ c ρ h).bind fun u h => orBad (part u) fun u => slcop x l u h := by first | (simp only [ev, evs, evd, evi]; done) | (simp only [ev, evs, evd, evi]; rfl)
@[simp] theorem v16 : ev Γ (.rev a) ρ h = (ev Γ a ρ h).bind fun x h => match x with | .ref l => orBad (lstOf h l) fun xs => newOb (.lst xs.reverse) h | _ => .bad := by first | (simp only [ev, evs, evd, evi]; done) | (simp only [ev, evs, evd, evi]; rfl)
@[simp] theorem v17 : ev Γ (.fld a x) ρ h = (ev Γ a ρ h).bind fun y h => orBad (insOf h y) fun p => okIf (Γ.fl p.2.1 x) (orBad (p.2.2.lookup x) fun v => .ok v h) := by first | (simp only [ev, evs, evd, evi]; done) | (simp only [ev, evs, evd, evi]; rfl)
@[simp] theorem v18 : ev Γ (.call x e) ρ h = (evs Γ e ρ h).bind fun vs h => Γ.cl (.fn x) vs h := by first | (simp only [ev, evs, evd, evi]; done) | (simp only [ev, evs, evd, evi]; rfl)
@[simp] theorem v19 : ev Γ (.mth a x e) ρ h = (ev Γ a ρ h).bind fun y h => orBad (insOf h y) fun p => match p.2.2.lookup x with
    | none => okIf (Γ.ms p.2.1 x) ((evs Γ e ρ h).bind fun vs h => Γ.cl (.mt p.2.1 x) (y :: vs) h)
    | some _ => .bad := by first | (simp only [ev, evs, evd, evi]; done) | (simp only [ev, evs, evd, evi]; rfl)
@[simp] theorem v20 : ev Γ (.mk x e) ρ h = (evs Γ e ρ h).bind fun vs h => Γ.cl (.mk x) vs h := by first | (simp only [ev, evs, evd, evi]; done) | (simp only [ev, evs, evd, evi]; rfl)
@[simp] theorem v21 : ev Γ (.bif f e) ρ h = (evs Γ e ρ h).bind fun vs h => bifop f vs h := by first | (simp only [ev, evs, evd, evi]; done) | (simp only [ev, evs, evd, evi]; rfl)
@[simp] theorem v22 : ev Γ (.bmt m a e) ρ h = (ev Γ a ρ h).bind fun x h => okIf (recv m x h) ((evs Γ e ρ h).bind fun vs h => bmtop m x vs h) := by first | (simp only [ev, evs, evd, evi]; done) | (simp only [ev, evs, evd, evi]; rfl)
@[simp] theorem v23 : ev Γ (.isi a x) ρ h = (ev Γ a ρ h).bind fun y h => orBad (isiop y x h) fun k => .ok (.bl k) h := by first | (simp only [ev, evs, evd, evi]; done) | (simp only [ev, evs, evd, evi]; rfl)
@[simp] theorem v24 : evs Γ .nil ρ h = .ok [] h := by first | (simp only [ev, evs, evd, evi]; done) | (simp only [ev, evs, evd, evi]; rfl)
@[simp] theorem v25 : evs Γ (.cons a e) ρ h = (ev Γ a ρ h).bind fun v h => (evs Γ e ρ h).bind fun vs h => .ok (v :: vs) h := by first | (simp only [ev, evs, evd, evi]; done) | (simp only [ev, evs, evd, evi]; rfl)
@[simp] theorem v26 : evd Γ .nil ρ kvs h = newOb (.dct kvs) h := by first | (simp only [ev, evs, evd, evi]; done) | (simp only [ev, evs, evd, evi]; rfl)
@[simp] theorem v27 : evd Γ (.kv a b c) ρ kvs h = (ev Γ a ρ h).bind fun x h => (ev Γ b ρ h).bind fun y h => orBad (toKey x) fun k => okIf (plainKeys [(k, y)]) (evd Γ c ρ (dput kvs k y) h) := by first | (simp only [ev, evs, evd, evi]; done) | (simp only [ev, evs, evd, evi]; rfl)
@[simp] theorem v28 : evi Γ (.enu a) ρ h = (ev Γ a ρ h).bind fun x h => orBad (enuOf h x) fun s => .ok s h := by first | (simp only [ev, evs, evd, evi]; done) | (simp only [ev, evs, evd, evi]; rfl)
@[simp] theorem v29 : evi Γ (.rng a b) ρ h = (ev Γ a ρ h).bind fun x h => (ev Γ b ρ h).bind fun y h => orBad (rngOf x y) fun s => .ok s h := by first | (simp only [ev, evs, evd, evi]; done) | (simp only [ev, evs, evd, evi]; rfl)
@[simp] theorem v30 : evi Γ (.itr a) ρ h = (ev Γ a ρ h).bind fun x h => orBad (srcOf h x) fun s => .ok s h := by first | (simp only [ev, evs, evd, evi]; done) | (simp only [ev, evs, evd, evi]; rfl)
@[simp] theorem w0 : ex Γ .nop ρ h = .ok (.nx ρ) h := by first | (simp only [ex]; done) | (simp only [ex]; rfl)
@[simp] theorem w1 : ex Γ (.seq sa sb) ρ h = (ex Γ sa ρ h).bind fun f h => match f with | .nx ρ => ex Γ sb ρ h | f => .ok f h := by first | (simp only [ex]; done) | (simp only [ex]; rfl)
@[simp] theorem w2 : ex Γ (.asg t a) ρ h = held (ev Γ a ρ h) ρ fun v h => orBad (t.put (spread h t v) ρ) fun ρ => .ok (.nx ρ) h := by first | (simp only [ex]; done) | (simp only [ex]; rfl)
@[simp] theorem w3 : ex Γ (.sub a b c) ρ h = held (ev Γ c ρ h) ρ fun v h => held (ev Γ a ρ h) ρ fun x h => held (ev Γ b ρ h) ρ fun y h => (subop x y v h).bind fun _ h => .ok (.nx ρ) h := by first | (simp only [ex]; done) | (simp only [ex]; rfl)
@[simp] theorem w4 : ex Γ (.fas a x c) ρ h = held (ev Γ c ρ h) ρ fun v h => held (ev Γ a ρ h) ρ fun y h => orBad (insOf h y) fun p => okIf (Γ.fl p.2.1 x && decide (p.2.2.length < 1000)) (.ok (.nx ρ) (h.set p.1 (.ins p.2.1 (putFs x v p.2.2)))) := by first | (simp only [ex]; done) | (simp only [ex]; rfl)
@[simp] theorem w5 : ex Γ (.aug i o a) ρ h = orBad (ρ.get? i) fun x => held (ev Γ a ρ h) ρ fun y h => (augop o x y h).bind fun v h => orBad ((Tg.nm i).put v ρ) fun ρ => .ok (.nx ρ) h := by first | (simp only [ex]; done) | (simp only [ex]; rfl)
@[simp] theorem w6 : ex Γ (.exp a) ρ h = held (ev Γ a ρ h) ρ fun _ h => .ok (.nx ρ) h := by first | (simp only [ex]; done) | (simp only [ex]; rfl)
@[simp] theorem w7 : ex Γ (.ret a) ρ h = held (ev Γ a ρ h) ρ fun v h => .ok (.rt v) h := by first | (simp only [ex]; done) | (simp only [ex]; rfl)
@[simp] theorem w8 : ex Γ .retN ρ h = .ok (.rt .non) h := by first | (simp only [ex]; done) | (simp only [ex]; rfl)
@[simp] theorem w9 : ex Γ (.ifs c sa sb) ρ h = held (ev Γ c ρ h) ρ fun x h => orBad (truthy h x) fun k => if k then ex Γ sa ρ h else ex Γ sb ρ h := by first | (simp only [ex]; done) | (simp only [ex]; rfl)
@[simp] theorem w10 : ex Γ .brk ρ h = .ok (.bk ρ) h := by first | (simp only [ex]; done) | (simp only [ex]; rfl)
@[simp] theorem w11 : ex Γ .cont ρ h = .ok (.ct ρ) h := by first | (simp only [ex]; done) | (simp only [ex]; rfl)
@[simp] theorem w12 : ex Γ .never ρ h = .bad := by first | (simp only [ex]; done) | (simp only [ex]; rfl)
end
@[simp] theorem spread_nm (h : Hh) (i : Nat) (v : Val) : spread h (.nm i) v = v := rfl
@[simp] theorem spread_tup (h : Hh) (t : Tg) (xs : List Val) : spread h t (.tup xs) = .tup xs := by cases t <;> rfl
@[simp] theorem get_def (ρ : En) (i : Nat) : ρ.get? i = (ρ[i]?).join := rfl
@[simp] theorem put_nm (i : Nat) (v : Val) (ρ : En) : (Tg.nm i).put v ρ = if i < ρ.length then some (ρ.set i (some v)) else none := rfl
@[simp] theorem put_nil (v : Val) (ρ : En) : Tg.nil.put v ρ = match tupOf v with
    | some [] => some ρ
    | _ => none := rfl
@[simp] theorem put_cons (t ts : Tg) (v : Val) (ρ : En) : (Tg.cons t ts).put v ρ = match tupOf v with
    | some (x :: xs) => match t.put x ρ with
      | some e' => ts.put (.tup xs) e'
      | none => none
    | _ => none := rfl
@[simp] theorem start_def (f : Fn) (vs : List Val) : startE f vs = vs.map some ++ List.replicate (f.sl - vs.length) none := rfl
@[simp] theorem lookup_def {α β : Type} [BEq α] (k : α) (p : α × β) (l : List (α × β)) : List.lookup k (p :: l) = match k == p.1 with
    | true => some p.2
    | false => List.lookup k l := by
  obtain ⟨a, b⟩ := p
  rw [List.lookup_cons]
  cases k == a <;> rfl
end Mi

set_option maxHeartbeats 200000
namespace Mi
open PySem

section
variable {Γ : Cxt} {ρ : En} {own : List Nat} {i : Nat} {elt it c : Ex} {h0 hs : Hh} {ι : Type} {vf g : ι → Val} {xs : List ι} {p : ι → Bool}
/-- over a list that stands, with a condition -/
theorem lc_dynC {l : Nat} (hi : i < (wipe ρ own).length) (hx : xs.length < sizeLine) (hl : h0[l]? = some (.lst (xs.map vf))) (hit : evi Γ it ρ hs = .ok (.dyn l false) h0)
    (hc : ∀ x ∈ xs, ∀ h, Grow h0 h → ∃ y h', ev Γ c ((wipe ρ own).set i (some (vf x))) h = .ok y h' ∧ Grow h h' ∧ truthy h' y = some (p x))
    (he : ∀ x ∈ xs, p x = true → ∀ h, Grow h0 h → Gives (ev Γ elt ((wipe ρ own).set i (some (vf x))) h) h (g x)) :
    ∃ h' , ev Γ (.cmpr elt (.gen (.nm i) it c .nil) own) ρ hs = .ok (.ref h'.length) (h' ++ [.lst ((xs.filter p).map g)]) ∧ Grow h0 h' := by
  have go : ∀ (n k : Nat) (acc : List Val) (h : Hh), k + n = xs.length → acc = ((xs.take k).filter p).map g → Grow h0 h → ∃ h', walkD (T := Unit) l false (fun x acc h => orBad ((Tg.nm i).put x (wipe ρ own)) fun ρ1 => (ev Γ c ρ1 h).bind fun y h => orBad (truthy h y) fun k =>
      if k then (evg Γ .nil (fun ρ2 h => ev Γ elt ρ2 h) ρ1 acc h).bind fun acc h => R.ok (Sum.inl acc) h else R.ok (Sum.inl acc) h) n k acc h = .ok (.inl ((xs.filter p).map g)) h' ∧ Grow h0 h' := by
    intro n
    induction n with
    | zero =>
      intro k acc h e ea gr
      refine ⟨h, ?_, gr⟩
      unfold walkD
      have : seqOf h (.ref l) = some (xs.map vf) := by simp only [seqOf, gr.get hl]
      rw [this, orBad_some, List.getElem?_eq_none (by simp; omega)]
      rw [ea, List.take_of_length_le (by omega)]
    | succ n ih =>
      intro k acc h e ea gr
      have hk : k < xs.length := by omega
      have ex : xs[k]? = some xs[k] := List.getElem?_eq_getElem hk
      obtain ⟨y, h1, e1, g1, t1⟩ := hc xs[k] (List.getElem_mem hk) h gr
      have s0 : seqOf h (.ref l) = some (xs.map vf) := by simp only [seqOf, gr.get hl]
      have pt : (Tg.nm i).put (vf xs[k]) (wipe ρ own) = some ((wipe ρ own).set i (some (vf xs[k]))) := by simp only [Tg.put, if_pos hi]
      have tk : xs.take (k + 1) = xs.take k ++ [xs[k]] := by rw [List.take_add_one, ex]; rfl
      have hlen : acc.length < sizeLine := by
        rw [ea, List.length_map]
        exact Nat.lt_of_le_of_lt (List.length_filter_le _ _) (by rw [List.length_take]; omega)
      unfold walkD
      rw [s0, orBad_some, List.getElem?_map, ex]
      simp only [Option.map_some, Bool.false_eq_true, if_false]
      rw [pt, orBad_some, e1, R.bind_ok, t1, orBad_some]
      cases hp : p xs[k] with
      | false =>
        obtain ⟨h2, e2, g2⟩ := ih (k + 1) acc h1 (by omega) (by rw [ea, tk, List.filter_append]; simp [hp]) (gr.trans g1)
        exact ⟨h2, e2, g2⟩
      | true =>
        obtain ⟨h3, e3, g3⟩ := he xs[k] (List.getElem_mem hk) hp h1 (gr.trans g1)
        obtain ⟨h2, e2, g2⟩ := ih (k + 1) (acc ++ [g xs[k]]) h3 (by omega) (by rw [ea, tk, List.filter_append]; simp [hp]) ((gr.trans g1).trans g3)
        refine ⟨h2, ?_, g2⟩
        simp only [evg, if_true]
        rw [e3]
        simp only [R.bind_ok, okIf, decide_eq_true hlen, if_true]
        simp only [evg] at e2
        exact e2
  obtain ⟨h', e, gr⟩ := go xs.length 0 [] h0 (by simp) (by simp) .refl
  refine ⟨h', ?_, gr⟩
  have s0 : seqOf h0 (.ref l) = some (xs.map vf) := by simp only [seqOf, hl]
  simp only [ev, hit, R.bind_ok, walk, s0, orBad_some, List.length_map]
  rw [e]
  simp [newOb]
end

/-! ### sorted numbers -/
theorem ins_head (i : Int) (l : List Int) : (insInt i l).head? = some (match l.head? with
    | none => i
    | some j => if i ≤ j then i else j) := by
  cases l with
  | nil => rfl
  | cons j r =>
    simp only [insInt, List.head?_cons]
    split <;> rfl
theorem sort_head : ∀ ns : List Int, (sortInts ns).head? = leInt ns
  | [] => rfl
  | i :: r => by
    rw [sortInts, ins_head, sort_head r, leInt]
    cases leInt r <;> rfl
theorem ins_len (i : Int) : ∀ l : List Int, (insInt i l).length = l.length + 1
  | [] => rfl
  | j :: r => by
    simp only [insInt]
    split
    · rfl
    · simp [ins_len i r]
theorem sort_len : ∀ ns : List Int, (sortInts ns).length = ns.length
  | [] => rfl
  | i :: r => by simp [sortInts, ins_len, sort_len r]
def Asc : List Int → Prop
  | [] => True
  | i :: r => (∀ j ∈ r, i ≤ j) ∧ Asc r
theorem ins_mem {i k : Int} : ∀ {l : List Int}, k ∈ insInt i l ↔ k = i ∨ k ∈ l
  | [] => by simp [insInt]
  | j :: r => by
    simp only [insInt]
    split
    · simp
    · simp [ins_mem (l := r)]
      constructor
      · rintro (h | h | h) <;> simp [h]
      · rintro (h | h | h) <;> simp [h]
theorem ins_asc {i : Int} : ∀ {l : List Int}, Asc l → Asc (insInt i l)
  | [], _ => ⟨by simp, trivial⟩
  | j :: r, h => by
    simp only [insInt]
    split
    · rename_i hij
      exact ⟨fun k hk => by
        rcases List.mem_cons.mp hk with rfl | hk
        · exact hij
        · exact Int.le_trans hij (h.1 k hk), h⟩
    · rename_i hij
      refine ⟨fun k hk => ?_, ins_asc h.2⟩
      rcases ins_mem.mp hk with rfl | hk
      · omega
      · exact h.1 k hk
theorem sort_asc : ∀ ns : List Int, Asc (sortInts ns)
  | [] => trivial
  | i :: r => ins_asc (sort_asc r)
theorem sort_mem {k : Int} : ∀ {ns : List Int}, k ∈ sortInts ns ↔ k ∈ ns
  | [] => Iff.rfl
  | i :: r => by rw [sortInts, ins_mem, sort_mem, List.mem_cons]
theorem ge_spec : ∀ {ns : List Int} {m : Int}, geInt ns = some m → m ∈ ns ∧ ∀ k ∈ ns, k ≤ m
  | [], m, h => by cases h
  | i :: r, m, h => by
    simp only [geInt] at h
    cases q : geInt r with
    | none =>
      rw [q] at h; cases h
      have : r = [] := by cases r with
        | nil => rfl
        | cons a b => simp only [geInt] at q; split at q <;> cases q
      subst this
      simp
    | some j =>
      rw [q] at h
      obtain ⟨h1, h2⟩ := ge_spec q
      simp only [Option.some.injEq] at h
      split at h
      · subst h
        exact ⟨by simp, fun k hk => by rcases List.mem_cons.mp hk with rfl | hk; exact Int.le_refl _; have := h2 k hk; omega⟩
      · subst h
        exact ⟨by simp [h1], fun k hk => by rcases List.mem_cons.mp hk with rfl | hk; omega; exact h2 k hk⟩
theorem le_spec : ∀ {ns : List Int} {m : Int}, leInt ns = some m → m ∈ ns ∧ ∀ k ∈ ns, m ≤ k
  | [], m, h => by cases h
  | i :: r, m, h => by
    simp only [leInt] at h
    cases q : leInt r with
    | none =>
      rw [q] at h; cases h
      have : r = [] := by cases r with
        | nil => rfl
        | cons a b => simp only [leInt] at q; split at q <;> cases q
      subst this
      simp
    | some j =>
      rw [q] at h
      obtain ⟨h1, h2⟩ := le_spec q
      simp only [Option.some.injEq] at h
      split at h
      · subst h
        exact ⟨by simp, fun k hk => by rcases List.mem_cons.mp hk with rfl | hk; exact Int.le_refl _; have := h2 k hk; omega⟩
      · subst h
        exact ⟨by simp [h1], fun k hk => by rcases List.mem_cons.mp hk with rfl | hk; omega; exact h2 k hk⟩
theorem asc_last : ∀ {l : List Int} {m : Int}, Asc l → l.getLast? = some m → ∀ k ∈ l, k ≤ m
  | [], m, _, h => by cases h
  | [i], m, _, h => by simp at h; subst h; simp
  | i :: j :: r, m, a, h => by
    have h' : (j :: r).getLast? = some m := by simpa [List.getLast?_cons_cons] using h
    have := asc_last a.2 h'
    intro k hk
    rcases List.mem_cons.mp hk with rfl | hk
    · exact Int.le_trans (a.1 j (by simp)) (this j (by simp))
    · exact this k hk
theorem sort_last (ns : List Int) : (sortInts ns).getLast? = geInt ns := by
  cases q : geInt ns with
  | none =>
    cases ns with
    | nil => rfl
    | cons i r => simp only [geInt] at q; split at q <;> cases q
  | some m =>
    obtain ⟨h1, h2⟩ := ge_spec q
    cases l : (sortInts ns).getLast? with
    | none =>
      have := sort_mem.mpr h1
      rw [List.getLast?_eq_none_iff.mp l] at this
      cases this
    | some k =>
      have a := asc_last (sort_asc ns) l m (sort_mem.mpr h1)
      have b := h2 k (sort_mem.mp (List.mem_of_getLast? l))
      congr 1
      omega
end Mi

set_option maxHeartbeats 0
namespace K20
open PySem PySem.Spec PyProof.Rows L2 Mi
abbrev pr : Program := PySem.Challenge.pw_formflow_k20_fields_of_forms
def top (i : Nat) : Stmt := pr.main.body.getD i (.Pass ⟨0, 0, 0, 0⟩)
def clsAt (s : Stmt) (j : Nat) : Stmt := match s with
  | .ClassDef _ _ _ b _ _ _ _ _ _ _ => b.getD j (.Pass ⟨0, 0, 0, 0⟩)
  | s => s
def tdef (k : FK) (qual : Str) (nm : Str) (s : Stmt) (N : List Str) (ps : List Str) : TDef := ⟨k, ⟨keyAt k, nm, qual, defArgs s, defBody s, defScope s, [], []⟩, N, ps⟩
def d_fields_of : TDef := tdef (.fn "fields_of") "fields_of" "fields_of" (top 3) ["form", "section", "field"] ["form"]
def d_section_of : TDef := tdef (.fn "section_of") "section_of" "section_of" (top 4) ["form", "name", "found", "section"] ["form", "name"]
def d_field_of : TDef := tdef (.fn "field_of") "field_of" "field_of" (top 5) ["form", "name", "found", "_", "field"] ["form", "name"]
def d_kind_expressions : TDef := tdef (.fn "kind_expressions") "kind_expressions" "kind_expressions" (top 6) ["kind", "_", "condition"] ["kind"]
def d_expressions_of : TDef := tdef (.fn "expressions_of") "expressions_of" "expressions_of" (top 7) ["field", "found", "expression"] ["field"]
def d__law_cell : TDef := tdef (.fn "_law_cell") "_law_cell" "_law_cell" (top 9) ["_law_script", "_law_k"] ["_law_script", "_law_k"]
def d__law_digits : TDef := tdef (.fn "_law_digits") "_law_digits" "_law_digits" (top 10) ["_law_script", "_law_first", "_law_last", "_law_digits_here", "_law_k", "_law_cell_here", "_law_place", "_law_seed"] ["_law_script", "_law_first", "_law_last"]
def d__law_draw : TDef := tdef (.fn "_law_draw") "_law_draw" "_law_draw" (top 11) ["_law_box", "_law_many", "_law_at"] ["_law_box", "_law_many"]
def d__law_same : TDef := tdef (.fn "_law_same") "_law_same" "_law_same" (top 12) ["_law_actual", "_law_due"] ["_law_actual", "_law_due"]
def d__law_pick : TDef := tdef (.fn "_law_pick") "_law_pick" "_law_pick" (top 13) ["_law_box", "_law_rows"] ["_law_box", "_law_rows"]
def d__law_named : TDef := tdef (.fn "_law_named") "_law_named" "_law_named" (top 14) ["_law_kinds", "_law_kind", "_law_name"] ["_law_kinds", "_law_kind"]
def d__law_number : TDef := tdef (.fn "_law_number") "_law_number" "_law_number" (top 15) ["_law_box", "_law_scope", "_law_depth", "_law_names", "_law_kind"] ["_law_box", "_law_scope", "_law_depth"]
def d__law_truth : TDef := tdef (.fn "_law_truth") "_law_truth" "_law_truth" (top 16) ["_law_box", "_law_scope", "_law_depth", "_law_names", "_law_kind"] ["_law_box", "_law_scope", "_law_depth"]
def d__law_condition : TDef := tdef (.fn "_law_condition") "_law_condition" "_law_condition" (top 17) ["_law_box", "_law_scope"] ["_law_box", "_law_scope"]
def d__law_question_kind : TDef := tdef (.fn "_law_question_kind") "_law_question_kind" "_law_question_kind" (top 18) ["_law_box", "_law_scope", "_law_kind", "_law_bounds", "_law_at", "_law_options"] ["_law_box", "_law_scope"]
def d__law_field : TDef := tdef (.fn "_law_field") "_law_field" "_law_field" (top 19) ["_law_box", "_law_name", "_law_scope", "_law_kind", "_law_condition_here", "_law_question", "_law_told"] ["_law_box", "_law_name", "_law_scope"]
def d__law_form : TDef := tdef (.fn "_law_form") "_law_form" "_law_form" (top 20) ["_law_box", "_law_scope", "_law_found", "_law_number_here", "_law_at", "_law_most", "_law_condition_here", "_law_inner", "_law_fields", "_law_own", "_law_k", "_law_name", "_law_field_here", "_law_kind", "_law_section"] ["_law_box"]
def d__law_renamed : TDef := tdef (.fn "_law_renamed") "_law_renamed" "_law_renamed" (top 21) ["_law_box", "_law_form_here", "_law_found", "_law_section", "_law_fields", "_law_field_here", "_law_name"] ["_law_box", "_law_form_here"]
def d__law_expressions : TDef := tdef (.fn "_law_expressions") "_law_expressions" "_law_expressions" (top 22) ["_law_field_here", "_law_found", "_law_pair", "_law_expression"] ["_law_field_here"]
def d_law : TDef := tdef (.fn "law") "law" "law" (top 23) ["_law_script", "_law_box", "_law_turn", "_law_form_here", "_law_pairs", "_law_section", "_law_field_here", "_law_name", "_law_sections", "_law_fields", "_law_pair"] ["_law_script"]
def inf : Inf := ⟨[], ["fields_of", "section_of", "field_of", "kind_expressions", "expressions_of", "_law_cell", "_law_digits", "_law_draw", "_law_same", "_law_pick", "_law_named", "_law_number", "_law_truth", "_law_condition", "_law_question_kind", "_law_field", "_law_form", "_law_renamed", "_law_expressions", "law"], ["BOUNDED", "WITH_OPTIONS"], ["dict", "int", "len", "list", "range", "repr", "str", "tuple"]⟩
def txt : Txt := ⟨inf, [d_fields_of, d_section_of, d_field_of, d_kind_expressions, d_expressions_of, d__law_cell, d__law_digits, d__law_draw, d__law_same, d__law_pick, d__law_named, d__law_number, d__law_truth, d__law_condition, d__law_question_kind, d__law_field, d__law_form, d__law_renamed, d__law_expressions, d_law], [], [("BOUNDED", .str "integer"), ("WITH_OPTIONS", .kt [.str "choice", .str "choices"])]⟩
theorem d_fields_of_ok : d_fields_of.Ok := ⟨⟨rfl, rfl, rfl, by decide +kernel, by decide +kernel, by decide +kernel, by decide +kernel⟩, rfl, rfl, rfl, fun _ => (by intro z; cases z), fun _ _ _ _ _ _ us (hl : us.length = 1) => match us, hl with | [_], _ => rfl⟩
theorem d_section_of_ok : d_section_of.Ok := ⟨⟨rfl, rfl, rfl, by decide +kernel, by decide +kernel, by decide +kernel, by decide +kernel⟩, rfl, rfl, rfl, fun _ => (by intro z; cases z), fun _ _ _ _ _ _ us (hl : us.length = 2) => match us, hl with | [_, _], _ => rfl⟩
theorem d_field_of_ok : d_field_of.Ok := ⟨⟨rfl, rfl, rfl, by decide +kernel, by decide +kernel, by decide +kernel, by decide +kernel⟩, rfl, rfl, rfl, fun _ => (by intro z; cases z), fun _ _ _ _ _ _ us (hl : us.length = 2) => match us, hl with | [_, _], _ => rfl⟩
theorem d_kind_expressions_ok : d_kind_expressions.Ok := ⟨⟨rfl, rfl, rfl, by decide +kernel, by decide +kernel, by decide +kernel, by decide +kernel⟩, rfl, rfl, rfl, fun _ => (by intro z; cases z), fun _ _ _ _ _ _ us (hl : us.length = 1) => match us, hl with | [_], _ => rfl⟩
theorem d_expressions_of_ok : d_expressions_of.Ok := ⟨⟨rfl, rfl, rfl, by decide +kernel, by decide +kernel, by decide +kernel, by decide +kernel⟩, rfl, rfl, rfl, fun _ => (by intro z; cases z), fun _ _ _ _ _ _ us (hl : us.length = 1) => match us, hl with | [_], _ => rfl⟩
theorem d__law_cell_ok : d__law_cell.Ok := ⟨⟨rfl, rfl, rfl, by decide +kernel, by decide +kernel, by decide +kernel, by decide +kernel⟩, rfl, rfl, rfl, fun _ => (by intro z; cases z), fun _ _ _ _ _ _ us (hl : us.length = 2) => match us, hl with | [_, _], _ => rfl⟩
theorem d__law_digits_ok : d__law_digits.Ok := ⟨⟨rfl, rfl, rfl, by decide +kernel, by decide +kernel, by decide +kernel, by decide +kernel⟩, rfl, rfl, rfl, fun _ => (by intro z; cases z), fun _ _ _ _ _ _ us (hl : us.length = 3) => match us, hl with | [_, _, _], _ => rfl⟩
theorem d__law_draw_ok : d__law_draw.Ok := ⟨⟨rfl, rfl, rfl, by decide +kernel, by decide +kernel, by decide +kernel, by decide +kernel⟩, rfl, rfl, rfl, fun _ => (by intro z; cases z), fun _ _ _ _ _ _ us (hl : us.length = 2) => match us, hl with | [_, _], _ => rfl⟩
theorem d__law_same_ok : d__law_same.Ok := ⟨⟨rfl, rfl, rfl, by decide +kernel, by decide +kernel, by decide +kernel, by decide +kernel⟩, rfl, rfl, rfl, fun _ => (by intro z; cases z), fun _ _ _ _ _ _ us (hl : us.length = 2) => match us, hl with | [_, _], _ => rfl⟩
theorem d__law_pick_ok : d__law_pick.Ok := ⟨⟨rfl, rfl, rfl, by decide +kernel, by decide +kernel, by decide +kernel, by decide +kernel⟩, rfl, rfl, rfl, fun _ => (by intro z; cases z), fun _ _ _ _ _ _ us (hl : us.length = 2) => match us, hl with | [_, _], _ => rfl⟩
theorem d__law_named_ok : d__law_named.Ok := ⟨⟨rfl, rfl, rfl, by decide +kernel, by decide +kernel, by decide +kernel, by decide +kernel⟩, rfl, rfl, rfl, fun _ => (by intro z; cases z), fun _ _ _ _ _ _ us (hl : us.length = 2) => match us, hl with | [_, _], _ => rfl⟩
theorem d__law_number_ok : d__law_number.Ok := ⟨⟨rfl, rfl, rfl, by decide +kernel, by decide +kernel, by decide +kernel, by decide +kernel⟩, rfl, rfl, rfl, fun _ => (by intro z; cases z), fun _ _ _ _ _ _ us (hl : us.length = 3) => match us, hl with | [_, _, _], _ => rfl⟩
theorem d__law_truth_ok : d__law_truth.Ok := ⟨⟨rfl, rfl, rfl, by decide +kernel, by decide +kernel, by decide +kernel, by decide +kernel⟩, rfl, rfl, rfl, fun _ => (by intro z; cases z), fun _ _ _ _ _ _ us (hl : us.length = 3) => match us, hl with | [_, _, _], _ => rfl⟩
theorem d__law_condition_ok : d__law_condition.Ok := ⟨⟨rfl, rfl, rfl, by decide +kernel, by decide +kernel, by decide +kernel, by decide +kernel⟩, rfl, rfl, rfl, fun _ => (by intro z; cases z), fun _ _ _ _ _ _ us (hl : us.length = 2) => match us, hl with | [_, _], _ => rfl⟩
theorem d__law_question_kind_ok : d__law_question_kind.Ok := ⟨⟨rfl, rfl, rfl, by decide +kernel, by decide +kernel, by decide +kernel, by decide +kernel⟩, rfl, rfl, rfl, fun _ => (by intro z; cases z), fun _ _ _ _ _ _ us (hl : us.length = 2) => match us, hl with | [_, _], _ => rfl⟩
theorem d__law_field_ok : d__law_field.Ok := ⟨⟨rfl, rfl, rfl, by decide +kernel, by decide +kernel, by decide +kernel, by decide +kernel⟩, rfl, rfl, rfl, fun _ => (by intro z; cases z), fun _ _ _ _ _ _ us (hl : us.length = 3) => match us, hl with | [_, _, _], _ => rfl⟩
theorem d__law_form_ok : d__law_form.Ok := ⟨⟨rfl, rfl, rfl, by decide +kernel, by decide +kernel, by decide +kernel, by decide +kernel⟩, rfl, rfl, rfl, fun _ => (by intro z; cases z), fun _ _ _ _ _ _ us (hl : us.length = 1) => match us, hl with | [_], _ => rfl⟩
theorem d__law_renamed_ok : d__law_renamed.Ok := ⟨⟨rfl, rfl, rfl, by decide +kernel, by decide +kernel, by decide +kernel, by decide +kernel⟩, rfl, rfl, rfl, fun _ => (by intro z; cases z), fun _ _ _ _ _ _ us (hl : us.length = 2) => match us, hl with | [_, _], _ => rfl⟩
theorem d__law_expressions_ok : d__law_expressions.Ok := ⟨⟨rfl, rfl, rfl, by decide +kernel, by decide +kernel, by decide +kernel, by decide +kernel⟩, rfl, rfl, rfl, fun _ => (by intro z; cases z), fun _ _ _ _ _ _ us (hl : us.length = 1) => match us, hl with | [_], _ => rfl⟩
theorem d_law_ok : d_law.Ok := ⟨⟨rfl, rfl, rfl, by decide +kernel, by decide +kernel, by decide +kernel, by decide +kernel⟩, rfl, rfl, rfl, fun _ => (by intro z; cases z), fun _ _ _ _ _ _ us (hl : us.length = 1) => match us, hl with | [_], _ => rfl⟩
theorem all_ok : ∀ d ∈ txt.defs, d.Ok := by
  simp only [txt, List.forall_mem_cons]
  exact ⟨d_fields_of_ok, d_section_of_ok, d_field_of_ok, d_kind_expressions_ok, d_expressions_of_ok, d__law_cell_ok, d__law_digits_ok, d__law_draw_ok, d__law_same_ok, d__law_pick_ok, d__law_named_ok, d__law_number_ok, d__law_truth_ok, d__law_condition_ok, d__law_question_kind_ok, d__law_field_ok, d__law_form_ok, d__law_renamed_ok, d__law_expressions_ok, d_law_ok, fun _ h => (by cases h)⟩
theorem io : IOk txt.inf txt.G := ⟨fun x hx => Option.isSome_iff_exists.mp ((by decide +kernel : ∀ x ∈ txt.inf.fns, (txt.G.fns.lookup (.fn x)).isSome = true) x hx), fun _ h => h⟩
theorem law_at : txt.G.fns.lookup (.fn "law") = some (txt.fn d_law) := by rfl
end K20

set_option maxHeartbeats 200000
namespace K20
open Mi PySem
def b_fields_of : Sm :=
  (.ret (.bif .tuple (.cons (.cmpr (.tup (.cons (.loc 1) (.cons (.loc 2) .nil))) (.gen (.nm 1) (.itr (.loc 0)) (.lit (.bl true)) (.gen (.nm 2) (.itr (.idx (.loc 1) (.lit (.int (3))))) (.lit (.bl true)) .nil)) [1, 2]) .nil)))
theorem at_fields_of : txt.G.fns.lookup (.fn "fields_of") = some ⟨1, 3, b_fields_of⟩ := by kernel_rfl
def b_section_of : Sm :=
  (.seq
   (.asg (.nm 2) (.cmpr (.loc 3) (.gen (.nm 3) (.itr (.loc 0)) (.cmp .eq (.idx (.loc 3) (.lit (.int (0)))) (.loc 1)) .nil) [3]))
  (.ret (.ite (.loc 2) (.idx (.loc 2) (.lit (.int (0)))) (.lit (.non)))))
theorem at_section_of : txt.G.fns.lookup (.fn "section_of") = some ⟨2, 4, b_section_of⟩ := by kernel_rfl
def b_field_of : Sm :=
  (.seq
   (.asg (.nm 2) (.cmpr (.loc 4) (.gen (.cons (.nm 3) (.cons (.nm 4) .nil)) (.itr (.call "fields_of" (.cons (.loc 0) .nil))) (.cmp .eq (.idx (.loc 4) (.lit (.int (1)))) (.loc 1)) .nil) [3, 4]))
  (.ret (.ite (.loc 2) (.idx (.loc 2) (.lit (.int (0)))) (.lit (.non)))))
theorem at_field_of : txt.G.fns.lookup (.fn "field_of") = some ⟨2, 5, b_field_of⟩ := by kernel_rfl
def b_kind_expressions : Sm :=
  (.seq
   (.ifs (.cmp .eq (.idx (.loc 0) (.lit (.int (0)))) (.glb "BOUNDED"))
     (.ret (.lst (.cons (.idx (.loc 0) (.lit (.int (1)))) (.cons (.idx (.loc 0) (.lit (.int (2)))) .nil))))
     .nop)
  (.ret (.ite (.cmp .inn (.idx (.loc 0) (.lit (.int (0)))) (.glb "WITH_OPTIONS")) (.cmpr (.loc 2) (.gen (.cons (.nm 1) (.cons (.nm 2) .nil)) (.itr (.idx (.loc 0) (.lit (.int (1))))) (.lit (.bl true)) .nil) [1, 2]) (.lst .nil))))
theorem at_kind_expressions : txt.G.fns.lookup (.fn "kind_expressions") = some ⟨1, 3, b_kind_expressions⟩ := by kernel_rfl
def b_expressions_of : Sm :=
  (.seq
   (.asg (.nm 1) (.lst (.cons (.idx (.loc 0) (.lit (.int (2)))) .nil)))
  (.seq
   (.ifs (.cmp .eq (.idx (.loc 0) (.lit (.int (0)))) (.lit (.str "question")))
     (.exp (.bmt .extend (.loc 1) (.cons (.call "kind_expressions" (.cons (.idx (.loc 0) (.lit (.int (3)))) .nil)) .nil)))
     (.exp (.bmt .append (.loc 1) (.cons (.idx (.loc 0) (.lit (.int (3)))) .nil))))
  (.ret (.bif .tuple (.cons (.cmpr (.loc 2) (.gen (.nm 2) (.itr (.loc 1)) (.cmp .isn (.loc 2) (.lit (.non))) .nil) [2]) .nil)))))
theorem at_expressions_of : txt.G.fns.lookup (.fn "expressions_of") = some ⟨1, 3, b_expressions_of⟩ := by kernel_rfl
def b__law_cell : Sm :=
  (.seq
   (.ifs (.cmp .lt (.loc 1) (.bif .len (.cons (.loc 0) .nil)))
     (.ret (.idx (.loc 0) (.loc 1)))
     .nop)
  (.ret (.lit (.int (0)))))
theorem at__law_cell : txt.G.fns.lookup (.fn "_law_cell") = some ⟨2, 2, b__law_cell⟩ := by kernel_rfl
def b__law_digits : Sm :=
  (.seq
   (.asg (.nm 3) (.lst .nil))
  (.seq
   (.for_ (.nm 4) (.rng (.loc 1) (.loc 2))
     (.seq
      (.asg (.nm 5) (.call "_law_cell" (.cons (.loc 0) (.cons (.loc 4) .nil))))
     (.seq
      (.ifs (.cmp .lt (.loc 5) (.lit (.int (0))))
        (.asg (.nm 5) (.bin .sub (.lit (.int (1))) (.bin .mul (.lit (.int (2))) (.loc 5))))
        .nop)
     (.ifs (.cmp .ge (.loc 5) (.bin .pow (.lit (.int (10))) (.lit (.int (18)))))
       (.for_ (.nm 6) (.rng (.lit (.int (0))) (.lit (.int (60))))
         (.ifs (.cmp .gt (.loc 5) (.lit (.int (0))))
           (.seq
            (.exp (.bmt .append (.loc 3) (.cons (.bin .mod (.bif .int (.cons (.loc 5) .nil)) (.lit (.int (1000)))) .nil)))
           (.asg (.nm 5) (.bin .fdiv (.loc 5) (.lit (.int (1000))))))
           .nop))
       (.seq
        (.asg (.nm 7) (.bin .mod (.bif .int (.cons (.bin .add (.bin .add (.bin .mul (.loc 5) (.lit (.int (48271)))) (.bin .mul (.loc 4) (.lit (.int (69621))))) (.lit (.int (11)))) .nil)) (.lit (.int (2147483647)))))
       (.for_ (.nm 6) (.rng (.lit (.int (0))) (.lit (.int (12))))
         (.seq
          (.asg (.nm 7) (.bin .mod (.bif .int (.cons (.bin .add (.bin .add (.bin .mul (.loc 7) (.lit (.int (16807)))) (.bin .mul (.lit (.int (7))) (.loc 6))) (.lit (.int (1)))) .nil)) (.lit (.int (2147483647)))))
         (.exp (.bmt .append (.loc 3) (.cons (.bin .mod (.bif .int (.cons (.bin .fdiv (.loc 7) (.lit (.int (997)))) .nil)) (.lit (.int (1000)))) .nil))))))))))
  (.ret (.loc 3))))
theorem at__law_digits : txt.G.fns.lookup (.fn "_law_digits") = some ⟨3, 8, b__law_digits⟩ := by kernel_rfl
def b__law_draw : Sm :=
  (.seq
   (.asg (.nm 2) (.idx (.loc 0) (.lit (.int (1)))))
  (.seq
   (.sub (.loc 0) (.lit (.int (1))) (.bin .add (.loc 2) (.lit (.int (1)))))
  (.seq
   (.ifs (.cmp .lt (.loc 2) (.bif .len (.cons (.idx (.loc 0) (.lit (.int (0)))) .nil)))
     (.ret (.bin .mod (.bif .int (.cons (.idx (.idx (.loc 0) (.lit (.int (0)))) (.loc 2)) .nil)) (.loc 1)))
     .nop)
  (.ret (.bin .mod (.bif .int (.cons (.bin .add (.bin .mul (.loc 2) (.lit (.int (7)))) (.lit (.int (3)))) .nil)) (.loc 1))))))
theorem at__law_draw : txt.G.fns.lookup (.fn "_law_draw") = some ⟨2, 3, b__law_draw⟩ := by kernel_rfl
def b__law_same : Sm :=
  (.ret (.cmp .eq (.bif .repr (.cons (.loc 0) .nil)) (.bif .repr (.cons (.loc 1) .nil))))
theorem at__law_same : txt.G.fns.lookup (.fn "_law_same") = some ⟨2, 2, b__law_same⟩ := by kernel_rfl
def b__law_pick : Sm :=
  (.ret (.idx (.loc 1) (.bin .mod (.bif .int (.cons (.call "_law_draw" (.cons (.loc 0) (.cons (.lit (.int (90))) .nil))) .nil)) (.bif .len (.cons (.loc 1) .nil)))))
theorem at__law_pick : txt.G.fns.lookup (.fn "_law_pick") = some ⟨2, 2, b__law_pick⟩ := by kernel_rfl
def b__law_named : Sm :=
  (.ret (.lck 0 (.cmpr (.loc 2) (.gen (.nm 2) (.itr (.loc 0)) (.cmp .eq (.idx (.loc 0) (.loc 2)) (.loc 1)) .nil) [2])))
theorem at__law_named : txt.G.fns.lookup (.fn "_law_named") = some ⟨2, 3, b__law_named⟩ := by kernel_rfl
def b__law_number : Sm :=
  (.seq
   (.asg (.nm 3) (.call "_law_named" (.cons (.idx (.loc 1) (.lit (.int (0)))) (.cons (.lit (.str "number")) .nil))))
  (.seq
   (.asg (.nm 4) (.call "_law_draw" (.cons (.loc 0) (.cons (.lit (.int (8))) .nil))))
  (.seq
   (.ifs (.and (.cmp .lt (.loc 4) (.lit (.int (2)))) (.cmp .gt (.bif .len (.cons (.loc 3) .nil)) (.lit (.int (0)))))
     (.ret (.tup (.cons (.lit (.str "name")) (.cons (.call "_law_pick" (.cons (.loc 0) (.cons (.loc 3) .nil))) .nil))))
     .nop)
  (.seq
   (.ifs (.and (.cmp .eq (.loc 4) (.lit (.int (2)))) (.cmp .gt (.bif .len (.cons (.idx (.loc 1) (.lit (.int (2)))) .nil)) (.lit (.int (0)))))
     (.ret (.tup (.cons (.lit (.str "ask")) (.cons (.lit (.str "count")) (.cons (.call "_law_pick" (.cons (.loc 0) (.cons (.idx (.loc 1) (.lit (.int (2)))) .nil))) .nil)))))
     .nop)
  (.seq
   (.ifs (.and (.cmp .eq (.loc 4) (.lit (.int (3)))) (.cmp .gt (.bif .len (.cons (.call "_law_named" (.cons (.idx (.loc 1) (.lit (.int (1)))) (.cons (.lit (.str "number")) .nil))) .nil)) (.lit (.int (0)))))
     (.ret (.tup (.cons (.lit (.str "ask")) (.cons (.idx (.lst (.cons (.lit (.str "sum")) (.cons (.lit (.str "least")) (.cons (.lit (.str "greatest")) .nil)))) (.call "_law_draw" (.cons (.loc 0) (.cons (.lit (.int (3))) .nil)))) (.cons (.call "_law_pick" (.cons (.loc 0) (.cons (.call "_law_named" (.cons (.idx (.loc 1) (.lit (.int (1)))) (.cons (.lit (.str "number")) .nil))) .nil))) .nil)))))
     .nop)
  (.seq
   (.ifs (.and (.cmp .eq (.loc 4) (.lit (.int (4)))) (.idx (.loc 1) (.lit (.int (3)))))
     (.ret (.tup (.cons (.lit (.str "row")) .nil)))
     .nop)
  (.seq
   (.ifs (.and (.cmp .eq (.loc 4) (.lit (.int (5)))) (.cmp .gt (.loc 2) (.lit (.int (0)))))
     (.ret (.tup (.cons (.lit (.str "op")) (.cons (.idx (.lst (.cons (.lit (.str "+")) (.cons (.lit (.str "-")) (.cons (.lit (.str "*")) (.cons (.lit (.str "??")) .nil))))) (.call "_law_draw" (.cons (.loc 0) (.cons (.lit (.int (4))) .nil)))) (.cons (.call "_law_number" (.cons (.loc 0) (.cons (.loc 1) (.cons (.bin .sub (.loc 2) (.lit (.int (1)))) .nil)))) (.cons (.call "_law_number" (.cons (.loc 0) (.cons (.loc 1) (.cons (.bin .sub (.loc 2) (.lit (.int (1)))) .nil)))) .nil))))))
     .nop)
  (.seq
   (.ifs (.and (.cmp .eq (.loc 4) (.lit (.int (6)))) (.cmp .gt (.loc 2) (.lit (.int (0)))))
     (.ret (.tup (.cons (.lit (.str "if")) (.cons (.call "_law_truth" (.cons (.loc 0) (.cons (.loc 1) (.cons (.bin .sub (.loc 2) (.lit (.int (1)))) .nil)))) (.cons (.call "_law_number" (.cons (.loc 0) (.cons (.loc 1) (.cons (.bin .sub (.loc 2) (.lit (.int (1)))) .nil)))) (.cons (.call "_law_number" (.cons (.loc 0) (.cons (.loc 1) (.cons (.bin .sub (.loc 2) (.lit (.int (1)))) .nil)))) .nil))))))
     .nop)
  (.ret (.tup (.cons (.lit (.str "number")) (.cons (.call "_law_draw" (.cons (.loc 0) (.cons (.lit (.int (6))) .nil))) .nil))))))))))))
theorem at__law_number : txt.G.fns.lookup (.fn "_law_number") = some ⟨3, 5, b__law_number⟩ := by kernel_rfl
def b__law_truth : Sm :=
  (.seq
   (.asg (.nm 3) (.call "_law_named" (.cons (.idx (.loc 1) (.lit (.int (0)))) (.cons (.lit (.str "truth")) .nil))))
  (.seq
   (.asg (.nm 4) (.call "_law_draw" (.cons (.loc 0) (.cons (.lit (.int (9))) .nil))))
  (.seq
   (.ifs (.and (.cmp .lt (.loc 4) (.lit (.int (2)))) (.cmp .gt (.bif .len (.cons (.loc 3) .nil)) (.lit (.int (0)))))
     (.ret (.tup (.cons (.lit (.str "name")) (.cons (.call "_law_pick" (.cons (.loc 0) (.cons (.loc 3) .nil))) .nil))))
     .nop)
  (.seq
   (.ifs (.and (.cmp .eq (.loc 4) (.lit (.int (2)))) (.cmp .gt (.bif .len (.cons (.idx (.loc 1) (.lit (.int (0)))) .nil)) (.lit (.int (0)))))
     (.ret (.tup (.cons (.lit (.str "ask")) (.cons (.lit (.str "answered")) (.cons (.call "_law_pick" (.cons (.loc 0) (.cons (.bif .list (.cons (.idx (.loc 1) (.lit (.int (0)))) .nil)) .nil))) .nil)))))
     .nop)
  (.seq
   (.ifs (.and (.cmp .eq (.loc 4) (.lit (.int (3)))) (.cmp .gt (.bif .len (.cons (.call "_law_named" (.cons (.idx (.loc 1) (.lit (.int (0)))) (.cons (.lit (.str "options")) .nil))) .nil)) (.lit (.int (0)))))
     (.ret (.tup (.cons (.lit (.str "has")) (.cons (.call "_law_pick" (.cons (.loc 0) (.cons (.call "_law_named" (.cons (.idx (.loc 1) (.lit (.int (0)))) (.cons (.lit (.str "options")) .nil))) .nil))) (.cons (.idx (.lst (.cons (.lit (.str "a")) (.cons (.lit (.str "b")) .nil))) (.call "_law_draw" (.cons (.loc 0) (.cons (.lit (.int (2))) .nil)))) .nil)))))
     .nop)
  (.seq
   (.ifs (.and (.cmp .eq (.loc 4) (.lit (.int (4)))) (.cmp .gt (.bif .len (.cons (.call "_law_named" (.cons (.idx (.loc 1) (.lit (.int (0)))) (.cons (.lit (.str "option")) .nil))) .nil)) (.lit (.int (0)))))
     (.ret (.tup (.cons (.lit (.str "op")) (.cons (.idx (.lst (.cons (.lit (.str "=")) (.cons (.lit (.str "<>")) .nil))) (.call "_law_draw" (.cons (.loc 0) (.cons (.lit (.int (2))) .nil)))) (.cons (.tup (.cons (.lit (.str "name")) (.cons (.call "_law_pick" (.cons (.loc 0) (.cons (.call "_law_named" (.cons (.idx (.loc 1) (.lit (.int (0)))) (.cons (.lit (.str "option")) .nil))) .nil))) .nil))) (.cons (.tup (.cons (.lit (.str "option")) (.cons (.idx (.lst (.cons (.lit (.str "a")) (.cons (.lit (.str "b")) .nil))) (.call "_law_draw" (.cons (.loc 0) (.cons (.lit (.int (2))) .nil)))) .nil))) .nil))))))
     .nop)
  (.seq
   (.ifs (.and (.cmp .eq (.loc 4) (.lit (.int (5)))) (.cmp .gt (.bif .len (.cons (.call "_law_named" (.cons (.idx (.loc 1) (.lit (.int (1)))) (.cons (.lit (.str "truth")) .nil))) .nil)) (.lit (.int (0)))))
     (.ret (.tup (.cons (.lit (.str "ask")) (.cons (.idx (.lst (.cons (.lit (.str "any")) (.cons (.lit (.str "all")) .nil))) (.call "_law_draw" (.cons (.loc 0) (.cons (.lit (.int (2))) .nil)))) (.cons (.call "_law_pick" (.cons (.loc 0) (.cons (.call "_law_named" (.cons (.idx (.loc 1) (.lit (.int (1)))) (.cons (.lit (.str "truth")) .nil))) .nil))) .nil)))))
     .nop)
  (.seq
   (.ifs (.or (.cmp .eq (.loc 2) (.lit (.int (0)))) (.cmp .eq (.loc 4) (.lit (.int (6)))))
     (.ret (.tup (.cons (.lit (.str "op")) (.cons (.idx (.lst (.cons (.lit (.str "<")) (.cons (.lit (.str ">=")) (.cons (.lit (.str "=")) .nil)))) (.call "_law_draw" (.cons (.loc 0) (.cons (.lit (.int (3))) .nil)))) (.cons (.call "_law_number" (.cons (.loc 0) (.cons (.loc 1) (.cons (.lit (.int (0))) .nil)))) (.cons (.tup (.cons (.lit (.str "number")) (.cons (.call "_law_draw" (.cons (.loc 0) (.cons (.lit (.int (5))) .nil))) .nil))) .nil))))))
     .nop)
  (.seq
   (.ifs (.cmp .eq (.loc 4) (.lit (.int (7))))
     (.ret (.tup (.cons (.lit (.str "not")) (.cons (.call "_law_truth" (.cons (.loc 0) (.cons (.loc 1) (.cons (.bin .sub (.loc 2) (.lit (.int (1)))) .nil)))) .nil))))
     .nop)
  (.ret (.tup (.cons (.lit (.str "op")) (.cons (.idx (.lst (.cons (.lit (.str "and")) (.cons (.lit (.str "or")) .nil))) (.call "_law_draw" (.cons (.loc 0) (.cons (.lit (.int (2))) .nil)))) (.cons (.call "_law_truth" (.cons (.loc 0) (.cons (.loc 1) (.cons (.bin .sub (.loc 2) (.lit (.int (1)))) .nil)))) (.cons (.call "_law_truth" (.cons (.loc 0) (.cons (.loc 1) (.cons (.bin .sub (.loc 2) (.lit (.int (1)))) .nil)))) .nil)))))))))))))))
theorem at__law_truth : txt.G.fns.lookup (.fn "_law_truth") = some ⟨3, 5, b__law_truth⟩ := by kernel_rfl
def b__law_condition : Sm :=
  (.seq
   (.ifs (.cmp .eq (.call "_law_draw" (.cons (.loc 0) (.cons (.lit (.int (2))) .nil))) (.lit (.int (0))))
     (.ret (.lit (.non)))
     .nop)
  (.ret (.call "_law_truth" (.cons (.loc 0) (.cons (.loc 1) (.cons (.lit (.int (1))) .nil))))))
theorem at__law_condition : txt.G.fns.lookup (.fn "_law_condition") = some ⟨2, 2, b__law_condition⟩ := by kernel_rfl
def b__law_question_kind : Sm :=
  (.seq
   (.asg (.nm 2) (.call "_law_draw" (.cons (.loc 0) (.cons (.lit (.int (6))) .nil))))
  (.seq
   (.ifs (.cmp .lt (.loc 2) (.lit (.int (2))))
     (.seq
      (.asg (.nm 3) (.lst (.cons (.lit (.non)) (.cons (.lit (.non)) .nil))))
     (.seq
      (.for_ (.nm 4) (.rng (.lit (.int (0))) (.lit (.int (2))))
        (.ifs (.cmp .eq (.call "_law_draw" (.cons (.loc 0) (.cons (.lit (.int (2))) .nil))) (.lit (.int (0))))
          (.sub (.loc 3) (.loc 4) (.call "_law_number" (.cons (.loc 0) (.cons (.loc 1) (.cons (.lit (.int (0))) .nil)))))
          .nop))
     (.ret (.tup (.cons (.lit (.str "integer")) (.cons (.idx (.loc 3) (.lit (.int (0)))) (.cons (.idx (.loc 3) (.lit (.int (1)))) .nil)))))))
     .nop)
  (.seq
   (.ifs (.cmp .eq (.loc 2) (.lit (.int (2))))
     (.ret (.tup (.cons (.lit (.str "text")) (.cons (.lit (.int (3))) .nil))))
     .nop)
  (.seq
   (.ifs (.cmp .lt (.loc 2) (.lit (.int (5))))
     (.seq
      (.asg (.nm 5) (.tup (.cons (.tup (.cons (.lit (.str "a")) (.cons (.lit (.non)) .nil))) (.cons (.tup (.cons (.lit (.str "b")) (.cons (.call "_law_condition" (.cons (.loc 0) (.cons (.loc 1) .nil))) .nil))) (.cons (.tup (.cons (.lit (.str "c")) (.cons (.call "_law_condition" (.cons (.loc 0) (.cons (.loc 1) .nil))) .nil))) .nil)))))
     (.ret (.tup (.cons (.idx (.lst (.cons (.lit (.str "choice")) (.cons (.lit (.str "choices")) .nil))) (.bif .int (.cons (.cmp .eq (.loc 2) (.lit (.int (4)))) .nil))) (.cons (.slc (.loc 5) (.call "_law_draw" (.cons (.loc 0) (.cons (.lit (.int (2))) .nil))) (.lit (.non))) .nil)))))
     .nop)
  (.ret (.tup (.cons (.lit (.str "truth")) .nil)))))))
theorem at__law_question_kind : txt.G.fns.lookup (.fn "_law_question_kind") = some ⟨2, 6, b__law_question_kind⟩ := by kernel_rfl
def b__law_field : Sm :=
  (.seq
   (.asg (.nm 3) (.call "_law_draw" (.cons (.loc 0) (.cons (.lit (.int (6))) .nil))))
  (.seq
   (.asg (.nm 4) (.call "_law_condition" (.cons (.loc 0) (.cons (.loc 2) .nil))))
  (.seq
   (.ifs (.cmp .eq (.loc 3) (.lit (.int (0))))
     (.ret (.tup (.cons (.tup (.cons (.lit (.str "rule")) (.cons (.loc 1) (.cons (.loc 4) (.cons (.call "_law_truth" (.cons (.loc 0) (.cons (.loc 2) (.cons (.lit (.int (1))) .nil)))) (.cons (.lit (.str "no")) (.cons (.cmp .eq (.call "_law_draw" (.cons (.loc 0) (.cons (.lit (.int (2))) .nil))) (.lit (.int (0)))) .nil))))))) (.cons (.lit (.non)) .nil))))
     .nop)
  (.seq
   (.ifs (.cmp .eq (.loc 3) (.lit (.int (1))))
     (.ret (.tup (.cons (.tup (.cons (.lit (.str "formula")) (.cons (.loc 1) (.cons (.loc 4) (.cons (.call "_law_number" (.cons (.loc 0) (.cons (.loc 2) (.cons (.lit (.int (2))) .nil)))) .nil))))) (.cons (.lit (.str "number")) .nil))))
     .nop)
  (.seq
   (.ifs (.cmp .eq (.loc 3) (.lit (.int (2))))
     (.ret (.tup (.cons (.tup (.cons (.lit (.str "formula")) (.cons (.loc 1) (.cons (.loc 4) (.cons (.call "_law_truth" (.cons (.loc 0) (.cons (.loc 2) (.cons (.lit (.int (1))) .nil)))) .nil))))) (.cons (.lit (.str "truth")) .nil))))
     .nop)
  (.seq
   (.asg (.nm 5) (.call "_law_question_kind" (.cons (.loc 0) (.cons (.loc 2) .nil))))
  (.seq
   (.asg (.nm 6) (.idx (.dct (.kv (.lit (.str "integer")) (.lit (.str "number")) (.kv (.lit (.str "text")) (.lit (.str "text")) (.kv (.lit (.str "choice")) (.lit (.str "option")) (.kv (.lit (.str "choices")) (.lit (.str "options")) (.kv (.lit (.str "truth")) (.lit (.str "truth")) .nil)))))) (.idx (.loc 5) (.lit (.int (0))))))
  (.ret (.tup (.cons (.tup (.cons (.lit (.str "question")) (.cons (.loc 1) (.cons (.loc 4) (.cons (.loc 5) (.cons (.cmp .eq (.call "_law_draw" (.cons (.loc 0) (.cons (.lit (.int (2))) .nil))) (.lit (.int (0)))) .nil)))))) (.cons (.loc 6) .nil)))))))))))
theorem at__law_field : txt.G.fns.lookup (.fn "_law_field") = some ⟨3, 7, b__law_field⟩ := by kernel_rfl
def b__law_form : Sm :=
  (.seq
   (.asg (.nm 1) (.lst (.cons (.dct .nil) (.cons (.dct .nil) (.cons (.lst .nil) (.cons (.lit (.bl false)) .nil))))))
  (.seq
   (.asg (.nm 2) (.lst .nil))
  (.seq
   (.asg (.nm 3) (.lit (.int (0))))
  (.seq
   (.for_ (.nm 4) (.rng (.lit (.int (0))) (.bin .add (.lit (.int (1))) (.call "_law_draw" (.cons (.loc 0) (.cons (.lit (.int (3))) .nil)))))
     (.seq
      (.asg (.nm 5) (.idx (.lst (.cons (.lit (.int (0))) (.cons (.bin .add (.lit (.int (1))) (.call "_law_draw" (.cons (.loc 0) (.cons (.lit (.int (3))) .nil)))) .nil))) (.bif .int (.cons (.cmp .lt (.call "_law_draw" (.cons (.loc 0) (.cons (.lit (.int (3))) .nil))) (.bin .add (.lit (.int (1))) (.bif .int (.cons (.cmp .eq (.loc 4) (.lit (.int (1)))) .nil)))) .nil))))
     (.seq
      (.asg (.nm 6) (.idx (.lst (.cons (.lit (.non)) (.cons (.lit (.non)) (.cons (.call "_law_condition" (.cons (.loc 0) (.cons (.loc 1) .nil))) .nil)))) (.call "_law_draw" (.cons (.loc 0) (.cons (.lit (.int (3))) .nil)))))
     (.seq
      (.asg (.nm 7) (.lst (.cons (.bif .dict (.cons (.idx (.loc 1) (.lit (.int (0)))) .nil)) (.cons (.idx (.loc 1) (.lit (.int (1)))) (.cons (.idx (.loc 1) (.lit (.int (2)))) (.cons (.cmp .gt (.loc 5) (.lit (.int (0)))) .nil))))))
     (.seq
      (.asg (.nm 8) (.lst .nil))
     (.seq
      (.asg (.nm 9) (.dct .nil))
     (.seq
      (.for_ (.nm 10) (.rng (.lit (.int (0))) (.bin .add (.lit (.int (1))) (.call "_law_draw" (.cons (.loc 0) (.cons (.lit (.int (3))) .nil)))))
        (.seq
         (.asg (.nm 11) (.bin .add (.lit (.str "f")) (.bif .str (.cons (.loc 3) .nil))))
        (.seq
         (.asg (.nm 3) (.bin .add (.loc 3) (.lit (.int (1)))))
        (.seq
         (.asg (.cons (.nm 12) (.cons (.nm 13) .nil)) (.call "_law_field" (.cons (.loc 0) (.cons (.loc 11) (.cons (.loc 7) .nil)))))
        (.seq
         (.exp (.bmt .append (.loc 8) (.cons (.loc 12) .nil)))
        (.ifs (.cmp .isn (.loc 13) (.lit (.non)))
          (.seq
           (.sub (.idx (.loc 7) (.lit (.int (0)))) (.loc 11) (.loc 13))
          (.sub (.loc 9) (.loc 11) (.loc 13)))
          .nop))))))
     (.seq
      (.asg (.nm 14) (.idx (.lst (.cons (.lit (.str "main")) (.cons (.lit (.str "kid")) (.cons (.lit (.str "end")) .nil)))) (.bif .int (.cons (.loc 4) .nil))))
     (.seq
      (.exp (.bmt .append (.loc 2) (.cons (.tup (.cons (.loc 14) (.cons (.loc 6) (.cons (.loc 5) (.cons (.bif .tuple (.cons (.loc 8) .nil)) .nil))))) .nil)))
     (.ifs (.cmp .gt (.loc 5) (.lit (.int (0))))
       (.asg (.nm 1) (.lst (.cons (.idx (.loc 1) (.lit (.int (0)))) (.cons (.bif .dict (.cons (.bin .add (.itm (.idx (.loc 1) (.lit (.int (1))))) (.itm (.loc 9))) .nil)) (.cons (.bin .add (.idx (.loc 1) (.lit (.int (2)))) (.lst (.cons (.loc 14) .nil))) (.cons (.lit (.bl false)) .nil))))))
       (.asg (.nm 1) (.lst (.cons (.bif .dict (.cons (.bin .add (.itm (.idx (.loc 1) (.lit (.int (0))))) (.itm (.loc 9))) .nil)) (.cons (.idx (.loc 1) (.lit (.int (1)))) (.cons (.idx (.loc 1) (.lit (.int (2)))) (.cons (.lit (.bl false)) .nil))))))))))))))))
  (.ret (.bif .tuple (.cons (.loc 2) .nil)))))))
theorem at__law_form : txt.G.fns.lookup (.fn "_law_form") = some ⟨1, 15, b__law_form⟩ := by kernel_rfl
def b__law_renamed : Sm :=
  (.seq
   (.asg (.nm 2) (.lst .nil))
  (.seq
   (.for_ (.nm 3) (.itr (.loc 1))
     (.seq
      (.asg (.nm 4) (.lst .nil))
     (.seq
      (.for_ (.nm 5) (.itr (.idx (.loc 3) (.lit (.int (3)))))
        (.seq
         (.ifs (.cmp .eq (.call "_law_draw" (.cons (.loc 0) (.cons (.lit (.int (5))) .nil))) (.lit (.int (0))))
           (.asg (.nm 5) (.bin .add (.tup (.cons (.idx (.loc 5) (.lit (.int (0)))) (.cons (.lit (.str "f0")) .nil))) (.slc (.loc 5) (.lit (.int (2))) (.lit (.non)))))
           .nop)
        (.exp (.bmt .append (.loc 4) (.cons (.loc 5) .nil)))))
     (.seq
      (.asg (.nm 6) (.idx (.loc 3) (.lit (.int (0)))))
     (.seq
      (.ifs (.cmp .eq (.call "_law_draw" (.cons (.loc 0) (.cons (.lit (.int (5))) .nil))) (.lit (.int (0))))
        (.asg (.nm 6) (.lit (.str "main")))
        .nop)
     (.exp (.bmt .append (.loc 2) (.cons (.bin .add (.bin .add (.tup (.cons (.loc 6) .nil)) (.slc (.loc 3) (.lit (.int (1))) (.lit (.int (3))))) (.tup (.cons (.bif .tuple (.cons (.loc 4) .nil)) .nil))) .nil))))))))
  (.ret (.bif .tuple (.cons (.loc 2) .nil)))))
theorem at__law_renamed : txt.G.fns.lookup (.fn "_law_renamed") = some ⟨2, 7, b__law_renamed⟩ := by kernel_rfl
def b__law_expressions : Sm :=
  (.seq
   (.asg (.nm 1) (.lst (.cons (.idx (.loc 0) (.lit (.int (2)))) .nil)))
  (.seq
   (.ifs (.and (.cmp .eq (.idx (.loc 0) (.lit (.int (0)))) (.lit (.str "question"))) (.cmp .eq (.idx (.idx (.loc 0) (.lit (.int (3)))) (.lit (.int (0)))) (.lit (.str "integer"))))
     (.asg (.nm 1) (.bin .add (.loc 1) (.lst (.cons (.idx (.idx (.loc 0) (.lit (.int (3)))) (.lit (.int (1)))) (.cons (.idx (.idx (.loc 0) (.lit (.int (3)))) (.lit (.int (2)))) .nil)))))
     .nop)
  (.seq
   (.ifs (.and (.cmp .eq (.idx (.loc 0) (.lit (.int (0)))) (.lit (.str "question"))) (.cmp .inn (.idx (.idx (.loc 0) (.lit (.int (3)))) (.lit (.int (0)))) (.tup (.cons (.lit (.str "choice")) (.cons (.lit (.str "choices")) .nil)))))
     (.asg (.nm 1) (.bin .add (.loc 1) (.cmpr (.idx (.loc 2) (.lit (.int (1)))) (.gen (.nm 2) (.itr (.idx (.idx (.loc 0) (.lit (.int (3)))) (.lit (.int (1))))) (.lit (.bl true)) .nil) [2])))
     .nop)
  (.seq
   (.ifs (.cmp .inn (.idx (.loc 0) (.lit (.int (0)))) (.tup (.cons (.lit (.str "formula")) (.cons (.lit (.str "rule")) .nil))))
     (.exp (.bmt .append (.loc 1) (.cons (.idx (.loc 0) (.lit (.int (3)))) .nil)))
     .nop)
  (.ret (.bif .tuple (.cons (.cmpr (.loc 3) (.gen (.nm 3) (.itr (.loc 1)) (.cmp .isn (.loc 3) (.lit (.non))) .nil) [3]) .nil)))))))
theorem at__law_expressions : txt.G.fns.lookup (.fn "_law_expressions") = some ⟨1, 4, b__law_expressions⟩ := by kernel_rfl
def b_law : Sm :=
  (.seq
   (.asg (.nm 1) (.lst (.cons (.call "_law_digits" (.cons (.loc 0) (.cons (.lit (.int (0))) (.cons (.lit (.int (63))) .nil)))) (.cons (.lit (.int (0))) .nil))))
  (.seq
   (.for_ (.nm 2) (.rng (.lit (.int (0))) (.lit (.int (3))))
     (.seq
      (.asg (.nm 3) (.call "_law_form" (.cons (.loc 1) .nil)))
     (.seq
      (.ifs (.cmp .eq (.call "_law_draw" (.cons (.loc 1) (.cons (.lit (.int (2))) .nil))) (.lit (.int (0))))
        (.asg (.nm 3) (.call "_law_renamed" (.cons (.loc 1) (.cons (.loc 3) .nil))))
        .nop)
     (.seq
      (.asg (.nm 4) (.lst .nil))
     (.seq
      (.for_ (.nm 5) (.itr (.loc 3))
        (.asg (.nm 4) (.bin .add (.loc 4) (.cmpr (.tup (.cons (.loc 5) (.cons (.loc 6) .nil))) (.gen (.nm 6) (.itr (.idx (.loc 5) (.lit (.int (3))))) (.lit (.bl true)) .nil) [6]))))
     (.seq
      (.ifs (.not (.call "_law_same" (.cons (.call "fields_of" (.cons (.loc 3) .nil)) (.cons (.bif .tuple (.cons (.loc 4) .nil)) .nil))))
        (.ret (.lit (.bl false)))
        .nop)
     (.seq
      (.for_ (.nm 7) (.itr (.lst (.cons (.lit (.str "main")) (.cons (.lit (.str "kid")) (.cons (.lit (.str "end")) (.cons (.lit (.str "zz")) (.cons (.lit (.str "f0")) (.cons (.lit (.str "f1")) (.cons (.lit (.str "f5")) .nil)))))))))
        (.seq
         (.asg (.nm 8) (.bin .add (.cmpr (.loc 5) (.gen (.nm 5) (.itr (.loc 3)) (.cmp .eq (.idx (.loc 5) (.lit (.int (0)))) (.loc 7)) .nil) [5]) (.lst (.cons (.lit (.non)) .nil))))
        (.seq
         (.asg (.nm 9) (.bin .add (.cmpr (.idx (.loc 10) (.lit (.int (1)))) (.gen (.nm 10) (.itr (.loc 4)) (.cmp .eq (.idx (.idx (.loc 10) (.lit (.int (1)))) (.lit (.int (1)))) (.loc 7)) .nil) [10]) (.lst (.cons (.lit (.non)) .nil))))
        (.ifs (.or (.not (.call "_law_same" (.cons (.call "section_of" (.cons (.loc 3) (.cons (.loc 7) .nil))) (.cons (.idx (.loc 8) (.lit (.int (0)))) .nil)))) (.not (.call "_law_same" (.cons (.call "field_of" (.cons (.loc 3) (.cons (.loc 7) .nil))) (.cons (.idx (.loc 9) (.lit (.int (0)))) .nil)))))
          (.ret (.lit (.bl false)))
          .nop))))
     (.for_ (.cons (.nm 5) (.cons (.nm 6) .nil)) (.itr (.loc 4))
       (.ifs (.not (.call "_law_same" (.cons (.call "expressions_of" (.cons (.loc 6) .nil)) (.cons (.call "_law_expressions" (.cons (.loc 6) .nil)) .nil))))
         (.ret (.lit (.bl false)))
         .nop)))))))))
  (.ret (.lit (.bl true)))))
theorem at_law : txt.G.fns.lookup (.fn "law") = some ⟨1, 11, b_law⟩ := by kernel_rfl
end K20

set_option maxHeartbeats 1000000
namespace K20
open Mi PySem
abbrev G : Prg := txt.G
@[simp] theorem G_cl (n) : (G.Γ n).cl = callF G n := rfl
@[simp] theorem G_gl (n) : (G.Γ n).gl "BOUNDED" = some (.str "integer") := by kernel_rfl
@[simp] theorem G_gl2 (n) : (G.Γ n).gl "WITH_OPTIONS" = some (.kt [.str "choice", .str "choices"]) := by kernel_rfl
theorem few_line {n : Nat} (h : n < 1000) : n < sizeLine := Nat.lt_of_lt_of_le h (by decide)
/-- over items that stand, with a condition -/
theorem lc_fixC {Γ : Cxt} {ρ : En} {own : List Nat} {i : Nat} {elt it c : Ex} {h0 hs : Hh} {ι : Type} {vf g : ι → Val} {xs : List ι} {p : ι → Bool} (hi : i < (wipe ρ own).length) (hx : xs.length < sizeLine) (hit : evi Γ it ρ hs = .ok (.fix (xs.map vf)) h0)
    (hc : ∀ x ∈ xs, ∀ h, Grow h0 h → ∃ y h', ev Γ c ((wipe ρ own).set i (some (vf x))) h = .ok y h' ∧ Grow h h' ∧ Mi.truthy h' y = some (p x))
    (he : ∀ x ∈ xs, ∀ h, Grow h0 h → Gives (ev Γ elt ((wipe ρ own).set i (some (vf x))) h) h (g x)) :
    ∃ h' , ev Γ (.cmpr elt (.gen (.nm i) it c .nil) own) ρ hs = .ok (.ref h'.length) (h' ++ [.lst ((xs.filter p).map g)]) ∧ Grow h0 h' := by
  have go : ∀ (ys : List ι) (acc : List Val) (h : Hh), (∀ y ∈ ys, y ∈ xs) → acc.length + ys.length < sizeLine → Grow h0 h → ∃ h', walkF (T := Unit) (fun x acc h => orBad ((Tg.nm i).put x (wipe ρ own)) fun ρ1 => (ev Γ c ρ1 h).bind fun y h => orBad (Mi.truthy h y) fun k =>
      if k then (evg Γ .nil (fun ρ2 h => ev Γ elt ρ2 h) ρ1 acc h).bind fun acc h => R.ok (Sum.inl acc) h else R.ok (Sum.inl acc) h) (ys.map vf) acc h = .ok (.inl (acc ++ (ys.filter p).map g)) h' ∧ Grow h0 h' := by
    intro ys
    induction ys with
    | nil => intro acc h _ _ gr; exact ⟨h, by simp [walkF], gr⟩
    | cons y ys ih =>
      intro acc h hm hl gr
      simp only [List.length_cons] at hl
      obtain ⟨z, h1, e1, g1, t1⟩ := hc y (hm y (List.mem_cons_self ..)) h gr
      have pt : (Tg.nm i).put (vf y) (wipe ρ own) = some ((wipe ρ own).set i (some (vf y))) := by simp only [Tg.put, if_pos hi]
      cases hp : p y with
      | false =>
        obtain ⟨h2, e2, g2⟩ := ih acc h1 (fun w hw => hm w (List.mem_cons_of_mem _ hw)) (by omega) (gr.trans g1)
        refine ⟨h2, ?_, g2⟩
        rw [List.map_cons]
        unfold walkF
        rw [pt, orBad_some, e1, Mi.R.bind_ok, t1, orBad_some, hp]
        simp only [Bool.false_eq_true, if_false, Mi.R.bind_ok]
        rw [e2]
        simp [hp]
      | true =>
        obtain ⟨h3, e3, g3⟩ := he y (hm y (List.mem_cons_self ..)) h1 (gr.trans g1)
        obtain ⟨h2, e2, g2⟩ := ih (acc ++ [g y]) h3 (fun w hw => hm w (List.mem_cons_of_mem _ hw)) (by simp; omega) ((gr.trans g1).trans g3)
        refine ⟨h2, ?_, g2⟩
        have hla : acc.length < sizeLine := by omega
        have eg : evg Γ .nil (fun ρ2 h => ev Γ elt ρ2 h) ((wipe ρ own).set i (some (vf y))) acc h1 = .ok (acc ++ [g y]) h3 := by
          simp only [evg]
          rw [e3, Mi.R.bind_ok]
          simp only [okIf, decide_eq_true hla, if_true]
        rw [List.map_cons]
        unfold walkF
        rw [pt, orBad_some, e1, Mi.R.bind_ok, t1, orBad_some, hp]
        simp only [if_true]
        rw [eg, Mi.R.bind_ok, Mi.R.bind_ok]
        simp only
        rw [e2]
        simp [hp]
  obtain ⟨h', e, gr⟩ := go xs [] h0 (fun _ h => h) (by simpa using hx) .refl
  refine ⟨h', ?_, gr⟩
  simp only [ev, hit, Mi.R.bind_ok, walk]
  rw [e]
  simp [newOb]
/-! ### values that are trees of small things -/
def Sml (s : Str) : Prop := (s.cps.toList.all fun c => decide (c < 16 ^ 8)) = true ∧ s.length ≤ 20
instance (s : Str) : Decidable (Sml s) := inferInstanceAs (Decidable (_ ∧ _))
/-- depth d, width w at most -/
def Dat (d w : Nat) (v : Val) : Prop := ∀ h n, d ≤ n → ∃ e, toD h n v = some e ∧ fine e = true ∧ wide e ≤ w
def Dats (d w : Nat) (vs : List Val) : Prop := ∀ h n, d ≤ n → ∃ es, allD (toD h n) vs = some es ∧ fines es = true ∧ wides es ≤ w
theorem Dat.mono {d d' w w' : Nat} {v : Val} (p : Dat d w v) (hd : d ≤ d') (hw : w ≤ w') : Dat d' w' v := fun h n hn =>
  let ⟨e, a, b, c⟩ := p h n (Nat.le_trans hd hn)
  ⟨e, a, b, Nat.le_trans c hw⟩
theorem Dats.mono {d d' w w' : Nat} {v : List Val} (p : Dats d w v) (hd : d ≤ d') (hw : w ≤ w') : Dats d' w' v := fun h n hn =>
  let ⟨e, a, b, c⟩ := p h n (Nat.le_trans hd hn)
  ⟨e, a, b, Nat.le_trans c hw⟩
theorem Dat.non {d : Nat} : Dat d 5 .non := fun h n _ => ⟨.none, by cases n <;> simp only [toD], rfl, Nat.le_refl _⟩
theorem Dat.bl {d : Nat} (b : Bool) : Dat d 5 (.bl b) := fun h n _ => ⟨.bool b, by cases n <;> simp only [toD], rfl, Nat.le_refl _⟩
theorem Dat.int {d : Nat} {i : Int} (hi : i.natAbs ≤ 1000) : Dat d 1930 (.int i) := fun h n _ => ⟨.int i, by cases n <;> simp only [toD], by
  have h1 : i.natAbs.log2 < 1920 := by
    rcases Nat.eq_zero_or_pos i.natAbs with e | e
    · rw [e]; decide
    · exact Nat.lt_of_lt_of_le ((Nat.log2_lt (by omega)).mpr (Nat.lt_of_le_of_lt hi (by decide : 1000 < 2 ^ 10))) (by decide)
  simp only [fine, h1, decide_true], Nat.le_refl _⟩
theorem Dat.str {d : Nat} {s : Str} (hs : Sml s) : Dat d 202 (.str s) := fun h n _ => ⟨.str s, by cases n <;> simp only [toD], by
  simp only [fine]; exact hs.1, by simp only [wide]; have := hs.2; omega⟩
theorem Dats.nil {d : Nat} : Dats d 0 [] := fun h n _ => ⟨[], rfl, rfl, Nat.le_refl _⟩
theorem Dats.cons {d w w' : Nat} {v : Val} {vs : List Val} (p : Dat d w v) (q : Dats d w' vs) : Dats d (w + 2 + w') (v :: vs) := fun h n hn => by
  obtain ⟨e, a, b, c⟩ := p h n hn
  obtain ⟨es, a2, b2, c2⟩ := q h n hn
  refine ⟨e :: es, by simp only [allD, a, a2], by simp only [fines, b, b2, Bool.and_self], by simp only [wides]; omega⟩
theorem Dat.tup {d w : Nat} {vs : List Val} (q : Dats d w vs) : Dat (d + 1) (w + 5) (.tup vs) := fun h n hn => by
  cases n with
  | zero => omega
  | succ n =>
    obtain ⟨es, a2, b2, c2⟩ := q h n (by omega)
    exact ⟨.tuple es, by simp only [toD, a2]; rfl, by simp only [fine, b2], by simp only [wide]; omega⟩
theorem Dats.map {ι : Type} {d w : Nat} {f : ι → Val} : ∀ {xs : List ι}, (∀ x ∈ xs, Dat d w (f x)) → Dats d (xs.length * (w + 2)) (xs.map f)
  | [], _ => Dats.mono Dats.nil (Nat.le_refl _) (by simp)
  | x :: xs, h => by
    refine Dats.mono (Dats.cons (h x (List.mem_cons_self ..)) (Dats.map fun y hy => h y (List.mem_cons_of_mem _ hy))) (Nat.le_refl _) ?_
    rw [List.length_cons, Nat.add_mul]
    omega
theorem Dat.t1 {d a : Nat} {u : Val} (p : Dat d a u) : Dat (d + 1) (a + 7) (.tup [u]) := (Dat.tup (.cons p .nil)).mono (Nat.le_refl _) (by omega)
theorem Dat.t2 {d a b : Nat} {u v : Val} (p : Dat d a u) (q : Dat d b v) : Dat (d + 1) (a + b + 9) (.tup [u, v]) := (Dat.tup (.cons p (.cons q .nil))).mono (Nat.le_refl _) (by omega)
theorem Dat.t3 {d a b c : Nat} {u v w : Val} (p : Dat d a u) (q : Dat d b v) (r : Dat d c w) : Dat (d + 1) (a + b + c + 11) (.tup [u, v, w]) := (Dat.tup (.cons p (.cons q (.cons r .nil)))).mono (Nat.le_refl _) (by omega)
theorem Dat.t4 {d a b c e : Nat} {u v w x : Val} (p : Dat d a u) (q : Dat d b v) (r : Dat d c w) (s : Dat d e x) : Dat (d + 1) (a + b + c + e + 13) (.tup [u, v, w, x]) := (Dat.tup (.cons p (.cons q (.cons r (.cons s .nil))))).mono (Nat.le_refl _) (by omega)
theorem Dat.t5 {d a b c e f : Nat} {u v w x y : Val} (p : Dat d a u) (q : Dat d b v) (r : Dat d c w) (s : Dat d e x) (t : Dat d f y) : Dat (d + 1) (a + b + c + e + f + 15) (.tup [u, v, w, x, y]) := (Dat.tup (.cons p (.cons q (.cons r (.cons s (.cons t .nil)))))).mono (Nat.le_refl _) (by omega)
theorem Dat.t6 {d a b c e f g : Nat} {u v w x y z : Val} (p : Dat d a u) (q : Dat d b v) (r : Dat d c w) (s : Dat d e x) (t : Dat d f y) (o : Dat d g z) : Dat (d + 1) (a + b + c + e + f + g + 17) (.tup [u, v, w, x, y, z]) := (Dat.tup (.cons p (.cons q (.cons r (.cons s (.cons t (.cons o .nil))))))).mono (Nat.le_refl _) (by omega)
theorem S_same (n) {h : Hh} {d w : Nat} {v : Val} (p : Dat d w v) (hd : d ≤ 40) (hw : w ≤ 10000000) : callF G (n+1) (.fn "_law_same") [v, v] h = .ok (.bl true) h := by
  obtain ⟨e, a, b, c⟩ := p h deep hd
  have r := repr_eq a b (Nat.le_trans c (Nat.le_trans hw (by decide)))
  rw [call_eq at__law_same (by intro c; simp)]
  simp [b__law_same, r]
end K20

set_option maxHeartbeats 1000000
namespace K20
open Mi PySem
theorem atI_in {xs : List Val} {r : Int} (h0 : 0 ≤ r) (h1 : r < xs.length) : ∃ v, L2.atI xs r = some v ∧ v ∈ xs := by
  have hn : r.toNat < xs.length := by omega
  refine ⟨xs[r.toNat], ?_, List.getElem_mem hn⟩
  unfold L2.atI L2.ixN
  simp only [h0, h1, if_true, Option.bind_some, List.getElem?_eq_getElem hn]
theorem at0 {x : Val} {xs : List Val} : L2.atI (x :: xs) 0 = some x := by simp [L2.atI, L2.ixN]
theorem at1 {x y : Val} {xs : List Val} : L2.atI (x :: y :: xs) 1 = some y := by
  have h : (1 : Int) < ((x :: y :: xs).length : Int) := by rw [List.length_cons, List.length_cons]; omega
  simp only [L2.atI, L2.ixN, h, if_true, show (0 : Int) ≤ 1 from by decide, Option.bind_some]
  rfl
theorem w_for {Γ : Cxt} {t : Tg} {it : Ex} {b : Sm} {ρ : En} {h : Hh} : ex Γ (.for_ t it b) ρ h = held (evi Γ it ρ h) ρ fun src h => (walk src (forTurn (ex Γ b) t) ρ h).bind fun r h => .ok (flOf r) h := by simp only [ex]
/-! ### the digits -/
theorem S_cell (n) {h : Hh} (ns : List Int) {k : Int} (hk : 0 ≤ k) : ∃ c : Int, callF G (n+1) (.fn "_law_cell") [.kl (ns.map .int), .int k] h = .ok (.int c) h := by
  rw [call_eq at__law_cell (by intro c; simp)]
  by_cases hl : k < (ns.length : Int)
  · obtain ⟨v, e1, e2⟩ := atI_in (xs := ns.map .int) hk (by simpa using hl)
    obtain ⟨d, _, rfl⟩ := List.mem_map.mp e2
    have e3 : idxop (.kl (ns.map .int)) (.int k) h = some (.int d) := e1
    exact ⟨d, by simp [b__law_cell, hl, e3]⟩
  · exact ⟨0, by simp [b__law_cell, hl]⟩
def b_big : Sm :=
         (.ifs (.cmp .gt (.loc 5) (.lit (.int (0))))
           (.seq
            (.exp (.bmt .append (.loc 3) (.cons (.bin .mod (.bif .int (.cons (.loc 5) .nil)) (.lit (.int (1000)))) .nil)))
           (.asg (.nm 5) (.bin .fdiv (.loc 5) (.lit (.int (1000))))))
           .nop)
def b_seed : Sm :=
         (.seq
          (.asg (.nm 7) (.bin .mod (.bif .int (.cons (.bin .add (.bin .add (.bin .mul (.loc 7) (.lit (.int (16807)))) (.bin .mul (.lit (.int (7))) (.loc 6))) (.lit (.int (1)))) .nil)) (.lit (.int (2147483647)))))
         (.exp (.bmt .append (.loc 3) (.cons (.bin .mod (.bif .int (.cons (.bin .fdiv (.loc 7) (.lit (.int (997)))) .nil)) (.lit (.int (1000)))) .nil))))
theorem rng_ints {a : Int} {n i : Nat} {x : Val} (h : (rangeV a n)[i]? = some x) : x = .int (a + (i : Nat)) ∧ i < n := by
  unfold rangeV at h
  rw [List.getElem?_map] at h
  have hi : i < n := by
    by_cases q : i < n
    · exact q
    · rw [List.getElem?_eq_none (by simp; omega)] at h; cases h
  rw [List.getElem?_range hi] at h
  cases h
  exact ⟨rfl, hi⟩
theorem big_loop (n) {ds : List Int} {s a b o4 o7 : Option Val} {c : Int} {o6 : Option Val} (hd : ds.length < 10000) : ∃ ds' c' o6', walkF (Mi.forTurn (ex (G.Γ n) b_big) (.nm 6)) (rangeV 0 60) [s, a, b, some (.ref 0), o4, some (.int c), o6, o7] [.lst (ds.map .int)] = .ok (.inl [s, a, b, some (.ref 0), o4, some (.int c'), o6', o7]) [.lst ((ds' : List Int).map .int)] ∧ ds'.length ≤ ds.length + 60 := by
  have q := walkF_inv (f := Mi.forTurn (ex (G.Γ n) b_big) (.nm 6)) (xs := rangeV 0 60) (a := [s, a, b, some (.ref 0), o4, some (.int c), o6, o7]) (h := [.lst (ds.map .int)])
    (Q := fun r h' => ∃ (ds' : List Int) (c' : Int) (o6' : Option Val), r = .inl [s, a, b, some (.ref 0), o4, some (.int c'), o6', o7] ∧ h' = [.lst (ds'.map .int)] ∧ ds'.length ≤ ds.length + 60)
    (fun i ρ h' => ∃ (ds' : List Int) (c' : Int) (o6' : Option Val), ρ = [s, a, b, some (.ref 0), o4, some (.int c'), o6', o7] ∧ h' = [.lst (ds'.map .int)] ∧ ds'.length ≤ ds.length + i) ⟨ds, c, o6, rfl, rfl, by omega⟩
    (by
      rintro i x ρ h' hx ⟨ds', c', o6', rfl, rfl, hl⟩
      obtain ⟨rfl, hi⟩ := rng_ints hx
      have fl : ds'.length < sizeLine := Nat.lt_of_lt_of_le (show ds'.length < 20000 by omega) (by decide)
      by_cases hc : 0 < c'
      · have e : Mi.forTurn (ex (G.Γ n) b_big) (.nm 6) (.int (0 + (i : Nat))) [s, a, b, some (.ref 0), o4, some (.int c'), o6', o7] [.lst (ds'.map .int)] = .ok (.inl [s, a, b, some (.ref 0), o4, some (.int (c' / 1000)), some (.int (0 + (i : Nat))), o7]) [.lst ((ds' ++ [c' % 1000]).map .int)] := by
          simp [b_big, Mi.forTurn, hc, lstOf, fl]
        rw [e]
        exact ⟨ds' ++ [c' % 1000], c' / 1000, _, rfl, rfl, by simp; omega⟩
      · have e : Mi.forTurn (ex (G.Γ n) b_big) (.nm 6) (.int (0 + (i : Nat))) [s, a, b, some (.ref 0), o4, some (.int c'), o6', o7] [.lst (ds'.map .int)] = .ok (.inl [s, a, b, some (.ref 0), o4, some (.int c'), some (.int (0 + (i : Nat))), o7]) [.lst (ds'.map .int)] := by
          simp [b_big, Mi.forTurn, hc]
        rw [e]
        exact ⟨ds', c', _, rfl, rfl, by omega⟩)
    (by
      rintro ρ h' ⟨ds', c', o6', rfl, rfl, hl⟩
      exact ⟨ds', c', o6', rfl, rfl, by simpa [rangeV] using hl⟩)
  obtain ⟨r, h', e, ds', c', o6', rfl, rfl, hl⟩ := q.get
  exact ⟨ds', c', o6', e, hl⟩
theorem seed_loop (n) {ds : List Int} {s a b o4 o5 : Option Val} {c : Int} {o6 : Option Val} (hd : ds.length < 10000) : ∃ ds' c' o6', walkF (Mi.forTurn (ex (G.Γ n) b_seed) (.nm 6)) (rangeV 0 12) [s, a, b, some (.ref 0), o4, o5, o6, some (.int c)] [.lst (ds.map .int)] = .ok (.inl [s, a, b, some (.ref 0), o4, o5, o6', some (.int c')]) [.lst ((ds' : List Int).map .int)] ∧ ds'.length ≤ ds.length + 60 := by
  have q := walkF_inv (f := Mi.forTurn (ex (G.Γ n) b_seed) (.nm 6)) (xs := rangeV 0 12) (a := [s, a, b, some (.ref 0), o4, o5, o6, some (.int c)]) (h := [.lst (ds.map .int)])
    (Q := fun r h' => ∃ (ds' : List Int) (c' : Int) (o6' : Option Val), r = .inl [s, a, b, some (.ref 0), o4, o5, o6', some (.int c')] ∧ h' = [.lst (ds'.map .int)] ∧ ds'.length ≤ ds.length + 60)
    (fun i ρ h' => ∃ (ds' : List Int) (c' : Int) (o6' : Option Val), ρ = [s, a, b, some (.ref 0), o4, o5, o6', some (.int c')] ∧ h' = [.lst (ds'.map .int)] ∧ ds'.length ≤ ds.length + i) ⟨ds, c, o6, rfl, rfl, by omega⟩
    (by
      rintro i x ρ h' hx ⟨ds', c', o6', rfl, rfl, hl⟩
      obtain ⟨rfl, hi⟩ := rng_ints hx
      have fl : ds'.length < sizeLine := Nat.lt_of_lt_of_le (show ds'.length < 20000 by omega) (by decide)
      have e : ∃ d e : Int, Mi.forTurn (ex (G.Γ n) b_seed) (.nm 6) (.int (0 + (i : Nat))) [s, a, b, some (.ref 0), o4, o5, o6', some (.int c')] [.lst (ds'.map .int)] = .ok (.inl [s, a, b, some (.ref 0), o4, o5, some (.int (0 + (i : Nat))), some (.int d)]) [.lst ((ds' ++ [e]).map .int)] := by
        simp [b_seed, Mi.forTurn, lstOf, fl, smallI]
      obtain ⟨d, e, eq⟩ := e
      rw [eq]
      exact ⟨ds' ++ [e], d, _, rfl, rfl, by simp; omega⟩)
    (by
      rintro ρ h' ⟨ds', c', o6', rfl, rfl, hl⟩
      exact ⟨ds', c', o6', rfl, rfl, by simp [rangeV] at hl; omega⟩)
  obtain ⟨r, h', e, ds', c', o6', rfl, rfl, hl⟩ := q.get
  exact ⟨ds', c', o6', e, hl⟩
def b_dig : Sm :=
     (.seq
      (.asg (.nm 5) (.call "_law_cell" (.cons (.loc 0) (.cons (.loc 4) .nil))))
     (.seq
      (.ifs (.cmp .lt (.loc 5) (.lit (.int (0))))
        (.asg (.nm 5) (.bin .sub (.lit (.int (1))) (.bin .mul (.lit (.int (2))) (.loc 5))))
        .nop)
     (.ifs (.cmp .ge (.loc 5) (.bin .pow (.lit (.int (10))) (.lit (.int (18)))))
       (.for_ (.nm 6) (.rng (.lit (.int (0))) (.lit (.int (60)))) b_big)
       (.seq
        (.asg (.nm 7) (.bin .mod (.bif .int (.cons (.bin .add (.bin .add (.bin .mul (.loc 5) (.lit (.int (48271)))) (.bin .mul (.loc 4) (.lit (.int (69621))))) (.lit (.int (11)))) .nil)) (.lit (.int (2147483647)))))
       (.for_ (.nm 6) (.rng (.lit (.int (0))) (.lit (.int (12)))) b_seed)))))
theorem rng_lit (k : Nat) (hk : k < 1000) : rngOf (.int 0) (.int (k : Int)) = some (.fix (rangeV 0 k)) := by
  have : -(2 ^ 62 : Int) ≤ 0 ∧ (0 : Int) < 2 ^ 62 ∧ -(2 ^ 62 : Int) ≤ (k : Int) ∧ (k : Int) < 2 ^ 62 := ⟨by decide, by decide, by omega, by omega⟩
  simp only [rngOf, this, and_self, if_true, Int.sub_zero, Int.toNat_natCast]
theorem pow18 : ∃ P : Int, ∀ h, binop .pow (.int 10) (.int 18) h = .ok (.int P) h := ⟨10 ^ (18 : Int).toNat, fun h => by
  have e : decide ((0 : Int) ≤ 18 ∧ (18 : Int) ≤ 1000000 ∧ (10 : Int).natAbs < 2 ^ 64) = true := by decide +kernel
  simp only [binop, e, okIf_true]⟩
theorem sm1 : smallI 48271 = true := by decide +kernel
theorem sm2 : smallI 69621 = true := by decide +kernel
theorem sm3 (n) (h : Hh) (a b c d e f : Option Val) (c5 j m1 m2 m3 m4 : Int) (h1 : smallI m1 = true) (h2 : smallI m2 = true) (h4 : 0 < m4) : ex (G.Γ n) (.asg (.nm 7) (.bin .mod (.bif .int (.cons (.bin .add (.bin .add (.bin .mul (.loc 5) (.lit (.int m1))) (.bin .mul (.loc 4) (.lit (.int m2)))) (.lit (.int m3))) .nil)) (.lit (.int m4)))) [a, b, c, d, some (.int j), some (.int c5), e, f] h = .ok (.nx [a, b, c, d, some (.int j), some (.int c5), e, some (.int ((c5 * m1 + j * m2 + m3) % m4))]) h := by
  simp [h1, h2, h4]
theorem sm4 (n) (h : Hh) (a b c d e f : Option Val) (c5 j : Int) : ex (G.Γ n) (.asg (.nm 7) (.bin .mod (.bif .int (.cons (.bin .add (.bin .add (.bin .mul (.loc 5) (.lit (.int (48271)))) (.bin .mul (.loc 4) (.lit (.int (69621))))) (.lit (.int (11)))) .nil)) (.lit (.int (2147483647))))) [a, b, c, d, some (.int j), some (.int c5), e, f] h = .ok (.nx [a, b, c, d, some (.int j), some (.int c5), e, some (.int ((c5 * 48271 + j * 69621 + 11) % 2147483647))]) h := sm3 n h a b c d e f c5 j 48271 69621 11 2147483647 sm1 sm2 (by decide)
theorem dig_turn (n) (ns : List Int) {ds : List Int} {j : Int} (hj : 0 ≤ j) {a b o4 o5 o6 o7 : Option Val} (hd : ds.length < 10000) : ∃ (ds' : List Int) (o4' o5' o6' o7' : Option Val), Mi.forTurn (ex (G.Γ (n+1)) b_dig) (.nm 4) (.int j) [some (.kl (ns.map .int)), a, b, some (.ref 0), o4, o5, o6, o7] [.lst (ds.map .int)] = .ok (.inl [some (.kl (ns.map .int)), a, b, some (.ref 0), o4', o5', o6', o7']) [.lst (ds'.map .int)] ∧ ds'.length ≤ ds.length + 60 := by
  obtain ⟨P, hP⟩ := pow18
  have r60 : rngOf (.int 0) (.int 60) = some (.fix (rangeV 0 60)) := rng_lit 60 (by decide)
  have r12 : rngOf (.int 0) (.int 12) = some (.fix (rangeV 0 12)) := rng_lit 12 (by decide)
  obtain ⟨c, ec⟩ := S_cell n (h := [.lst (ds.map .int)]) ns (k := j) hj
  have fin : ∀ c5 : Int, ∃ (ds' : List Int) (o5' o6' o7' : Option Val), (ex (G.Γ (n+1)) (.ifs (.cmp .ge (.loc 5) (.bin .pow (.lit (.int (10))) (.lit (.int (18)))))
       (.for_ (.nm 6) (.rng (.lit (.int (0))) (.lit (.int (60)))) b_big)
       (.seq
        (.asg (.nm 7) (.bin .mod (.bif .int (.cons (.bin .add (.bin .add (.bin .mul (.loc 5) (.lit (.int (48271)))) (.bin .mul (.loc 4) (.lit (.int (69621))))) (.lit (.int (11)))) .nil)) (.lit (.int (2147483647)))))
       (.for_ (.nm 6) (.rng (.lit (.int (0))) (.lit (.int (12)))) b_seed))) [some (.kl (ns.map .int)), a, b, some (.ref 0), some (.int j), some (.int c5), o6, o7] [.lst (ds.map .int)]) = .ok (.nx [some (.kl (ns.map .int)), a, b, some (.ref 0), some (.int j), o5', o6', o7']) [.lst (ds'.map .int)] ∧ ds'.length ≤ ds.length + 60 := fun c5 => by
    have st : ∀ A B : Sm, ex (G.Γ (n+1)) (.ifs (.cmp .ge (.loc 5) (.bin .pow (.lit (.int (10))) (.lit (.int (18))))) A B) [some (.kl (ns.map .int)), a, b, some (.ref 0), some (.int j), some (.int c5), o6, o7] [.lst (ds.map .int)] = if P ≤ c5 then ex (G.Γ (n+1)) A [some (.kl (ns.map .int)), a, b, some (.ref 0), some (.int j), some (.int c5), o6, o7] [.lst (ds.map .int)] else ex (G.Γ (n+1)) B [some (.kl (ns.map .int)), a, b, some (.ref 0), some (.int j), some (.int c5), o6, o7] [.lst (ds.map .int)] := fun A B => by
      by_cases hb : P ≤ c5 <;> simp only [w9, v11, v1, En.get?, List.length_cons, List.length_nil, Nat.zero_add, Nat.reduceAdd,
        Nat.reduceLT, getElem?_pos, List.getElem_cons_succ, List.getElem_cons_zero, Option.join_some, orBad_some, v6, v0,
        Mi.R.bind_ok, hP, q11, hb, decide_true, decide_false, Mi.q1, Bool.false_eq_true, ↓reduceIte, held_ok]
    rw [st]
    by_cases hb : P ≤ c5
    · obtain ⟨ds1, c1, q1, e1, l1⟩ := big_loop (n+1) (ds := ds) (s := some (.kl (ns.map .int))) (a := a) (b := b) (o4 := some (.int j)) (o7 := o7) (c := c5) (o6 := o6) hd
      refine ⟨ds1, some (.int c1), q1, o7, ?_, l1⟩
      rw [if_pos hb]
      simp only [w_for, v29, v0, Mi.R.bind_ok, r60, orBad_some, held_ok, walk_fix]
      rw [e1]
      rfl
    · obtain ⟨ds2, c2, q2, e2, l2⟩ := seed_loop (n+1) (ds := ds) (s := some (.kl (ns.map .int))) (a := a) (b := b) (o4 := some (.int j)) (o5 := some (.int c5)) (c := (c5 * 48271 + j * 69621 + 11) % 2147483647) (o6 := o6) hd
      refine ⟨ds2, some (.int c5), q2, some (.int c2), ?_, l2⟩
      rw [if_neg hb, w1, sm4, Mi.R.bind_ok]
      simp only [w_for, v29, v0, Mi.R.bind_ok, r12, orBad_some, held_ok, walk_fix]
      rw [e2]
      rfl
  by_cases hc : c < 0
  · obtain ⟨ds', o5', o6', o7', e, l⟩ := fin (1 - 2 * c)
    refine ⟨ds', some (.int j), o5', o6', o7', ?_, l⟩
    have m : smallI 2 = true := by decide +kernel
    have f1 : ex (G.Γ (n+1)) (.asg (.nm 5) (.call "_law_cell" (.cons (.loc 0) (.cons (.loc 4) .nil)))) [some (.kl (ns.map .int)), a, b, some (.ref 0), some (.int j), o5, o6, o7] [.lst (ds.map .int)] = .ok (.nx [some (.kl (ns.map .int)), a, b, some (.ref 0), some (.int j), some (.int c), o6, o7]) [.lst (ds.map .int)] := by
      simp [ec]
    have f2 : ex (G.Γ (n+1)) (.ifs (.cmp .lt (.loc 5) (.lit (.int (0)))) (.asg (.nm 5) (.bin .sub (.lit (.int (1))) (.bin .mul (.lit (.int (2))) (.loc 5)))) .nop) [some (.kl (ns.map .int)), a, b, some (.ref 0), some (.int j), some (.int c), o6, o7] [.lst (ds.map .int)] = .ok (.nx [some (.kl (ns.map .int)), a, b, some (.ref 0), some (.int j), some (.int (1 - 2 * c)), o6, o7]) [.lst (ds.map .int)] := by
      simp [hc, m]
    have f0 : (Tg.nm 4).put (.int j) [some (.kl (ns.map .int)), a, b, some (.ref 0), o4, o5, o6, o7] = some [some (.kl (ns.map .int)), a, b, some (.ref 0), some (.int j), o5, o6, o7] := rfl
    unfold Mi.forTurn b_dig
    rw [f0, orBad_some, w1, f1, Mi.R.bind_ok]
    simp only
    rw [w1, f2, Mi.R.bind_ok]
    simp only
    rw [e]
    rfl
  · obtain ⟨ds', o5', o6', o7', e, l⟩ := fin c
    refine ⟨ds', some (.int j), o5', o6', o7', ?_, l⟩
    have f1 : ex (G.Γ (n+1)) (.asg (.nm 5) (.call "_law_cell" (.cons (.loc 0) (.cons (.loc 4) .nil)))) [some (.kl (ns.map .int)), a, b, some (.ref 0), some (.int j), o5, o6, o7] [.lst (ds.map .int)] = .ok (.nx [some (.kl (ns.map .int)), a, b, some (.ref 0), some (.int j), some (.int c), o6, o7]) [.lst (ds.map .int)] := by
      simp [ec]
    have f2 : ex (G.Γ (n+1)) (.ifs (.cmp .lt (.loc 5) (.lit (.int (0)))) (.asg (.nm 5) (.bin .sub (.lit (.int (1))) (.bin .mul (.lit (.int (2))) (.loc 5)))) .nop) [some (.kl (ns.map .int)), a, b, some (.ref 0), some (.int j), some (.int c), o6, o7] [.lst (ds.map .int)] = .ok (.nx [some (.kl (ns.map .int)), a, b, some (.ref 0), some (.int j), some (.int c), o6, o7]) [.lst (ds.map .int)] := by
      simp [hc]
    have f0 : (Tg.nm 4).put (.int j) [some (.kl (ns.map .int)), a, b, some (.ref 0), o4, o5, o6, o7] = some [some (.kl (ns.map .int)), a, b, some (.ref 0), some (.int j), o5, o6, o7] := rfl
    unfold Mi.forTurn b_dig
    rw [f0, orBad_some, w1, f1, Mi.R.bind_ok]
    simp only
    rw [w1, f2, Mi.R.bind_ok]
    simp only
    rw [e]
    rfl
theorem S_digits (n) (ns : List Int) : ∃ ds : List Int, callF G (n+2) (.fn "_law_digits") [.kl (ns.map .int), .int 0, .int 63] [] = .ok (.ref 0) [.lst (ds.map .int)] := by
  have r63 : rngOf (.int 0) (.int 63) = some (.fix (rangeV 0 63)) := rng_lit 63 (by decide)
  have q := walkF_inv (f := Mi.forTurn (ex (G.Γ (n+1)) b_dig) (.nm 4)) (xs := rangeV 0 63) (a := [some (.kl (ns.map .int)), some (.int 0), some (.int 63), some (.ref 0), none, none, none, none]) (h := [.lst (([] : List Int).map .int)])
    (Q := fun r h' => ∃ (ds : List Int) (o4 o5 o6 o7 : Option Val), r = .inl [some (.kl (ns.map .int)), some (.int 0), some (.int 63), some (.ref 0), o4, o5, o6, o7] ∧ h' = [.lst (ds.map .int)])
    (fun i ρ h' => ∃ (ds : List Int) (o4 o5 o6 o7 : Option Val), ρ = [some (.kl (ns.map .int)), some (.int 0), some (.int 63), some (.ref 0), o4, o5, o6, o7] ∧ h' = [.lst (ds.map .int)] ∧ ds.length ≤ 60 * i) ⟨[], none, none, none, none, rfl, rfl, by simp⟩
    (by
      rintro i x ρ h' hx ⟨ds, o4, o5, o6, o7, rfl, rfl, hl⟩
      obtain ⟨rfl, hi⟩ := rng_ints hx
      obtain ⟨ds', q4, q5, q6, q7, e, l⟩ := dig_turn n ns (ds := ds) (j := 0 + (i : Nat)) (by omega) (a := some (.int 0)) (b := some (.int 63)) (o4 := o4) (o5 := o5) (o6 := o6) (o7 := o7) (by omega)
      rw [e]
      exact ⟨ds', q4, q5, q6, q7, rfl, rfl, by omega⟩)
    (by
      rintro ρ h' ⟨ds, o4, o5, o6, o7, rfl, rfl, _⟩
      exact ⟨ds, o4, o5, o6, o7, rfl, rfl⟩)
  obtain ⟨r, h', e, ds, o4, o5, o6, o7, rfl, rfl⟩ := q.get
  refine ⟨ds, ?_⟩
  rw [call_eq at__law_digits (by intro c; simp)]
  have f1 : ex (G.Γ (n+1)) (.asg (.nm 3) (.lst .nil)) [some (.kl (ns.map .int)), some (.int 0), some (.int 63), none, none, none, none, none] [] = .ok (.nx [some (.kl (ns.map .int)), some (.int 0), some (.int 63), some (.ref 0), none, none, none, none]) [.lst (([] : List Int).map .int)] := by simp
  have f2 : ex (G.Γ (n+1)) (.for_ (.nm 4) (.rng (.loc 1) (.loc 2)) b_dig) [some (.kl (ns.map .int)), some (.int 0), some (.int 63), some (.ref 0), none, none, none, none] [.lst (([] : List Int).map .int)] = .ok (.nx [some (.kl (ns.map .int)), some (.int 0), some (.int 63), some (.ref 0), o4, o5, o6, o7]) [.lst (ds.map .int)] := by
    rw [w_for]
    have f3 : evi (G.Γ (n+1)) (.rng (.loc 1) (.loc 2)) [some (.kl (ns.map .int)), some (.int 0), some (.int 63), some (.ref 0), none, none, none, none] [.lst (([] : List Int).map .int)] = .ok (.fix (rangeV 0 63)) [.lst (([] : List Int).map .int)] := by
      simp only [v29, v1, En.get?, List.length_cons, List.length_nil, Nat.zero_add, Nat.reduceAdd, Nat.reduceLT, getElem?_pos, List.getElem_cons_succ, List.getElem_cons_zero, Option.join_some, orBad_some, Mi.R.bind_ok, r63]
    rw [f3, held_ok, walk_fix, e]
    rfl
  show okIf (decide ([Val.kl (ns.map .int), .int 0, .int 63].length = 3)) ((noexc (ex (G.Γ (n+1)) b__law_digits (startE ⟨3, 8, b__law_digits⟩ [.kl (ns.map .int), .int 0, .int 63]) [])).bind _) = _
  have f0 : startE ⟨3, 8, b__law_digits⟩ [.kl (ns.map .int), .int 0, .int 63] = [some (.kl (ns.map .int)), some (.int 0), some (.int 63), none, none, none, none, none] := rfl
  have f5 : b__law_digits = .seq (.asg (.nm 3) (.lst .nil)) (.seq (.for_ (.nm 4) (.rng (.loc 1) (.loc 2)) b_dig) (.ret (.loc 3))) := rfl
  rw [f0, f5, w1, f1, Mi.R.bind_ok]
  simp only
  rw [w1, f2, Mi.R.bind_ok]
  rfl
end K20

set_option maxHeartbeats 1000000
namespace K20
open Mi PySem
/-! ### what is drawn -/
structure Sta (h : Hh) : Prop where
  box : ∃ (ds : List Int) (c : Int), h[0]? = some (.lst (ds.map .int)) ∧ h[1]? = some (.lst [.ref 0, .int c]) ∧ 0 ≤ c
structure Nx (h h' : Hh) : Prop where
  sta : Sta h'
  keep : ∀ l o, 2 ≤ l → h[l]? = some o → h'[l]? = some o
  len : h.length ≤ h'.length
theorem Sta.grow {h h' : Hh} (s : Sta h) (g : Grow h h') : Sta h' := ⟨let ⟨ds, c, h1, h2, h3⟩ := s.box; ⟨ds, c, g.get h1, g.get h2, h3⟩⟩
theorem Nx.grow {h h' : Hh} (s : Sta h) (g : Grow h h') : Nx h h' := ⟨s.grow g, fun _ _ _ e => g.get e, g.len⟩
theorem Nx.refl {h : Hh} (s : Sta h) : Nx h h := Nx.grow s .refl
theorem Nx.trans {h h1 h2 : Hh} (a : Nx h h1) (b : Nx h1 h2) : Nx h h2 := ⟨b.sta, fun l o hl e => b.keep l o hl (a.keep l o hl e), Nat.le_trans a.len b.len⟩
theorem Sta.len {h : Hh} (s : Sta h) : 2 ≤ h.length := let ⟨_, _, _, h2, _⟩ := s.box; (List.getElem?_eq_some_iff.mp h2).1
/-- a cell that was laid since is written -/
theorem Nx.put {h h2 : Hh} {l : Nat} {o : Ob} (nx : Nx h h2) (hl : h.length ≤ l) (h3 : 2 ≤ h.length) : Nx h (h2.set l o) := by
  obtain ⟨⟨⟨ds, c, a0, a1, a2⟩⟩, k, len⟩ := nx
  exact ⟨⟨⟨ds, c, by rw [List.getElem?_set_ne (by omega), a0], by rw [List.getElem?_set_ne (by omega), a1], a2⟩⟩, fun m u hm e => by
    have := (List.getElem?_eq_some_iff.mp e).1
    rw [List.getElem?_set_ne (by omega)]
    exact k m u hm e, by simpa using len⟩
theorem S_draw (n) {h : Hh} (s : Sta h) {m : Int} (hm : 0 < m) : ∃ r h', callF G (n+1) (.fn "_law_draw") [.ref 1, .int m] h = .ok (.int r) h' ∧ 0 ≤ r ∧ r < m ∧ Nx h h' := by
  have l3 := s.len
  obtain ⟨⟨ds, c, h0, h1, hc⟩⟩ := s
  have a0 : (h.set 1 (.lst [.ref 0, .int (c + 1)]))[0]? = some (.lst (ds.map .int)) := by rw [List.getElem?_set_ne (by decide), h0]
  have a1 : (h.set 1 (.lst [.ref 0, .int (c + 1)]))[1]? = some (.lst [.ref 0, .int (c + 1)]) := List.getElem?_set_self (by omega)
  have nx : Nx h (h.set 1 (.lst [.ref 0, .int (c + 1)])) := ⟨⟨⟨ds, c + 1, a0, a1, by omega⟩⟩, fun l o hl e => by rw [List.getElem?_set_ne (by omega), e], by simp⟩
  rw [call_eq at__law_draw (by intro c; simp)]
  by_cases hl : c < (ds.length : Int)
  · obtain ⟨v, e1, e2⟩ := atI_in (xs := ds.map .int) hc (by simpa using hl)
    obtain ⟨d, _, rfl⟩ := List.mem_map.mp e2
    refine ⟨d % m, _, ?_, Int.emod_nonneg _ (by omega), Int.emod_lt_of_pos _ hm, nx⟩
    simp [b__law_draw, r_idx h1, r_idx a0, r_idx a1, r_sub h1, r_len a0, L2.ixN, hl, e1, hm, at0, at1]
  · refine ⟨(c * 7 + 3) % m, _, ?_, Int.emod_nonneg _ (by omega), Int.emod_lt_of_pos _ hm, nx⟩
    simp [b__law_draw, r_idx h1, r_idx a0, r_idx a1, r_sub h1, r_len a0, at0, at1, L2.ixN, hl, hm, smallI]
/-- one of a fresh list is drawn -/
theorem pick (n) {h : Hh} (s : Sta h) {xs : List Val} {m : Int} (hm : 0 < m) (hl : m = xs.length) : ∃ v r h', v ∈ xs ∧ callF G (n+1) (.fn "_law_draw") [.ref 1, .int m] (h ++ [.lst xs]) = .ok (.int r) h' ∧ idxop (.ref h.length) (.int r) h' = some v ∧ Nx h h' := by
  obtain ⟨r, h', e, h0, h1, nx⟩ := S_draw n (s.grow (h' := h ++ [.lst xs]) .app) hm
  obtain ⟨v, e1, e2⟩ := atI_in h0 (by rw [← hl]; exact h1)
  exact ⟨v, r, h', e2, e, by rw [r_idx (nx.keep _ _ s.len get_new)]; exact e1, (Nx.grow s .app).trans nx⟩
/-- one of a list that stands is drawn -/
theorem pickL (n) {h : Hh} (s : Sta h) {l : Nat} {xs : List Val} (h2 : 2 ≤ l) (hx : h[l]? = some (.lst xs)) {m : Int} (hm : 0 < m) (hl : m = xs.length) : ∃ v r h', v ∈ xs ∧ callF G (n+1) (.fn "_law_draw") [.ref 1, .int m] h = .ok (.int r) h' ∧ idxop (.ref l) (.int r) h' = some v ∧ Nx h h' := by
  obtain ⟨r, h', e, h0, h1, nx⟩ := S_draw n s hm
  obtain ⟨v, e1, e2⟩ := atI_in h0 (by rw [← hl]; exact h1)
  exact ⟨v, r, h', e2, e, by rw [r_idx (nx.keep _ _ h2 hx)]; exact e1, nx⟩
/-! ### a comprehension that changes what stands -/
theorem lc_fixI {Γ : Cxt} {ρ : En} {own : List Nat} {i : Nat} {elt it : Ex} {h0 hs : Hh} {xs : List Val} (I : Nat → List Val → Hh → Prop) (hi : i < (wipe ρ own).length) (hx : xs.length < sizeLine) (hit : evi Γ it ρ hs = .ok (.fix xs) h0) (h00 : I 0 [] h0)
    (he : ∀ k x acc h, xs[k]? = some x → acc.length = k → I k acc h → ∃ v h', ev Γ elt ((wipe ρ own).set i (some x)) h = .ok v h' ∧ I (k + 1) (acc ++ [v]) h') :
    ∃ acc h', ev Γ (.cmpr elt (.gen (.nm i) it (.lit (.bl true)) .nil) own) ρ hs = .ok (.ref h'.length) (h' ++ [.lst acc]) ∧ acc.length = xs.length ∧ I xs.length acc h' := by
  have go : ∀ (ys : List Val) (k : Nat) (acc : List Val) (h : Hh), (∀ j, xs[k + j]? = ys[j]?) → k + ys.length = xs.length → acc.length = k → I k acc h → ∃ acc' h', walkF (T := Unit) (fun x acc h => orBad ((Tg.nm i).put x (wipe ρ own)) fun ρ1 => (ev Γ (.lit (.bl true)) ρ1 h).bind fun y h => orBad (truthy h y) fun k =>
      if k then (evg Γ .nil (fun ρ2 h => ev Γ elt ρ2 h) ρ1 acc h).bind fun acc h => R.ok (Sum.inl acc) h else R.ok (Sum.inl acc) h) ys acc h = .ok (.inl acc') h' ∧ acc'.length = xs.length ∧ I xs.length acc' h' := by
    intro ys
    induction ys with
    | nil =>
      intro k acc h hm hl ha q
      simp only [List.length_nil, Nat.add_zero] at hl
      subst hl
      exact ⟨acc, h, by simp [walkF], ha, q⟩
    | cons y ys ih =>
      intro k acc h hm hl ha q
      simp only [List.length_cons] at hl
      obtain ⟨v, h1, e1, q1⟩ := he k y acc h (by have := hm 0; simpa using this) ha q
      obtain ⟨acc', h2, e2, l2, q2⟩ := ih (k + 1) (acc ++ [v]) h1 (fun j => by have := hm (j + 1); rw [show k + 1 + j = k + (j + 1) by omega, this]; simp) (by omega) (by simp [ha]) q1
      refine ⟨acc', h2, ?_, l2, q2⟩
      unfold walkF
      rw [step_lc (xs := []) hi (by omega) e1, Mi.R.bind_ok]
      simp only
      exact e2
  obtain ⟨acc, h', e, l, q⟩ := go xs 0 [] h0 (fun j => by simp) (by simp) rfl h00
  refine ⟨acc, h', ?_, l, q⟩
  simp only [ev, hit, Mi.R.bind_ok, walk]
  simp only [ev, Mi.R.bind_ok] at e
  rw [e]
  simp [newOb]
/-! ### dicts -/
theorem find_map (ks : List (Kk × Val)) (k x : Kk) (v : Val) : ((ks.map fun kv => if kv.1 = k then (kv.1, v) else kv).find? fun kv => decide (kv.1 = x)) = (ks.find? fun kv => decide (kv.1 = x)).map fun kv => if kv.1 = k then (kv.1, v) else kv := by
  induction ks with
  | nil => rfl
  | cons p ks ih =>
    simp only [List.map_cons, List.find?_cons]
    have e : (if p.1 = k then (p.1, v) else p).1 = p.1 := by split <;> rfl
    rw [e]
    by_cases q : p.1 = x <;> simp [q, ih]
theorem dget_dput (ks : List (Kk × Val)) (k x : Kk) (v : Val) : dget (dput ks k v) x = if x = k then some v else dget ks x := by
  unfold dput
  by_cases a : (ks.any fun kv => decide (kv.1 = k)) = true
  · rw [if_pos a]
    unfold dget
    rw [find_map]
    by_cases q : x = k
    · subst q
      rw [if_pos rfl]
      rw [List.any_eq_true] at a
      obtain ⟨p, hp, he⟩ := a
      cases hf : ks.find? fun kv => decide (kv.1 = x) with
      | none => exact absurd he (List.find?_eq_none.mp hf p hp)
      | some p' =>
        have := List.find?_some hf
        simp only [decide_eq_true_eq] at this
        simp [this]
    · rw [if_neg q]
      cases hf : ks.find? fun kv => decide (kv.1 = x) with
      | none => rfl
      | some p' =>
        have := List.find?_some hf
        simp only [decide_eq_true_eq] at this
        simp [this, q]
  · rw [if_neg a]
    unfold dget
    rw [List.find?_append]
    by_cases q : x = k
    · subst q
      have : (ks.find? fun kv => decide (kv.1 = x)) = none := by
        rw [List.find?_eq_none]
        intro p hp he
        exact a (List.any_eq_true.mpr ⟨p, hp, he⟩)
      simp [this]
    · have : ¬ k = x := fun z => q z.symm
      simp [q, this]
theorem dput_len (ks : List (Kk × Val)) (k : Kk) (v : Val) : (dput ks k v).length ≤ ks.length + 1 := by
  unfold dput
  split <;> simp
theorem one_dput {ks : List (Kk × Val)} {y : L2.Key} {v : Val} (h : ∀ x : L2.Key, oneKind (.inl x) ks = true) (x : L2.Key) : oneKind (.inl x) (dput ks (.inl y) v) = true := by
  have h := h x
  unfold dput
  simp only [oneKind] at h ⊢
  split
  · rw [List.all_map]
    rw [List.all_eq_true] at h ⊢
    intro p hp
    have := h p hp
    simp only [Function.comp]
    by_cases q : p.1 = .inl y
    · rw [if_pos q]; exact this
    · rw [if_neg q]; exact this
  · rw [List.all_append, h]
    rfl
theorem mem_dput {ks : List (Kk × Val)} {k : Kk} {v : Val} {p : Kk × Val} (h : p ∈ dput ks k v) : p ∈ ks ∨ p = (k, v) := by
  unfold dput at h
  split at h
  · obtain ⟨q, hq, rfl⟩ := List.mem_map.mp h
    by_cases e : q.1 = k
    · rw [if_pos e]
      exact .inr (by rw [e])
    · rw [if_neg e]
      exact .inl hq
  · rcases List.mem_append.mp h with h | h
    · exact .inl h
    · exact .inr (List.mem_singleton.mp h)
theorem nd_dput {ks : List (Kk × Val)} {k : Kk} {v : Val} (h : (ks.map (·.1)).Nodup) : ((dput ks k v).map (·.1)).Nodup := by
  unfold dput
  split
  · rw [List.map_map]
    have : ((fun p : Kk × Val => p.1) ∘ fun kv : Kk × Val => if kv.1 = k then (kv.1, v) else kv) = fun p => p.1 := by
      funext p
      simp only [Function.comp]
      split <;> rfl
    rw [this]
    exact h
  · rename_i a
    rw [List.map_append]
    refine List.nodup_append.mpr ⟨h, by simp, fun x hx y hy => ?_⟩
    simp only [List.map_cons, List.map_nil, List.mem_singleton] at hy
    subst hy
    obtain ⟨q, hq, rfl⟩ := List.mem_map.mp hx
    intro e
    exact a (List.any_eq_true.mpr ⟨q, hq, by simp [e]⟩)
theorem nd_get : ∀ {ks : List (Kk × Val)}, (ks.map (·.1)).Nodup → ∀ p ∈ ks, dget ks p.1 = some p.2
  | q :: ks, h, p, hp => by
    rw [List.map_cons, List.nodup_cons] at h
    unfold dget
    rw [List.find?_cons]
    rcases List.mem_cons.mp hp with rfl | hp
    · simp
    · have : q.1 ≠ p.1 := fun e => h.1 (by rw [e]; exact List.mem_map.mpr ⟨p, hp, rfl⟩)
      simp only [this, decide_false]
      exact nd_get h.2 p hp
end K20

set_option maxHeartbeats 2000000
namespace K20
open Mi PySem
/-! ### scopes -/
/-- a dict of names and their kinds -/
structure Dk (ks : List (Kk × Val)) : Prop where
  all : ∀ p ∈ ks, ∃ s k : Str, p = (.inl (.inr s), .str k) ∧ Sml s
  few : ks.length < 1000
theorem Dk.one {ks : List (Kk × Val)} (K : Dk ks) (x : L2.Key) : oneKind (.inl x) ks = true := by
  simp only [oneKind, List.all_eq_true]
  intro p hp
  obtain ⟨s, k, rfl, _⟩ := K.all p hp
  rfl
theorem Dk.plain {ks : List (Kk × Val)} (K : Dk ks) : plainKeys ks = true := by
  simp only [plainKeys, List.all_eq_true]
  intro p hp
  obtain ⟨s, k, rfl, _⟩ := K.all p hp
  rfl
theorem Dk.get {ks : List (Kk × Val)} (K : Dk ks) {p : Kk × Val} (hp : p ∈ ks) : ∃ k : Str, dget ks p.1 = some (.str k) := by
  unfold dget
  cases hf : ks.find? fun kv => decide (kv.1 = p.1) with
  | none => exact absurd (decide_eq_true rfl) (List.find?_eq_none.mp hf p hp)
  | some q =>
    obtain ⟨s, k, e, _⟩ := K.all q (List.mem_of_find?_eq_some hf)
    exact ⟨k, by rw [e]; rfl⟩
theorem set_back {h t : Hh} {d : Nat} {o u : Ob} (e : h[d]? = some o) : (h.set d u ++ t).set d o = h ++ t := by
  have hd := (List.getElem?_eq_some_iff.mp e)
  apply List.ext_getElem?
  intro i
  by_cases hi : d = i
  · subst hi
    rw [List.getElem?_set_self (by simp; have := hd.1; omega), List.getElem?_append_left hd.1, e]
  · rw [List.getElem?_set_ne hi]
    by_cases hl : i < h.length
    · rw [List.getElem?_append_left (by simpa using hl), List.getElem?_append_left hl, List.getElem?_set_ne hi]
    · rw [List.getElem?_append_right (by simp; omega), List.getElem?_append_right (by omega)]
      simp
theorem S_named (n) {ks : List (Kk × Val)} (K : Dk ks) (kd : Str) : ∃ xs : List Str, (∀ x ∈ xs, Sml x) ∧ xs.length < 1000 ∧ ∀ (h : Hh) (d : Nat), h[d]? = some (.dct ks) → ∃ l h', callF G (n+1) (.fn "_law_named") [.ref d, .str kd] h = .ok (.ref l) h' ∧ h'[l]? = some (.lst (xs.map .str)) ∧ h.length ≤ l ∧ Grow h h' := by
  let g : Kk × Val → Str := fun p => match p.1 with
    | .inl (.inr s) => s
    | _ => ""
  let pp : Kk × Val → Bool := fun p => match dget ks p.1 with
    | some (.str k) => k == kd
    | _ => false
  have hg : ∀ p ∈ ks, keyVal p.1 = .str (g p) ∧ p.1 = .inl (.inr (g p)) ∧ Sml (g p) := fun p hp => by
    obtain ⟨s, k, rfl, hs⟩ := K.all p hp
    exact ⟨rfl, rfl, hs⟩
  refine ⟨(ks.filter pp).map g, fun x hx => ?_, ?_, fun h d hd => ?_⟩
  · obtain ⟨p, hp, rfl⟩ := List.mem_map.mp hx
    exact (hg p (List.mem_filter.mp hp).1).2.2
  · rw [List.length_map]
    exact Nat.lt_of_le_of_lt (List.length_filter_le _ _) K.few
  · have hl := (List.getElem?_eq_some_iff.mp hd).1
    have hk : (h.set d (.kdct ks))[d]? = some (.kdct ks) := List.getElem?_set_self hl
    obtain ⟨h', e, gr⟩ := lc_fixC (Γ := G.Γ n) (ρ := [some (.ref d), some (.str kd), none]) (own := [2]) (i := 2) (elt := .loc 2) (it := .itr (.loc 0)) (c := .cmp .eq (.idx (.loc 0) (.loc 2)) (.loc 1)) (hs := h.set d (.kdct ks)) (h0 := h.set d (.kdct ks)) (xs := ks) (vf := fun p => keyVal p.1) (g := fun p => .str (g p)) (p := pp)
      (by simp [Mi.wipe]) (few_line K.few) (by simp [srcOf, hk, K.plain])
      (fun p hp h2 gr => by
        obtain ⟨k, hk2⟩ := K.get hp
        have e2 := gr.get hk
        have e3 : dictOf h2 (.ref d) = some ks := by
          simp only [dictOf, e2]
          cases ks with
          | nil => cases hp
          | cons a b => rfl
        obtain ⟨f1, f2, _⟩ := hg p hp
        have e4 : idxop (.ref d) (.str (g p)) h2 = some (.str k) := by
          have o := K.one (.inr (g p))
          simp only [idxop, e3, q44, o, if_true]
          rw [← f2]
          exact hk2
        refine ⟨.bl (k == kd), h2, by simp [Mi.wipe, f1, e4], .refl, ?_⟩
        simp only [q1, pp, hk2])
      (fun p hp h2 gr => ⟨h2, by simp [Mi.wipe, (hg p hp).1], .refl⟩)
    obtain ⟨t, rfl⟩ := gr
    refine ⟨(h ++ t).length, h ++ t ++ [.lst (((ks.filter pp).map g).map .str)], ?_, get_new, by simp, ⟨t ++ [.lst (((ks.filter pp).map g).map .str)], by simp⟩⟩
    rw [call_eq at__law_named (by intro c; simp)]
    have lk : lkOf [some (.ref d), some (.str kd), none] h 0 = some (d, ks) := by
      simp [lkOf, plOf, hd, K.plain]
    have eb : ev (G.Γ n) (.lck 0 (.cmpr (.loc 2) (.gen (.nm 2) (.itr (.loc 0)) (.cmp .eq (.idx (.loc 0) (.loc 2)) (.loc 1)) .nil) [2])) [some (.ref d), some (.str kd), none] h = .ok (.ref (h ++ t).length) (h ++ t ++ [.lst (((ks.filter pp).map g).map .str)]) := by
      simp only [ev] at e ⊢
      rw [lk, orBad_some, e]
      simp only [noexc_ok, Mi.R.bind_ok]
      rw [List.append_assoc, set_back hd]
      simp [Function.comp_def]
    simp only [b__law_named, w7, start_def]
    simp only [List.map_cons, List.map_nil, List.length_cons, List.length_nil, Nat.reduceAdd, Nat.reduceSub, List.replicate, List.cons_append, List.nil_append]
    rw [eb]
    rfl
theorem S_pick (n) {h : Hh} (s : Sta h) {l : Nat} {xs : List Str} (h2 : 2 ≤ l) (hx : h[l]? = some (.lst (xs.map .str))) (hn : 0 < xs.length) : ∃ x h', x ∈ xs ∧ callF G (n+2) (.fn "_law_pick") [.ref 1, .ref l] h = .ok (.str x) h' ∧ Nx h h' := by
  obtain ⟨r, h1, e1, r0, r1, n1⟩ := S_draw n s (m := 90) (by decide)
  have hx1 := n1.keep _ _ h2 hx
  have hm : 0 ≤ r % (xs.length : Int) ∧ r % (xs.length : Int) < ((xs.map Val.str).length : Int) := ⟨Int.emod_nonneg _ (by omega), by rw [List.length_map]; exact Int.emod_lt_of_pos _ (by omega)⟩
  obtain ⟨v, e2, e3⟩ := atI_in hm.1 hm.2
  obtain ⟨x, q, rfl⟩ := List.mem_map.mp e3
  refine ⟨x, h1, q, ?_, n1⟩
  rw [call_eq at__law_pick (by intro c; simp)]
  simp [b__law_pick, e1, r_len hx1, hn, r_idx hx1, e2]
/-- the scope at p -/
structure Sc (h : Hh) (p d0 d1 ls : Nat) (b : Bool) (k0 k1 : List (Kk × Val)) (xs : List Str) : Prop where
  p2 : 2 ≤ p
  i0 : 2 ≤ d0
  i1 : 2 ≤ d1
  il : 2 ≤ ls
  at_ : h[p]? = some (.lst [.ref d0, .ref d1, .ref ls, .bl b])
  a0 : h[d0]? = some (.dct k0)
  a1 : h[d1]? = some (.dct k1)
  al : h[ls]? = some (.lst (xs.map .str))
  q0 : Dk k0
  q1 : Dk k1
  ql : ∀ x ∈ xs, Sml x
theorem Sc.nx {h h' : Hh} {p d0 d1 ls : Nat} {b : Bool} {k0 k1 : List (Kk × Val)} {xs : List Str} (S : Sc h p d0 d1 ls b k0 k1 xs) (n : Nx h h') : Sc h' p d0 d1 ls b k0 k1 xs :=
  { S with at_ := n.keep _ _ S.p2 S.at_, a0 := n.keep _ _ S.i0 S.a0, a1 := n.keep _ _ S.i1 S.a1, al := n.keep _ _ S.il S.al }
theorem at2 {x y z : Val} {xs : List Val} : L2.atI (x :: y :: z :: xs) 2 = some z := by
  have h : (2 : Int) < ((x :: y :: z :: xs).length : Int) := by simp only [List.length_cons]; omega
  simp only [L2.atI, L2.ixN, h, if_true, show (0 : Int) ≤ 2 from by decide, Option.bind_some]
  rfl
theorem at3 {x y z u : Val} {xs : List Val} : L2.atI (x :: y :: z :: u :: xs) 3 = some u := by
  have h : (3 : Int) < ((x :: y :: z :: u :: xs).length : Int) := by simp only [List.length_cons]; omega
  simp only [L2.atI, L2.ixN, h, if_true, show (0 : Int) ≤ 3 from by decide, Option.bind_some]
  rfl
/-- .. is drawn, d deep, w wide at most -/
def Drawn (f : Str) (m : Nat) (k : Int) (d w : Nat) : Prop := ∀ {h : Hh} {p d0 d1 ls : Nat} {b : Bool} {k0 k1 : List (Kk × Val)} {xs : List Str}, Sta h → Sc h p d0 d1 ls b k0 k1 xs → ∃ v h', callF G m (.fn f) [.ref 1, .ref p, .int k] h = .ok v h' ∧ Dat d w v ∧ Nx h h'
theorem in_strs {P : Str → Prop} {v : Val} {ss : List Str} (h : v ∈ ss.map Val.str) (hp : ∀ s ∈ ss, P s) : ∃ s, v = .str s ∧ P s := by
  obtain ⟨s, hs, rfl⟩ := List.mem_map.mp h
  exact ⟨s, rfl, hp s hs⟩
theorem pickS (n) {h : Hh} (s : Sta h) (ss : List Str) (hs : ∀ x ∈ ss, Sml x) {m : Int} (hm : 0 < m) (hl : m = ss.length) : ∃ x r h', Sml x ∧ callF G (n+1) (.fn "_law_draw") [.ref 1, .int m] (h ++ [.lst (ss.map .str)]) = .ok (.int r) h' ∧ idxop (.ref h.length) (.int r) h' = some (.str x) ∧ Nx h h' := by
  obtain ⟨v, r, h', hv, e1, e2, nx⟩ := pick n s (xs := ss.map .str) hm (by simpa using hl)
  obtain ⟨x, rfl, hx⟩ := in_strs (P := Sml) hv hs
  exact ⟨x, r, h', hx, e1, e2, nx⟩
end K20

set_option maxHeartbeats 4000000
namespace K20
open Mi PySem
theorem small_int {i : Int} (h0 : 0 ≤ i) (h1 : i < 100) : i.natAbs ≤ 1000 := by omega
/-- a number of a scope -/
theorem N_step (m : Nat) (k : Nat) {d wt : Nat} (hw : 2200 ≤ wt)
    (recN : ∀ j : Nat, k = j + 1 → ∃ w1, Drawn "_law_number" (m+2) j d w1 ∧ w1 + w1 + 500 ≤ wt) (recT : ∀ j : Nat, k = j + 1 → ∃ w1 w2, Drawn "_law_number" (m+2) j d w1 ∧ Drawn "_law_truth" (m+2) j d w2 ∧ w2 + w1 + w1 + 300 ≤ wt) : Drawn "_law_number" (m+3) k (d+1) wt := by
  intro h p d0 d1 ls b k0 k1 xs s S
  obtain ⟨zs, hz, fz, z⟩ := S_named (m+1) S.q0 "number"
  obtain ⟨us, hu, fu, u⟩ := S_named (m+1) S.q1 "number"
  obtain ⟨lz, h1, e1, z1, g1l, g1⟩ := z h d0 S.a0
  have n1 : Nx h h1 := .grow s g1
  have zl : 2 ≤ lz := Nat.le_trans s.len g1l
  obtain ⟨r, h2, e2, r0, r8, n2⟩ := S_draw (m+1) n1.sta (m := 8) (by decide)
  have n12 := n1.trans n2
  have S2 := S.nx n12
  have z2 := n2.keep _ _ zl z1
  have fin : ∀ h3, Nx h h3 → ∃ q h4, callF G (m+2) (.fn "_law_draw") [.ref 1, .int 6] h3 = .ok (.int q) h4 ∧ Dat (d+1) wt (.tup [.str "number", .int q]) ∧ Nx h h4 := fun h3 n3 => by
    obtain ⟨q, h4, e, q0, q1, n4⟩ := S_draw (m+1) n3.sta (m := 6) (by decide)
    exact ⟨q, h4, e, (Dat.t2 (d := d) (.str (by decide +kernel)) (.int (small_int q0 (by omega)))).mono (by omega) (by omega), n3.trans n4⟩
  have f0 := S.at_
  have f2 := S2.at_
  have gN := n1.keep _ _ S.p2 S.at_
  rw [call_eq at__law_number (by intro c; simp)]
  have hr : r = 0 ∨ r = 1 ∨ r = 2 ∨ r = 3 ∨ r = 4 ∨ r = 5 ∨ r = 6 ∨ r = 7 := by omega
  by_cases c0 : r < 2
  · by_cases hzs : 0 < zs.length
    · obtain ⟨x, h3, hx, e3, n3⟩ := S_pick m n12.sta zl z2 hzs
      refine ⟨.tup [.str "name", .str x], h3, ?_, (Dat.t2 (d := d) (.str (by decide +kernel)) (.str (hz x hx))).mono (by omega) (by omega), n12.trans n3⟩
      simp [b__law_number, r_idx f0, at0, e1, e2, c0, r_len z2, hzs, e3]
    · obtain ⟨q, h3, e3, D, n3⟩ := fin h2 n12
      have hr2 : r = 0 ∨ r = 1 := by omega
      refine ⟨_, h3, ?_, D, n3⟩
      rcases hr2 with rfl | rfl <;> simp [b__law_number, r_idx f0, at0, e1, e2, r_len z2, hzs, e3]
  rcases hr with rfl | rfl | rfl | rfl | rfl | rfl | rfl | rfl
  · omega
  · omega
  · by_cases hxs : 0 < xs.length
    · obtain ⟨x, h3, hx, e3, n3⟩ := S_pick m n12.sta S2.il S2.al hxs
      refine ⟨.tup [.str "ask", .str "count", .str x], h3, ?_, (Dat.t3 (d := d) (.str (by decide +kernel)) (.str (by decide +kernel)) (.str (S.ql x hx))).mono (by omega) (by omega), n12.trans n3⟩
      simp [b__law_number, r_idx f0, r_idx f2, at0, at2, e1, e2, r_len z2, r_len S2.al, hxs, e3]
    · obtain ⟨q, h3, e3, D, n3⟩ := fin h2 n12
      refine ⟨_, h3, ?_, D, n3⟩
      simp [b__law_number, r_idx f0, r_idx f2, at0, at2, e1, e2, r_len z2, r_len S2.al, hxs, e3]
  · obtain ⟨lu, h3, e3, u3, _, g3⟩ := u h2 d1 S2.a1
    have n3 : Nx h h3 := n12.trans (.grow n12.sta g3)
    by_cases hus : 0 < us.length
    · obtain ⟨y, q, h4, hy, e4, e5, n4⟩ := pickS (m+1) n3.sta ["sum", "least", "greatest"] (by decide +kernel) (m := 3) (by decide) rfl
      have n34 := n3.trans n4
      obtain ⟨lv, h5, e6, u5, l5, g5⟩ := u h4 d1 (S.nx n34).a1
      have n5 : Nx h h5 := n34.trans (.grow n34.sta g5)
      obtain ⟨x, h6, hx, e7, n6⟩ := S_pick m n5.sta (Nat.le_trans n34.sta.len l5) u5 hus
      refine ⟨.tup [.str "ask", .str y, .str x], h6, ?_, (Dat.t3 (d := d) (.str (by decide +kernel)) (.str hy) (.str (hu x hx))).mono (by omega) (by omega), n5.trans n6⟩
      have f4 := (S.nx n34).at_
      simp only [List.map_cons, List.map_nil] at e4
      simp [b__law_number, r_idx f0, r_idx f2, r_idx f4, at0, at1, e1, e2, r_len z2, e3, hus, e4, e5, e6, e7, r_len u3]
    · obtain ⟨q, h4, e4, D, n4⟩ := fin _ n3
      refine ⟨_, h4, ?_, D, n4⟩
      simp [b__law_number, r_idx f0, r_idx f2, at0, at1, e1, e2, r_len z2, e3, hus, e4, r_len u3]
  · cases b with
    | true =>
      refine ⟨.tup [.str "row"], h2, ?_, (Dat.t1 (d := d) (.str (by decide +kernel))).mono (by omega) (by omega), n12⟩
      simp [b__law_number, r_idx f0, r_idx f2, at0, at3, e1, e2, r_len z2]
    | false =>
      obtain ⟨q, h3, e3, D, n3⟩ := fin h2 n12
      refine ⟨_, h3, ?_, D, n3⟩
      simp [b__law_number, r_idx f0, r_idx f2, at0, at3, e1, e2, r_len z2, e3]
  · cases k with
    | zero =>
      obtain ⟨q, h3, e3, D, n3⟩ := fin h2 n12
      refine ⟨_, h3, ?_, D, n3⟩
      simp [b__law_number, r_idx f0, at0, e1, e2, r_len z2, e3]
    | succ j =>
      have ek : ((j + 1 : Nat) : Int) - 1 = (j : Int) := by omega
      have nk : (0 : Int) < ((j + 1 : Nat) : Int) := by omega
      obtain ⟨w1, R1, hw1⟩ := recN j rfl
      obtain ⟨y, q, h4, hy, e4, e5, n4⟩ := pickS (m+1) n12.sta ["+", "-", "*", "??"] (by decide +kernel) (m := 4) (by decide) rfl
      have n34 := n12.trans n4
      obtain ⟨v1, h5, e6, D1, n5⟩ := R1 n34.sta (S.nx n34)
      have n35 := n34.trans n5
      obtain ⟨v2, h6, e7, D2, n6⟩ := R1 n35.sta (S.nx n35)
      refine ⟨.tup [.str "op", .str y, v1, v2], h6, ?_, (Dat.t4 (d := d) (.str (by decide +kernel)) (.str hy) D1 D2).mono (by omega) (by omega), n35.trans n6⟩
      simp only [List.map_cons, List.map_nil] at e4
      generalize ((j + 1 : Nat) : Int) = kk at ek nk
      simp [b__law_number, r_idx f0, at0, e1, e2, r_len z2, e4, e5, e6, e7, nk, ek]
  · cases k with
    | zero =>
      obtain ⟨q, h3, e3, D, n3⟩ := fin h2 n12
      refine ⟨_, h3, ?_, D, n3⟩
      simp [b__law_number, r_idx f0, at0, e1, e2, r_len z2, e3]
    | succ j =>
      have ek : ((j + 1 : Nat) : Int) - 1 = (j : Int) := by omega
      have nk : (0 : Int) < ((j + 1 : Nat) : Int) := by omega
      obtain ⟨w1, w2, R1, R2, hw1⟩ := recT j rfl
      obtain ⟨v1, h5, e5, D1, n5⟩ := R2 n12.sta S2
      have n25 := n12.trans n5
      obtain ⟨v2, h6, e6, D2, n6⟩ := R1 n25.sta (S.nx n25)
      have n26 := n25.trans n6
      obtain ⟨v3, h7, e7, D3, n7⟩ := R1 n26.sta (S.nx n26)
      refine ⟨.tup [.str "if", v1, v2, v3], h7, ?_, (Dat.t4 (d := d) (.str (by decide +kernel)) D1 D2 D3).mono (by omega) (by omega), n26.trans n7⟩
      generalize ((j + 1 : Nat) : Int) = kk at ek nk
      simp [b__law_number, r_idx f0, at0, e1, e2, r_len z2, e5, e6, e7, nk, ek]
  · obtain ⟨q, h3, e3, D, n3⟩ := fin h2 n12
    refine ⟨_, h3, ?_, D, n3⟩
    simp [b__law_number, r_idx f0, at0, e1, e2, r_len z2, e3]
end K20

set_option maxHeartbeats 4000000
namespace K20
open Mi PySem
def b_tail : Sm :=
  (.seq
   (.ifs (.or (.cmp .eq (.loc 2) (.lit (.int (0)))) (.cmp .eq (.loc 4) (.lit (.int (6)))))
     (.ret (.tup (.cons (.lit (.str "op")) (.cons (.idx (.lst (.cons (.lit (.str "<")) (.cons (.lit (.str ">=")) (.cons (.lit (.str "=")) .nil)))) (.call "_law_draw" (.cons (.loc 0) (.cons (.lit (.int (3))) .nil)))) (.cons (.call "_law_number" (.cons (.loc 0) (.cons (.loc 1) (.cons (.lit (.int (0))) .nil)))) (.cons (.tup (.cons (.lit (.str "number")) (.cons (.call "_law_draw" (.cons (.loc 0) (.cons (.lit (.int (5))) .nil))) .nil))) .nil))))))
     .nop)
  (.seq
   (.ifs (.cmp .eq (.loc 4) (.lit (.int (7))))
     (.ret (.tup (.cons (.lit (.str "not")) (.cons (.call "_law_truth" (.cons (.loc 0) (.cons (.loc 1) (.cons (.bin .sub (.loc 2) (.lit (.int (1)))) .nil)))) .nil))))
     .nop)
  (.ret (.tup (.cons (.lit (.str "op")) (.cons (.idx (.lst (.cons (.lit (.str "and")) (.cons (.lit (.str "or")) .nil))) (.call "_law_draw" (.cons (.loc 0) (.cons (.lit (.int (2))) .nil)))) (.cons (.call "_law_truth" (.cons (.loc 0) (.cons (.loc 1) (.cons (.bin .sub (.loc 2) (.lit (.int (1)))) .nil)))) (.cons (.call "_law_truth" (.cons (.loc 0) (.cons (.loc 1) (.cons (.bin .sub (.loc 2) (.lit (.int (1)))) .nil)))) .nil))))))))
def b_truth1 : Sm :=
  (.seq
   (.asg (.nm 3) (.call "_law_named" (.cons (.idx (.loc 1) (.lit (.int (0)))) (.cons (.lit (.str "truth")) .nil))))
  (.seq
   (.asg (.nm 4) (.call "_law_draw" (.cons (.loc 0) (.cons (.lit (.int (9))) .nil))))
  (.seq
   (.ifs (.and (.cmp .lt (.loc 4) (.lit (.int (2)))) (.cmp .gt (.bif .len (.cons (.loc 3) .nil)) (.lit (.int (0)))))
     (.ret (.tup (.cons (.lit (.str "name")) (.cons (.call "_law_pick" (.cons (.loc 0) (.cons (.loc 3) .nil))) .nil))))
     .nop)
  (.seq
   (.ifs (.and (.cmp .eq (.loc 4) (.lit (.int (2)))) (.cmp .gt (.bif .len (.cons (.idx (.loc 1) (.lit (.int (0)))) .nil)) (.lit (.int (0)))))
     (.ret (.tup (.cons (.lit (.str "ask")) (.cons (.lit (.str "answered")) (.cons (.call "_law_pick" (.cons (.loc 0) (.cons (.bif .list (.cons (.idx (.loc 1) (.lit (.int (0)))) .nil)) .nil))) .nil)))))
     .nop)
  (.seq
   (.ifs (.and (.cmp .eq (.loc 4) (.lit (.int (3)))) (.cmp .gt (.bif .len (.cons (.call "_law_named" (.cons (.idx (.loc 1) (.lit (.int (0)))) (.cons (.lit (.str "options")) .nil))) .nil)) (.lit (.int (0)))))
     (.ret (.tup (.cons (.lit (.str "has")) (.cons (.call "_law_pick" (.cons (.loc 0) (.cons (.call "_law_named" (.cons (.idx (.loc 1) (.lit (.int (0)))) (.cons (.lit (.str "options")) .nil))) .nil))) (.cons (.idx (.lst (.cons (.lit (.str "a")) (.cons (.lit (.str "b")) .nil))) (.call "_law_draw" (.cons (.loc 0) (.cons (.lit (.int (2))) .nil)))) .nil)))))
     .nop)
  (.seq
   (.ifs (.and (.cmp .eq (.loc 4) (.lit (.int (4)))) (.cmp .gt (.bif .len (.cons (.call "_law_named" (.cons (.idx (.loc 1) (.lit (.int (0)))) (.cons (.lit (.str "option")) .nil))) .nil)) (.lit (.int (0)))))
     (.ret (.tup (.cons (.lit (.str "op")) (.cons (.idx (.lst (.cons (.lit (.str "=")) (.cons (.lit (.str "<>")) .nil))) (.call "_law_draw" (.cons (.loc 0) (.cons (.lit (.int (2))) .nil)))) (.cons (.tup (.cons (.lit (.str "name")) (.cons (.call "_law_pick" (.cons (.loc 0) (.cons (.call "_law_named" (.cons (.idx (.loc 1) (.lit (.int (0)))) (.cons (.lit (.str "option")) .nil))) .nil))) .nil))) (.cons (.tup (.cons (.lit (.str "option")) (.cons (.idx (.lst (.cons (.lit (.str "a")) (.cons (.lit (.str "b")) .nil))) (.call "_law_draw" (.cons (.loc 0) (.cons (.lit (.int (2))) .nil)))) .nil))) .nil))))))
     .nop)
  (.seq
   (.ifs (.and (.cmp .eq (.loc 4) (.lit (.int (5)))) (.cmp .gt (.bif .len (.cons (.call "_law_named" (.cons (.idx (.loc 1) (.lit (.int (1)))) (.cons (.lit (.str "truth")) .nil))) .nil)) (.lit (.int (0)))))
     (.ret (.tup (.cons (.lit (.str "ask")) (.cons (.idx (.lst (.cons (.lit (.str "any")) (.cons (.lit (.str "all")) .nil))) (.call "_law_draw" (.cons (.loc 0) (.cons (.lit (.int (2))) .nil)))) (.cons (.call "_law_pick" (.cons (.loc 0) (.cons (.call "_law_named" (.cons (.idx (.loc 1) (.lit (.int (1)))) (.cons (.lit (.str "truth")) .nil))) .nil))) .nil)))))
     .nop)
  b_tail)))))))
theorem truth1 : b__law_truth = b_truth1 := rfl
theorem Dk.names : ∀ {ks : List (Kk × Val)}, Dk ks → ∃ xs : List Str, (ks.map fun kv => keyVal kv.1) = xs.map .str ∧ (∀ x ∈ xs, Sml x) ∧ xs.length = ks.length
  | [], _ => ⟨[], rfl, fun _ h => (by cases h), rfl⟩
  | p :: ks, K => by
    obtain ⟨s, k, rfl, hs⟩ := K.all p (List.mem_cons_self ..)
    obtain ⟨xs, e, hx, hl⟩ := Dk.names (ks := ks) ⟨fun q hq => K.all q (List.mem_cons_of_mem _ hq), by have := K.few; simp only [List.length_cons] at this; omega⟩
    refine ⟨s :: xs, by rw [List.map_cons, List.map_cons, e]; rfl, fun x hx' => ?_, by simp [hl]⟩
    rcases List.mem_cons.mp hx' with rfl | hx'
    · exact hs
    · exact hx x hx'
theorem r_lenD {h : Hh} {l : Nat} {ks : List (Kk × Val)} (e : h[l]? = some (.dct ks)) (K : Dk ks) : bifop .len [.ref l] h = .ok (.int ks.length) h := by simp [bifop, seqOf, dictOf, e, K.plain]
theorem r_listD {h : Hh} {l : Nat} {ks : List (Kk × Val)} (e : h[l]? = some (.dct ks)) (K : Dk ks) : bifop .list [.ref l] h = newOb (.lst (ks.map fun kv => keyVal kv.1)) h := by simp [bifop, Mi.listOf, seqOf, e, K.plain]
theorem T_tail (m : Nat) (k : Nat) {d wt : Nat} (hd : 1 ≤ d) (rec0 : ∃ w0, Drawn "_law_number" (m+2) 0 d w0 ∧ w0 + 2800 ≤ wt) (recT : ∀ j : Nat, k = j + 1 → ∃ w, Drawn "_law_truth" (m+2) j d w ∧ w + w + 600 ≤ wt) {h : Hh} {p d0 d1 ls : Nat} {b : Bool} {k0 k1 : List (Kk × Val)} {xs : List Str} (s : Sta h) (S : Sc h p d0 d1 ls b k0 k1 xs) (o : Option Val) (r : Int) :
    ∃ v h', ex (G.Γ (m+2)) b_tail [some (.ref 1), some (.ref p), some (.int k), o, some (.int r)] h = .ok (.rt v) h' ∧ Dat (d+1) wt v ∧ Nx h h' := by
  obtain ⟨w0, R0, hw0⟩ := rec0
  have cmpC : ∃ y q v h4 i h5 h6, callF G (m+2) (.fn "_law_draw") [.ref 1, .int 3] (h ++ [.lst [.str "<", .str ">=", .str "="]]) = .ok (.int q) h4 ∧ idxop (.ref h.length) (.int q) h4 = some (.str y) ∧ callF G (m+2) (.fn "_law_number") [.ref 1, .ref p, .int 0] h4 = .ok v h5 ∧ callF G (m+2) (.fn "_law_draw") [.ref 1, .int 5] h5 = .ok (.int i) h6 ∧ Dat (d+1) wt (.tup [.str "op", .str y, v, .tup [.str "number", .int i]]) ∧ Nx h h6 := by
    obtain ⟨y, q, h4, hy, e4, e5, n4⟩ := pickS (m+1) s ["<", ">=", "="] (by decide +kernel) (m := 3) (by decide) rfl
    obtain ⟨v, h5, e6, D, n5⟩ := R0 n4.sta (S.nx n4)
    have n45 := n4.trans n5
    obtain ⟨i, h6, e7, i0, i5, n6⟩ := S_draw (m+1) n45.sta (m := 5) (by decide)
    refine ⟨y, q, v, h4, i, h5, h6, e4, e5, e6, e7, ?_, n45.trans n6⟩
    refine (Dat.t4 (d := d) (.str (by decide +kernel)) (.str hy) D ((Dat.t2 (d := 0) (.str (by decide +kernel)) (.int (small_int i0 (by omega)))).mono hd (Nat.le_refl _))).mono (by omega) (by omega)
  by_cases ck : k = 0 ∨ r = 6
  · obtain ⟨y, q, v, h4, i, h5, h6, e4, e5, e6, e7, D, n6⟩ := cmpC
    refine ⟨_, h6, ?_, D, n6⟩
    by_cases c0 : k = 0
    · subst c0
      simp [b_tail, e4, e5, e6, e7]
    · have c6 : r = 6 := ck.resolve_left c0
      subst c6
      simp [b_tail, c0, e4, e5, e6, e7]
  · have c0 : ¬ k = 0 := fun e => ck (.inl e)
    have c6 : ¬ r = 6 := fun e => ck (.inr e)
    cases k with
    | zero => exact absurd rfl c0
    | succ j =>
      obtain ⟨w, R, hw⟩ := recT j rfl
      have ek : ((j + 1 : Nat) : Int) - 1 = (j : Int) := by omega
      have nk : ¬ ((j + 1 : Nat) : Int) = 0 := by omega
      generalize ((j + 1 : Nat) : Int) = kk at ek nk
      by_cases c7 : r = 7
      · obtain ⟨v, h2, e2, D, n2⟩ := R s S
        refine ⟨_, h2, ?_, (Dat.t2 (d := d) (.str (s := "not") (by decide +kernel)) D).mono (by omega) (by omega), n2⟩
        subst c7
        simp [b_tail, nk, ek, e2]
      · obtain ⟨y, q, h4, hy, e4, e5, n4⟩ := pickS (m+1) s ["and", "or"] (by decide +kernel) (m := 2) (by decide) rfl
        obtain ⟨v1, h5, e6, D1, n5⟩ := R n4.sta (S.nx n4)
        have n45 := n4.trans n5
        obtain ⟨v2, h6, e7, D2, n6⟩ := R n45.sta (S.nx n45)
        refine ⟨_, h6, ?_, (Dat.t4 (d := d) (.str (s := "op") (by decide +kernel)) (.str hy) D1 D2).mono (by omega) (by omega), n45.trans n6⟩
        simp only [List.map_cons, List.map_nil] at e4
        simp [b_tail, nk, ek, c6, c7, e4, e5, e6, e7]
/-- a truth of a scope -/
theorem T_step (m : Nat) (k : Nat) {d wt : Nat} (hd : 1 ≤ d) (rec0 : ∃ w0, Drawn "_law_number" (m+2) 0 d w0 ∧ w0 + 2800 ≤ wt) (recT : ∀ j : Nat, k = j + 1 → ∃ w, Drawn "_law_truth" (m+2) j d w ∧ w + w + 600 ≤ wt) : Drawn "_law_truth" (m+3) k (d+1) wt := by
  intro h p d0 d1 ls b k0 k1 xs s S
  have hwt : 2800 ≤ wt := let ⟨w0, _, q⟩ := rec0; by omega
  obtain ⟨zs, hz, fz, z⟩ := S_named (m+1) S.q0 "truth"
  obtain ⟨us, hu, fu, u⟩ := S_named (m+1) S.q0 "options"
  obtain ⟨ts, ht, ft, t⟩ := S_named (m+1) S.q0 "option"
  obtain ⟨ys, hy, fy, y⟩ := S_named (m+1) S.q1 "truth"
  obtain ⟨lz, h1, e1, z1, g1l, g1⟩ := z h d0 S.a0
  have n1 : Nx h h1 := .grow s g1
  have zl : 2 ≤ lz := Nat.le_trans s.len g1l
  obtain ⟨r, h2, e2, r0, r8, n2⟩ := S_draw (m+1) n1.sta (m := 9) (by decide)
  have n12 := n1.trans n2
  have S2 := S.nx n12
  have z2 := n2.keep _ _ zl z1
  have fin : ∀ h3, Nx h h3 → ∃ v h4, ex (G.Γ (m+2)) b_tail [some (.ref 1), some (.ref p), some (.int k), some (.ref lz), some (.int r)] h3 = .ok (.rt v) h4 ∧ Dat (d+1) wt v ∧ Nx h h4 := fun h3 n3 => by
    obtain ⟨v, h4, e, D, n4⟩ := T_tail m k hd rec0 recT n3.sta (S.nx n3) (some (.ref lz)) r
    exact ⟨v, h4, e, D, n3.trans n4⟩
  have f0 := S.at_
  have f2 := S2.at_
  rw [call_eq at__law_truth (by intro c; simp)]
  rw [show (⟨3, 5, b__law_truth⟩ : Fn) = ⟨3, 5, b_truth1⟩ from rfl]
  have hr : r = 0 ∨ r = 1 ∨ r = 2 ∨ r = 3 ∨ r = 4 ∨ r = 5 ∨ 6 ≤ r := by omega
  by_cases c0 : r < 2
  · by_cases hzs : 0 < zs.length
    · obtain ⟨x, h3, hx, e3, n3⟩ := S_pick m n12.sta zl z2 hzs
      refine ⟨.tup [.str "name", .str x], h3, ?_, (Dat.t2 (d := d) (.str (by decide +kernel)) (.str (hz x hx))).mono (by omega) (by omega), n12.trans n3⟩
      simp [b_truth1, r_idx f0, at0, e1, e2, c0, r_len z2, hzs, e3]
    · obtain ⟨q, h3, e3, D, n3⟩ := fin h2 n12
      have hr2 : r = 0 ∨ r = 1 := by omega
      refine ⟨_, h3, ?_, D, n3⟩
      rcases hr2 with rfl | rfl <;> simp [b_truth1, r_idx f0, at0, e1, e2, r_len z2, hzs, e3]
  rcases hr with rfl | rfl | rfl | rfl | rfl | rfl | r6
  · omega
  · omega
  · by_cases hks : 0 < k0.length
    · obtain ⟨ns, en, hn, ln⟩ := S.q0.names
      have n3 : Nx h (h2 ++ [.lst (ns.map .str)]) := n12.trans (.grow n12.sta .app)
      obtain ⟨x, h3, hx, e3, n4⟩ := S_pick m n3.sta n12.sta.len get_new (by omega)
      refine ⟨.tup [.str "ask", .str "answered", .str x], h3, ?_, (Dat.t3 (d := d) (.str (by decide +kernel)) (.str (by decide +kernel)) (.str (hn x hx))).mono (by omega) (by omega), n3.trans n4⟩
      have eL := r_listD S2.a0 S.q0
      rw [en, q73] at eL
      simp [b_truth1, r_idx f0, r_idx f2, at0, e1, e2, r_len z2, r_lenD S2.a0 S.q0, eL, hks, e3]
    · obtain ⟨q, h3, e3, D, n3⟩ := fin h2 n12
      refine ⟨_, h3, ?_, D, n3⟩
      simp [b_truth1, r_idx f0, r_idx f2, at0, e1, e2, r_len z2, r_lenD S2.a0 S.q0, hks, e3]
  · obtain ⟨lu, h3, e3, u3, _, g3⟩ := u h2 d0 S2.a0
    have n3 : Nx h h3 := n12.trans (.grow n12.sta g3)
    by_cases hus : 0 < us.length
    · have f3 := (S.nx n3).at_
      obtain ⟨lv, h5, e6, u5, l5, g5⟩ := u h3 d0 (S.nx n3).a0
      have n5 : Nx h h5 := n3.trans (.grow n3.sta g5)
      obtain ⟨x, h6, hx, e7, n6⟩ := S_pick m n5.sta (Nat.le_trans n3.sta.len l5) u5 hus
      have n56 := n5.trans n6
      obtain ⟨yy, q, h4, hyy, e4, e5, n4⟩ := pickS (m+1) n56.sta ["a", "b"] (by decide +kernel) (m := 2) (by decide) rfl
      refine ⟨.tup [.str "has", .str x, .str yy], h4, ?_, (Dat.t3 (d := d) (.str (by decide +kernel)) (.str (hu x hx)) (.str hyy)).mono (by omega) (by omega), n56.trans n4⟩
      simp only [List.map_cons, List.map_nil] at e4
      simp [b_truth1, r_idx f0, r_idx f2, r_idx f3, at0, at1, e1, e2, r_len z2, e3, hus, e4, e5, e6, e7, r_len u3]
    · obtain ⟨q, h4, e4, D, n4⟩ := fin _ n3
      refine ⟨_, h4, ?_, D, n4⟩
      simp [b_truth1, r_idx f0, r_idx f2, at0, at1, e1, e2, r_len z2, e3, hus, e4, r_len u3]
  · obtain ⟨lu, h3, e3, u3, _, g3⟩ := t h2 d0 S2.a0
    have n3 : Nx h h3 := n12.trans (.grow n12.sta g3)
    by_cases hus : 0 < ts.length
    · obtain ⟨y1, q1, h4, hy1, e4, e5, n4⟩ := pickS (m+1) n3.sta ["=", "<>"] (by decide +kernel) (m := 2) (by decide) rfl
      have n34 := n3.trans n4
      have f4 := (S.nx n34).at_
      obtain ⟨lv, h5, e6, u5, l5, g5⟩ := t h4 d0 (S.nx n34).a0
      have n5 : Nx h h5 := n34.trans (.grow n34.sta g5)
      obtain ⟨x, h6, hx, e7, n6⟩ := S_pick m n5.sta (Nat.le_trans n34.sta.len l5) u5 hus
      have n56 := n5.trans n6
      obtain ⟨yy, q, h7, hyy, e8, e9, n7⟩ := pickS (m+1) n56.sta ["a", "b"] (by decide +kernel) (m := 2) (by decide) rfl
      refine ⟨.tup [.str "op", .str y1, .tup [.str "name", .str x], .tup [.str "option", .str yy]], h7, ?_, (Dat.t4 (d := d) (.str (by decide +kernel)) (.str hy1) ((Dat.t2 (d := 0) (.str (by decide +kernel)) (.str (ht x hx))).mono hd (Nat.le_refl _)) ((Dat.t2 (d := 0) (.str (by decide +kernel)) (.str hyy)).mono hd (Nat.le_refl _))).mono (by omega) (by omega), n56.trans n7⟩
      simp only [List.map_cons, List.map_nil] at e4 e8
      simp [b_truth1, r_idx f0, r_idx f2, r_idx f4, at0, at1, e1, e2, r_len z2, e3, hus, e4, e5, e6, e7, e8, e9, r_len u3]
    · obtain ⟨q, h4, e4, D, n4⟩ := fin _ n3
      refine ⟨_, h4, ?_, D, n4⟩
      simp [b_truth1, r_idx f0, r_idx f2, at0, at1, e1, e2, r_len z2, e3, hus, e4, r_len u3]
  · obtain ⟨lu, h3, e3, u3, _, g3⟩ := y h2 d1 S2.a1
    have n3 : Nx h h3 := n12.trans (.grow n12.sta g3)
    by_cases hus : 0 < ys.length
    · obtain ⟨y1, q1, h4, hy1, e4, e5, n4⟩ := pickS (m+1) n3.sta ["any", "all"] (by decide +kernel) (m := 2) (by decide) rfl
      have n34 := n3.trans n4
      have f4 := (S.nx n34).at_
      obtain ⟨lv, h5, e6, u5, l5, g5⟩ := y h4 d1 (S.nx n34).a1
      have n5 : Nx h h5 := n34.trans (.grow n34.sta g5)
      obtain ⟨x, h6, hx, e7, n6⟩ := S_pick m n5.sta (Nat.le_trans n34.sta.len l5) u5 hus
      refine ⟨.tup [.str "ask", .str y1, .str x], h6, ?_, (Dat.t3 (d := d) (.str (by decide +kernel)) (.str hy1) (.str (hy x hx))).mono (by omega) (by omega), n5.trans n6⟩
      simp only [List.map_cons, List.map_nil] at e4
      simp [b_truth1, r_idx f0, r_idx f2, r_idx f4, at0, at1, e1, e2, r_len z2, e3, hus, e4, e5, e6, e7, r_len u3]
    · obtain ⟨q, h4, e4, D, n4⟩ := fin _ n3
      refine ⟨_, h4, ?_, D, n4⟩
      simp [b_truth1, r_idx f0, r_idx f2, at0, at1, e1, e2, r_len z2, e3, hus, e4, r_len u3]
  · obtain ⟨q, h3, e3, D, n3⟩ := fin h2 n12
    refine ⟨_, h3, ?_, D, n3⟩
    have c2 : ¬ r = 2 := by omega
    have c3 : ¬ r = 3 := by omega
    have c4 : ¬ r = 4 := by omega
    have c5 : ¬ r = 5 := by omega
    simp [b_truth1, r_idx f0, at0, e1, e2, r_len z2, c0, c2, c3, c4, c5, e3]
/-! ### all depths -/
theorem Drawn.mono {f : Str} {m : Nat} {k : Int} {d d' w w' : Nat} (D : Drawn f m k d w) (hd : d ≤ d') (hw : w ≤ w') : Drawn f m k d' w' := fun {h p d0 d1 ls b k0 k1 xs} s S => let ⟨v, h', e, p, n⟩ := D s S; ⟨v, h', e, p.mono hd hw, n⟩
theorem N0 (m) : Drawn "_law_number" (m+3) 0 1 2200 := N_step (d := 0) m 0 (by omega) (fun j h => by cases h) (fun j h => by cases h)
theorem N0' (m d) (hd : 1 ≤ d) : Drawn "_law_number" (m+3) 0 d 2200 := Drawn.mono (N0 m) hd (Nat.le_refl _)
theorem T0 (m) : Drawn "_law_truth" (m+4) 0 2 5000 := T_step (d := 1) (m+1) 0 (by omega) ⟨_, N0 m, by omega⟩ (fun j h => by cases h)
theorem N1 (m) : Drawn "_law_number" (m+5) 1 3 10000 := N_step (d := 2) (m+2) 1 (by omega) (fun j h => by cases h; exact ⟨_, N0' (m+1) 2 (by omega), by omega⟩) (fun j h => by cases h; exact ⟨_, _, N0' (m+1) 2 (by omega), T0 m, by omega⟩)
theorem T1 (m) : Drawn "_law_truth" (m+5) 1 3 10600 := T_step (d := 2) (m+2) 1 (by omega) ⟨_, N0' (m+1) 2 (by omega), by omega⟩ (fun j h => by cases h; exact ⟨_, T0 m, by omega⟩)
theorem N2 (m) : Drawn "_law_number" (m+6) 2 4 31000 := N_step (d := 3) (m+3) 2 (by omega) (fun j h => by cases h; exact ⟨_, N1 m, by omega⟩) (fun j h => by cases h; exact ⟨_, _, N1 m, T1 m, by omega⟩)
end K20

set_option maxHeartbeats 4000000
namespace K20
open Mi PySem
abbrev Dc (v : Val) : Prop := Dat 4 31000 v
def DrawnC (f : Str) (m : Nat) (P : Val → Prop) : Prop := ∀ {h : Hh} {p d0 d1 ls : Nat} {b : Bool} {k0 k1 : List (Kk × Val)} {xs : List Str}, Sta h → Sc h p d0 d1 ls b k0 k1 xs → ∃ v h', callF G m (.fn f) [.ref 1, .ref p] h = .ok v h' ∧ P v ∧ Nx h h'
abbrev De (v : Val) : Prop := Dat 3 10600 v
theorem S_cond (m) : DrawnC "_law_condition" (m+6) De := by
  intro h p d0 d1 ls b k0 k1 xs s S
  obtain ⟨r, h1, e1, r0, r8, n1⟩ := S_draw (m+4) s (m := 2) (by decide)
  rw [call_eq at__law_condition (by intro c; simp)]
  by_cases c0 : r = 0
  · refine ⟨.non, h1, ?_, Dat.non.mono (Nat.le_refl _) (by omega), n1⟩
    subst c0
    simp [b__law_condition, e1]
  · obtain ⟨v, h2, e2, D, n2⟩ := T1 m n1.sta (S.nx n1)
    refine ⟨v, h2, ?_, D, n1.trans n2⟩
    have e2 : callF G (m + 5) (.fn "_law_truth") [.ref 1, .ref p, .int 1] h1 = .ok v h2 := e2
    simp [b__law_condition, e1, c0, e2]
/-! ### kinds of questions -/
inductive Qk where
  | int (a b : Val) | text | ch (m : Bool) (os : List (Str × Val)) | tr
def opV (o : Str × Val) : Val := .tup [.str o.1, o.2]
def Qk.v : Qk → Val
  | .int a b => .tup [.str "integer", a, b]
  | .text => .tup [.str "text", .int 3]
  | .ch m os => .tup [.str (if m then "choices" else "choice"), .tup (os.map opV)]
  | .tr => .tup [.str "truth"]
def Qk.Good : Qk → Prop
  | .int a b => De a ∧ De b
  | .ch _ os => (∀ o ∈ os, Sml o.1 ∧ De o.2) ∧ os.length ≤ 3
  | _ => True
def b_bd : Sm := (.ifs (.cmp .eq (.call "_law_draw" (.cons (.loc 0) (.cons (.lit (.int (2))) .nil))) (.lit (.int (0))))
          (.sub (.loc 3) (.loc 4) (.call "_law_number" (.cons (.loc 0) (.cons (.loc 1) (.cons (.lit (.int (0))) .nil)))))
          .nop)
theorem bd_turn (m) {h : Hh} {p d0 d1 ls : Nat} {b : Bool} {k0 k1 : List (Kk × Val)} {xs : List Str} (s : Sta h) (S : Sc h p d0 d1 ls b k0 k1 xs) {l : Nat} {x y : Val} (hl : h[l]? = some (.lst [x, y])) (l2 : 2 ≤ l) (gx : De x) (gy : De y) {i : Int} (hi : i = 0 ∨ i = 1) {o2 o4 o5 : Option Val} :
    ∃ x' y' h2, Mi.forTurn (ex (G.Γ (m+3)) b_bd) (.nm 4) (.int i) [some (.ref 1), some (.ref p), o2, some (.ref l), o4, o5] h = .ok (.inl [some (.ref 1), some (.ref p), o2, some (.ref l), some (.int i), o5]) (h2.set l (.lst [x', y'])) ∧ De x' ∧ De y' ∧ Nx h h2 ∧ h2[l]? = some (.lst [x, y]) := by
  obtain ⟨r, h1, e1, r0, r8, n1⟩ := S_draw (m+2) s (m := 2) (by decide)
  by_cases c0 : r = 0
  · obtain ⟨v, h2, e2, D, n2⟩ := N0 m n1.sta (S.nx n1)
    have e2 : callF G (m + 3) (.fn "_law_number") [.ref 1, .ref p, .int 0] h1 = .ok v h2 := e2
    have D : De v := D.mono (by omega) (by omega)
    have n12 := n1.trans n2
    have hl2 := n12.keep _ _ l2 hl
    subst c0
    rcases hi with rfl | rfl
    · exact ⟨v, y, h2, by simp [Mi.forTurn, b_bd, e1, e2, r_sub hl2, L2.ixN], D, gy, n12, hl2⟩
    · exact ⟨x, v, h2, by simp [Mi.forTurn, b_bd, e1, e2, r_sub hl2, L2.ixN], gx, D, n12, hl2⟩
  · have hl2 := n1.keep _ _ l2 hl
    have hs : h1.set l (.lst [x, y]) = h1 := by
      apply List.ext_getElem?
      intro i
      by_cases hi : l = i
      · subst hi
        rw [List.getElem?_set_self (List.getElem?_eq_some_iff.mp hl2).1, hl2]
      · rw [List.getElem?_set_ne hi]
    refine ⟨x, y, h1, ?_, gx, gy, n1, hl2⟩
    rw [hs]
    simp [Mi.forTurn, b_bd, e1, c0]
theorem S_qk (m) : DrawnC "_law_question_kind" (m+7) (fun v => ∃ q : Qk, v = q.v ∧ q.Good) := by
  intro h p d0 d1 ls b k0 k1 xs s S
  obtain ⟨r, h1, e1, r0, r6, n1⟩ := S_draw (m+5) s (m := 6) (by decide)
  have S1 := S.nx n1
  rw [call_eq at__law_question_kind (by intro c; simp)]
  by_cases c2 : r < 2
  · have n2 : Nx h (h1 ++ [.lst [.non, .non]]) := n1.trans (.grow n1.sta .app)
    have dn : De .non := Dat.non.mono (Nat.le_refl _) (by omega)
    obtain ⟨x1, y1, h3, e3, gx1, gy1, n3, l3⟩ := bd_turn (m+3) n2.sta (S.nx n2) (get_new (h := h1) (o := .lst [.non, .non])) n1.sta.len dn dn (.inl rfl) (o2 := some (.int r)) (o4 := none) (o5 := none)
    have hb : h1.length < h3.length := (List.getElem?_eq_some_iff.mp l3).1
    have n3' : Nx h (h3.set h1.length (.lst [x1, y1])) := (n2.trans n3).put n1.len s.len
    obtain ⟨x2, y2, h4, e4, gx2, gy2, n4, l4⟩ := bd_turn (m+3) n3'.sta (S.nx n3') (l := h1.length) (List.getElem?_set_self hb) n1.sta.len gx1 gy1 (.inr rfl) (o2 := some (.int r)) (o4 := some (.int 0)) (o5 := none)
    have hb4 : h1.length < h4.length := (List.getElem?_eq_some_iff.mp l4).1
    have n4' : Nx h (h4.set h1.length (.lst [x2, y2])) := (n3'.trans n4).put n1.len s.len
    refine ⟨_, h4.set h1.length (.lst [x2, y2]), ?_, ⟨.int x2 y2, rfl, gx2, gy2⟩, n4'⟩
    have rg : rangeV 0 2 = [.int 0, .int 1] := rfl
    have r2 : rngOf (.int 0) (.int 2) = some (.fix [.int 0, .int 1]) := by
      rw [← rg]
      exact rng_lit 2 (by decide)
    have l5 : (h4.set h1.length (.lst [x2, y2]))[h1.length]? = some (.lst [x2, y2]) := List.getElem?_set_self hb4
    have ef : ex (G.Γ (m+6)) (.for_ (.nm 4) (.rng (.lit (.int 0)) (.lit (.int 2))) b_bd) [some (.ref 1), some (.ref p), some (.int r), some (.ref h1.length), none, none] (h1 ++ [.lst [.non, .non]]) = .ok (.nx [some (.ref 1), some (.ref p), some (.int r), some (.ref h1.length), some (.int 1), none]) (h4.set h1.length (.lst [x2, y2])) := by
      rw [w_for]
      simp only [v29, v0, Mi.R.bind_ok, r2, orBad_some, held_ok, walk_fix, walkF]
      rw [e3, Mi.R.bind_ok]
      simp only
      rw [e4]
      rfl
    simp only [b_bd] at ef
    simp [b__law_question_kind, e1, c2, ef, r_idx l5, at0, at1, Qk.v]
  by_cases c3 : r = 2
  · refine ⟨_, h1, ?_, ⟨.text, rfl, trivial⟩, n1⟩
    subst c3
    simp [b__law_question_kind, e1, Qk.v]
  by_cases c5 : r < 5
  · obtain ⟨v1, h2, e2, D1, n2⟩ := S_cond m n1.sta S1
    have n12 := n1.trans n2
    obtain ⟨v2, h3, e3, D2, n3⟩ := S_cond m n12.sta (S.nx n12)
    have n13 := n12.trans n3
    have n4 : Nx h (h3 ++ [.lst [.str "choice", .str "choices"]]) := n13.trans (.grow n13.sta .app)
    obtain ⟨q, h5, e5, q0, q2, n5⟩ := S_draw (m+5) n4.sta (m := 2) (by decide)
    have dn : De .non := Dat.non.mono (Nat.le_refl _) (by omega)
    have sa : Sml "a" := by decide +kernel
    have sb : Sml "b" := by decide +kernel
    have sc : Sml "c" := by decide +kernel
    have hq : q = 0 ∨ q = 1 := by omega
    have cc : ∃ os : List (Str × Val), Mi.cut [opV ("a", .non), opV ("b", v1), opV ("c", v2)] (some q) none = os.map opV ∧ (∀ o ∈ os, Sml o.1 ∧ De o.2) ∧ os.length ≤ 3 := by
      rcases hq with rfl | rfl
      · refine ⟨[("a", .non), ("b", v1), ("c", v2)], rfl, fun o ho => ?_, by simp⟩
        simp only [List.mem_cons, List.not_mem_nil, or_false] at ho
        rcases ho with rfl | rfl | rfl
        · exact ⟨sa, dn⟩
        · exact ⟨sb, D1⟩
        · exact ⟨sc, D2⟩
      · refine ⟨[("b", v1), ("c", v2)], rfl, fun o ho => ?_, by simp⟩
        simp only [List.mem_cons, List.not_mem_nil, or_false] at ho
        rcases ho with rfl | rfl
        · exact ⟨sb, D1⟩
        · exact ⟨sc, D2⟩
    obtain ⟨os, eo, go, lo⟩ := cc
    have eo : Mi.cut [.tup [.str "a", .non], .tup [.str "b", v1], .tup [.str "c", v2]] (some q) none = os.map opV := eo
    refine ⟨_, h5, ?_, ⟨.ch (r == 4) os, rfl, go, lo⟩, n4.trans n5⟩
    have hr : r = 3 ∨ r = 4 := by omega
    rcases hr with rfl | rfl
    · have bi : bifop .int [.bl false] (h3 ++ [.lst [.str "choice", .str "choices"]]) = .ok (.int 0) _ := rfl
      simp [b__law_question_kind, e1, e2, e3, e5, bi, r_idx (get_new (h := h3) (o := .lst [.str "choice", .str "choices"])), at0, at1, eo, Qk.v]
    · have bi : bifop .int [.bl true] (h3 ++ [.lst [.str "choice", .str "choices"]]) = .ok (.int 1) _ := rfl
      simp [b__law_question_kind, e1, e2, e3, e5, bi, r_idx (get_new (h := h3) (o := .lst [.str "choice", .str "choices"])), at0, at1, eo, Qk.v]
  · refine ⟨_, h1, ?_, ⟨.tr, rfl, trivial⟩, n1⟩
    have c2 : ¬ r < 2 := by omega
    simp [b__law_question_kind, e1, c2, c3, c5, Qk.v]
end K20

set_option maxHeartbeats 4000000
namespace K20
open Mi PySem
/-! ### fields -/
inductive Fd where
  | q (nm : Str) (c : Val) (k : Qk) (b : Bool) | f (nm : Str) (c e : Val) | r (nm : Str) (c e : Val) (b : Bool)
def Fd.v : Fd → Val
  | .q nm c k b => .tup [.str "question", .str nm, c, k.v, .bl b]
  | .f nm c e => .tup [.str "formula", .str nm, c, e]
  | .r nm c e b => .tup [.str "rule", .str nm, c, e, .str "no", .bl b]
def Fd.nm : Fd → Str
  | .q nm _ _ _ => nm
  | .f nm _ _ => nm
  | .r nm _ _ _ => nm
def Fd.Good : Fd → Prop
  | .q nm c k _ => Sml nm ∧ Dc c ∧ k.Good
  | .f nm c e => Sml nm ∧ Dc c ∧ Dc e
  | .r nm c e _ => Sml nm ∧ Dc c ∧ Dc e
def osV : Option Str → Val
  | none => .non
  | some s => .str s
def told : List (Kk × Val) := [(.inl (.inr "integer"), .str "number"), (.inl (.inr "text"), .str "text"), (.inl (.inr "choice"), .str "option"), (.inl (.inr "choices"), .str "options"), (.inl (.inr "truth"), .str "truth")]
def e_told : Ex := (.kv (.lit (.str "integer")) (.lit (.str "number")) (.kv (.lit (.str "text")) (.lit (.str "text")) (.kv (.lit (.str "choice")) (.lit (.str "option")) (.kv (.lit (.str "choices")) (.lit (.str "options")) (.kv (.lit (.str "truth")) (.lit (.str "truth")) .nil)))))
theorem told_ev (n) (ρ : Mi.En) (h : Hh) : evd (G.Γ n) e_told ρ [] h = .ok (.ref h.length) (h ++ [.dct told]) := by kernel_rfl
theorem told_one (x : L2.Key) : oneKind (.inl x) told = true := rfl
theorem told_at {h : Hh} (q : Qk) : ∃ s k : Str, ∃ vs, q.v = .tup (.str s :: vs) ∧ idxop (.ref h.length) (.str s) (h ++ [.dct told]) = some (.str k) := by
  have go : ∀ s k : Str, dget told (.inl (.inr s)) = some (.str k) → idxop (.ref h.length) (.str s) (h ++ [.dct told]) = some (.str k) := fun s k e => by
    rw [r_idd get_new (kk := .inl (.inr s)) rfl (told_one _), e]
  cases q with
  | int a b => exact ⟨_, _, _, rfl, go "integer" "number" (by kernel_rfl)⟩
  | text => exact ⟨_, _, _, rfl, go "text" "text" (by kernel_rfl)⟩
  | ch m os =>
    cases m with
    | false => exact ⟨_, _, _, rfl, go "choice" "option" (by kernel_rfl)⟩
    | true => exact ⟨_, _, _, rfl, go "choices" "options" (by kernel_rfl)⟩
  | tr => exact ⟨_, _, _, rfl, go "truth" "truth" (by kernel_rfl)⟩
theorem S_field (m) {h : Hh} {p d0 d1 ls : Nat} {b : Bool} {k0 k1 : List (Kk × Val)} {xs : List Str} (s : Sta h) (S : Sc h p d0 d1 ls b k0 k1 xs) {nm : Str} (hn : Sml nm) :
    ∃ F kd h', callF G (m+8) (.fn "_law_field") [.ref 1, .str nm, .ref p] h = .ok (.tup [Fd.v F, osV kd]) h' ∧ F.Good ∧ F.nm = nm ∧ Nx h h' := by
  obtain ⟨r, h1, e1, r0, r6, n1⟩ := S_draw (m+6) s (m := 6) (by decide)
  obtain ⟨c, h2, e2, Dcc, n2⟩ := S_cond (m+1) n1.sta (S.nx n1)
  have n12 := n1.trans n2
  have S2 := S.nx n12
  have Dcc : Dc c := Dat.mono Dcc (by omega) (by omega)
  rw [call_eq at__law_field (by intro c; simp)]
  by_cases c0 : r = 0
  · obtain ⟨v, h3, e3, D, n3⟩ := T1 (m+2) n12.sta S2
    have n13 := n12.trans n3
    have e3 : callF G (m + 7) (.fn "_law_truth") [.ref 1, .ref p, .int 1] h2 = .ok v h3 := e3
    obtain ⟨q, h4, e4, q0, q2, n4⟩ := S_draw (m+6) n13.sta (m := 2) (by decide)
    refine ⟨.r nm c v (q == 0), none, h4, ?_, ⟨hn, Dcc, D.mono (by omega) (by omega)⟩, rfl, n13.trans n4⟩
    subst c0
    simp [b__law_field, e1, e2, e3, e4, Fd.v, osV]
  by_cases c1 : r = 1
  · obtain ⟨v, h3, e3, D, n3⟩ := N2 (m+1) n12.sta S2
    have e3 : callF G (m + 7) (.fn "_law_number") [.ref 1, .ref p, .int 2] h2 = .ok v h3 := e3
    refine ⟨.f nm c v, some "number", h3, ?_, ⟨hn, Dcc, D⟩, rfl, n12.trans n3⟩
    subst c1
    simp [b__law_field, e1, e2, e3, Fd.v, osV]
  by_cases c2 : r = 2
  · obtain ⟨v, h3, e3, D, n3⟩ := T1 (m+2) n12.sta S2
    have e3 : callF G (m + 7) (.fn "_law_truth") [.ref 1, .ref p, .int 1] h2 = .ok v h3 := e3
    refine ⟨.f nm c v, some "truth", h3, ?_, ⟨hn, Dcc, D.mono (by omega) (by omega)⟩, rfl, n12.trans n3⟩
    subst c2
    simp [b__law_field, e1, e2, e3, Fd.v, osV]
  · obtain ⟨v, h3, e3, ⟨q, rfl, gq⟩, n3⟩ := S_qk m n12.sta S2
    have n13 := n12.trans n3
    obtain ⟨ss, k, vs, eq, ek⟩ := told_at (h := h3) q
    have n4 : Nx h (h3 ++ [.dct told]) := n13.trans (.grow n13.sta .app)
    obtain ⟨i, h4, e4, i0, i2, n5⟩ := S_draw (m+6) n4.sta (m := 2) (by decide)
    refine ⟨.q nm c q (i == 0), some k, h4, ?_, ⟨hn, Dcc, gq⟩, rfl, n4.trans n5⟩
    have et := told_ev (m+7) [some (Val.ref 1), some (Val.str nm), some (Val.ref p), some (Val.int r), some c, some q.v, none] h3
    simp only [e_told] at et
    have e0 : L2.atI (.str ss :: vs) 0 = some (.str ss) := at0
    simp only [Fd.v, osV]
    rw [eq] at e3 et ⊢
    simp [-v27, b__law_field, e1, e2, e3, c0, c1, c2, et, e0, ek, e4]
end K20

set_option maxHeartbeats 4000000
namespace K20
open Mi PySem
/-! ### forms -/
def b_in : Sm :=
  (.seq
         (.asg (.nm 11) (.bin .add (.lit (.str "f")) (.bif .str (.cons (.loc 3) .nil))))
        (.seq
         (.asg (.nm 3) (.bin .add (.loc 3) (.lit (.int (1)))))
        (.seq
         (.asg (.cons (.nm 12) (.cons (.nm 13) .nil)) (.call "_law_field" (.cons (.loc 0) (.cons (.loc 11) (.cons (.loc 7) .nil)))))
        (.seq
         (.exp (.bmt .append (.loc 8) (.cons (.loc 12) .nil)))
        (.ifs (.cmp .isn (.loc 13) (.lit (.non)))
          (.seq
           (.sub (.idx (.loc 7) (.lit (.int (0)))) (.loc 11) (.loc 13))
          (.sub (.loc 9) (.loc 11) (.loc 13)))
          .nop)))))
def b_out : Sm :=
  (.seq
      (.asg (.nm 5) (.idx (.lst (.cons (.lit (.int (0))) (.cons (.bin .add (.lit (.int (1))) (.call "_law_draw" (.cons (.loc 0) (.cons (.lit (.int (3))) .nil)))) .nil))) (.bif .int (.cons (.cmp .lt (.call "_law_draw" (.cons (.loc 0) (.cons (.lit (.int (3))) .nil))) (.bin .add (.lit (.int (1))) (.bif .int (.cons (.cmp .eq (.loc 4) (.lit (.int (1)))) .nil)))) .nil))))
     (.seq
      (.asg (.nm 6) (.idx (.lst (.cons (.lit (.non)) (.cons (.lit (.non)) (.cons (.call "_law_condition" (.cons (.loc 0) (.cons (.loc 1) .nil))) .nil)))) (.call "_law_draw" (.cons (.loc 0) (.cons (.lit (.int (3))) .nil)))))
     (.seq
      (.asg (.nm 7) (.lst (.cons (.bif .dict (.cons (.idx (.loc 1) (.lit (.int (0)))) .nil)) (.cons (.idx (.loc 1) (.lit (.int (1)))) (.cons (.idx (.loc 1) (.lit (.int (2)))) (.cons (.cmp .gt (.loc 5) (.lit (.int (0)))) .nil))))))
     (.seq
      (.asg (.nm 8) (.lst .nil))
     (.seq
      (.asg (.nm 9) (.dct .nil))
     (.seq
      (.for_ (.nm 10) (.rng (.lit (.int (0))) (.bin .add (.lit (.int (1))) (.call "_law_draw" (.cons (.loc 0) (.cons (.lit (.int (3))) .nil)))))
        b_in)
     (.seq
      (.asg (.nm 14) (.idx (.lst (.cons (.lit (.str "main")) (.cons (.lit (.str "kid")) (.cons (.lit (.str "end")) .nil)))) (.bif .int (.cons (.loc 4) .nil))))
     (.seq
      (.exp (.bmt .append (.loc 2) (.cons (.tup (.cons (.loc 14) (.cons (.loc 6) (.cons (.loc 5) (.cons (.bif .tuple (.cons (.loc 8) .nil)) .nil))))) .nil)))
     (.ifs (.cmp .gt (.loc 5) (.lit (.int (0))))
       (.asg (.nm 1) (.lst (.cons (.idx (.loc 1) (.lit (.int (0)))) (.cons (.bif .dict (.cons (.bin .add (.itm (.idx (.loc 1) (.lit (.int (1))))) (.itm (.loc 9))) .nil)) (.cons (.bin .add (.idx (.loc 1) (.lit (.int (2)))) (.lst (.cons (.loc 14) .nil))) (.cons (.lit (.bl false)) .nil))))))
       (.asg (.nm 1) (.lst (.cons (.bif .dict (.cons (.bin .add (.itm (.idx (.loc 1) (.lit (.int (0))))) (.itm (.loc 9))) .nil)) (.cons (.idx (.loc 1) (.lit (.int (1)))) (.cons (.idx (.loc 1) (.lit (.int (2)))) (.cons (.lit (.bl false)) .nil)))))))))))))))
theorem form_body : b__law_form =   (.seq
   (.asg (.nm 1) (.lst (.cons (.dct .nil) (.cons (.dct .nil) (.cons (.lst .nil) (.cons (.lit (.bl false)) .nil))))))
  (.seq
   (.asg (.nm 2) (.lst .nil))
  (.seq
   (.asg (.nm 3) (.lit (.int (0))))
  (.seq
   (.for_ (.nm 4) (.rng (.lit (.int (0))) (.bin .add (.lit (.int (1))) (.call "_law_draw" (.cons (.loc 0) (.cons (.lit (.int (3))) .nil)))))
     b_out)
  (.ret (.bif .tuple (.cons (.loc 2) .nil))))))) := rfl
theorem Dk.put {ks : List (Kk × Val)} (K : Dk ks) {nm k : Str} (hn : Sml nm) (hl : ks.length + 1 < 1000) : Dk (dput ks (.inl (.inr nm)) (.str k)) := ⟨fun p hp => by
  rcases mem_dput hp with hp | rfl
  · exact K.all p hp
  · exact ⟨nm, k, rfl, hn⟩, Nat.lt_of_le_of_lt (dput_len _ _ _) hl⟩
abbrev EF (p : Nat) (lf0 : Nat) (c : Int) (o4 o5 o6 o7 o8 o9 o10 o11 o12 o13 o14 : Option Val) : Mi.En := [some (.ref 1), some (.ref p), some (.ref lf0), some (.int c), o4, o5, o6, o7, o8, o9, o10, o11, o12, o13, o14]
structure InP (h : Hh) (pi i0 d1 ls lf lo : Nat) : Prop where
  a : h.length ≤ i0
  b : i0 < pi
  c : pi < lf
  d : lf < lo
  e : d1 < h.length
  f : ls < h.length
  g : 2 ≤ h.length
structure InS (h h' : Hh) (pi i0 d1 ls lf lo : Nat) (b : Bool) (k1 : List (Kk × Val)) (xs : List Str) (K i : Nat) : Prop where
  ex : ∃ (ki ko : List (Kk × Val)) (Fs : List Fd), Sc h' pi i0 d1 ls b ki k1 xs ∧ h'[lf]? = some (.lst (Fs.map Fd.v)) ∧ h'[lo]? = some (.dct ko) ∧ Dk ko ∧ (∀ F ∈ Fs, F.Good) ∧ Fs.length = i ∧ ki.length ≤ K + i ∧ ko.length ≤ i
  nx : Nx h h'
theorem fname (n : Nat) (c : Nat) (hc : c ≤ 8) (h : Hh) : ∃ s : Str, Sml s ∧ ∀ (ρ : Mi.En), ρ.get? 3 = some (.int (c : Int)) → ev (G.Γ n) (.bin .add (.lit (.str "f")) (.bif .str (.cons (.loc 3) .nil))) ρ h = .ok (.str s) h := by
  have go : ∀ (i : Int) (s t : Str), bifop .str [.int i] h = .ok (.str t) h → binop .add (.str "f") (.str t) h = .ok (.str s) h → ∀ (ρ : Mi.En), ρ.get? 3 = some (.int i) → ev (G.Γ n) (.bin .add (.lit (.str "f")) (.bif .str (.cons (.loc 3) .nil))) ρ h = .ok (.str s) h := fun i s t e1 e2 ρ e3 => by
    simp only [v6, v0, Mi.R.bind_ok, v21, v25, v24, v1, e3, orBad_some, e1, e2]
  have : c = 0 ∨ c = 1 ∨ c = 2 ∨ c = 3 ∨ c = 4 ∨ c = 5 ∨ c = 6 ∨ c = 7 ∨ c = 8 := by omega
  rcases this with rfl | rfl | rfl | rfl | rfl | rfl | rfl | rfl | rfl
  · exact ⟨"f0", by decide +kernel, go _ _ "0" (by kernel_rfl) (by kernel_rfl)⟩
  · exact ⟨"f1", by decide +kernel, go _ _ "1" (by kernel_rfl) (by kernel_rfl)⟩
  · exact ⟨"f2", by decide +kernel, go _ _ "2" (by kernel_rfl) (by kernel_rfl)⟩
  · exact ⟨"f3", by decide +kernel, go _ _ "3" (by kernel_rfl) (by kernel_rfl)⟩
  · exact ⟨"f4", by decide +kernel, go _ _ "4" (by kernel_rfl) (by kernel_rfl)⟩
  · exact ⟨"f5", by decide +kernel, go _ _ "5" (by kernel_rfl) (by kernel_rfl)⟩
  · exact ⟨"f6", by decide +kernel, go _ _ "6" (by kernel_rfl) (by kernel_rfl)⟩
  · exact ⟨"f7", by decide +kernel, go _ _ "7" (by kernel_rfl) (by kernel_rfl)⟩
  · exact ⟨"f8", by decide +kernel, go _ _ "8" (by kernel_rfl) (by kernel_rfl)⟩
theorem add1 (n) (ρ : Mi.En) (h : Hh) : ev (G.Γ n) (.bin .add (.loc 3) (.lit (.int 1))) ρ h = orBad (ρ.get? 3) fun x => binop .add x (.int 1) h := by
  simp only [v6, v1, v0]
  cases ρ.get? 3 <;> rfl
section
variable {h h' : Hh} {p pi i0 d1 ls lf lo lf0 : Nat} {b : Bool} {k1 : List (Kk × Val)} {xs : List Str} {o4 o5 o6 o10 o11 o12 o13 o14 : Option Val}
theorem in_turn (m : Nat) {K i c : Nat} (P : InP h pi i0 d1 ls lf lo) (I : InS h h' pi i0 d1 ls lf lo b k1 xs K i) (hi : i ≤ 2) (hK : K ≤ 100) (hc : c ≤ 8) (x : Val) :
    ∃ p11 p12 p13 h2, Mi.forTurn (ex (G.Γ (m+8)) b_in) (.nm 10) x (EF p lf0 c o4 o5 o6 (some (.ref pi)) (some (.ref lf)) (some (.ref lo)) o10 o11 o12 o13 o14) h' = .ok (.inl (EF p lf0 ((c + 1 : Nat) : Int) o4 o5 o6 (some (.ref pi)) (some (.ref lf)) (some (.ref lo)) (some x) p11 p12 p13 o14)) h2 ∧ InS h h2 pi i0 d1 ls lf lo b k1 xs K (i + 1) := by
  obtain ⟨⟨ki, ko, Fs, S, f1, f2, K2, gF, lF, lki, lko⟩, nx⟩ := I
  obtain ⟨Pa, Pb, Pc, Pd, Pe, Pf, Pg⟩ := P
  obtain ⟨nm, hn, en⟩ := fname (m+8) c hc h'
  obtain ⟨F, kd, h1, e1, gF1, _, n1⟩ := S_field m nx.sta S hn
  have en1 := en (EF p lf0 c o4 o5 o6 (some (.ref pi)) (some (.ref lf)) (some (.ref lo)) (some x) o11 o12 o13 o14) rfl
  have g1 := n1.keep _ _ (by omega) f1
  have g2 := n1.keep _ _ (by omega) f2
  have S1 := S.nx n1
  have nx1 := nx.trans n1
  have b1 : lf < h1.length := (List.getElem?_eq_some_iff.mp g1).1
  have b2 : lo < h1.length := (List.getElem?_eq_some_iff.mp g2).1
  have nx2 : Nx h (h1.set lf (.lst ((Fs ++ [F]).map Fd.v))) := nx1.put (by omega) Pg
  have S2 : Sc (h1.set lf (.lst ((Fs ++ [F]).map Fd.v))) pi i0 d1 ls b ki k1 xs := { S1 with
    at_ := by rw [List.getElem?_set_ne (by omega)]; exact S1.at_
    a0 := by rw [List.getElem?_set_ne (by omega)]; exact S1.a0
    a1 := by rw [List.getElem?_set_ne (by omega)]; exact S1.a1
    al := by rw [List.getElem?_set_ne (by omega)]; exact S1.al }
  have fl : (Fs.map Fd.v).length < sizeLine := few_line (by rw [List.length_map]; omega)
  have gA : ∀ G ∈ Fs ++ [F], G.Good := fun G hG => by
    rcases List.mem_append.mp hG with hG | hG
    · exact gF G hG
    · rw [List.mem_singleton.mp hG]; exact gF1
  have lfl : (h1.set lf (.lst ((Fs ++ [F]).map Fd.v)))[lf]? = some (.lst ((Fs ++ [F]).map Fd.v)) := List.getElem?_set_self b1
  have lol : (h1.set lf (.lst ((Fs ++ [F]).map Fd.v)))[lo]? = some (.dct ko) := by rw [List.getElem?_set_ne (by omega)]; exact g2
  have ec : (c : Int) + 1 = ((c + 1 : Nat) : Int) := by omega
  have f4 : h1.set lf (.lst (List.map Fd.v Fs ++ [F.v])) = h1.set lf (.lst ((Fs ++ [F]).map Fd.v)) := by rw [List.map_append]; rfl
  have fl' : Fs.length < sizeLine := few_line (by omega)
  generalize hH : h1.set lf (.lst ((Fs ++ [F]).map Fd.v)) = H at nx2 S2 lfl lol f4
  have bL : H.length = h1.length := by rw [← hH, List.length_set]
  cases kd with
  | none =>
    refine ⟨some (.str nm), some F.v, some .non, H, ?_, ⟨⟨ki, ko, Fs ++ [F], S2, lfl, lol, K2, gA, by simp [lF], by omega, by omega⟩, nx2⟩⟩
    simp [-v6, add1, tupOf, Mi.forTurn, b_in, en1, e1, osV, r_lst g1, fl', f4]

  | some kd =>
    have bi : i0 < H.length := by rw [bL]; omega
    have hp2 : (H.set i0 (.dct (dput ki (.inl (.inr nm)) (.str kd))))[lo]? = some (.dct ko) := by rw [List.getElem?_set_ne (by omega)]; exact lol
    have nx3 : Nx h ((H.set i0 (.dct (dput ki (.inl (.inr nm)) (.str kd)))).set lo (.dct (dput ko (.inl (.inr nm)) (.str kd)))) := (nx2.put (by omega) Pg).put (by omega) Pg
    refine ⟨some (.str nm), some F.v, some (.str kd), _, ?_, ⟨⟨dput ki (.inl (.inr nm)) (.str kd), dput ko (.inl (.inr nm)) (.str kd), Fs ++ [F], { S2 with
        at_ := by rw [List.getElem?_set_ne (by omega), List.getElem?_set_ne (by omega)]; exact S2.at_
        a0 := by rw [List.getElem?_set_ne (by omega)]; exact List.getElem?_set_self bi
        a1 := by rw [List.getElem?_set_ne (by omega), List.getElem?_set_ne (by omega)]; exact S2.a1
        al := by rw [List.getElem?_set_ne (by omega), List.getElem?_set_ne (by omega)]; exact S2.al
        q0 := S2.q0.put hn (by omega) }, by rw [List.getElem?_set_ne (by omega), List.getElem?_set_ne (by omega)]; exact lfl, List.getElem?_set_self (by rw [List.length_set, bL]; exact b2), K2.put hn (by omega), gA, by simp [lF], by have := dput_len ki (.inl (.inr nm)) (.str kd); omega, by have := dput_len ko (.inl (.inr nm)) (.str kd); omega⟩, nx3⟩⟩
    have q1 := r_put (u := .str nm) (v := .str kd) (kk := .inl (.inr nm)) S2.a0 rfl
    have q2 := r_put (u := .str nm) (v := .str kd) (kk := .inl (.inr nm)) hp2 rfl
    have l1 : ki.length < sizeLine := few_line (by omega)
    have l2 : ko.length < sizeLine := few_line (by omega)
    simp [-v6, add1, tupOf, Mi.forTurn, b_in, en1, e1, osV, r_lst g1, fl', f4, r_idx S2.at_, at0, q1, q2, S2.q0.one, K2.one, l1, l2]

end
end K20

set_option maxHeartbeats 4000000
namespace K20
open Mi PySem
section
variable {h h' : Hh} {p pi i0 d1 ls lf lo lf0 : Nat} {b : Bool} {k1 : List (Kk × Val)} {xs : List Str} {o4 o5 o6 o10 o11 o12 o13 o14 : Option Val}
theorem in_loop (m : Nat) {K c n : Nat} (P : InP h pi i0 d1 ls lf lo) (I : InS h h' pi i0 d1 ls lf lo b k1 xs K 0) (hK : K ≤ 100) (hc : c ≤ 6) (hn : n ≤ 3) :
    ∃ p10 p11 p12 p13 h2, walkF (Mi.forTurn (ex (G.Γ (m+8)) b_in) (.nm 10)) (rangeV 0 n) (EF p lf0 c o4 o5 o6 (some (.ref pi)) (some (.ref lf)) (some (.ref lo)) o10 o11 o12 o13 o14) h' = .ok (.inl (EF p lf0 ((c + n : Nat) : Int) o4 o5 o6 (some (.ref pi)) (some (.ref lf)) (some (.ref lo)) p10 p11 p12 p13 o14)) h2 ∧ InS h h2 pi i0 d1 ls lf lo b k1 xs K n := by
  have q := walkF_inv (f := Mi.forTurn (ex (G.Γ (m+8)) b_in) (.nm 10)) (xs := rangeV 0 n) (a := EF p lf0 c o4 o5 o6 (some (.ref pi)) (some (.ref lf)) (some (.ref lo)) o10 o11 o12 o13 o14) (h := h')
    (Q := fun r h2 => ∃ p10 p11 p12 p13, r = .inl (EF p lf0 ((c + n : Nat) : Int) o4 o5 o6 (some (.ref pi)) (some (.ref lf)) (some (.ref lo)) p10 p11 p12 p13 o14) ∧ InS h h2 pi i0 d1 ls lf lo b k1 xs K n)
    (fun i ρ h2 => ∃ p10 p11 p12 p13, ρ = EF p lf0 ((c + i : Nat) : Int) o4 o5 o6 (some (.ref pi)) (some (.ref lf)) (some (.ref lo)) p10 p11 p12 p13 o14 ∧ InS h h2 pi i0 d1 ls lf lo b k1 xs K i)
    ⟨o10, o11, o12, o13, rfl, I⟩
    (by
      rintro i x ρ h2 hx ⟨p10, p11, p12, p13, rfl, I2⟩
      obtain ⟨rfl, hi⟩ := rng_ints hx
      obtain ⟨q11, q12, q13, h3, e, I3⟩ := in_turn m (p := p) (lf0 := lf0) (o4 := o4) (o5 := o5) (o6 := o6) (o10 := p10) (o11 := p11) (o12 := p12) (o13 := p13) (o14 := o14) P I2 (by omega) hK (c := c + i) (by omega) (.int (0 + (i : Nat)))
      rw [e]
      exact ⟨_, q11, q12, q13, rfl, I3⟩)
    (by
      rintro ρ h2 ⟨p10, p11, p12, p13, rfl, I2⟩
      have hl : (rangeV 0 n).length = n := by simp [rangeV]
      rw [hl] at I2 ⊢
      exact ⟨p10, p11, p12, p13, rfl, I2⟩)
  obtain ⟨r, h2, e, p10, p11, p12, p13, rfl, I2⟩ := q.get
  exact ⟨p10, p11, p12, p13, h2, e, I2⟩
end
/-! ### dicts put together -/
theorem v_itm {Γ : Cxt} {ρ : Mi.En} {h : Hh} {a : Ex} : ev Γ (.itm a) ρ h = (ev Γ a ρ h).bind fun x h => orBad (plOf h x) fun p => newOb (.lst (itmOf p.2)) h := by simp only [ev]
theorem Dk.pl {h : Hh} {l : Nat} {ks : List (Kk × Val)} (K : Dk ks) (e : h[l]? = some (.dct ks)) : plOf h (.ref l) = some (l, ks) := by simp [plOf, e, K.plain]
theorem Dk.app {ks kr : List (Kk × Val)} (K : Dk ks) (R : Dk kr) (hl : ks.length + kr.length < 1000) : Dk (ks ++ kr) := ⟨fun p hp => by
  rcases List.mem_append.mp hp with hp | hp
  · exact K.all p hp
  · exact R.all p hp, by rw [List.length_append]; exact hl⟩
theorem Dk.pairs : ∀ {ks : List (Kk × Val)}, Dk ks → pairsOf (itmOf ks) = some ks
  | [], _ => rfl
  | p :: ks, K => by
    obtain ⟨s, k, rfl, _⟩ := K.all p (List.mem_cons_self ..)
    have ih := Dk.pairs (ks := ks) ⟨fun q hq => K.all q (List.mem_cons_of_mem _ hq), by have := K.few; simp only [List.length_cons] at this; omega⟩
    show pairsOf (.tup [.str s, .str k] :: itmOf ks) = _
    simp only [pairsOf, toKey, ih]
theorem merge_dk : ∀ {ks acc : List (Kk × Val)}, Dk ks → (∀ p ∈ acc, ∃ s k : Str, p = (.inl (.inr s), .str k) ∧ Sml s) → (∀ p ∈ mergeD acc ks, ∃ s k : Str, p = (.inl (.inr s), .str k) ∧ Sml s) ∧ (mergeD acc ks).length ≤ acc.length + ks.length
  | [], acc, _, h => ⟨h, Nat.le_refl _⟩
  | p :: ks, acc, K, h => by
    obtain ⟨s, k, rfl, hs⟩ := K.all p (List.mem_cons_self ..)
    obtain ⟨a, b⟩ := merge_dk (ks := ks) (acc := dput acc (.inl (.inr s)) (.str k)) ⟨fun q hq => K.all q (List.mem_cons_of_mem _ hq), by have := K.few; simp only [List.length_cons] at this; omega⟩ (fun q hq => by
      rcases mem_dput hq with hq | rfl
      · exact h q hq
      · exact ⟨s, k, rfl, hs⟩)
    refine ⟨a, ?_⟩
    have := dput_len acc (.inl (.inr s)) (.str k)
    simp only [mergeD, List.foldl_cons, List.length_cons] at b ⊢
    omega
theorem ev_dd {Γ : Cxt} {ρ : Mi.En} {H : Hh} {a b : Ex} {l1 l2 : Nat} {ks kr : List (Kk × Val)} (ea : ∀ h, Grow H h → ev Γ a ρ h = .ok (.ref l1) h) (eb : ∀ h, Grow H h → ev Γ b ρ h = .ok (.ref l2) h) (h1 : H[l1]? = some (.dct ks)) (h2 : H[l2]? = some (.dct kr)) (K : Dk ks) (R : Dk kr) (hl : ks.length + kr.length < 1000) :
    ∃ H' kz, ev Γ (.bif .dict (.cons (.bin .add (.itm a) (.itm b)) .nil)) ρ H = .ok (.ref H'.length) (H' ++ [.dct kz]) ∧ Grow H H' ∧ Dk kz ∧ kz.length ≤ ks.length + kr.length := by
  have A := K.app R hl
  obtain ⟨m1, m2⟩ := merge_dk (acc := []) A (fun p hp => by cases hp)
  have g1 : Grow H (H ++ [.lst (itmOf ks)]) := .app
  have g2 : Grow H ((H ++ [.lst (itmOf ks)]) ++ [.lst (itmOf kr)]) := g1.trans .app
  have g3 : Grow H (((H ++ [.lst (itmOf ks)]) ++ [.lst (itmOf kr)]) ++ [.lst (itmOf ks ++ itmOf kr)]) := g2.trans .app
  have eA : itmOf ks ++ itmOf kr = itmOf (ks ++ kr) := by simp [itmOf]
  have f1 : ((H ++ [.lst (itmOf ks)]) ++ [.lst (itmOf kr)])[H.length]? = some (.lst (itmOf ks)) := Grow.get .app get_new
  have f2 : ((H ++ [.lst (itmOf ks)]) ++ [.lst (itmOf kr)])[(H ++ [Ob.lst (itmOf ks)]).length]? = some (.lst (itmOf kr)) := get_new
  have len : (itmOf ks).length + (itmOf kr).length ≤ sizeLine := by
    simp only [itmOf, List.length_map]
    exact Nat.le_of_lt (few_line hl)
  have Kz : Dk (mergeD [] (ks ++ kr)) := ⟨m1, by have := m2; simp only [List.length_nil, List.length_append] at this; omega⟩
  refine ⟨_, mergeD [] (ks ++ kr), ?_, g3, Kz, by simpa using m2⟩
  have d3 : dictOf (((H ++ [.lst (itmOf ks)]) ++ [.lst (itmOf kr)]) ++ [.lst (itmOf ks ++ itmOf kr)]) (.ref ((H ++ [Ob.lst (itmOf ks)]) ++ [Ob.lst (itmOf kr)]).length) = none := by
    simp only [dictOf, get_new]
  have d4 := r_lseq (get_new (h := (H ++ [.lst (itmOf ks)]) ++ [.lst (itmOf kr)]) (o := .lst (itmOf ks ++ itmOf kr)))
  have e4 : bifop .dict [.ref ((H ++ [Ob.lst (itmOf ks)]) ++ [Ob.lst (itmOf kr)]).length] (((H ++ [.lst (itmOf ks)]) ++ [.lst (itmOf kr)]) ++ [.lst (itmOf ks ++ itmOf kr)]) = newOb (.dct (mergeD [] (ks ++ kr))) (((H ++ [.lst (itmOf ks)]) ++ [.lst (itmOf kr)]) ++ [.lst (itmOf ks ++ itmOf kr)]) := by
    simp only [bifop, d3, d4, orBad_some]
    rw [eA, A.pairs]
    simp only [orBad_some, A.plain, okIf_true]
  have b1 : binop .add (.ref H.length) (.ref (H ++ [Ob.lst (itmOf ks)]).length) ((H ++ [.lst (itmOf ks)]) ++ [.lst (itmOf kr)]) = newOb (.lst (itmOf ks ++ itmOf kr)) ((H ++ [.lst (itmOf ks)]) ++ [.lst (itmOf kr)]) := by
    simp only [binop, r_lst f1, r_lst f2, orBad_some, decide_eq_true len, okIf_true]
  rw [v21, v25, v6, v_itm, ea H .refl, Mi.R.bind_ok, K.pl h1, orBad_some, q73, Mi.R.bind_ok, v_itm, eb _ g1, Mi.R.bind_ok, R.pl (g1.get h2), orBad_some, q73, Mi.R.bind_ok, b1, q73, Mi.R.bind_ok, v24, Mi.R.bind_ok, Mi.R.bind_ok, e4]
  rfl
/-! ### sections -/
structure Sn where
  nm : Str
  c : Val
  m : Int
  fs : List Fd
def Sn.v (S : Sn) : Val := .tup [.str S.nm, S.c, .int S.m, .tup (S.fs.map Fd.v)]
structure Sn.Good (S : Sn) : Prop where
  nm : Sml S.nm
  c : Dc S.c
  m0 : 0 ≤ S.m
  m1 : S.m ≤ 3
  fs : ∀ F ∈ S.fs, F.Good
  len : S.fs.length ≤ 3
section
variable {h : Hh} {p d0 d1 ls lf0 : Nat} {k0 k1 : List (Kk × Val)} {xs : List Str} {c : Int} {o4 o5 o6 o7 o8 o9 o10 o11 o12 o13 o14 : Option Val}
theorem st5 (m : Nat) (s : Sta h) (i : Int) : ∃ (mm : Int) (h1 : Hh), ex (G.Γ (m+8)) (.asg (.nm 5) (.idx (.lst (.cons (.lit (.int (0))) (.cons (.bin .add (.lit (.int (1))) (.call "_law_draw" (.cons (.loc 0) (.cons (.lit (.int (3))) .nil)))) .nil))) (.bif .int (.cons (.cmp .lt (.call "_law_draw" (.cons (.loc 0) (.cons (.lit (.int (3))) .nil))) (.bin .add (.lit (.int (1))) (.bif .int (.cons (.cmp .eq (.loc 4) (.lit (.int (1)))) .nil)))) .nil)))) (EF p lf0 c (some (.int i)) o5 o6 o7 o8 o9 o10 o11 o12 o13 o14) h = .ok (.nx (EF p lf0 c (some (.int i)) (some (.int mm)) o6 o7 o8 o9 o10 o11 o12 o13 o14)) h1 ∧ 0 ≤ mm ∧ mm ≤ 3 ∧ Nx h h1 := by
  obtain ⟨r, h1, e1, r0, r3, n1⟩ := S_draw (m+7) s (m := 3) (by decide)
  have n2 : Nx h (h1 ++ [.lst [.int 0, .int (1 + r)]]) := n1.trans (.grow n1.sta .app)
  obtain ⟨q, h3, e3, q0, q3, n3⟩ := S_draw (m+7) n2.sta (m := 3) (by decide)
  have l3 := n3.keep _ _ n1.sta.len (get_new (h := h1) (o := .lst [.int 0, .int (1 + r)]))
  have bi : ∀ k : Bool, bifop .int [.bl k] h3 = .ok (.int (if k then 1 else 0)) h3 := fun k => rfl
  by_cases k : q < 1 + (if i = 1 then 1 else 0)
  · refine ⟨1 + r, h3, ?_, by omega, by omega, n2.trans n3⟩
    simp [e1, e3, bi, k, r_idx l3, at1]
  · refine ⟨0, h3, ?_, by omega, by omega, n2.trans n3⟩
    simp [e1, e3, bi, k, r_idx l3, at0]
theorem st6 (m : Nat) {b : Bool} (s : Sta h) (S : Sc h p d0 d1 ls b k0 k1 xs) : ∃ (v : Val) (h1 : Hh), ex (G.Γ (m+8)) (.asg (.nm 6) (.idx (.lst (.cons (.lit (.non)) (.cons (.lit (.non)) (.cons (.call "_law_condition" (.cons (.loc 0) (.cons (.loc 1) .nil))) .nil)))) (.call "_law_draw" (.cons (.loc 0) (.cons (.lit (.int (3))) .nil))))) (EF p lf0 c o4 o5 o6 o7 o8 o9 o10 o11 o12 o13 o14) h = .ok (.nx (EF p lf0 c o4 o5 (some v) o7 o8 o9 o10 o11 o12 o13 o14)) h1 ∧ Dc v ∧ Nx h h1 := by
  obtain ⟨v, h1, e1, D, n1⟩ := S_cond (m+2) s S
  obtain ⟨u, r, h2, hu, e2, e3, n2⟩ := pick (m+7) n1.sta (xs := [.non, .non, v]) (m := 3) (by decide) rfl
  refine ⟨u, h2, by simp [e1, e2, e3], ?_, n1.trans n2⟩
  simp only [List.mem_cons, List.not_mem_nil, or_false] at hu
  rcases hu with rfl | rfl | rfl
  · exact Dat.non.mono (Nat.le_refl _) (by omega)
  · exact Dat.non.mono (Nat.le_refl _) (by omega)
  · exact Dat.mono D (by omega) (by omega)
theorem r_dict {l : Nat} {ks : List (Kk × Val)} (e : h[l]? = some (.dct ks)) (K : Dk ks) : bifop .dict [.ref l] h = .ok (.ref h.length) (h ++ [.dct ks]) := by simp [bifop, dictOf, e, K.plain]
end
end K20

set_option maxHeartbeats 4000000
namespace K20
open Mi PySem
theorem Sc.grow {h h' : Hh} {p d0 d1 ls : Nat} {b : Bool} {k0 k1 : List (Kk × Val)} {xs : List Str} (S : Sc h p d0 d1 ls b k0 k1 xs) (g : Grow h h') : Sc h' p d0 d1 ls b k0 k1 xs :=
  { S with at_ := g.get S.at_, a0 := g.get S.a0, a1 := g.get S.a1, al := g.get S.al }
section
variable {h h0 : Hh} {p d0 d1 ls lf0 : Nat} {k0 k1 : List (Kk × Val)} {xs : List Str} {c : Int} {o4 o5 o6 o7 o8 o9 o10 o11 o12 o13 o14 : Option Val}
/-- the scope behind a section -/
theorem ev_ls {Γ : Cxt} {ρ : Mi.En} {b : Bool} (S : Sc h p d0 d1 ls b k0 k1 xs) (e1 : ρ.get? 1 = some (.ref p)) {nm : Str} (e2 : ρ.get? 14 = some (.str nm)) (hl : xs.length < 900) :
    ∃ H', ev Γ (.bin .add (.idx (.loc 1) (.lit (.int (2)))) (.lst (.cons (.loc 14) .nil))) ρ h = .ok (.ref H'.length) (H' ++ [.lst ((xs ++ [nm]).map .str)]) ∧ Grow h H' := by
  refine ⟨h ++ [.lst [.str nm]], ?_, .app⟩
  have f1 : (h ++ [Ob.lst [.str nm]])[ls]? = some (.lst (xs.map .str)) := Grow.get .app S.al
  have f2 : (h ++ [Ob.lst [.str nm]])[h.length]? = some (.lst [.str nm]) := get_new
  have len : (xs.map Val.str).length + [Val.str nm].length ≤ sizeLine := Nat.le_of_lt (few_line (by simp; omega))
  rw [v6, v14, v1, e1, orBad_some, Mi.R.bind_ok, v0, Mi.R.bind_ok, r_idx S.at_, at2, orBad_some, Mi.R.bind_ok, v4, v25, v1, e2, orBad_some, Mi.R.bind_ok, v24, Mi.R.bind_ok, Mi.R.bind_ok, q73, Mi.R.bind_ok]
  simp only [binop, r_lst f1, r_lst f2, orBad_some, decide_eq_true len, okIf_true]
  rw [List.map_append]
  rfl
def e_sc1 : Ex := (.lst (.cons (.idx (.loc 1) (.lit (.int (0)))) (.cons (.bif .dict (.cons (.bin .add (.itm (.idx (.loc 1) (.lit (.int (1))))) (.itm (.loc 9))) .nil)) (.cons (.bin .add (.idx (.loc 1) (.lit (.int (2)))) (.lst (.cons (.loc 14) .nil))) (.cons (.lit (.bl false)) .nil)))))
def e_sc0 : Ex := (.lst (.cons (.bif .dict (.cons (.bin .add (.itm (.idx (.loc 1) (.lit (.int (0))))) (.itm (.loc 9))) .nil)) (.cons (.idx (.loc 1) (.lit (.int (1)))) (.cons (.idx (.loc 1) (.lit (.int (2)))) (.cons (.lit (.bl false)) .nil)))))
theorem sc1 {Γ : Cxt} {ρ : Mi.En} {b : Bool} (s : Sta h) (S : Sc h p d0 d1 ls b k0 k1 xs) {lo : Nat} {ko : List (Kk × Val)} (ho : h[lo]? = some (.dct ko)) (K : Dk ko) (e1 : ρ.get? 1 = some (.ref p)) (e9 : ρ.get? 9 = some (.ref lo)) {nm : Str} (hn : Sml nm) (e14 : ρ.get? 14 = some (.str nm)) (hl : xs.length < 900) (hk : k1.length + ko.length < 1000) :
    ∃ p' d' l' kz h', ev Γ e_sc1 ρ h = .ok (.ref p') h' ∧ Sc h' p' d0 d' l' false k0 kz (xs ++ [nm]) ∧ kz.length ≤ k1.length + ko.length ∧ Grow h h' ∧ h.length ≤ p' ∧ h.length ≤ d' ∧ h.length ≤ l' := by
  have i1 : ∀ h', Grow h h' → ev Γ (.idx (.loc 1) (.lit (.int 1))) ρ h' = .ok (.ref d1) h' := fun h' g => by
    rw [v14, v1, e1, orBad_some, Mi.R.bind_ok, v0, Mi.R.bind_ok, r_idx (S.grow g).at_, at1, orBad_some]
  have i9 : ∀ h', Grow h h' → ev Γ (.loc 9) ρ h' = .ok (.ref lo) h' := fun h' g => by rw [v1, e9, orBad_some]
  obtain ⟨H1, kz, E1, g1, Kz, lz⟩ := ev_dd (Γ := Γ) (ρ := ρ) i1 i9 S.a1 ho S.q1 K hk
  have g2 : Grow h (H1 ++ [.dct kz]) := g1.trans .app
  obtain ⟨H2, E2, g3⟩ := ev_ls (Γ := Γ) (ρ := ρ) (S.grow g2) e1 e14 hl
  have g4 : Grow h (H2 ++ [.lst ((xs ++ [nm]).map .str)]) := (g2.trans g3).trans .app
  have g5 : Grow h ((H2 ++ [.lst ((xs ++ [nm]).map .str)]) ++ [.lst [.ref d0, .ref H1.length, .ref H2.length, .bl false]]) := g4.trans .app
  have S5 := S.grow g5
  have gd : Grow (H1 ++ [Ob.dct kz]) ((H2 ++ [.lst ((xs ++ [nm]).map .str)]) ++ [.lst [.ref d0, .ref H1.length, .ref H2.length, .bl false]]) := (g3.trans .app).trans .app
  have l1 := g1.len
  have l2 := (g2.trans g3).len
  have l4 := g4.len
  have sl := s.len
  refine ⟨_, H1.length, H2.length, kz, _, ?_, ⟨by omega, S.i0, by omega, by omega, get_new, S5.a0, gd.get get_new, Grow.get .app get_new, S.q0, Kz, fun x hx => ?_⟩, lz, g5, l4, l1, l2⟩
  · have i0 : ev Γ (.idx (.loc 1) (.lit (.int 0))) ρ h = .ok (.ref d0) h := by
      rw [v14, v1, e1, orBad_some, Mi.R.bind_ok, v0, Mi.R.bind_ok, r_idx S.at_, at0, orBad_some]
    rw [e_sc1, v4, v25, i0, Mi.R.bind_ok, v25, E1, Mi.R.bind_ok, v25, E2, Mi.R.bind_ok, v25, v0, Mi.R.bind_ok, v24]
    rfl
  · rcases List.mem_append.mp hx with hx | hx
    · exact S.ql x hx
    · rw [List.mem_singleton.mp hx]; exact hn
theorem sc0 {Γ : Cxt} {ρ : Mi.En} {b : Bool} (s : Sta h) (S : Sc h p d0 d1 ls b k0 k1 xs) {lo : Nat} {ko : List (Kk × Val)} (ho : h[lo]? = some (.dct ko)) (K : Dk ko) (e1 : ρ.get? 1 = some (.ref p)) (e9 : ρ.get? 9 = some (.ref lo)) (hk : k0.length + ko.length < 1000) :
    ∃ p' d' kz h', ev Γ e_sc0 ρ h = .ok (.ref p') h' ∧ Sc h' p' d' d1 ls false kz k1 xs ∧ kz.length ≤ k0.length + ko.length ∧ Grow h h' ∧ h.length ≤ p' ∧ h.length ≤ d' := by
  have i1 : ∀ h', Grow h h' → ev Γ (.idx (.loc 1) (.lit (.int 0))) ρ h' = .ok (.ref d0) h' := fun h' g => by
    rw [v14, v1, e1, orBad_some, Mi.R.bind_ok, v0, Mi.R.bind_ok, r_idx (S.grow g).at_, at0, orBad_some]
  have i9 : ∀ h', Grow h h' → ev Γ (.loc 9) ρ h' = .ok (.ref lo) h' := fun h' g => by rw [v1, e9, orBad_some]
  obtain ⟨H1, kz, E1, g1, Kz, lz⟩ := ev_dd (Γ := Γ) (ρ := ρ) i1 i9 S.a0 ho S.q0 K hk
  have g2 : Grow h (H1 ++ [.dct kz]) := g1.trans .app
  have g5 : Grow h ((H1 ++ [.dct kz]) ++ [.lst [.ref H1.length, .ref d1, .ref ls, .bl false]]) := g2.trans .app
  have S5 := S.grow g5
  have S2 := S.grow g2
  have l1 := g1.len
  have l2 := g2.len
  have sl := s.len
  refine ⟨_, H1.length, kz, _, ?_, ⟨by omega, by omega, S.i1, S.il, get_new, Grow.get .app get_new, S5.a1, S5.al, Kz, S.q1, S.ql⟩, lz, g5, l2, l1⟩
  have j1 : ev Γ (.idx (.loc 1) (.lit (.int 1))) ρ (H1 ++ [.dct kz]) = .ok (.ref d1) (H1 ++ [.dct kz]) := by
    rw [v14, v1, e1, orBad_some, Mi.R.bind_ok, v0, Mi.R.bind_ok, r_idx S2.at_, at1, orBad_some]
  have j2 : ev Γ (.idx (.loc 1) (.lit (.int 2))) ρ (H1 ++ [.dct kz]) = .ok (.ref ls) (H1 ++ [.dct kz]) := by
    rw [v14, v1, e1, orBad_some, Mi.R.bind_ok, v0, Mi.R.bind_ok, r_idx S2.at_, at2, orBad_some]
  rw [e_sc0, v4, v25, E1, Mi.R.bind_ok, v25, j1, Mi.R.bind_ok, v25, j2, Mi.R.bind_ok, v25, v0, Mi.R.bind_ok, v24]
  rfl
theorem st7 (m : Nat) {b : Bool} (s : Sta h) (S : Sc h p d0 d1 ls b k0 k1 xs) (mm : Int) : ∃ h1, ex (G.Γ (m+8)) (.seq (.asg (.nm 7) (.lst (.cons (.bif .dict (.cons (.idx (.loc 1) (.lit (.int (0)))) .nil)) (.cons (.idx (.loc 1) (.lit (.int (1)))) (.cons (.idx (.loc 1) (.lit (.int (2)))) (.cons (.cmp .gt (.loc 5) (.lit (.int (0)))) .nil)))))) (.seq (.asg (.nm 8) (.lst .nil)) (.asg (.nm 9) (.dct .nil)))) (EF p lf0 c o4 (some (.int mm)) o6 o7 o8 o9 o10 o11 o12 o13 o14) h = .ok (.nx (EF p lf0 c o4 (some (.int mm)) o6 (some (.ref (h.length + 1))) (some (.ref (h.length + 2))) (some (.ref (h.length + 3))) o10 o11 o12 o13 o14)) h1 ∧
    InP h (h.length + 1) h.length d1 ls (h.length + 2) (h.length + 3) ∧ InS h h1 (h.length + 1) h.length d1 ls (h.length + 2) (h.length + 3) (decide (0 < mm)) k1 xs k0.length 0 := by
  have S1 : Sc (h ++ [.dct k0]) p d0 d1 ls b k0 k1 xs := S.grow .app
  have g : Grow h (h ++ [.dct k0, .lst [.ref h.length, .ref d1, .ref ls, .bl (decide (0 < mm))], .lst [], .dct []]) := .app
  have sl := s.len
  have hd1 : d1 < h.length := (List.getElem?_eq_some_iff.mp S.a1).1
  have hls : ls < h.length := (List.getElem?_eq_some_iff.mp S.al).1
  have Sg := S.grow g
  refine ⟨h ++ [.dct k0, .lst [.ref h.length, .ref d1, .ref ls, .bl (decide (0 < mm))], .lst [], .dct []], ?_, ⟨Nat.le_refl _, by omega, by omega, by omega, hd1, hls, sl⟩, ⟨⟨k0, [], [], ⟨by omega, sl, S.i1, S.il, by simp, by simp, Sg.a1, Sg.al, S.q0, S.q1, S.ql⟩, by simp, by simp, ⟨fun p hp => (by cases hp), by decide⟩, fun F hF => (by cases hF), rfl, Nat.le_refl _, Nat.le_refl _⟩, .grow s g⟩⟩
  have e0 : ev (G.Γ (m+8)) (.idx (.loc 1) (.lit (.int 0))) (EF p lf0 c o4 (some (.int mm)) o6 o7 o8 o9 o10 o11 o12 o13 o14) h = .ok (.ref d0) h := by
    simp [r_idx S.at_, at0]
  have r := r_dict S.a0 S.q0
  simp [r_idx S.at_, r_idx S1.at_, at0, at1, at2, r]
end
end K20

set_option maxHeartbeats 4000000
namespace K20
open Mi PySem
theorem sq (n) (A B C : Sm) (ρ : Mi.En) (h : Hh) : ex (G.Γ n) (.seq A (.seq B C)) ρ h = ex (G.Γ n) (.seq (.seq A B) C) ρ h := by
  rw [w1, w1 (sa := .seq A B), w1 (sa := A) (sb := B)]
  cases ex (G.Γ n) A ρ h with
  | ok f h => cases f <;> simp only [Mi.R.bind_ok, w1]
  | exc _ _ => rfl
  | bad => rfl
theorem seq_nx {n : Nat} {A B : Sm} {ρ ρ' : Mi.En} {h h' : Hh} (e : ex (G.Γ n) A ρ h = .ok (.nx ρ') h') : ex (G.Γ n) (.seq A B) ρ h = ex (G.Γ n) B ρ' h' := by rw [w1, e, Mi.R.bind_ok]
structure OutS (h0 h : Hh) (lf0 p i : Nat) : Prop where
  nx : Nx h0 h
  ex : ∃ (d0 d1 ls : Nat) (k0 k1 : List (Kk × Val)) (xs : List Str) (Ss : List Sn), Sc h p d0 d1 ls false k0 k1 xs ∧ h[lf0]? = some (.lst (Ss.map Sn.v)) ∧ (∀ S ∈ Ss, S.Good) ∧ Ss.length = i ∧ k0.length ≤ 10 * i ∧ k1.length ≤ 10 * i ∧ xs.length ≤ i ∧ lf0 ≠ p ∧ lf0 ≠ d0 ∧ lf0 ≠ d1 ∧ lf0 ≠ ls
section
variable {h h0 : Hh} {p lf0 : Nat} {c : Nat} {o4 o5 o6 o7 o8 o9 o10 o11 o12 o13 o14 : Option Val}
theorem st14 (m : Nat) {i : Nat} (hi : i ≤ 2) (h : Hh) {c : Int} : ∃ (nm : Str), Sml nm ∧ ex (G.Γ (m+8)) (.asg (.nm 14) (.idx (.lst (.cons (.lit (.str "main")) (.cons (.lit (.str "kid")) (.cons (.lit (.str "end")) .nil)))) (.bif .int (.cons (.loc 4) .nil)))) (EF p lf0 c (some (.int (i : Nat))) o5 o6 o7 o8 o9 o10 o11 o12 o13 o14) h = .ok (.nx (EF p lf0 c (some (.int (i : Nat))) o5 o6 o7 o8 o9 o10 o11 o12 o13 (some (.str nm)))) (h ++ [.lst [.str "main", .str "kid", .str "end"]]) := by
  have g := r_idx (i := (i : Int)) (get_new (h := h) (o := .lst [.str "main", .str "kid", .str "end"]))
  have : i = 0 ∨ i = 1 ∨ i = 2 := by omega
  rcases this with rfl | rfl | rfl
  · exact ⟨"main", by decide +kernel, by simp only [Int.ofNat_zero, Int.natCast_zero] at g ⊢; simp [g, at0]⟩
  · exact ⟨"kid", by decide +kernel, by have g : idxop (.ref h.length) (.int 1) (h ++ [.lst [.str "main", .str "kid", .str "end"]]) = _ := g; simp [g, at1]⟩
  · exact ⟨"end", by decide +kernel, by have g : idxop (.ref h.length) (.int 2) (h ++ [.lst [.str "main", .str "kid", .str "end"]]) = _ := g; simp [g, at2]⟩
theorem InS.nx2 {h h' h2 : Hh} {pi i0 d1 ls lf lo : Nat} {b : Bool} {k1 : List (Kk × Val)} {xs : List Str} {K i : Nat} (P : InP h pi i0 d1 ls lf lo) (I : InS h h' pi i0 d1 ls lf lo b k1 xs K i) (n : Nx h' h2) : InS h h2 pi i0 d1 ls lf lo b k1 xs K i := by
  obtain ⟨⟨ki, ko, Fs, S, f1, f2, r⟩, nx⟩ := I
  obtain ⟨Pa, Pb, Pc, Pd, Pe, Pf, Pg⟩ := P
  exact ⟨⟨ki, ko, Fs, S.nx n, n.keep _ _ (by omega) f1, n.keep _ _ (by omega) f2, r⟩, nx.trans n⟩
theorem st_loop (m : Nat) {h h' : Hh} {pi i0 d1 ls lf lo : Nat} {b : Bool} {k1 : List (Kk × Val)} {xs : List Str} {K : Nat} (P : InP h pi i0 d1 ls lf lo) (I : InS h h' pi i0 d1 ls lf lo b k1 xs K 0) (hK : K ≤ 100) (hc : c ≤ 6) :
    ∃ n p10 p11 p12 p13 h2, ex (G.Γ (m+8)) (.for_ (.nm 10) (.rng (.lit (.int (0))) (.bin .add (.lit (.int (1))) (.call "_law_draw" (.cons (.loc 0) (.cons (.lit (.int (3))) .nil))))) b_in) (EF p lf0 c o4 o5 o6 (some (.ref pi)) (some (.ref lf)) (some (.ref lo)) o10 o11 o12 o13 o14) h' = .ok (.nx (EF p lf0 ((c + n : Nat) : Int) o4 o5 o6 (some (.ref pi)) (some (.ref lf)) (some (.ref lo)) p10 p11 p12 p13 o14)) h2 ∧ InS h h2 pi i0 d1 ls lf lo b k1 xs K n ∧ n ≤ 3 := by
  obtain ⟨r, h1, e1, r0, r3, n1⟩ := S_draw (m+7) I.nx.sta (m := 3) (by decide)
  have I1 := I.nx2 P n1
  obtain ⟨n, rfl⟩ : ∃ n : Nat, r = (n : Int) := ⟨r.toNat, by omega⟩
  obtain ⟨p10, p11, p12, p13, h2, e2, I2⟩ := in_loop m (p := p) (lf0 := lf0) (o4 := o4) (o5 := o5) (o6 := o6) (o10 := o10) (o11 := o11) (o12 := o12) (o13 := o13) (o14 := o14) P I1 hK hc (n := 1 + n) (by omega)
  refine ⟨1 + n, p10, p11, p12, p13, h2, ?_, I2, by omega⟩
  have r1 : rngOf (.int 0) (.int (1 + (n : Int))) = some (.fix (rangeV 0 (1 + n))) := by
    have := rng_lit (1 + n) (by omega)
    rw [show ((1 + n : Nat) : Int) = 1 + (n : Int) by omega] at this
    exact this
  have er : evi (G.Γ (m+8)) (.rng (.lit (.int (0))) (.bin .add (.lit (.int (1))) (.call "_law_draw" (.cons (.loc 0) (.cons (.lit (.int (3))) .nil))))) (EF p lf0 c o4 o5 o6 (some (.ref pi)) (some (.ref lf)) (some (.ref lo)) o10 o11 o12 o13 o14) h' = .ok (.fix (rangeV 0 (1 + n))) h1 := by
    have ed : ev (G.Γ (m+8)) (.call "_law_draw" (.cons (.loc 0) (.cons (.lit (.int (3))) .nil))) (EF p lf0 c o4 o5 o6 (some (.ref pi)) (some (.ref lf)) (some (.ref lo)) o10 o11 o12 o13 o14) h' = .ok (.int (n : Int)) h1 := by simp [e1]
    rw [v29, v0, Mi.R.bind_ok, v6, v0, Mi.R.bind_ok, ed, Mi.R.bind_ok, q34, Mi.R.bind_ok, r1, orBad_some]
  rw [w_for, er, held_ok, walk_fix, e2]
  rfl
theorem out_turn (m : Nat) {i : Nat} (O : OutS h0 h lf0 p i) (s0 : 2 ≤ h0.length) (hf : h0.length ≤ lf0) (hi : i ≤ 2) (hc : c ≤ 3 * i) :
    ∃ p' c' p5 p6 p7 p8 p9 p10 p11 p12 p13 p14 h2, Mi.forTurn (ex (G.Γ (m+8)) b_out) (.nm 4) (.int (i : Nat)) (EF p lf0 (c : Nat) o4 o5 o6 o7 o8 o9 o10 o11 o12 o13 o14) h = .ok (.inl (EF p' lf0 ((c' : Nat) : Int) (some (.int (i : Nat))) p5 p6 p7 p8 p9 p10 p11 p12 p13 p14)) h2 ∧ OutS h0 h2 lf0 p' (i + 1) ∧ c' ≤ 3 * (i + 1) := by
  obtain ⟨nx, d0, d1, ls, k0, k1, xs, Ss, S, f0, gS, lS, lk0, lk1, lx, na, nb, nc, nd⟩ := O
  obtain ⟨mm, h1, e1, m0, m3, n1⟩ := st5 m (p := p) (lf0 := lf0) (c := c) (o5 := o5) (o6 := o6) (o7 := o7) (o8 := o8) (o9 := o9) (o10 := o10) (o11 := o11) (o12 := o12) (o13 := o13) (o14 := o14) nx.sta (i : Nat)
  obtain ⟨v, h2, e2, Dv, n2⟩ := st6 m (p := p) (lf0 := lf0) (c := c) (o4 := some (.int (i : Nat))) (o5 := some (.int mm)) (o6 := o6) (o7 := o7) (o8 := o8) (o9 := o9) (o10 := o10) (o11 := o11) (o12 := o12) (o13 := o13) (o14 := o14) n1.sta (S.nx n1)
  have n12 := n1.trans n2
  obtain ⟨h3, e3, P, I3⟩ := st7 m (lf0 := lf0) (c := c) (o4 := some (.int (i : Nat))) (o6 := some v) (o7 := o7) (o8 := o8) (o9 := o9) (o10 := o10) (o11 := o11) (o12 := o12) (o13 := o13) (o14 := o14) n12.sta (S.nx n12) mm
  obtain ⟨n, p10, p11, p12, p13, h4, e4, I4, hn⟩ := st_loop m (p := p) (lf0 := lf0) (c := c) (o4 := some (.int (i : Nat))) (o5 := some (.int mm)) (o6 := some v) (o10 := o10) (o11 := o11) (o12 := o12) (o13 := o13) (o14 := o14) P I3 (by omega) (by omega)
  obtain ⟨nm, hnm, e5⟩ := st14 m (p := p) (lf0 := lf0) (c := ((c + n : Nat) : Int)) (o5 := some (.int mm)) (o6 := some v) (o7 := some (.ref (h2.length + 1))) (o8 := some (.ref (h2.length + 2))) (o9 := some (.ref (h2.length + 3))) (o10 := p10) (o11 := p11) (o12 := p12) (o13 := p13) (o14 := o14) hi h4
  obtain ⟨⟨ki, ko, Fs, S4, g1, g2, K2, gF, lF, lki, lko⟩, nx4⟩ := I4
  have n24 := n12.trans nx4
  have n5 : Nx h (h4 ++ [.lst [.str "main", .str "kid", .str "end"]]) := n24.trans (.grow n24.sta .app)
  have G5 : Grow h4 (h4 ++ [.lst [.str "main", .str "kid", .str "end"]]) := .app
  generalize h4 ++ [.lst [.str "main", .str "kid", .str "end"]] = h5 at e5 n5 G5
  have b0 : lf0 < h.length := (List.getElem?_eq_some_iff.mp f0).1
  have f5 := n5.keep _ _ (by omega) f0
  have g1' := G5.get g1
  have g2' := G5.get g2
  have l5 := n5.len
  have l12 := n12.len
  have fl : Ss.length < sizeLine := few_line (by omega)
  let sn : Sn := ⟨nm, v, mm, Fs⟩
  have gsn : sn.Good := ⟨hnm, Dv, m0, m3, gF, by show Fs.length ≤ 3; omega⟩
  have e6 : ex (G.Γ (m+8)) (.exp (.bmt .append (.loc 2) (.cons (.tup (.cons (.loc 14) (.cons (.loc 6) (.cons (.loc 5) (.cons (.bif .tuple (.cons (.loc 8) .nil)) .nil))))) .nil))) (EF p lf0 ((c + n : Nat) : Int) (some (.int (i : Nat))) (some (.int mm)) (some v) (some (.ref (h2.length + 1))) (some (.ref (h2.length + 2))) (some (.ref (h2.length + 3))) p10 p11 p12 p13 (some (.str nm))) h5 = .ok (.nx (EF p lf0 ((c + n : Nat) : Int) (some (.int (i : Nat))) (some (.int mm)) (some v) (some (.ref (h2.length + 1))) (some (.ref (h2.length + 2))) (some (.ref (h2.length + 3))) p10 p11 p12 p13 (some (.str nm)))) (h5.set lf0 (.lst ((Ss ++ [sn]).map Sn.v))) := by
    have : (Ss ++ [sn]).map Sn.v = Ss.map Sn.v ++ [.tup [.str nm, v, .int mm, .tup (Fs.map Fd.v)]] := by rw [List.map_append]; rfl
    rw [this]
    simp [r_lst f5, r_lseq g1', fl]
  have S5 := S.nx n5
  have S6 : Sc (h5.set lf0 (.lst ((Ss ++ [sn]).map Sn.v))) p d0 d1 ls false k0 k1 xs := { S5 with
    at_ := by rw [List.getElem?_set_ne na]; exact S5.at_
    a0 := by rw [List.getElem?_set_ne nb]; exact S5.a0
    a1 := by rw [List.getElem?_set_ne nc]; exact S5.a1
    al := by rw [List.getElem?_set_ne nd]; exact S5.al }
  have o6' : (h5.set lf0 (.lst ((Ss ++ [sn]).map Sn.v)))[h2.length + 3]? = some (.dct ko) := by rw [List.getElem?_set_ne (by omega)]; exact g2'
  have f6 : (h5.set lf0 (.lst ((Ss ++ [sn]).map Sn.v)))[lf0]? = some (.lst ((Ss ++ [sn]).map Sn.v)) := List.getElem?_set_self (by omega)
  have nx6 : Nx h0 (h5.set lf0 (.lst ((Ss ++ [sn]).map Sn.v))) := (nx.trans n5).put hf s0
  have L6 : (h5.set lf0 (.lst ((Ss ++ [sn]).map Sn.v))).length = h5.length := List.length_set
  generalize h5.set lf0 (.lst ((Ss ++ [sn]).map Sn.v)) = h6 at e6 S6 o6' f6 nx6 L6
  have gS' : ∀ S ∈ Ss ++ [sn], S.Good := fun T hT => by
    rcases List.mem_append.mp hT with hT | hT
    · exact gS T hT
    · rw [List.mem_singleton.mp hT]; exact gsn
  have lS' : (Ss ++ [sn]).length = i + 1 := by simp [lS]
  have fin : ∀ z : Int, ∃ p' h7, ex (G.Γ (m+8)) (.ifs (.cmp .gt (.loc 5) (.lit (.int (0)))) (.asg (.nm 1) e_sc1) (.asg (.nm 1) e_sc0)) (EF p lf0 z (some (.int (i : Nat))) (some (.int mm)) (some v) (some (.ref (h2.length + 1))) (some (.ref (h2.length + 2))) (some (.ref (h2.length + 3))) p10 p11 p12 p13 (some (.str nm))) h6 = .ok (.nx (EF p' lf0 z (some (.int (i : Nat))) (some (.int mm)) (some v) (some (.ref (h2.length + 1))) (some (.ref (h2.length + 2))) (some (.ref (h2.length + 3))) p10 p11 p12 p13 (some (.str nm)))) h7 ∧ OutS h0 h7 lf0 p' (i + 1) := by
    intro z
    by_cases hm : 0 < mm
    · obtain ⟨p', d', l', kz, h7, e7, S7, lz, g7, q1, q2, q3⟩ := sc1 (Γ := G.Γ (m+8)) (ρ := EF p lf0 z (some (.int (i : Nat))) (some (.int mm)) (some v) (some (.ref (h2.length + 1))) (some (.ref (h2.length + 2))) (some (.ref (h2.length + 3))) p10 p11 p12 p13 (some (.str nm))) nx6.sta S6 o6' K2 rfl rfl hnm rfl (by omega) (by omega)
      refine ⟨p', h7, ?_, nx6.trans (.grow nx6.sta g7), d0, d', l', k0, kz, xs ++ [nm], Ss ++ [sn], S7, g7.get f6, gS', lS', by omega, by omega, by simp; omega, by omega, nb, by omega, by omega⟩
      simp [hm, e7]
    · obtain ⟨p', d', kz, h7, e7, S7, lz, g7, q1, q2⟩ := sc0 (Γ := G.Γ (m+8)) (ρ := EF p lf0 z (some (.int (i : Nat))) (some (.int mm)) (some v) (some (.ref (h2.length + 1))) (some (.ref (h2.length + 2))) (some (.ref (h2.length + 3))) p10 p11 p12 p13 (some (.str nm))) nx6.sta S6 o6' K2 rfl rfl (by omega)
      refine ⟨p', h7, ?_, nx6.trans (.grow nx6.sta g7), d', d1, ls, kz, k1, xs, Ss ++ [sn], S7, g7.get f6, gS', lS', by omega, by omega, by omega, by omega, by omega, nc, nd⟩
      simp [hm, e7]
  obtain ⟨p', h7, e7, O7⟩ := fin ((c + n : Nat) : Int)
  refine ⟨p', c + n, some (.int mm), some v, some (.ref (h2.length + 1)), some (.ref (h2.length + 2)), some (.ref (h2.length + 3)), p10, p11, p12, p13, some (.str nm), h7, ?_, O7, by omega⟩
  have put4 : (Tg.nm 4).put (.int (i : Nat)) (EF p lf0 (c : Nat) o4 o5 o6 o7 o8 o9 o10 o11 o12 o13 o14) = some (EF p lf0 (c : Nat) (some (.int (i : Nat))) o5 o6 o7 o8 o9 o10 o11 o12 o13 o14) := rfl
  rw [sq] at e3
  simp only [e_sc1, e_sc0] at e7
  unfold Mi.forTurn
  rw [put4, orBad_some]
  unfold b_out
  rw [seq_nx e1, seq_nx e2, sq, sq, seq_nx e3, seq_nx e4, seq_nx e5, seq_nx e6, e7]
  rfl
end
end K20

set_option maxHeartbeats 4000000
namespace K20
open Mi PySem
theorem call_rt {f : Str} {ar sl n : Nat} {b : Sm} {vs : List Val} {h h' : Hh} {v : Val} (at_ : txt.G.fns.lookup (.fn f) = some ⟨ar, sl, b⟩) (hl : vs.length = ar) (e : ex (G.Γ n) b (startE ⟨ar, sl, b⟩ vs) h = .ok (.rt v) h') : callF G (n+1) (.fn f) vs h = .ok v h' := by
  rw [call_eq at_ (by intro c; simp)]
  show okIf (decide (vs.length = ar)) ((noexc (ex (G.Γ n) b (startE ⟨ar, sl, b⟩ vs) h)).bind _) = _
  rw [e, decide_eq_true hl]
  rfl
theorem S_form (m : Nat) {h : Hh} (s : Sta h) : ∃ (Ss : List Sn) (h' : Hh), callF G (m+9) (.fn "_law_form") [.ref 1] h = .ok (.tup (Ss.map Sn.v)) h' ∧ (∀ S ∈ Ss, S.Good) ∧ Ss.length ≤ 3 ∧ Nx h h' := by
  have sl := s.len
  let H : Hh := h ++ [.dct [], .dct [], .lst [], .lst [.ref h.length, .ref (h.length + 1), .ref (h.length + 2), .bl false], .lst []]
  have gH : Grow h H := .app
  have nH : Nx h H := .grow s gH
  have dk : Dk [] := ⟨fun p hp => (by cases hp), by decide⟩
  have O0 : OutS h H (h.length + 4) (h.length + 3) 0 := ⟨nH, h.length, h.length + 1, h.length + 2, [], [], [], [], ⟨by omega, sl, by omega, by omega, by simp [H], by simp [H], by simp [H], by simp [H], dk, dk, fun x hx => (by cases hx)⟩, by simp [H], fun S hS => (by cases hS), rfl, by simp, by simp, by simp, by omega, by omega, by omega, by omega⟩
  have e1 : ex (G.Γ (m+8)) (.asg (.nm 1) (.lst (.cons (.dct .nil) (.cons (.dct .nil) (.cons (.lst .nil) (.cons (.lit (.bl false)) .nil)))))) [some (.ref 1), none, none, none, none, none, none, none, none, none, none, none, none, none, none] h = .ok (.nx [some (.ref 1), some (.ref (h.length + 3)), none, none, none, none, none, none, none, none, none, none, none, none, none]) (h ++ [.dct [], .dct [], .lst [], .lst [.ref h.length, .ref (h.length + 1), .ref (h.length + 2), .bl false]]) := by simp
  have e2 : ex (G.Γ (m+8)) (.asg (.nm 2) (.lst .nil)) [some (.ref 1), some (.ref (h.length + 3)), none, none, none, none, none, none, none, none, none, none, none, none, none] (h ++ [.dct [], .dct [], .lst [], .lst [.ref h.length, .ref (h.length + 1), .ref (h.length + 2), .bl false]]) = .ok (.nx [some (.ref 1), some (.ref (h.length + 3)), some (.ref (h.length + 4)), none, none, none, none, none, none, none, none, none, none, none, none]) H := by simp [H]
  have e3 : ex (G.Γ (m+8)) (.asg (.nm 3) (.lit (.int (0)))) [some (.ref 1), some (.ref (h.length + 3)), some (.ref (h.length + 4)), none, none, none, none, none, none, none, none, none, none, none, none] H = .ok (.nx (EF (h.length + 3) (h.length + 4) ((0 : Nat) : Int) none none none none none none none none none none none)) H := by simp
  obtain ⟨r, h1, e4, r0, r3, n1⟩ := S_draw (m+7) nH.sta (m := 3) (by decide)
  obtain ⟨n, rfl⟩ : ∃ n : Nat, r = (n : Int) := ⟨r.toNat, by omega⟩
  have O1 : OutS h h1 (h.length + 4) (h.length + 3) 0 := by
    obtain ⟨nx, d0, d1, ls, k0, k1, xs, Ss, S, f0, q⟩ := O0
    exact ⟨nx.trans n1, d0, d1, ls, k0, k1, xs, Ss, S.nx n1, n1.keep _ _ (by omega) f0, q⟩
  have q := walkF_inv (f := Mi.forTurn (ex (G.Γ (m+8)) b_out) (.nm 4)) (xs := rangeV 0 (1 + n)) (a := EF (h.length + 3) (h.length + 4) ((0 : Nat) : Int) none none none none none none none none none none none) (h := h1)
    (Q := fun r h2 => ∃ p' c' p4 p5 p6 p7 p8 p9 p10 p11 p12 p13 p14, r = .inl (EF p' (h.length + 4) ((c' : Nat) : Int) p4 p5 p6 p7 p8 p9 p10 p11 p12 p13 p14) ∧ OutS h h2 (h.length + 4) p' (1 + n))
    (fun i ρ h2 => ∃ p' c' p4 p5 p6 p7 p8 p9 p10 p11 p12 p13 p14, ρ = EF p' (h.length + 4) ((c' : Nat) : Int) p4 p5 p6 p7 p8 p9 p10 p11 p12 p13 p14 ∧ OutS h h2 (h.length + 4) p' i ∧ c' ≤ 3 * i)
    ⟨_, _, _, _, _, _, _, _, _, _, _, _, _, rfl, O1, by omega⟩
    (by
      rintro i x ρ h2 hx ⟨p', c', p4, p5, p6, p7, p8, p9, p10, p11, p12, p13, p14, rfl, O, hc⟩
      obtain ⟨rfl, hi⟩ := rng_ints hx
      obtain ⟨p2, c2, q5, q6, q7, q8, q9, q10, q11, q12, q13, q14, h3, e, O2, hc2⟩ := out_turn m (o4 := p4) (o5 := p5) (o6 := p6) (o7 := p7) (o8 := p8) (o9 := p9) (o10 := p10) (o11 := p11) (o12 := p12) (o13 := p13) (o14 := p14) O sl (by omega) (by omega) hc
      rw [Int.zero_add, e]
      exact ⟨p2, c2, _, q5, q6, q7, q8, q9, q10, q11, q12, q13, q14, rfl, O2, hc2⟩)
    (by
      rintro ρ h2 ⟨p', c', p4, p5, p6, p7, p8, p9, p10, p11, p12, p13, p14, rfl, O, hc⟩
      have hl : (rangeV 0 (1 + n)).length = 1 + n := by simp [rangeV]
      rw [hl] at O
      exact ⟨p', c', p4, p5, p6, p7, p8, p9, p10, p11, p12, p13, p14, rfl, O⟩)
  obtain ⟨r, h2, e5, p', c', p4, p5, p6, p7, p8, p9, p10, p11, p12, p13, p14, rfl, O⟩ := q.get
  obtain ⟨nx, d0, d1, ls, k0, k1, xs, Ss, S, f0, gS, lS, _⟩ := O
  refine ⟨Ss, h2, ?_, gS, by omega, nx⟩
  have r1 : rngOf (.int 0) (.int (1 + (n : Int))) = some (.fix (rangeV 0 (1 + n))) := by
    have := rng_lit (1 + n) (by omega)
    rw [show ((1 + n : Nat) : Int) = 1 + (n : Int) by omega] at this
    exact this
  have ed : ev (G.Γ (m+8)) (.call "_law_draw" (.cons (.loc 0) (.cons (.lit (.int (3))) .nil))) (EF (h.length + 3) (h.length + 4) ((0 : Nat) : Int) none none none none none none none none none none none) H = .ok (.int (n : Int)) h1 := by simp [e4]
  have el : ex (G.Γ (m+8)) (.for_ (.nm 4) (.rng (.lit (.int (0))) (.bin .add (.lit (.int (1))) (.call "_law_draw" (.cons (.loc 0) (.cons (.lit (.int (3))) .nil))))) b_out) (EF (h.length + 3) (h.length + 4) ((0 : Nat) : Int) none none none none none none none none none none none) H = .ok (.nx (EF p' (h.length + 4) ((c' : Nat) : Int) p4 p5 p6 p7 p8 p9 p10 p11 p12 p13 p14)) h2 := by
    rw [w_for, v29, v0, Mi.R.bind_ok, v6, v0, Mi.R.bind_ok, ed, Mi.R.bind_ok, q34, Mi.R.bind_ok, r1, orBad_some, held_ok, walk_fix, e5]
    rfl
  have er : ex (G.Γ (m+8)) (.ret (.bif .tuple (.cons (.loc 2) .nil))) (EF p' (h.length + 4) ((c' : Nat) : Int) p4 p5 p6 p7 p8 p9 p10 p11 p12 p13 p14) h2 = .ok (.rt (.tup (Ss.map Sn.v))) h2 := by simp [r_lseq f0]
  refine call_rt at__law_form rfl ?_
  rw [show startE ⟨1, 15, b__law_form⟩ [.ref 1] = [some (.ref 1), none, none, none, none, none, none, none, none, none, none, none, none, none, none] from rfl, form_body, seq_nx e1, seq_nx e2, seq_nx e3, seq_nx el, er]
def b_rf : Sm :=
  (.seq
         (.ifs (.cmp .eq (.call "_law_draw" (.cons (.loc 0) (.cons (.lit (.int (5))) .nil))) (.lit (.int (0))))
           (.asg (.nm 5) (.bin .add (.tup (.cons (.idx (.loc 5) (.lit (.int (0)))) (.cons (.lit (.str "f0")) .nil))) (.slc (.loc 5) (.lit (.int (2))) (.lit (.non)))))
           .nop)
        (.exp (.bmt .append (.loc 4) (.cons (.loc 5) .nil))))
def b_rs : Sm :=
  (.seq
      (.asg (.nm 4) (.lst .nil))
     (.seq
      (.for_ (.nm 5) (.itr (.idx (.loc 3) (.lit (.int (3)))))
        b_rf)
     (.seq
      (.asg (.nm 6) (.idx (.loc 3) (.lit (.int (0)))))
     (.seq
      (.ifs (.cmp .eq (.call "_law_draw" (.cons (.loc 0) (.cons (.lit (.int (5))) .nil))) (.lit (.int (0))))
        (.asg (.nm 6) (.lit (.str "main")))
        .nop)
     (.exp (.bmt .append (.loc 2) (.cons (.bin .add (.bin .add (.tup (.cons (.loc 6) .nil)) (.slc (.loc 3) (.lit (.int (1))) (.lit (.int (3))))) (.tup (.cons (.bif .tuple (.cons (.loc 4) .nil)) .nil))) .nil)))))))
theorem ren_body : b__law_renamed =   (.seq
   (.asg (.nm 2) (.lst .nil))
  (.seq
   (.for_ (.nm 3) (.itr (.loc 1))
     b_rs)
  (.ret (.bif .tuple (.cons (.loc 2) .nil))))) := rfl
/-! ### other names -/
def Fd.ren : Fd → Fd
  | .q _ c k b => .q "f0" c k b
  | .f _ c e => .f "f0" c e
  | .r _ c e b => .r "f0" c e b
theorem Fd.ren_good {F : Fd} (g : F.Good) : F.ren.Good := by
  have f0 : Sml "f0" := by decide +kernel
  cases F with
  | q nm c k b => exact ⟨f0, g.2⟩
  | f nm c e => exact ⟨f0, g.2⟩
  | r nm c e b => exact ⟨f0, g.2⟩
theorem ren_ev {Γ : Cxt} (F : Fd) (ρ : Mi.En) (h : Hh) (e : ρ.get? 5 = some F.v) : ev Γ (.bin .add (.tup (.cons (.idx (.loc 5) (.lit (.int (0)))) (.cons (.lit (.str "f0")) .nil))) (.slc (.loc 5) (.lit (.int (2))) (.lit (.non)))) ρ h = .ok F.ren.v h := by
  have go : ∀ a b (vs : List Val), F.v = .tup (a :: b :: vs) → F.ren.v = .tup (a :: .str "f0" :: vs) → vs.length ≤ 4 → Mi.cut (a :: b :: vs) (some 2) none = vs → ev Γ (.bin .add (.tup (.cons (.idx (.loc 5) (.lit (.int (0)))) (.cons (.lit (.str "f0")) .nil))) (.slc (.loc 5) (.lit (.int (2))) (.lit (.non)))) ρ h = .ok F.ren.v h := fun a b vs e1 e2 hl ec => by
    have hl2 : 2 + vs.length ≤ sizeLine := Nat.le_trans (show 2 + vs.length ≤ 6 by omega) (by decide)
    rw [e2]
    rw [e1] at e
    simp only [get_def] at e
    simp [e, at0, ec, hl2]
  cases F with
  | q nm c k b => exact go _ _ _ rfl rfl (by simp) rfl
  | f nm c e => exact go _ _ _ rfl rfl (by simp) rfl
  | r nm c e b => exact go _ _ _ rfl rfl (by simp) rfl
end K20

set_option maxHeartbeats 4000000
namespace K20
open Mi PySem
section
variable {h h0 hb : Hh} {o1 o2 o3 o4 o5 o6 : Option Val}
theorem rf_turn (m : Nat) (s : Sta h) {lf : Nat} {Fs : List Fd} (l2 : 2 ≤ lf) (hf : h[lf]? = some (.lst (Fs.map Fd.v))) (hl : Fs.length < 900) (F : Fd) (gF : F.Good) : ∃ (F' : Fd) (h2 : Hh), Mi.forTurn (ex (G.Γ (m+1)) b_rf) (.nm 5) F.v [some (.ref 1), o1, o2, o3, some (.ref lf), o5, o6] h = .ok (.inl [some (.ref 1), o1, o2, o3, some (.ref lf), some F'.v, o6]) (h2.set lf (.lst ((Fs ++ [F']).map Fd.v))) ∧ F'.Good ∧ Nx h h2 ∧ lf < h2.length := by
  obtain ⟨r, h1, e1, r0, r5, n1⟩ := S_draw m s (m := 5) (by decide)
  have f1 := n1.keep _ _ l2 hf
  have fl : Fs.length < sizeLine := few_line (by omega)
  have bl := (List.getElem?_eq_some_iff.mp f1).1
  by_cases c0 : r = 0
  · refine ⟨F.ren, h1, ?_, Fd.ren_good gF, n1, bl⟩
    subst c0
    have e2 := ren_ev (Γ := G.Γ (m+1)) F [some (.ref 1), o1, o2, o3, some (.ref lf), some F.v, o6] h1 rfl
    rw [List.map_append]
    simp [-v6, Mi.forTurn, b_rf, e1, e2, r_lst f1, fl]
  · refine ⟨F, h1, ?_, gF, n1, bl⟩
    rw [List.map_append]
    simp [-v6, Mi.forTurn, b_rf, e1, c0, r_lst f1, fl]
theorem rf_loop (m : Nat) {lf : Nat} (l2 : 2 ≤ hb.length) (lb : hb.length ≤ lf) {fs : List Fd} (gf : ∀ F ∈ fs, F.Good) (hl : fs.length ≤ 3) (nx : Nx hb h) (hf : h[lf]? = some (.lst [])) :
    ∃ (Fs : List Fd) (p5 : Option Val) (h2 : Hh), walkF (Mi.forTurn (ex (G.Γ (m+1)) b_rf) (.nm 5)) (fs.map Fd.v) [some (.ref 1), o1, o2, o3, some (.ref lf), o5, o6] h = .ok (.inl [some (.ref 1), o1, o2, o3, some (.ref lf), p5, o6]) h2 ∧ (∀ F ∈ Fs, F.Good) ∧ Fs.length = fs.length ∧ h2[lf]? = some (.lst (Fs.map Fd.v)) ∧ Nx hb h2 := by
  have q := walkF_inv (f := Mi.forTurn (ex (G.Γ (m+1)) b_rf) (.nm 5)) (xs := fs.map Fd.v) (a := [some (.ref 1), o1, o2, o3, some (.ref lf), o5, o6]) (h := h)
    (Q := fun r h2 => ∃ (Fs : List Fd) (p5 : Option Val), r = .inl [some (.ref 1), o1, o2, o3, some (.ref lf), p5, o6] ∧ (∀ F ∈ Fs, F.Good) ∧ Fs.length = fs.length ∧ h2[lf]? = some (.lst (Fs.map Fd.v)) ∧ Nx hb h2)
    (fun i ρ h2 => ∃ (Fs : List Fd) (p5 : Option Val), ρ = [some (.ref 1), o1, o2, o3, some (.ref lf), p5, o6] ∧ (∀ F ∈ Fs, F.Good) ∧ Fs.length = i ∧ h2[lf]? = some (.lst (Fs.map Fd.v)) ∧ Nx hb h2)
    ⟨[], o5, rfl, fun _ h => (by cases h), rfl, hf, nx⟩
    (by
      rintro i x ρ h2 hx ⟨Fs, p5, rfl, gF, lF, f2, n2⟩
      obtain ⟨F, hF, rfl⟩ := List.mem_map.mp (List.mem_of_getElem? hx)
      have hi : i < fs.length := by have := (List.getElem?_eq_some_iff.mp hx).1; simpa using this
      obtain ⟨F', h3, e, g', n3, bl⟩ := rf_turn m (o1 := o1) (o2 := o2) (o3 := o3) (o5 := p5) (o6 := o6) n2.sta (by omega) f2 (by omega) F (gf F hF)
      rw [e]
      refine ⟨Fs ++ [F'], some F'.v, rfl, fun K hK => ?_, by simp [lF], List.getElem?_set_self bl, (n2.trans n3).put lb l2⟩
      rcases List.mem_append.mp hK with hK | hK
      · exact gF K hK
      · rw [List.mem_singleton.mp hK]; exact g')
    (by
      rintro ρ h2 ⟨Fs, p5, rfl, gF, lF, f2, n2⟩
      exact ⟨Fs, p5, rfl, gF, by simpa using lF, f2, n2⟩)
  obtain ⟨r, h2, e, Fs, p5, rfl, r⟩ := q.get
  exact ⟨Fs, p5, h2, e, r⟩
theorem rs_turn (m : Nat) (nx : Nx h0 h) (l0 : 2 ≤ h0.length) {lf0 : Nat} (lb : h0.length ≤ lf0) {Ts : List Sn} (hf : h[lf0]? = some (.lst (Ts.map Sn.v))) (hl : Ts.length < 900) (S : Sn) (gS : S.Good) :
    ∃ (S' : Sn) (p4 p5 p6 : Option Val) (h2 : Hh), Mi.forTurn (ex (G.Γ (m+1)) b_rs) (.nm 3) S.v [some (.ref 1), o1, some (.ref lf0), o3, o4, o5, o6] h = .ok (.inl [some (.ref 1), o1, some (.ref lf0), some S.v, p4, p5, p6]) h2 ∧ S'.Good ∧ h2[lf0]? = some (.lst ((Ts ++ [S']).map Sn.v)) ∧ Nx h0 h2 := by
  have sl := nx.sta.len
  have n1 : Nx h (h ++ [.lst []]) := .grow nx.sta .app
  have b0 := (List.getElem?_eq_some_iff.mp hf).1
  obtain ⟨Fs, p5, h2, e2, gF, lF, f2, n2⟩ := rf_loop m (o1 := o1) (o2 := some (.ref lf0)) (o3 := some S.v) (o5 := o5) (o6 := o6) sl (Nat.le_refl _) gS.fs gS.len n1 get_new
  obtain ⟨r, h3, e3, r0, r5, n3⟩ := S_draw m n2.sta (m := 5) (by decide)
  have f3 := n3.keep _ _ sl f2
  have n23 := n2.trans n3
  have g3 := n23.keep _ _ (by omega) hf
  have fl : Ts.length < sizeLine := few_line (by omega)
  have bl := (List.getElem?_eq_some_iff.mp g3).1
  have hm : Sml "main" := by decide +kernel
  have ec : Mi.cut [.str S.nm, S.c, .int S.m, .tup (S.fs.map Fd.v)] (some 1) (some 3) = [S.c, .int S.m] := rfl
  have ev_ : S.v = .tup [.str S.nm, S.c, .int S.m, .tup (S.fs.map Fd.v)] := rfl
  have i3 : L2.atI [.str S.nm, S.c, .int S.m, .tup (S.fs.map Fd.v)] 3 = some (.tup (S.fs.map Fd.v)) := at3
  have a1 : ex (G.Γ (m+1)) (.asg (.nm 4) (.lst .nil)) [some (.ref 1), o1, some (.ref lf0), some S.v, o4, o5, o6] h = .ok (.nx [some (.ref 1), o1, some (.ref lf0), some S.v, some (.ref h.length), o5, o6]) (h ++ [.lst []]) := by simp
  have a2 : ex (G.Γ (m+1)) (.for_ (.nm 5) (.itr (.idx (.loc 3) (.lit (.int (3))))) b_rf) [some (.ref 1), o1, some (.ref lf0), some S.v, some (.ref h.length), o5, o6] (h ++ [.lst []]) = .ok (.nx [some (.ref 1), o1, some (.ref lf0), some S.v, some (.ref h.length), p5, o6]) h2 := by
    have ei : evi (G.Γ (m+1)) (.itr (.idx (.loc 3) (.lit (.int (3))))) [some (.ref 1), o1, some (.ref lf0), some S.v, some (.ref h.length), o5, o6] (h ++ [.lst []]) = .ok (.fix (S.fs.map Fd.v)) (h ++ [.lst []]) := by
      rw [ev_]
      simp [i3]
    rw [w_for, ei, held_ok, walk_fix, e2]
    rfl
  have a3 : ex (G.Γ (m+1)) (.asg (.nm 6) (.idx (.loc 3) (.lit (.int (0))))) [some (.ref 1), o1, some (.ref lf0), some S.v, some (.ref h.length), p5, o6] h2 = .ok (.nx [some (.ref 1), o1, some (.ref lf0), some S.v, some (.ref h.length), p5, some (.str S.nm)]) h2 := by
    rw [ev_]
    simp [at0]
  have fin : ∀ nm : Str, Sml nm → ex (G.Γ (m+1)) (.exp (.bmt .append (.loc 2) (.cons (.bin .add (.bin .add (.tup (.cons (.loc 6) .nil)) (.slc (.loc 3) (.lit (.int (1))) (.lit (.int (3))))) (.tup (.cons (.bif .tuple (.cons (.loc 4) .nil)) .nil))) .nil))) [some (.ref 1), o1, some (.ref lf0), some S.v, some (.ref h.length), p5, some (.str nm)] h3 = .ok (.nx [some (.ref 1), o1, some (.ref lf0), some S.v, some (.ref h.length), p5, some (.str nm)]) (h3.set lf0 (.lst ((Ts ++ [(⟨nm, S.c, S.m, Fs⟩ : Sn)]).map Sn.v))) := fun nm _ => by
    have : (Ts ++ [(⟨nm, S.c, S.m, Fs⟩ : Sn)]).map Sn.v = Ts.map Sn.v ++ [.tup [.str nm, S.c, .int S.m, .tup (Fs.map Fd.v)]] := by rw [List.map_append]; rfl
    rw [this, ev_]
    have b1 : binop .add (.tup [.str nm]) (.tup [S.c, .int S.m]) h3 = .ok (.tup [.str nm, S.c, .int S.m]) h3 := by kernel_rfl
    have b2 : binop .add (.tup [.str nm, S.c, .int S.m]) (.tup [.tup (Fs.map Fd.v)]) h3 = .ok (.tup [.str nm, S.c, .int S.m, .tup (Fs.map Fd.v)]) h3 := by kernel_rfl
    simp [-q41, ec, r_lseq f3, r_lst g3, fl, b1, b2]
  by_cases c0 : r = 0
  · refine ⟨⟨"main", S.c, S.m, Fs⟩, some (.ref h.length), p5, some (.str "main"), h3.set lf0 (.lst ((Ts ++ [(⟨"main", S.c, S.m, Fs⟩ : Sn)]).map Sn.v)), ?_, ⟨hm, gS.c, gS.m0, gS.m1, gF, by rw [lF]; exact gS.len⟩, List.getElem?_set_self bl, (nx.trans n23).put lb l0⟩
    have a4 : ex (G.Γ (m+1)) (.ifs (.cmp .eq (.call "_law_draw" (.cons (.loc 0) (.cons (.lit (.int (5))) .nil))) (.lit (.int (0)))) (.asg (.nm 6) (.lit (.str "main"))) .nop) [some (.ref 1), o1, some (.ref lf0), some S.v, some (.ref h.length), p5, some (.str S.nm)] h2 = .ok (.nx [some (.ref 1), o1, some (.ref lf0), some S.v, some (.ref h.length), p5, some (.str "main")]) h3 := by
      subst c0
      simp [e3]
    unfold Mi.forTurn
    rw [show (Tg.nm 3).put S.v [some (.ref 1), o1, some (.ref lf0), o3, o4, o5, o6] = some [some (.ref 1), o1, some (.ref lf0), some S.v, o4, o5, o6] from rfl, orBad_some, b_rs, seq_nx a1, seq_nx a2, seq_nx a3, seq_nx a4, fin _ hm]
    rfl
  · refine ⟨⟨S.nm, S.c, S.m, Fs⟩, some (.ref h.length), p5, some (.str S.nm), h3.set lf0 (.lst ((Ts ++ [(⟨S.nm, S.c, S.m, Fs⟩ : Sn)]).map Sn.v)), ?_, ⟨gS.nm, gS.c, gS.m0, gS.m1, gF, by rw [lF]; exact gS.len⟩, List.getElem?_set_self bl, (nx.trans n23).put lb l0⟩
    have a4 : ex (G.Γ (m+1)) (.ifs (.cmp .eq (.call "_law_draw" (.cons (.loc 0) (.cons (.lit (.int (5))) .nil))) (.lit (.int (0)))) (.asg (.nm 6) (.lit (.str "main"))) .nop) [some (.ref 1), o1, some (.ref lf0), some S.v, some (.ref h.length), p5, some (.str S.nm)] h2 = .ok (.nx [some (.ref 1), o1, some (.ref lf0), some S.v, some (.ref h.length), p5, some (.str S.nm)]) h3 := by
      simp [e3, c0]
    unfold Mi.forTurn
    rw [show (Tg.nm 3).put S.v [some (.ref 1), o1, some (.ref lf0), o3, o4, o5, o6] = some [some (.ref 1), o1, some (.ref lf0), some S.v, o4, o5, o6] from rfl, orBad_some, b_rs, seq_nx a1, seq_nx a2, seq_nx a3, seq_nx a4, fin _ gS.nm]
    rfl
end
theorem S_renamed (m : Nat) {h : Hh} (s : Sta h) {Ss : List Sn} (gS : ∀ S ∈ Ss, S.Good) (hl : Ss.length ≤ 3) : ∃ (Ts : List Sn) (h' : Hh), callF G (m+2) (.fn "_law_renamed") [.ref 1, .tup (Ss.map Sn.v)] h = .ok (.tup (Ts.map Sn.v)) h' ∧ (∀ S ∈ Ts, S.Good) ∧ Ts.length ≤ 3 ∧ Nx h h' := by
  have sl := s.len
  have n1 : Nx h (h ++ [.lst []]) := .grow s .app
  have q := walkF_inv (f := Mi.forTurn (ex (G.Γ (m+1)) b_rs) (.nm 3)) (xs := Ss.map Sn.v) (a := [some (.ref 1), some (.tup (Ss.map Sn.v)), some (.ref h.length), none, none, none, none]) (h := h ++ [.lst []])
    (Q := fun r h2 => ∃ (Ts : List Sn) (p3 p4 p5 p6 : Option Val), r = .inl [some (.ref 1), some (.tup (Ss.map Sn.v)), some (.ref h.length), p3, p4, p5, p6] ∧ (∀ F ∈ Ts, F.Good) ∧ Ts.length = Ss.length ∧ h2[h.length]? = some (.lst (Ts.map Sn.v)) ∧ Nx h h2)
    (fun i ρ h2 => ∃ (Ts : List Sn) (p3 p4 p5 p6 : Option Val), ρ = [some (.ref 1), some (.tup (Ss.map Sn.v)), some (.ref h.length), p3, p4, p5, p6] ∧ (∀ F ∈ Ts, F.Good) ∧ Ts.length = i ∧ h2[h.length]? = some (.lst (Ts.map Sn.v)) ∧ Nx h h2)
    ⟨[], none, none, none, none, rfl, fun _ h => (by cases h), rfl, get_new, n1⟩
    (by
      rintro i x ρ h2 hx ⟨Ts, p3, p4, p5, p6, rfl, gT, lT, f2, n2⟩
      obtain ⟨S, hS, rfl⟩ := List.mem_map.mp (List.mem_of_getElem? hx)
      have hi : i < Ss.length := by have := (List.getElem?_eq_some_iff.mp hx).1; simpa using this
      obtain ⟨S', q4, q5, q6, h3, e, g', f3, n3⟩ := rs_turn m (o1 := some (.tup (Ss.map Sn.v))) (o3 := p3) (o4 := p4) (o5 := p5) (o6 := p6) n2 sl (Nat.le_refl _) f2 (by omega) S (gS S hS)
      rw [e]
      refine ⟨Ts ++ [S'], _, q4, q5, q6, rfl, fun K hK => ?_, by simp [lT], f3, n3⟩
      rcases List.mem_append.mp hK with hK | hK
      · exact gT K hK
      · rw [List.mem_singleton.mp hK]; exact g')
    (by
      rintro ρ h2 ⟨Ts, p3, p4, p5, p6, rfl, gT, lT, f2, n2⟩
      exact ⟨Ts, p3, p4, p5, p6, rfl, gT, by simpa using lT, f2, n2⟩)
  obtain ⟨r, h2, e, Ts, p3, p4, p5, p6, rfl, gT, lT, f2, n2⟩ := q.get
  refine ⟨Ts, h2, ?_, gT, by omega, n2⟩
  have a1 : ex (G.Γ (m+1)) (.asg (.nm 2) (.lst .nil)) [some (.ref 1), some (.tup (Ss.map Sn.v)), none, none, none, none, none] h = .ok (.nx [some (.ref 1), some (.tup (Ss.map Sn.v)), some (.ref h.length), none, none, none, none]) (h ++ [.lst []]) := by simp
  have a2 : ex (G.Γ (m+1)) (.for_ (.nm 3) (.itr (.loc 1)) b_rs) [some (.ref 1), some (.tup (Ss.map Sn.v)), some (.ref h.length), none, none, none, none] (h ++ [.lst []]) = .ok (.nx [some (.ref 1), some (.tup (Ss.map Sn.v)), some (.ref h.length), p3, p4, p5, p6]) h2 := by
    have ei : evi (G.Γ (m+1)) (.itr (.loc 1)) [some (.ref 1), some (.tup (Ss.map Sn.v)), some (.ref h.length), none, none, none, none] (h ++ [.lst []]) = .ok (.fix (Ss.map Sn.v)) (h ++ [.lst []]) := by simp
    rw [w_for, ei, held_ok, walk_fix, e]
    rfl
  have a3 : ex (G.Γ (m+1)) (.ret (.bif .tuple (.cons (.loc 2) .nil))) [some (.ref 1), some (.tup (Ss.map Sn.v)), some (.ref h.length), p3, p4, p5, p6] h2 = .ok (.rt (.tup (Ts.map Sn.v))) h2 := by simp [r_lseq f2]
  refine call_rt at__law_renamed rfl ?_
  rw [show startE ⟨2, 7, b__law_renamed⟩ [.ref 1, .tup (Ss.map Sn.v)] = [some (.ref 1), some (.tup (Ss.map Sn.v)), none, none, none, none, none] from rfl, ren_body, seq_nx a1, seq_nx a2, a3]
end K20

set_option maxHeartbeats 4000000
namespace K20
open Mi PySem
/-! ### comprehensions that leave the heap alone -/
section
variable {Γ : Cxt} {ρ : Mi.En} {own : List Nat} {t t2 : Tg} {elt it it2 c c2 : Ex} {hs h : Hh} {ι κ : Type} {vf g : ι → Val} {xs : List ι} {p : ι → Bool} {Ef : ι → Mi.En}
theorem lc_pure (hx : xs.length < sizeLine) (hit : evi Γ it ρ hs = .ok (.fix (xs.map vf)) h) (hp : ∀ x ∈ xs, t.put (vf x) (wipe ρ own) = some (Ef x))
    (hc : ∀ x ∈ xs, ev Γ c (Ef x) h = .ok (.bl (p x)) h) (he : ∀ x ∈ xs, p x = true → ev Γ elt (Ef x) h = .ok (g x) h) :
    ev Γ (.cmpr elt (.gen t it c .nil) own) ρ hs = .ok (.ref h.length) (h ++ [.lst ((xs.filter p).map g)]) := by
  have go : ∀ (ys : List ι) (acc : List Val), (∀ y ∈ ys, y ∈ xs) → acc.length + ys.length < sizeLine → walkF (T := Unit) (fun x acc h => orBad (t.put x (wipe ρ own)) fun ρ1 => (ev Γ c ρ1 h).bind fun y h => orBad (Mi.truthy h y) fun k =>
      if k then (evg Γ .nil (fun ρ2 h => ev Γ elt ρ2 h) ρ1 acc h).bind fun acc h => R.ok (Sum.inl acc) h else R.ok (Sum.inl acc) h) (ys.map vf) acc h = .ok (.inl (acc ++ (ys.filter p).map g)) h := by
    intro ys
    induction ys with
    | nil => intro acc _ _; simp [walkF]
    | cons y ys ih =>
      intro acc hm hl
      simp only [List.length_cons] at hl
      have my := hm y (List.mem_cons_self ..)
      rw [List.map_cons]
      unfold walkF
      rw [hp y my, orBad_some, hc y my, Mi.R.bind_ok, q1, orBad_some]
      cases hpy : p y with
      | false =>
        simp only [Bool.false_eq_true, if_false, Mi.R.bind_ok]
        rw [ih acc (fun w hw => hm w (List.mem_cons_of_mem _ hw)) (by omega)]
        simp [hpy]
      | true =>
        have hla : acc.length < sizeLine := by omega
        have eg : evg Γ .nil (fun ρ2 h => ev Γ elt ρ2 h) (Ef y) acc h = .ok (acc ++ [g y]) h := by
          simp only [evg]
          rw [he y my hpy, Mi.R.bind_ok]
          simp only [okIf, decide_eq_true hla, if_true]
        simp only [if_true]
        rw [eg, Mi.R.bind_ok, Mi.R.bind_ok]
        simp only
        rw [ih (acc ++ [g y]) (fun w hw => hm w (List.mem_cons_of_mem _ hw)) (by simp; omega)]
        simp [hpy]
  have e := go xs [] (fun _ h => h) (by simpa using hx)
  simp only [ev, hit, Mi.R.bind_ok, walk]
  rw [e]
  simp [newOb]
variable {ys : ι → List κ} {wf : ι → κ → Val} {gg : ι → κ → Val} {Eg : ι → κ → Mi.En}
theorem sum_le {f : ι → Nat} : ∀ {l : List ι} {x : ι}, x ∈ l → f x ≤ (l.map f).sum
  | a :: l, x, h => by
    rw [List.map_cons, List.sum_cons]
    rcases List.mem_cons.mp h with rfl | h
    · omega
    · have := sum_le (f := f) h; omega
theorem lc_pure2 (hx : (xs.map fun x => (ys x).length).sum < sizeLine) (hit : evi Γ it ρ hs = .ok (.fix (xs.map vf)) h) (hp : ∀ x ∈ xs, t.put (vf x) (wipe ρ own) = some (Ef x))
    (hit2 : ∀ x ∈ xs, evi Γ it2 (Ef x) h = .ok (.fix ((ys x).map (wf x))) h) (hp2 : ∀ x ∈ xs, ∀ y ∈ ys x, t2.put (wf x y) (wipe (Ef x) t2.slots) = some (Eg x y))
    (he : ∀ x ∈ xs, ∀ y ∈ ys x, ev Γ elt (Eg x y) h = .ok (gg x y) h) :
    ev Γ (.cmpr elt (.gen t it (.lit (.bl true)) (.gen t2 it2 (.lit (.bl true)) .nil)) own) ρ hs = .ok (.ref h.length) (h ++ [.lst (xs.flatMap fun x => (ys x).map (gg x))]) := by
  have inner : ∀ x ∈ xs, ∀ (zs : List κ) (acc : List Val), (∀ y ∈ zs, y ∈ ys x) → acc.length + zs.length < sizeLine → walkF (T := Unit) (fun y acc h => orBad (t2.put y (wipe (Ef x) t2.slots)) fun ρ1 => (ev Γ (.lit (.bl true)) ρ1 h).bind fun y h => orBad (Mi.truthy h y) fun k =>
      if k then (evg Γ .nil (fun ρ2 h => ev Γ elt ρ2 h) ρ1 acc h).bind fun acc h => R.ok (Sum.inl acc) h else R.ok (Sum.inl acc) h) (zs.map (wf x)) acc h = .ok (.inl (acc ++ zs.map (gg x))) h := by
    intro x hx zs
    induction zs with
    | nil => intro acc _ _; simp [walkF]
    | cons y zs ih =>
      intro acc hm hl
      simp only [List.length_cons] at hl
      have my := hm y (List.mem_cons_self ..)
      have hla : acc.length < sizeLine := by omega
      have eg : evg Γ .nil (fun ρ2 h => ev Γ elt ρ2 h) (Eg x y) acc h = .ok (acc ++ [gg x y]) h := by
        simp only [evg]
        rw [he x hx y my, Mi.R.bind_ok]
        simp only [okIf, decide_eq_true hla, if_true]
      rw [List.map_cons]
      unfold walkF
      rw [hp2 x hx y my, orBad_some, v0, Mi.R.bind_ok, q1, orBad_some]
      simp only [if_true]
      rw [eg, Mi.R.bind_ok, Mi.R.bind_ok]
      simp only
      rw [ih (acc ++ [gg x y]) (fun w hw => hm w (List.mem_cons_of_mem _ hw)) (by simp; omega)]
      simp
  have go : ∀ (us : List ι) (acc : List Val), (∀ y ∈ us, y ∈ xs) → acc.length + (us.map fun x => (ys x).length).sum < sizeLine → walkF (T := Unit) (fun x acc h => orBad (t.put x (wipe ρ own)) fun ρ1 => (ev Γ (.lit (.bl true)) ρ1 h).bind fun y h => orBad (Mi.truthy h y) fun k =>
      if k then (evg Γ (.gen t2 it2 (.lit (.bl true)) .nil) (fun ρ2 h => ev Γ elt ρ2 h) ρ1 acc h).bind fun acc h => R.ok (Sum.inl acc) h else R.ok (Sum.inl acc) h) (us.map vf) acc h = .ok (.inl (acc ++ us.flatMap fun x => (ys x).map (gg x))) h := by
    intro us
    induction us with
    | nil => intro acc _ _; simp [walkF]
    | cons x us ih =>
      intro acc hm hl
      simp only [List.map_cons, List.sum_cons] at hl
      have my := hm x (List.mem_cons_self ..)
      have eg : evg Γ (.gen t2 it2 (.lit (.bl true)) .nil) (fun ρ2 h => ev Γ elt ρ2 h) (Ef x) acc h = .ok (acc ++ (ys x).map (gg x)) h := by
        have := inner x my (ys x) acc (fun _ h => h) (by omega)
        rw [evg, hit2 x my, Mi.R.bind_ok]
        show (walkF _ _ acc h).bind _ = _
        rw [this]
        rfl
      rw [List.map_cons]
      unfold walkF
      rw [hp x my, orBad_some, v0, Mi.R.bind_ok, q1, orBad_some]
      simp only [if_true]
      rw [eg, Mi.R.bind_ok, Mi.R.bind_ok]
      simp only
      rw [ih (acc ++ (ys x).map (gg x)) (fun w hw => hm w (List.mem_cons_of_mem _ hw)) (by simp; omega)]
      simp
  have e := go xs [] (fun _ h => h) (by simpa using hx)
  simp only [ev, hit, Mi.R.bind_ok, walk]
  simp only [ev, Mi.R.bind_ok] at e
  rw [e]
  simp [newOb]
end
/-! ### what forms are as data -/
theorem Qk.dat {q : Qk} (g : q.Good) : Dat 6 40000 q.v := by
  have d4 : ∀ {v}, De v → Dat 4 10600 v := fun D => Dat.mono D (by omega) (Nat.le_refl _)
  cases q with
  | int a b => exact (Dat.t3 (d := 4) (.str (by decide +kernel)) (d4 g.1) (d4 g.2)).mono (by omega) (by omega)
  | text => exact (Dat.t2 (d := 1) (.str (by decide +kernel)) (.int (by decide))).mono (by omega) (by omega)
  | ch m os =>
    have h1 : Dats 4 (os.length * (10811 + 2)) (os.map opV) := Dats.map fun o ho => (Dat.t2 (d := 3) (.str (g.1 o ho).1) (g.1 o ho).2).mono (by omega) (by omega)
    have h2 : os.length * (10811 + 2) ≤ 32500 := by have := g.2; omega
    have sm : Sml (if m then "choices" else "choice") := by cases m <;> decide +kernel
    exact (Dat.t2 (d := 5) (.str sm) (Dat.tup (h1.mono (Nat.le_refl _) h2))).mono (by omega) (by omega)
  | tr => exact (Dat.t1 (d := 1) (.str (by decide +kernel))).mono (by omega) (by omega)
theorem Fd.dat {F : Fd} (g : F.Good) : Dat 7 72000 F.v := by
  have d6 : ∀ {v}, Dc v → Dat 6 31000 v := fun D => Dat.mono D (by omega) (Nat.le_refl _)
  cases F with
  | q nm c k b => exact (Dat.t5 (d := 6) (.str (by decide +kernel)) (.str g.1) (d6 g.2.1) (Qk.dat g.2.2) (.bl b)).mono (by omega) (by omega)
  | f nm c e => exact (Dat.t4 (d := 6) (.str (by decide +kernel)) (.str g.1) (d6 g.2.1) (d6 g.2.2)).mono (by omega) (by omega)
  | r nm c e b => exact (Dat.t6 (d := 6) (.str (by decide +kernel)) (.str g.1) (d6 g.2.1) (d6 g.2.2) (.str (by decide +kernel)) (.bl b)).mono (by omega) (by omega)
theorem Sn.dat {S : Sn} (g : S.Good) : Dat 9 250000 S.v := by
  have h1 : Dats 7 (S.fs.length * (72000 + 2)) (S.fs.map Fd.v) := Dats.map fun F hF => Fd.dat (g.fs F hF)
  have h2 : S.fs.length * (72000 + 2) ≤ 216006 := by have := g.len; omega
  have hm : S.m.natAbs ≤ 1000 := by have := g.m0; have := g.m1; omega
  exact (Dat.t4 (d := 8) (.str g.nm) (Dat.mono g.c (by omega) (Nat.le_refl _)) (.int hm) ((Dat.tup (h1.mono (Nat.le_refl _) h2)).mono (by omega) (Nat.le_refl _))).mono (by omega) (by omega)
abbrev formV (Ss : List Sn) : Val := .tup (Ss.map Sn.v)
def pairsF (Ss : List Sn) : List (Sn × Fd) := Ss.flatMap fun S => S.fs.map fun F => (S, F)
def pairV (p : Sn × Fd) : Val := .tup [p.1.v, p.2.v]
structure Fm (Ss : List Sn) : Prop where
  good : ∀ S ∈ Ss, S.Good
  len : Ss.length ≤ 3
theorem pairs_len : ∀ {Ss : List Sn}, (∀ S ∈ Ss, S.Good) → (pairsF Ss).length ≤ 3 * Ss.length ∧ (Ss.map fun S => S.fs.length).sum ≤ 3 * Ss.length
  | [], _ => ⟨Nat.le_refl _, Nat.le_refl _⟩
  | S :: Ss, h => by
    have ih := pairs_len (Ss := Ss) fun T hT => h T (List.mem_cons_of_mem _ hT)
    have := (h S (List.mem_cons_self ..)).len
    simp only [pairsF, List.flatMap_cons, List.length_append, List.length_map, List.length_cons, List.map_cons, List.sum_cons] at ih ⊢
    omega
theorem pairs_mem {Ss : List Sn} {p : Sn × Fd} (h : p ∈ pairsF Ss) : p.1 ∈ Ss ∧ p.2 ∈ p.1.fs := by
  obtain ⟨S, hS, h⟩ := List.mem_flatMap.mp h
  obtain ⟨F, hF, rfl⟩ := List.mem_map.mp h
  exact ⟨hS, hF⟩
theorem pair_dat {Ss : List Sn} (f : Fm Ss) {p : Sn × Fd} (h : p ∈ pairsF Ss) : Dat 10 330000 (pairV p) := by
  obtain ⟨h1, h2⟩ := pairs_mem h
  have g := f.good _ h1
  exact (Dat.t2 (d := 9) (Sn.dat g) (Dat.mono (Fd.dat (g.fs _ h2)) (by omega) (Nat.le_refl _))).mono (by omega) (by omega)
theorem S_fields_of (m) {Ss : List Sn} (f : Fm Ss) (h : Hh) : callF G (m+1) (.fn "fields_of") [formV Ss] h = .ok (.tup ((pairsF Ss).map pairV)) (h ++ [.lst ((pairsF Ss).map pairV)]) := by
  have lp := pairs_len f.good
  have e := lc_pure2 (Γ := G.Γ m) (ρ := [some (formV Ss), none, none]) (own := [1, 2]) (t := .nm 1) (t2 := .nm 2) (elt := .tup (.cons (.loc 1) (.cons (.loc 2) .nil))) (it := .itr (.loc 0)) (it2 := .itr (.idx (.loc 1) (.lit (.int 3)))) (hs := h) (h := h) (xs := Ss) (vf := Sn.v)
    (Ef := fun S => [some (formV Ss), some S.v, none]) (ys := fun S => S.fs) (wf := fun _ F => F.v) (Eg := fun S F => [some (formV Ss), some S.v, some F.v]) (gg := fun S F => pairV (S, F))
    (few_line (by have := f.len; omega)) (by simp) (fun S hS => by simp [Mi.wipe]) (fun S hS => by simp [Sn.v, at3]) (fun S hS F hF => by simp [Mi.wipe, Tg.slots]) (fun S hS F hF => by simp [pairV])
  have e2 : (Ss.flatMap fun x => x.fs.map fun F => pairV (x, F)) = (pairsF Ss).map pairV := by simp [pairsF, List.map_flatMap, Function.comp_def]
  rw [e2] at e
  refine call_rt at_fields_of rfl ?_
  show ex (G.Γ m) b_fields_of [some (formV Ss), none, none] h = _
  rw [b_fields_of, w7, v21, v25, e, Mi.R.bind_ok, v24, Mi.R.bind_ok, Mi.R.bind_ok, q65, r_lseq get_new, orBad_some]
  rfl
end K20

set_option maxHeartbeats 4000000
namespace K20
open Mi PySem
def headV {α : Type} (f : α → Val) (l : List α) : Val := match l with
  | [] => .non
  | x :: _ => f x
theorem headV_at {α : Type} (f : α → Val) (l : List α) : L2.atI (l.map f ++ [.non]) 0 = some (headV f l) := by
  cases l <;> exact at0
theorem seq_rt {n : Nat} {A B : Sm} {ρ : Mi.En} {h h' : Hh} {v : Val} (e : ex (G.Γ n) A ρ h = .ok (.rt v) h') : ex (G.Γ n) (.seq A B) ρ h = .ok (.rt v) h' := by rw [w1, e, Mi.R.bind_ok]
/-- ret xs[0] if xs else None -/
theorem ret_head {n : Nat} {α : Type} {f : α → Val} {l : List α} {i p : Nat} {ρ : Mi.En} {h : Hh} (e : ρ.get? i = some (.ref p)) (hl : h[p]? = some (.lst (l.map f))) :
    ex (G.Γ n) (.ret (.ite (.loc i) (.idx (.loc i) (.lit (.int (0)))) (.lit (.non)))) ρ h = .ok (.rt (headV f l)) h := by
  have tr : Mi.truthy h (.ref p) = some (!(l.map f).isEmpty) := by simp only [Mi.truthy, hl]
  rw [w7, v13, v1, e, orBad_some, Mi.R.bind_ok, tr, orBad_some]
  cases l with
  | nil => simp [headV]
  | cons a l =>
    simp only [List.map_cons, List.isEmpty_cons, Bool.not_false, if_true]
    rw [v14, v1, e, orBad_some, Mi.R.bind_ok, v0, Mi.R.bind_ok, r_idx hl, List.map_cons, at0, orBad_some]
    rfl
def secs (Ss : List Sn) (nm : Str) : List Sn := Ss.filter fun S => S.nm == nm
def flds (Ss : List Sn) (nm : Str) : List (Sn × Fd) := (pairsF Ss).filter fun p => p.2.nm == nm
theorem sn_idx0 (S : Sn) (h : Hh) : idxop S.v (.int 0) h = some (.str S.nm) := by unfold Sn.v; rw [q43, at0]
theorem sn_idx3 (S : Sn) (h : Hh) : idxop S.v (.int 3) h = some (.tup (S.fs.map Fd.v)) := by unfold Sn.v; rw [q43, at3]
theorem fd_idx1 (F : Fd) (h : Hh) : idxop F.v (.int 1) h = some (.str F.nm) := by cases F <;> (unfold Fd.v; rw [q43, at1]; rfl)
theorem pr_idx1 (p : Sn × Fd) (h : Hh) : idxop (pairV p) (.int 1) h = some p.2.v := by unfold pairV; rw [q43, at1]
theorem S_section_of (m) {Ss : List Sn} (f : Fm Ss) (nm : Str) (h : Hh) : callF G (m+1) (.fn "section_of") [formV Ss, .str nm] h = .ok (headV Sn.v (secs Ss nm)) (h ++ [.lst ((secs Ss nm).map Sn.v)]) := by
  have e := lc_pure (Γ := G.Γ m) (ρ := [some (formV Ss), some (.str nm), none, none]) (own := [3]) (t := .nm 3) (elt := .loc 3) (it := .itr (.loc 0)) (c := .cmp .eq (.idx (.loc 3) (.lit (.int (0)))) (.loc 1)) (hs := h) (h := h) (xs := Ss) (vf := Sn.v) (g := Sn.v) (p := fun S => S.nm == nm)
    (Ef := fun S => [some (formV Ss), some (.str nm), none, some S.v]) (few_line (by have := f.len; omega)) (by simp) (fun S hS => by simp [Mi.wipe]) (fun S hS => by simp [sn_idx0]) (fun S hS _ => by simp)
  refine call_rt at_section_of rfl ?_
  show ex (G.Γ m) b_section_of [some (formV Ss), some (.str nm), none, none] h = _
  have a1 : ex (G.Γ m) (.asg (.nm 2) (.cmpr (.loc 3) (.gen (.nm 3) (.itr (.loc 0)) (.cmp .eq (.idx (.loc 3) (.lit (.int (0)))) (.loc 1)) .nil) [3])) [some (formV Ss), some (.str nm), none, none] h = .ok (.nx [some (formV Ss), some (.str nm), some (.ref h.length), none]) (h ++ [.lst ((secs Ss nm).map Sn.v)]) := by
    rw [w2, e]
    rfl
  rw [b_section_of, seq_nx a1, ret_head rfl get_new]
theorem S_field_of (m) {Ss : List Sn} (f : Fm Ss) (nm : Str) (h : Hh) : ∃ h', callF G (m+2) (.fn "field_of") [formV Ss, .str nm] h = .ok (headV (fun p => p.2.v) (flds Ss nm)) h' ∧ Grow h h' := by
  have lp := pairs_len f.good
  have ef := S_fields_of m f h
  have e := lc_pure (Γ := G.Γ (m+1)) (ρ := [some (formV Ss), some (.str nm), none, none, none]) (own := [3, 4]) (t := .cons (.nm 3) (.cons (.nm 4) .nil)) (elt := .loc 4) (it := .itr (.call "fields_of" (.cons (.loc 0) .nil))) (c := .cmp .eq (.idx (.loc 4) (.lit (.int (1)))) (.loc 1)) (hs := h) (h := h ++ [.lst ((pairsF Ss).map pairV)]) (xs := pairsF Ss) (vf := pairV) (g := fun p => p.2.v) (p := fun p => p.2.nm == nm)
    (Ef := fun p => [some (formV Ss), some (.str nm), none, some p.1.v, some p.2.v]) (few_line (by have := f.len; omega)) (by simp [ef]) (fun S hS => by simp [Mi.wipe, pairV, tupOf]) (fun p hp => by simp [fd_idx1]) (fun S hS _ => by simp)
  refine ⟨h ++ [.lst ((pairsF Ss).map pairV)] ++ [.lst ((flds Ss nm).map fun p => p.2.v)], call_rt at_field_of rfl ?_, .trans .app .app⟩
  show ex (G.Γ (m+1)) b_field_of [some (formV Ss), some (.str nm), none, none, none] h = _
  have a1 : ex (G.Γ (m+1)) (.asg (.nm 2) (.cmpr (.loc 4) (.gen (.cons (.nm 3) (.cons (.nm 4) .nil)) (.itr (.call "fields_of" (.cons (.loc 0) .nil))) (.cmp .eq (.idx (.loc 4) (.lit (.int (1)))) (.loc 1)) .nil) [3, 4])) [some (formV Ss), some (.str nm), none, none, none] h = .ok (.nx [some (formV Ss), some (.str nm), some (.ref (h ++ [Ob.lst ((pairsF Ss).map pairV)]).length), none, none]) (h ++ [.lst ((pairsF Ss).map pairV)] ++ [.lst ((flds Ss nm).map fun p => p.2.v)]) := by
    rw [w2, e]
    rfl
  rw [b_field_of, seq_nx a1, ret_head (f := fun p : Sn × Fd => p.2.v) rfl get_new]
end K20

set_option maxHeartbeats 4000000
namespace K20
open Mi PySem
/-! ### expressions -/
def Qk.es : Qk → List Val
  | .int a b => [a, b]
  | .ch _ os => os.map (·.2)
  | _ => []
def Fd.es : Fd → List Val
  | .q _ c k _ => c :: k.es
  | .f _ c e => [c, e]
  | .r _ c e _ => [c, e]
def isV (v : Val) : Bool := match v with
  | .non => false
  | _ => true
theorem isn_ev (v : Val) (h : Hh) : cmpop .isn v .non h = some (isV v) := by cases v <;> rfl
/-- tuple of what is there -/
theorem ret_there {n : Nat} {l : List Val} {i p : Nat} {ρ : Mi.En} {h : Hh} (e : ρ.get? p = some (.ref i)) {j : Nat} (hj : j < (wipe ρ [j]).length) (hl : h[i]? = some (.lst l)) (hlen : l.length < 100) :
    ∃ h', ex (G.Γ n) (.ret (.bif .tuple (.cons (.cmpr (.loc j) (.gen (.nm j) (.itr (.loc p)) (.cmp .isn (.loc j) (.lit (.non))) .nil) [j]) .nil))) ρ h = .ok (.rt (.tup (l.filter isV))) h' ∧ Grow h h' := by
  obtain ⟨h', e1, g⟩ := lc_dynC (Γ := G.Γ n) (ρ := ρ) (own := [j]) (i := j) (elt := .loc j) (it := .itr (.loc p)) (c := .cmp .isn (.loc j) (.lit (.non))) (hs := h) (h0 := h) (xs := l) (vf := id) (g := id) (p := isV)
    hj (few_line (by omega)) (by simpa using hl) (by rw [v30, v1, e, orBad_some, Mi.R.bind_ok, r_src hl, orBad_some]) (fun x hx h2 g => ⟨.bl (isV x), h2, by
      have : En.get? ((wipe ρ [j]).set j (some (id x))) j = some x := by simp [En.get?, List.getElem?_set_self hj]
      rw [v11, v1, this, orBad_some, Mi.R.bind_ok, v0, Mi.R.bind_ok, isn_ev, orBad_some], .refl, by simp⟩)
    (fun x hx _ h2 g => ⟨h2, by
      have : En.get? ((wipe ρ [j]).set j (some (id x))) j = some x := by simp [En.get?, List.getElem?_set_self hj]
      rw [v1, this, orBad_some]; rfl, .refl⟩)
  refine ⟨h' ++ [.lst (l.filter isV)], ?_, g.trans .app⟩
  rw [w7, v21, v25, e1, Mi.R.bind_ok, v24, Mi.R.bind_ok, Mi.R.bind_ok, q65, r_lseq get_new, orBad_some]
  simp
theorem opt_at1 (o : Str × Val) (h : Hh) : idxop (opV o) (.int 1) h = some o.2 := by unfold opV; rw [q43, at1]
theorem S_kind_expressions (m) {k : Qk} (g : k.Good) (h : Hh) : ∃ h', callF G (m+1) (.fn "kind_expressions") [k.v] h = .ok (.ref h'.length) (h' ++ [.lst k.es]) ∧ Grow h h' := by
  cases k with
  | int a b => exact ⟨h, by rw [call_eq at_kind_expressions (by intro c; simp)]; simp [b_kind_expressions, Qk.v, at0, at1, at2, Qk.es], .refl⟩
  | text =>
    refine ⟨h, ?_, .refl⟩
    rw [call_eq at_kind_expressions (by intro c; simp)]
    have : Mi.inVal h (.str "text") (.kt [.str "choice", .str "choices"]) = some false := by kernel_rfl
    simp [b_kind_expressions, Qk.v, at0, Qk.es, this]
  | tr =>
    refine ⟨h, ?_, .refl⟩
    rw [call_eq at_kind_expressions (by intro c; simp)]
    have : Mi.inVal h (.str "truth") (.kt [.str "choice", .str "choices"]) = some false := by kernel_rfl
    simp [b_kind_expressions, Qk.v, at0, Qk.es, this]
  | ch mm os =>
    refine ⟨h, ?_, .refl⟩
    have go : ∀ w : Str, (w = "choice" ∨ w = "choices") → callF G (m+1) (.fn "kind_expressions") [.tup [.str w, .tup (os.map opV)]] h = .ok (.ref h.length) (h ++ [.lst (os.map (·.2))]) := fun w hw => by
      have e := lc_pure (Γ := G.Γ m) (ρ := [some (.tup [.str w, .tup (os.map opV)]), none, none]) (own := [1, 2]) (t := .cons (.nm 1) (.cons (.nm 2) .nil)) (elt := .loc 2) (it := .itr (.idx (.loc 0) (.lit (.int (1))))) (c := .lit (.bl true)) (hs := h) (h := h) (xs := os) (vf := opV) (g := fun o => o.2) (p := fun _ => true)
        (Ef := fun o => [some (.tup [.str w, .tup (os.map opV)]), some (.str o.1), some o.2]) (few_line (by have := g.2; omega)) (by simp [at1]) (fun o ho => by simp [Mi.wipe, opV, tupOf]) (fun o ho => by simp) (fun o ho _ => by simp)
      rw [List.filter_eq_self.mpr (fun _ _ => rfl)] at e
      have n1 : ¬ w = "integer" := by rcases hw with rfl | rfl <;> simp
      have i1 : Mi.inVal h (.str w) (.kt [.str "choice", .str "choices"]) = some true := by rcases hw with rfl | rfl <;> kernel_rfl
      refine call_rt at_kind_expressions rfl ?_
      show ex (G.Γ m) b_kind_expressions [some (.tup [.str w, .tup (os.map opV)]), none, none] h = _
      have a1 : ex (G.Γ m) (.ifs (.cmp .eq (.idx (.loc 0) (.lit (.int (0)))) (.glb "BOUNDED")) (.ret (.lst (.cons (.idx (.loc 0) (.lit (.int (1)))) (.cons (.idx (.loc 0) (.lit (.int (2)))) .nil)))) .nop) [some (.tup [.str w, .tup (os.map opV)]), none, none] h = .ok (.nx [some (.tup [.str w, .tup (os.map opV)]), none, none]) h := by simp [at0, n1]
      rw [b_kind_expressions, seq_nx a1, w7, v13]
      have c1 : ev (G.Γ m) (.cmp .inn (.idx (.loc 0) (.lit (.int (0)))) (.glb "WITH_OPTIONS")) [some (.tup [.str w, .tup (os.map opV)]), none, none] h = .ok (.bl true) h := by simp [at0, i1]
      rw [c1, Mi.R.bind_ok, q1, orBad_some]
      simp only [if_true]
      rw [e]
      rfl
    cases mm with
    | false => exact go "choice" (.inl rfl)
    | true => exact go "choices" (.inr rfl)
end K20

set_option maxHeartbeats 4000000
namespace K20
open Mi PySem
theorem Qk.es_len {k : Qk} (g : k.Good) : k.es.length ≤ 3 := by
  cases k with
  | int a b => simp [Qk.es]
  | ch m os => simpa [Qk.es] using g.2
  | text => simp [Qk.es]
  | tr => simp [Qk.es]
theorem Fd.es_len {F : Fd} (g : F.Good) : F.es.length ≤ 4 := by
  cases F with
  | q nm c k b => have := Qk.es_len g.2.2; simp only [Fd.es, List.length_cons]; omega
  | f nm c e => simp [Fd.es]
  | r nm c e b => simp [Fd.es]
theorem S_expressions_of (m) {F : Fd} (g : F.Good) (h : Hh) : ∃ h', callF G (m+2) (.fn "expressions_of") [F.v] h = .ok (.tup (F.es.filter isV)) h' ∧ Grow h h' := by
  have fin : ∀ (es : List Val) (h1 : Hh), es.length ≤ 4 → Grow h h1 → h1[h.length]? = some (.lst es) → ex (G.Γ (m+1)) (.seq (.asg (.nm 1) (.lst (.cons (.idx (.loc 0) (.lit (.int (2)))) .nil))) (.ifs (.cmp .eq (.idx (.loc 0) (.lit (.int (0)))) (.lit (.str "question")))
     (.exp (.bmt .extend (.loc 1) (.cons (.call "kind_expressions" (.cons (.idx (.loc 0) (.lit (.int (3)))) .nil)) .nil)))
     (.exp (.bmt .append (.loc 1) (.cons (.idx (.loc 0) (.lit (.int (3)))) .nil))))) [some F.v, none, none] h = .ok (.nx [some F.v, some (.ref h.length), none]) h1 → ∃ h', callF G (m+2) (.fn "expressions_of") [F.v] h = .ok (.tup (es.filter isV)) h' ∧ Grow h h' := by
    intro es h1 hl gr hes e
    obtain ⟨h2, e2, g2⟩ := ret_there (n := m+1) (l := es) (i := h.length) (p := 1) (ρ := [some F.v, some (.ref h.length), none]) (h := h1) rfl (j := 2) (by simp [Mi.wipe]) hes (by omega)
    refine ⟨h2, call_rt at_expressions_of rfl ?_, gr.trans g2⟩
    show ex (G.Γ (m+1)) b_expressions_of [some F.v, none, none] h = _
    rw [b_expressions_of, sq, seq_nx e, e2]
  have sl : ∀ k : Nat, k ≤ 10 → k ≤ sizeLine := fun k hk => Nat.le_trans hk (by decide)
  have gs : ∀ (v : Val) (u : Ob) (t : Hh), ((h ++ [Ob.lst [v]] ++ t).set h.length u) = h ++ (u :: t) := fun v u t => by simp
  cases F with
  | q nm c k b =>
    obtain ⟨h1, e1, ⟨t, rfl⟩⟩ := S_kind_expressions m g.2.2 (h ++ [.lst [c]])
    have l1 := Qk.es_len g.2.2
    refine fin (c :: k.es) ((h ++ [Ob.lst [c]] ++ t ++ [Ob.lst k.es]).set h.length (Ob.lst (c :: k.es))) (by simp; omega) ⟨Ob.lst (c :: k.es) :: (t ++ [Ob.lst k.es]), by rw [List.append_assoc]; exact gs _ _ _⟩ (List.getElem?_set_self (by simp)) ?_
    have r1 : lstOf (h ++ [.lst [c]] ++ t ++ [.lst k.es]) h.length = some [c] := by
      refine r_lst ?_
      rw [List.append_assoc, List.getElem?_append_left (by simp)]
      exact get_new
    have r2 : lstOf (h ++ [.lst [c]] ++ t ++ [.lst k.es]) (h ++ [Ob.lst [c]] ++ t).length = some k.es := r_lst get_new
    have r0 : lstOf (h ++ [Ob.lst [c]]) h.length = some [c] := r_lst get_new
    have ll : 1 + k.es.length ≤ sizeLine := sl _ (by omega)
    have e1 : callF G (m+1) (.fn "kind_expressions") [k.v] (h ++ [.lst [c]]) = .ok (.ref (h ++ [Ob.lst [c]] ++ t).length) (h ++ [.lst [c]] ++ t ++ [.lst k.es]) := e1
    generalize hL : (h ++ [Ob.lst [c]] ++ t).length = L at e1 r2
    generalize hH : h ++ [.lst [c]] ++ t ++ [.lst k.es] = H at e1 r1 r2 ⊢
    simp [Fd.v, at0, at2, at3, e1, r0, r1, r2, ll]
  | f nm c e =>
    refine fin [c, e] (h ++ [.lst [c, e]]) (by simp) .app get_new ?_
    have r0 : lstOf (h ++ [Ob.lst [c]]) h.length = some [c] := r_lst get_new
    have ll : 1 < sizeLine := by decide
    simp [Fd.v, at0, at2, at3, r0, ll]
  | r nm c e b =>
    refine fin [c, e] (h ++ [.lst [c, e]]) (by simp) .app get_new ?_
    have r0 : lstOf (h ++ [Ob.lst [c]]) h.length = some [c] := r_lst get_new
    have ll : 1 < sizeLine := by decide
    simp [Fd.v, at0, at2, at3, r0, ll]
end K20

set_option maxHeartbeats 4000000
namespace K20
open Mi PySem
def e_b1 : Sm := (.ifs (.and (.cmp .eq (.idx (.loc 0) (.lit (.int (0)))) (.lit (.str "question"))) (.cmp .eq (.idx (.idx (.loc 0) (.lit (.int (3)))) (.lit (.int (0)))) (.lit (.str "integer"))))
     (.asg (.nm 1) (.bin .add (.loc 1) (.lst (.cons (.idx (.idx (.loc 0) (.lit (.int (3)))) (.lit (.int (1)))) (.cons (.idx (.idx (.loc 0) (.lit (.int (3)))) (.lit (.int (2)))) .nil)))))
     .nop)
def e_c2 : Ex := (.cmpr (.idx (.loc 2) (.lit (.int (1)))) (.gen (.nm 2) (.itr (.idx (.idx (.loc 0) (.lit (.int (3)))) (.lit (.int (1))))) (.lit (.bl true)) .nil) [2])
def e_b2 : Sm := (.ifs (.and (.cmp .eq (.idx (.loc 0) (.lit (.int (0)))) (.lit (.str "question"))) (.cmp .inn (.idx (.idx (.loc 0) (.lit (.int (3)))) (.lit (.int (0)))) (.tup (.cons (.lit (.str "choice")) (.cons (.lit (.str "choices")) .nil)))))
     (.asg (.nm 1) (.bin .add (.loc 1) e_c2))
     .nop)
def e_b3 : Sm := (.ifs (.cmp .inn (.idx (.loc 0) (.lit (.int (0)))) (.tup (.cons (.lit (.str "formula")) (.cons (.lit (.str "rule")) .nil))))
     (.exp (.bmt .append (.loc 1) (.cons (.idx (.loc 0) (.lit (.int (3)))) .nil)))
     .nop)
theorem expr_body : b__law_expressions = .seq (.asg (.nm 1) (.lst (.cons (.idx (.loc 0) (.lit (.int (2)))) .nil))) (.seq e_b1 (.seq e_b2 (.seq e_b3 (.ret (.bif .tuple (.cons (.cmpr (.loc 3) (.gen (.nm 3) (.itr (.loc 1)) (.cmp .isn (.loc 3) (.lit (.non))) .nil) [3]) .nil)))))) := rfl
theorem in_fr (h : Hh) (w : Str) (b : Bool) (e : Mi.inVal h (.str w) (.tup [.str "formula", .str "rule"]) = some b) : Mi.inVal h (.str w) (.tup [.str "formula", .str "rule"]) = some b := e
theorem S_law_expressions (m) {F : Fd} (g : F.Good) (h : Hh) : ∃ h', callF G (m+1) (.fn "_law_expressions") [F.v] h = .ok (.tup (F.es.filter isV)) h' ∧ Grow h h' := by
  have fin : ∀ (es : List Val) (h1 : Hh) (i : Nat) (o2 : Option Val), es.length ≤ 4 → Grow h h1 → h1[i]? = some (.lst es) → ex (G.Γ m) (.seq (.asg (.nm 1) (.lst (.cons (.idx (.loc 0) (.lit (.int (2)))) .nil))) (.seq e_b1 (.seq e_b2 e_b3))) [some F.v, none, none, none] h = .ok (.nx [some F.v, some (.ref i), o2, none]) h1 → ∃ h', callF G (m+1) (.fn "_law_expressions") [F.v] h = .ok (.tup (es.filter isV)) h' ∧ Grow h h' := by
    intro es h1 i o2 hl gr hes e
    obtain ⟨h2, e2, g2⟩ := ret_there (n := m) (l := es) (i := i) (p := 1) (ρ := [some F.v, some (.ref i), o2, none]) (h := h1) rfl (j := 3) (by simp [Mi.wipe]) hes (by omega)
    refine ⟨h2, call_rt at__law_expressions rfl ?_, gr.trans g2⟩
    show ex (G.Γ m) b__law_expressions [some F.v, none, none, none] h = _
    rw [expr_body, sq, sq, sq, seq_nx (ρ' := [some F.v, some (.ref i), o2, none]) (h' := h1) ?_, e2]
    rw [← sq, ← sq]
    exact e
  have ll : 1 < sizeLine := by decide
  have l3 : 3 ≤ sizeLine := by decide
  have r0 : ∀ c, lstOf (h ++ [Ob.lst [c]]) h.length = some [c] := fun c => r_lst get_new
  have nofr : Mi.inVal h (.str "question") (.tup [.str "formula", .str "rule"]) = some false := by kernel_rfl
  cases F with
  | f nm c e =>
    have i1 : ∀ h : Hh, inSeq h (.str "formula") [.str "formula", .str "rule"] = some true := fun h => by kernel_rfl
    refine fin [c, e] (h ++ [Ob.lst [c, e]]) h.length none (by simp) .app get_new ?_
    simp [e_b1, e_b2, e_b3, Fd.v, at0, at2, at3, r0, ll, i1]
  | r nm c e b =>
    have i1 : ∀ h : Hh, inSeq h (.str "rule") [.str "formula", .str "rule"] = some true := fun h => by kernel_rfl
    refine fin [c, e] (h ++ [Ob.lst [c, e]]) h.length none (by simp) .app get_new ?_
    simp [e_b1, e_b2, e_b3, Fd.v, at0, at2, at3, r0, ll, i1]
  | q nm c k b =>
    have i0 : ∀ h : Hh, inSeq h (.str "question") [.str "formula", .str "rule"] = some false := fun h => by kernel_rfl
    cases k with
    | int x y =>
      have i1 : ∀ h : Hh, inSeq h (.str "integer") [.str "choice", .str "choices"] = some false := fun h => by kernel_rfl
      refine fin [c, x, y] (h ++ [Ob.lst [c]] ++ [Ob.lst [x, y]] ++ [Ob.lst [c, x, y]]) _ none (by simp) ⟨[Ob.lst [c]] ++ [Ob.lst [x, y]] ++ [Ob.lst [c, x, y]], by simp⟩ get_new ?_
      have r1 : lstOf (h ++ [Ob.lst [c], Ob.lst [x, y]]) h.length = some [c] := r_lst (by simp)
      have r2 : lstOf (h ++ [Ob.lst [c], Ob.lst [x, y]]) (h.length + 1) = some [x, y] := r_lst (by simp)
      simp [e_b1, e_b2, e_b3, Fd.v, Qk.v, at0, at1, at2, at3, r0, r1, r2, l3, i0, i1]
    | text =>
      have i1 : ∀ h : Hh, inSeq h (.str "text") [.str "choice", .str "choices"] = some false := fun h => by kernel_rfl
      refine fin [c] (h ++ [Ob.lst [c]]) h.length none (by simp) .app get_new ?_
      simp [e_b1, e_b2, e_b3, Fd.v, Qk.v, at0, at1, at2, at3, i0, i1]
    | tr =>
      have i1 : ∀ h : Hh, inSeq h (.str "truth") [.str "choice", .str "choices"] = some false := fun h => by kernel_rfl
      refine fin [c] (h ++ [Ob.lst [c]]) h.length none (by simp) .app get_new ?_
      simp [e_b1, e_b2, e_b3, Fd.v, Qk.v, at0, at1, at2, at3, i0, i1]
    | ch mm os =>
      have go : ∀ w : Str, (w = "choice" ∨ w = "choices") → ∀ v, v = Val.tup [.str "question", .str nm, c, .tup [.str w, .tup (os.map opV)], .bl b] → ex (G.Γ m) (.seq (.asg (.nm 1) (.lst (.cons (.idx (.loc 0) (.lit (.int (2)))) .nil))) (.seq e_b1 (.seq e_b2 e_b3))) [some v, none, none, none] h = .ok (.nx [some v, some (.ref (h.length + 2)), none, none]) (h ++ [Ob.lst [c]] ++ [Ob.lst (os.map (·.2))] ++ [Ob.lst (c :: os.map (·.2))]) := by
        rintro w hw v rfl
        have n1 : ¬ w = "integer" := by rcases hw with rfl | rfl <;> simp
        have i1 : ∀ h : Hh, inSeq h (.str w) [.str "choice", .str "choices"] = some true := fun h => by rcases hw with rfl | rfl <;> kernel_rfl
        have ec := lc_pure (Γ := G.Γ m) (ρ := [some (.tup [.str "question", .str nm, c, .tup [.str w, .tup (os.map opV)], .bl b]), some (.ref h.length), none, none]) (own := [2]) (t := .nm 2) (elt := .idx (.loc 2) (.lit (.int (1)))) (it := .itr (.idx (.idx (.loc 0) (.lit (.int (3)))) (.lit (.int (1))))) (c := .lit (.bl true)) (hs := h ++ [Ob.lst [c]]) (h := h ++ [Ob.lst [c]]) (xs := os) (vf := opV) (g := fun o => o.2) (p := fun _ => true)
          (Ef := fun o => [some (.tup [.str "question", .str nm, c, .tup [.str w, .tup (os.map opV)], .bl b]), some (.ref h.length), some (opV o), none]) (few_line (by have := g.2.2.2; omega)) (by simp [at1, at3]) (fun o ho => by simp [Mi.wipe]) (fun o ho => by simp) (fun o ho _ => by simp [opt_at1])
        rw [List.filter_eq_self.mpr (fun _ _ => rfl)] at ec
        have r1 : lstOf (h ++ [Ob.lst [c]] ++ [Ob.lst (os.map (·.2))]) h.length = some [c] := r_lst (by simp)
        have r2 : lstOf (h ++ [Ob.lst [c]] ++ [Ob.lst (os.map (·.2))]) (h ++ [Ob.lst [c]]).length = some (os.map (·.2)) := r_lst get_new
        have lo : [c].length + (os.map (·.2)).length ≤ sizeLine := Nat.le_trans (show _ ≤ 4 by have := g.2.2.2; simp; omega) (by decide)
        have a1 : ex (G.Γ m) (.asg (.nm 1) (.lst (.cons (.idx (.loc 0) (.lit (.int (2)))) .nil))) [some (.tup [.str "question", .str nm, c, .tup [.str w, .tup (os.map opV)], .bl b]), none, none, none] h = .ok (.nx [some (.tup [.str "question", .str nm, c, .tup [.str w, .tup (os.map opV)], .bl b]), some (.ref h.length), none, none]) (h ++ [Ob.lst [c]]) := by simp [at2]
        have a2 : ex (G.Γ m) e_b1 [some (.tup [.str "question", .str nm, c, .tup [.str w, .tup (os.map opV)], .bl b]), some (.ref h.length), none, none] (h ++ [Ob.lst [c]]) = .ok (.nx [some (.tup [.str "question", .str nm, c, .tup [.str w, .tup (os.map opV)], .bl b]), some (.ref h.length), none, none]) (h ++ [Ob.lst [c]]) := by simp [e_b1, at0, at3, n1]
        have a3 : ex (G.Γ m) e_b2 [some (.tup [.str "question", .str nm, c, .tup [.str w, .tup (os.map opV)], .bl b]), some (.ref h.length), none, none] (h ++ [Ob.lst [c]]) = .ok (.nx [some (.tup [.str "question", .str nm, c, .tup [.str w, .tup (os.map opV)], .bl b]), some (.ref (h.length + 2)), none, none]) (h ++ [Ob.lst [c]] ++ [Ob.lst (os.map (·.2))] ++ [Ob.lst (c :: os.map (·.2))]) := by
          have cc : ev (G.Γ m) (.and (.cmp .eq (.idx (.loc 0) (.lit (.int (0)))) (.lit (.str "question"))) (.cmp .inn (.idx (.idx (.loc 0) (.lit (.int (3)))) (.lit (.int (0)))) (.tup (.cons (.lit (.str "choice")) (.cons (.lit (.str "choices")) .nil))))) [some (.tup [.str "question", .str nm, c, .tup [.str w, .tup (os.map opV)], .bl b]), some (.ref h.length), none, none] (h ++ [Ob.lst [c]]) = .ok (.bl true) (h ++ [Ob.lst [c]]) := by simp [at0, at3, i1]
          have l1 : ev (G.Γ m) (.loc 1) [some (.tup [.str "question", .str nm, c, .tup [.str w, .tup (os.map opV)], .bl b]), some (.ref h.length), none, none] (h ++ [Ob.lst [c]]) = .ok (.ref h.length) (h ++ [Ob.lst [c]]) := by simp
          rw [e_b2, w9, cc, held_ok, q1, orBad_some]
          simp only [if_true]
          rw [w2, v6, l1, Mi.R.bind_ok, e_c2, ec, Mi.R.bind_ok, q42, r1, orBad_some, r2, orBad_some, decide_eq_true lo, okIf_true, q73]
          simp
        have a4 : ∀ (h : Hh) (o1 : Option Val), ex (G.Γ m) e_b3 [some (.tup [.str "question", .str nm, c, .tup [.str w, .tup (os.map opV)], .bl b]), o1, none, none] h = .ok (.nx [some (.tup [.str "question", .str nm, c, .tup [.str w, .tup (os.map opV)], .bl b]), o1, none, none]) h := fun h o1 => by simp [e_b3, at0, i0]
        rw [seq_nx a1, seq_nx a2, seq_nx a3, a4]
      have ei : (h ++ [Ob.lst [c]] ++ [Ob.lst (os.map (·.2))]).length = h.length + 2 := by simp
      refine fin (c :: os.map (·.2)) (h ++ [Ob.lst [c]] ++ [Ob.lst (os.map (·.2))] ++ [Ob.lst (c :: os.map (·.2))]) (h.length + 2) none (by have := g.2.2.2; simp; omega) ⟨[Ob.lst [c]] ++ [Ob.lst (os.map (·.2))] ++ [Ob.lst (c :: os.map (·.2))], by simp⟩ (by rw [← ei]; exact get_new) ?_
      cases mm with
      | false => exact go "choice" (.inl rfl) _ rfl
      | true => exact go "choices" (.inr rfl) _ rfl
end K20

set_option maxHeartbeats 4000000
namespace K20
open Mi PySem
abbrev EL (s o2 o3 o4 o5 o6 o7 o8 o9 o10 : Option Val) : Mi.En := [s, some (.ref 1), o2, o3, o4, o5, o6, o7, o8, o9, o10]
def l_p : Sm := (.asg (.nm 4) (.bin .add (.loc 4) (.cmpr (.tup (.cons (.loc 5) (.cons (.loc 6) .nil))) (.gen (.nm 6) (.itr (.idx (.loc 5) (.lit (.int (3))))) (.lit (.bl true)) .nil) [6])))
def l_n : Sm := (.seq
         (.asg (.nm 8) (.bin .add (.cmpr (.loc 5) (.gen (.nm 5) (.itr (.loc 3)) (.cmp .eq (.idx (.loc 5) (.lit (.int (0)))) (.loc 7)) .nil) [5]) (.lst (.cons (.lit (.non)) .nil))))
        (.seq
         (.asg (.nm 9) (.bin .add (.cmpr (.idx (.loc 10) (.lit (.int (1)))) (.gen (.nm 10) (.itr (.loc 4)) (.cmp .eq (.idx (.idx (.loc 10) (.lit (.int (1)))) (.lit (.int (1)))) (.loc 7)) .nil) [10]) (.lst (.cons (.lit (.non)) .nil))))
        (.ifs (.or (.not (.call "_law_same" (.cons (.call "section_of" (.cons (.loc 3) (.cons (.loc 7) .nil))) (.cons (.idx (.loc 8) (.lit (.int (0)))) .nil)))) (.not (.call "_law_same" (.cons (.call "field_of" (.cons (.loc 3) (.cons (.loc 7) .nil))) (.cons (.idx (.loc 9) (.lit (.int (0)))) .nil)))))
          (.ret (.lit (.bl false)))
          .nop)))
def l_e : Sm := (.ifs (.not (.call "_law_same" (.cons (.call "expressions_of" (.cons (.loc 6) .nil)) (.cons (.call "_law_expressions" (.cons (.loc 6) .nil)) .nil))))
         (.ret (.lit (.bl false)))
         .nop)
def e_names : Ex := (.lst (.cons (.lit (.str "main")) (.cons (.lit (.str "kid")) (.cons (.lit (.str "end")) (.cons (.lit (.str "zz")) (.cons (.lit (.str "f0")) (.cons (.lit (.str "f1")) (.cons (.lit (.str "f5")) .nil))))))))
def names7 : List Str := ["main", "kid", "end", "zz", "f0", "f1", "f5"]
def l_turn : Sm := (.seq
      (.asg (.nm 3) (.call "_law_form" (.cons (.loc 1) .nil)))
     (.seq
      (.ifs (.cmp .eq (.call "_law_draw" (.cons (.loc 1) (.cons (.lit (.int (2))) .nil))) (.lit (.int (0))))
        (.asg (.nm 3) (.call "_law_renamed" (.cons (.loc 1) (.cons (.loc 3) .nil))))
        .nop)
     (.seq
      (.asg (.nm 4) (.lst .nil))
     (.seq
      (.for_ (.nm 5) (.itr (.loc 3)) l_p)
     (.seq
      (.ifs (.not (.call "_law_same" (.cons (.call "fields_of" (.cons (.loc 3) .nil)) (.cons (.bif .tuple (.cons (.loc 4) .nil)) .nil))))
        (.ret (.lit (.bl false)))
        .nop)
     (.seq
      (.for_ (.nm 7) (.itr e_names) l_n)
     (.for_ (.cons (.nm 5) (.cons (.nm 6) .nil)) (.itr (.loc 4)) l_e)))))))
theorem law_body : b_law = .seq (.asg (.nm 1) (.lst (.cons (.call "_law_digits" (.cons (.loc 0) (.cons (.lit (.int (0))) (.cons (.lit (.int (63))) .nil)))) (.cons (.lit (.int (0))) .nil)))) (.seq (.for_ (.nm 2) (.rng (.lit (.int 0)) (.lit (.int 3))) l_turn) (.ret (.lit (.bl true)))) := rfl
section
variable {s o2 o3 o4 o5 o6 o7 o8 o9 o10 : Option Val} {h : Hh}
/-- a form -/
theorem st_form (m : Nat) (st : Sta h) : ∃ (Ss : List Sn) (h' : Hh), ex (G.Γ (m+9)) (.seq (.asg (.nm 3) (.call "_law_form" (.cons (.loc 1) .nil))) (.ifs (.cmp .eq (.call "_law_draw" (.cons (.loc 1) (.cons (.lit (.int (2))) .nil))) (.lit (.int (0))))
        (.asg (.nm 3) (.call "_law_renamed" (.cons (.loc 1) (.cons (.loc 3) .nil)))) .nop)) (EL s o2 o3 o4 o5 o6 o7 o8 o9 o10) h = .ok (.nx (EL s o2 (some (formV Ss)) o4 o5 o6 o7 o8 o9 o10)) h' ∧ Fm Ss ∧ Sta h' := by
  obtain ⟨Ss, h1, e1, g1, l1, n1⟩ := S_form m st
  obtain ⟨r, h2, e2, r0, r2, n2⟩ := S_draw (m+8) n1.sta (m := 2) (by decide)
  have a1 : ex (G.Γ (m+9)) (.asg (.nm 3) (.call "_law_form" (.cons (.loc 1) .nil))) (EL s o2 o3 o4 o5 o6 o7 o8 o9 o10) h = .ok (.nx (EL s o2 (some (formV Ss)) o4 o5 o6 o7 o8 o9 o10)) h1 := by simp [e1]
  by_cases c0 : r = 0
  · obtain ⟨Ts, h3, e3, g3, l3, n3⟩ := S_renamed (m+7) n2.sta g1 l1
    have e3 : callF G (m+9) (.fn "_law_renamed") [.ref 1, formV Ss] h2 = .ok (formV Ts) h3 := e3
    refine ⟨Ts, h3, ?_, ⟨g3, l3⟩, n3.sta⟩
    subst c0
    rw [seq_nx a1]
    simp [e2, e3]
  · refine ⟨Ss, h2, ?_, ⟨g1, l1⟩, n2.sta⟩
    rw [seq_nx a1]
    simp [e2, c0]
/-- its pairs -/
theorem st_pairs (m : Nat) (st : Sta h) {Ss : List Sn} (f : Fm Ss) : ∃ (l : Nat) (p5 p6 : Option Val) (h' : Hh), ex (G.Γ m) (.seq (.asg (.nm 4) (.lst .nil)) (.for_ (.nm 5) (.itr (.loc 3)) l_p)) (EL s o2 (some (formV Ss)) o4 o5 o6 o7 o8 o9 o10) h = .ok (.nx (EL s o2 (some (formV Ss)) (some (.ref l)) p5 p6 o7 o8 o9 o10)) h' ∧ h'[l]? = some (.lst ((pairsF Ss).map pairV)) ∧ Grow h h' := by
  have q := walkF_inv (f := Mi.forTurn (ex (G.Γ m) l_p) (.nm 5)) (xs := Ss.map Sn.v) (a := EL s o2 (some (formV Ss)) (some (.ref h.length)) o5 o6 o7 o8 o9 o10) (h := h ++ [Ob.lst []])
    (Q := fun r h' => ∃ (l : Nat) (p5 p6 : Option Val), r = .inl (EL s o2 (some (formV Ss)) (some (.ref l)) p5 p6 o7 o8 o9 o10) ∧ h'[l]? = some (.lst ((pairsF Ss).map pairV)) ∧ Grow h h')
    (fun i ρ h' => ∃ (l : Nat) (p5 p6 : Option Val), ρ = EL s o2 (some (formV Ss)) (some (.ref l)) p5 p6 o7 o8 o9 o10 ∧ h'[l]? = some (.lst ((pairsF (Ss.take i)).map pairV)) ∧ Grow h h')
    ⟨h.length, o5, o6, rfl, get_new, .app⟩
    (by
      rintro i x ρ h2 hx ⟨l, p5, p6, rfl, hl, g⟩
      rw [List.getElem?_map] at hx
      obtain ⟨S, hS, rfl⟩ := Option.map_eq_some_iff.mp hx
      have hm : S ∈ Ss := List.mem_of_getElem? hS
      have tk : Ss.take (i + 1) = Ss.take i ++ [S] := by rw [List.take_add_one, hS]; rfl
      have ef : pairsF (Ss.take (i + 1)) = pairsF (Ss.take i) ++ S.fs.map fun F => (S, F) := by rw [tk, pairsF, List.flatMap_append]; simp [pairsF]
      have gS := f.good S hm
      have gt : ∀ T ∈ Ss.take i, T.Good := fun T hT => f.good T (List.mem_of_mem_take hT)
      have l1 := (pairs_len gt).1
      have l2 : (Ss.take i).length ≤ 3 := by rw [List.length_take]; have := f.len; omega
      have e := lc_pure (Γ := G.Γ m) (ρ := EL s o2 (some (formV Ss)) (some (.ref l)) (some S.v) p6 o7 o8 o9 o10) (own := [6]) (t := .nm 6) (elt := .tup (.cons (.loc 5) (.cons (.loc 6) .nil))) (it := .itr (.idx (.loc 5) (.lit (.int (3))))) (c := .lit (.bl true)) (hs := h2) (h := h2) (xs := S.fs) (vf := Fd.v) (g := fun F => pairV (S, F)) (p := fun _ => true)
        (Ef := fun F => EL s o2 (some (formV Ss)) (some (.ref l)) (some S.v) (some F.v) o7 o8 o9 o10) (few_line (by have := gS.len; omega)) (by simp [sn_idx3]) (fun F hF => by simp [Mi.wipe]) (fun F hF => by simp) (fun F hF _ => by simp [pairV])
      rw [List.filter_eq_self.mpr (fun _ _ => rfl)] at e
      have r1 : lstOf (h2 ++ [Ob.lst (S.fs.map fun F => pairV (S, F))]) l = some ((pairsF (Ss.take i)).map pairV) := r_lst (Grow.get .app hl)
      have r2 : lstOf (h2 ++ [Ob.lst (S.fs.map fun F => pairV (S, F))]) h2.length = some (S.fs.map fun F => pairV (S, F)) := r_lst get_new
      have lo : ((pairsF (Ss.take i)).map pairV).length + (S.fs.map fun F => pairV (S, F)).length ≤ sizeLine := Nat.le_trans (show _ ≤ 12 by have := gS.len; simp; omega) (by decide)
      have e4 : ev (G.Γ m) (.loc 4) (EL s o2 (some (formV Ss)) (some (.ref l)) (some S.v) p6 o7 o8 o9 o10) h2 = .ok (.ref l) h2 := by simp
      have et : Mi.forTurn (ex (G.Γ m) l_p) (.nm 5) S.v (EL s o2 (some (formV Ss)) (some (.ref l)) p5 p6 o7 o8 o9 o10) h2 = .ok (.inl (EL s o2 (some (formV Ss)) (some (.ref (h2 ++ [Ob.lst (S.fs.map fun F => pairV (S, F))]).length)) (some S.v) p6 o7 o8 o9 o10)) (h2 ++ [Ob.lst (S.fs.map fun F => pairV (S, F))] ++ [Ob.lst ((pairsF (Ss.take i)).map pairV ++ S.fs.map fun F => pairV (S, F))]) := by
        unfold Mi.forTurn
        rw [show (Tg.nm 5).put S.v (EL s o2 (some (formV Ss)) (some (.ref l)) p5 p6 o7 o8 o9 o10) = some (EL s o2 (some (formV Ss)) (some (.ref l)) (some S.v) p6 o7 o8 o9 o10) from rfl, orBad_some, l_p, w2, v6, e4, Mi.R.bind_ok, e, Mi.R.bind_ok, q42, r1, orBad_some, r2, orBad_some, decide_eq_true lo, okIf_true, q73]
        rfl
      rw [et]
      refine ⟨_, _, _, rfl, ?_, (g.trans .app).trans .app⟩
      rw [ef, List.map_append, List.map_map]
      exact get_new)
    (by
      rintro ρ h2 ⟨l, p5, p6, rfl, hl, g⟩
      rw [List.length_map, List.take_length] at hl
      exact ⟨l, p5, p6, rfl, hl, g⟩)
  obtain ⟨r, h2, e, l, p5, p6, rfl, hl, g⟩ := q.get
  refine ⟨l, p5, p6, h2, ?_, hl, g⟩
  have a1 : ex (G.Γ m) (.asg (.nm 4) (.lst .nil)) (EL s o2 (some (formV Ss)) o4 o5 o6 o7 o8 o9 o10) h = .ok (.nx (EL s o2 (some (formV Ss)) (some (.ref h.length)) o5 o6 o7 o8 o9 o10)) (h ++ [Ob.lst []]) := by simp
  have ei : evi (G.Γ m) (.itr (.loc 3)) (EL s o2 (some (formV Ss)) (some (.ref h.length)) o5 o6 o7 o8 o9 o10) (h ++ [Ob.lst []]) = .ok (.fix (Ss.map Sn.v)) (h ++ [Ob.lst []]) := by simp
  rw [seq_nx a1, w_for, ei, held_ok, walk_fix, e]
  rfl
theorem st_same (m : Nat) (st : Sta h) {Ss : List Sn} (f : Fm Ss) {l : Nat} (hl : h[l]? = some (.lst ((pairsF Ss).map pairV))) : ∃ (h' : Hh), ex (G.Γ (m+1)) (.ifs (.not (.call "_law_same" (.cons (.call "fields_of" (.cons (.loc 3) .nil)) (.cons (.bif .tuple (.cons (.loc 4) .nil)) .nil))))
        (.ret (.lit (.bl false))) .nop) (EL s o2 (some (formV Ss)) (some (.ref l)) o5 o6 o7 o8 o9 o10) h = .ok (.nx (EL s o2 (some (formV Ss)) (some (.ref l)) o5 o6 o7 o8 o9 o10)) h' ∧ Grow h h' := by
  have lp := (pairs_len f.good).1
  have D : Dat 11 3000000 (.tup ((pairsF Ss).map pairV)) := (Dat.tup ((Dats.map fun p hp => pair_dat f hp).mono (Nat.le_refl _) (show (pairsF Ss).length * (330000 + 2) ≤ 2970018 by have := f.len; omega))).mono (Nat.le_refl _) (by omega)
  have e1 := S_fields_of m f h
  have e2 := S_same m (h := h ++ [Ob.lst ((pairsF Ss).map pairV)]) D (by omega) (by omega)
  have r1 : lseq (h ++ [Ob.lst ((pairsF Ss).map pairV)]) (.ref l) = some ((pairsF Ss).map pairV) := r_lseq (Grow.get .app hl)
  exact ⟨h ++ [Ob.lst ((pairsF Ss).map pairV)], by simp [e1, e2, r1], .app⟩
end
end K20

set_option maxHeartbeats 4000000
namespace K20
open Mi PySem
theorem head_dat {α : Type} {f : α → Val} {l : List α} {d w : Nat} (hw : 5 ≤ w) (h : ∀ x ∈ l, Dat d w (f x)) : Dat d w (headV f l) := by
  cases l with
  | nil => exact Dat.non.mono (Nat.le_refl _) hw
  | cons a l => exact h a (List.mem_cons_self ..)
def fldV (Ss : List Sn) (nm : Str) : List Val := (flds Ss nm).map fun p => p.2.v
section
variable {s o2 o3 o4 o5 o6 o7 o8 o9 o10 : Option Val} {h : Hh}
theorem st_name (m : Nat) {Ss : List Sn} (f : Fm Ss) {l : Nat} (hl : h[l]? = some (.lst ((pairsF Ss).map pairV))) (nm : Str) :
    ∃ (p8 p9 : Option Val) (h' : Hh), Mi.forTurn (ex (G.Γ (m+2)) l_n) (.nm 7) (.str nm) (EL s o2 (some (formV Ss)) (some (.ref l)) o5 o6 o7 o8 o9 o10) h = .ok (.inl (EL s o2 (some (formV Ss)) (some (.ref l)) o5 o6 (some (.str nm)) p8 p9 o10)) h' ∧ Grow h h' := by
  have lp := (pairs_len f.good).1
  have c1 := lc_pure (Γ := G.Γ (m+2)) (ρ := EL s o2 (some (formV Ss)) (some (.ref l)) o5 o6 (some (.str nm)) o8 o9 o10) (own := [5]) (t := .nm 5) (elt := .loc 5) (it := .itr (.loc 3)) (c := .cmp .eq (.idx (.loc 5) (.lit (.int (0)))) (.loc 7)) (hs := h) (h := h) (xs := Ss) (vf := Sn.v) (g := Sn.v) (p := fun S => S.nm == nm)
    (Ef := fun S => EL s o2 (some (formV Ss)) (some (.ref l)) (some S.v) o6 (some (.str nm)) o8 o9 o10) (few_line (by have := f.len; omega)) (by simp) (fun S hS => by simp [Mi.wipe]) (fun S hS => by simp [sn_idx0]) (fun S hS _ => by simp)
  rw [show Ss.filter (fun S => S.nm == nm) = secs Ss nm from rfl] at c1
  let H1 : Hh := h ++ [Ob.lst ((secs Ss nm).map Sn.v)] ++ [Ob.lst [.non]]
  let H2 : Hh := H1 ++ [Ob.lst ((secs Ss nm).map Sn.v ++ [.non])]
  have g2 : Grow h H2 := (Grow.app.trans .app).trans .app
  have ls : (secs Ss nm).length ≤ 3 := Nat.le_trans (List.length_filter_le _ _) f.len
  have s1 : ex (G.Γ (m+2)) (.asg (.nm 8) (.bin .add (.cmpr (.loc 5) (.gen (.nm 5) (.itr (.loc 3)) (.cmp .eq (.idx (.loc 5) (.lit (.int (0)))) (.loc 7)) .nil) [5]) (.lst (.cons (.lit (.non)) .nil)))) (EL s o2 (some (formV Ss)) (some (.ref l)) o5 o6 (some (.str nm)) o8 o9 o10) h = .ok (.nx (EL s o2 (some (formV Ss)) (some (.ref l)) o5 o6 (some (.str nm)) (some (.ref H1.length)) o9 o10)) H2 := by
    have r1 : lstOf H1 h.length = some ((secs Ss nm).map Sn.v) := r_lst (Grow.get .app get_new)
    have r2 : lstOf H1 (h ++ [Ob.lst ((secs Ss nm).map Sn.v)]).length = some [.non] := r_lst get_new
    have lo : ((secs Ss nm).map Sn.v).length + [Val.non].length ≤ sizeLine := Nat.le_trans (show _ ≤ 12 by simp; omega) (by decide)
    rw [w2, v6, c1, Mi.R.bind_ok, v4, v25, v0, Mi.R.bind_ok, v24, Mi.R.bind_ok, Mi.R.bind_ok, q73, Mi.R.bind_ok, q42]
    show held (orBad (lstOf H1 h.length) _) _ _ = _
    rw [r1, orBad_some, r2, orBad_some, decide_eq_true lo, okIf_true, q73]
    rfl
  have hl2 := g2.get hl
  have e8 : H2[H1.length]? = some (.lst ((secs Ss nm).map Sn.v ++ [.non])) := get_new
  obtain ⟨h3, c2, g3⟩ := lc_dynC (Γ := G.Γ (m+2)) (ρ := EL s o2 (some (formV Ss)) (some (.ref l)) o5 o6 (some (.str nm)) (some (.ref H1.length)) o9 o10) (own := [10]) (i := 10) (elt := .idx (.loc 10) (.lit (.int (1)))) (it := .itr (.loc 4)) (c := .cmp .eq (.idx (.idx (.loc 10) (.lit (.int (1)))) (.lit (.int (1)))) (.loc 7)) (hs := H2) (h0 := H2) (xs := pairsF Ss) (vf := pairV) (g := fun p => p.2.v) (p := fun p => p.2.nm == nm)
    (by simp [Mi.wipe]) (few_line (by have := f.len; omega)) hl2 (by simp [r_src hl2]) (fun p hp h2 g => ⟨.bl (p.2.nm == nm), h2, by simp [Mi.wipe, pr_idx1, fd_idx1], .refl, by simp⟩) (fun p hp _ h2 g => ⟨h2, by simp [Mi.wipe, pr_idx1], .refl⟩)
  rw [show ((pairsF Ss).filter fun p => p.2.nm == nm) = flds Ss nm from rfl, show ((flds Ss nm).map fun p => p.2.v) = fldV Ss nm from rfl] at c2
  let H3 : Hh := h3 ++ [Ob.lst (fldV Ss nm)] ++ [Ob.lst [.non]]
  let H4 : Hh := H3 ++ [Ob.lst ((fldV Ss nm) ++ [.non])]
  have g4 : Grow h3 H4 := (Grow.app.trans .app).trans .app
  have lf : (flds Ss nm).length ≤ 9 := Nat.le_trans (List.length_filter_le _ _) (by have := f.len; omega)
  have s2 : ex (G.Γ (m+2)) (.asg (.nm 9) (.bin .add (.cmpr (.idx (.loc 10) (.lit (.int (1)))) (.gen (.nm 10) (.itr (.loc 4)) (.cmp .eq (.idx (.idx (.loc 10) (.lit (.int (1)))) (.lit (.int (1)))) (.loc 7)) .nil) [10]) (.lst (.cons (.lit (.non)) .nil)))) (EL s o2 (some (formV Ss)) (some (.ref l)) o5 o6 (some (.str nm)) (some (.ref H1.length)) o9 o10) H2 = .ok (.nx (EL s o2 (some (formV Ss)) (some (.ref l)) o5 o6 (some (.str nm)) (some (.ref H1.length)) (some (.ref H3.length)) o10)) H4 := by
    have r1 : lstOf H3 h3.length = some (fldV Ss nm) := r_lst (Grow.get .app get_new)
    have r2 : lstOf H3 (h3 ++ [Ob.lst (fldV Ss nm)]).length = some [.non] := r_lst get_new
    have lo : (fldV Ss nm).length + [Val.non].length ≤ sizeLine := Nat.le_trans (show _ ≤ 12 by simp [fldV]; omega) (by decide)
    rw [w2, v6, c2, Mi.R.bind_ok, v4, v25, v0, Mi.R.bind_ok, v24, Mi.R.bind_ok, Mi.R.bind_ok, q73, Mi.R.bind_ok, q42]
    show held (orBad (lstOf H3 h3.length) _) _ _ = _
    rw [r1, orBad_some, r2, orBad_some, decide_eq_true lo, okIf_true, q73]
    rfl
  have e8b : H4[H1.length]? = some (.lst ((secs Ss nm).map Sn.v ++ [.non])) := g4.get (g3.get e8)
  have e9 : H4[H3.length]? = some (.lst ((fldV Ss nm) ++ [.non])) := get_new
  have D1 : Dat 10 330000 (headV Sn.v (secs Ss nm)) := head_dat (by omega) fun S hS => Dat.mono (Sn.dat (f.good S (List.mem_filter.mp hS).1)) (by omega) (by omega)
  have D2 : Dat 10 330000 (headV (fun p : Sn × Fd => p.2.v) (flds Ss nm)) := head_dat (by omega) fun p hp => by
    obtain ⟨h1, h2⟩ := pairs_mem (List.mem_filter.mp hp).1
    exact Dat.mono (Fd.dat ((f.good _ h1).fs _ h2)) (by omega) (by omega)
  have a1 := S_section_of (m+1) f nm H4
  let H5 := H4 ++ [Ob.lst ((secs Ss nm).map Sn.v)]
  have i8 : idxop (.ref H1.length) (.int 0) H5 = some (headV Sn.v (secs Ss nm)) := by rw [r_idx (Grow.get .app e8b), headV_at]
  have a2 := S_same (m+1) (h := H5) D1 (by omega) (by omega)
  obtain ⟨H6, a3, g6⟩ := S_field_of m f nm H5
  have i9 : idxop (.ref H3.length) (.int 0) H6 = some (headV (fun p : Sn × Fd => p.2.v) (flds Ss nm)) := by rw [r_idx (g6.get (Grow.get .app e9)), fldV, headV_at]
  have a4 := S_same (m+1) (h := H6) D2 (by omega) (by omega)
  refine ⟨some (.ref H1.length), some (.ref H3.length), H6, ?_, ((g2.trans g3).trans g4).trans (Grow.app.trans g6)⟩
  unfold Mi.forTurn
  rw [show (Tg.nm 7).put (.str nm) (EL s o2 (some (formV Ss)) (some (.ref l)) o5 o6 o7 o8 o9 o10) = some (EL s o2 (some (formV Ss)) (some (.ref l)) o5 o6 (some (.str nm)) o8 o9 o10) from rfl, orBad_some, l_n, seq_nx s1, seq_nx s2]
  have b1 : ev (G.Γ (m+2)) (.not (.call "_law_same" (.cons (.call "section_of" (.cons (.loc 3) (.cons (.loc 7) .nil))) (.cons (.idx (.loc 8) (.lit (.int (0)))) .nil)))) (EL s o2 (some (formV Ss)) (some (.ref l)) o5 o6 (some (.str nm)) (some (.ref H1.length)) (some (.ref H3.length)) o10) H4 = .ok (.bl false) H5 := by
    have i8' : idxop (.ref H1.length) (.int 0) (H4 ++ [Ob.lst ((secs Ss nm).map Sn.v)]) = some (headV Sn.v (secs Ss nm)) := i8
    have a2' : callF G (m+2) (.fn "_law_same") [headV Sn.v (secs Ss nm), headV Sn.v (secs Ss nm)] (H4 ++ [Ob.lst ((secs Ss nm).map Sn.v)]) = .ok (.bl true) H5 := a2
    generalize H1.length = x1 at *
    generalize H3.length = x3 at *
    simp [a1, i8', a2']
  have b2 : ev (G.Γ (m+2)) (.not (.call "_law_same" (.cons (.call "field_of" (.cons (.loc 3) (.cons (.loc 7) .nil))) (.cons (.idx (.loc 9) (.lit (.int (0)))) .nil)))) (EL s o2 (some (formV Ss)) (some (.ref l)) o5 o6 (some (.str nm)) (some (.ref H1.length)) (some (.ref H3.length)) o10) H5 = .ok (.bl false) H6 := by
    generalize H1.length = x1 at *
    generalize H3.length = x3 at *
    simp [a3, i9, a4]
  rw [w9, v10, b1, Mi.R.bind_ok, q1, orBad_some]
  simp only [Bool.false_eq_true, if_false]
  rw [b2, held_ok, q1, orBad_some]
  simp only [Bool.false_eq_true, if_false]
  rw [w0]
  rfl
theorem st_names (m : Nat) {Ss : List Sn} (f : Fm Ss) {l : Nat} (hl : h[l]? = some (.lst ((pairsF Ss).map pairV))) :
    ∃ (p7 p8 p9 : Option Val) (h' : Hh), ex (G.Γ (m+2)) (.for_ (.nm 7) (.itr e_names) l_n) (EL s o2 (some (formV Ss)) (some (.ref l)) o5 o6 o7 o8 o9 o10) h = .ok (.nx (EL s o2 (some (formV Ss)) (some (.ref l)) o5 o6 p7 p8 p9 o10)) h' ∧ Grow h h' := by
  have q := walkD_inv (l := h.length) (en := false) (f := Mi.forTurn (ex (G.Γ (m+2)) l_n) (.nm 7)) (xs := names7.map Val.str) (a := EL s o2 (some (formV Ss)) (some (.ref l)) o5 o6 o7 o8 o9 o10) (h := h ++ [Ob.lst (names7.map Val.str)])
    (Q := fun r h' => ∃ (p7 p8 p9 : Option Val), r = .inl (EL s o2 (some (formV Ss)) (some (.ref l)) o5 o6 p7 p8 p9 o10) ∧ Grow h h')
    (fun i ρ h' => ∃ (p7 p8 p9 : Option Val), ρ = EL s o2 (some (formV Ss)) (some (.ref l)) o5 o6 p7 p8 p9 o10 ∧ Grow (h ++ [Ob.lst (names7.map Val.str)]) h')
    ⟨o7, o8, o9, rfl, .refl⟩ (fun i ρ h2 ⟨_, _, _, _, g⟩ => g.get get_new)
    (by
      rintro i x ρ h2 hx ⟨p7, p8, p9, rfl, g⟩
      obtain ⟨nm, _, rfl⟩ := List.mem_map.mp (List.mem_of_getElem? hx)
      obtain ⟨q8, q9, h3, e, g3⟩ := st_name m (s := s) (o2 := o2) (o5 := o5) (o6 := o6) (o7 := p7) (o8 := p8) (o9 := p9) (o10 := o10) f ((Grow.app.trans g).get hl) nm
      simp only [Bool.false_eq_true, if_false]
      rw [e]
      exact ⟨_, _, _, rfl, g.trans g3⟩)
    (by
      rintro ρ h2 ⟨p7, p8, p9, rfl, g⟩
      exact ⟨_, _, _, rfl, Grow.app.trans g⟩)
  obtain ⟨r, h2, e, p7, p8, p9, rfl, g⟩ := q.get
  refine ⟨p7, p8, p9, h2, ?_, g⟩
  have ei : evi (G.Γ (m+2)) (.itr e_names) (EL s o2 (some (formV Ss)) (some (.ref l)) o5 o6 o7 o8 o9 o10) h = .ok (.dyn h.length false) (h ++ [Ob.lst (names7.map Val.str)]) := by
    have := r_src (get_new (h := h) (o := .lst (names7.map Val.str)))
    simp only [names7, List.map_cons, List.map_nil] at this
    simp [e_names, this, names7]
  rw [w_for, ei, held_ok, e]
  rfl
theorem st_exprs (m : Nat) {Ss : List Sn} (f : Fm Ss) {l : Nat} (hl : h[l]? = some (.lst ((pairsF Ss).map pairV))) :
    ∃ (p5 p6 : Option Val) (h' : Hh), ex (G.Γ (m+2)) (.for_ (.cons (.nm 5) (.cons (.nm 6) .nil)) (.itr (.loc 4)) l_e) (EL s o2 (some (formV Ss)) (some (.ref l)) o5 o6 o7 o8 o9 o10) h = .ok (.nx (EL s o2 (some (formV Ss)) (some (.ref l)) p5 p6 o7 o8 o9 o10)) h' ∧ Grow h h' := by
  have q := walkD_inv (l := l) (en := false) (f := Mi.forTurn (ex (G.Γ (m+2)) l_e) (.cons (.nm 5) (.cons (.nm 6) .nil))) (xs := (pairsF Ss).map pairV) (a := EL s o2 (some (formV Ss)) (some (.ref l)) o5 o6 o7 o8 o9 o10) (h := h)
    (Q := fun r h' => ∃ (p5 p6 : Option Val), r = .inl (EL s o2 (some (formV Ss)) (some (.ref l)) p5 p6 o7 o8 o9 o10) ∧ Grow h h')
    (fun i ρ h' => ∃ (p5 p6 : Option Val), ρ = EL s o2 (some (formV Ss)) (some (.ref l)) p5 p6 o7 o8 o9 o10 ∧ Grow h h')
    ⟨o5, o6, rfl, .refl⟩ (fun i ρ h2 ⟨_, _, _, g⟩ => g.get hl)
    (by
      rintro i x ρ h2 hx ⟨p5, p6, rfl, g⟩
      obtain ⟨p, hp, rfl⟩ := List.mem_map.mp (List.mem_of_getElem? hx)
      obtain ⟨m1, m2⟩ := pairs_mem hp
      have gF := (f.good _ m1).fs _ m2
      obtain ⟨h3, e3, g3⟩ := S_expressions_of m gF h2
      obtain ⟨h4, e4, g4⟩ := S_law_expressions (m+1) gF h3
      have le := Fd.es_len gF
      have Dv : Dat 8 200000 (.tup (p.2.es.filter isV)) := by
        have hd : ∀ v ∈ p.2.es, Dat 6 31000 v := by
          have hF := gF
          revert hF
          generalize p.2 = F
          intro hF
          cases F with
          | f nm c e => intro v hv; simp only [Fd.es, List.mem_cons, List.not_mem_nil, or_false] at hv; rcases hv with rfl | rfl; exact Dat.mono hF.2.1 (by omega) (by omega); exact Dat.mono hF.2.2 (by omega) (by omega)
          | r nm c e b => intro v hv; simp only [Fd.es, List.mem_cons, List.not_mem_nil, or_false] at hv; rcases hv with rfl | rfl; exact Dat.mono hF.2.1 (by omega) (by omega); exact Dat.mono hF.2.2 (by omega) (by omega)
          | q nm c k b =>
            intro v hv
            rcases List.mem_cons.mp hv with rfl | hv
            · exact Dat.mono hF.2.1 (by omega) (by omega)
            · have gk := hF.2.2
              cases k with
              | int a b => simp only [Qk.es, List.mem_cons, List.not_mem_nil, or_false] at hv; rcases hv with rfl | rfl; exact Dat.mono gk.1 (by omega) (by omega); exact Dat.mono gk.2 (by omega) (by omega)
              | text => cases hv
              | tr => cases hv
              | ch mm os =>
                obtain ⟨o, ho, rfl⟩ := List.mem_map.mp hv
                exact Dat.mono (gk.1 o ho).2 (by omega) (by omega)
        have hs : Dats 6 ((p.2.es.filter isV).length * (31000 + 2)) ((p.2.es.filter isV).map id) := Dats.map fun v hv => hd v (List.mem_filter.mp hv).1
        rw [List.map_id] at hs
        have hle : (p.2.es.filter isV).length ≤ 4 := Nat.le_trans (List.length_filter_le _ _) le
        exact (Dat.tup (hs.mono (Nat.le_refl _) (show _ ≤ 124008 by omega))).mono (by omega) (by omega)
      have e5 := S_same (m+1) (h := h4) Dv (by omega) (by omega)
      have e4 : callF G (m+2) (.fn "_law_expressions") [p.2.v] h3 = .ok (.tup (p.2.es.filter isV)) h4 := e4
      have et : Mi.forTurn (ex (G.Γ (m+2)) l_e) (.cons (.nm 5) (.cons (.nm 6) .nil)) (pairV p) (EL s o2 (some (formV Ss)) (some (.ref l)) p5 p6 o7 o8 o9 o10) h2 = .ok (.inl (EL s o2 (some (formV Ss)) (some (.ref l)) (some p.1.v) (some p.2.v) o7 o8 o9 o10)) h4 := by
        unfold Mi.forTurn
        rw [show (Tg.cons (.nm 5) (.cons (.nm 6) .nil)).put (pairV p) (EL s o2 (some (formV Ss)) (some (.ref l)) p5 p6 o7 o8 o9 o10) = some (EL s o2 (some (formV Ss)) (some (.ref l)) (some p.1.v) (some p.2.v) o7 o8 o9 o10) from rfl, orBad_some]
        simp [l_e, e3, e4, e5]
      simp only [Bool.false_eq_true, if_false]
      rw [et]
      exact ⟨_, _, rfl, (g.trans g3).trans g4⟩)
    (by
      rintro ρ h2 ⟨p5, p6, rfl, g⟩
      exact ⟨_, _, rfl, g⟩)
  obtain ⟨r, h2, e, p5, p6, rfl, g⟩ := q.get
  refine ⟨p5, p6, h2, ?_, g⟩
  have ei : evi (G.Γ (m+2)) (.itr (.loc 4)) (EL s o2 (some (formV Ss)) (some (.ref l)) o5 o6 o7 o8 o9 o10) h = .ok (.dyn l false) h := by simp [r_src hl]
  rw [w_for, ei, held_ok, e]
  rfl
theorem turn (m : Nat) (st : Sta h) : ∃ (p3 p4 p5 p6 p7 p8 p9 p10 : Option Val) (h' : Hh), ex (G.Γ (m+9)) l_turn (EL s o2 o3 o4 o5 o6 o7 o8 o9 o10) h = .ok (.nx (EL s o2 p3 p4 p5 p6 p7 p8 p9 p10)) h' ∧ Sta h' := by
  obtain ⟨Ss, h1, e1, f, s1⟩ := st_form m (s := s) (o2 := o2) (o3 := o3) (o4 := o4) (o5 := o5) (o6 := o6) (o7 := o7) (o8 := o8) (o9 := o9) (o10 := o10) st
  obtain ⟨l, p5, p6, h2, e2, hl, g2⟩ := st_pairs (m+9) (s := s) (o2 := o2) (o4 := o4) (o5 := o5) (o6 := o6) (o7 := o7) (o8 := o8) (o9 := o9) (o10 := o10) s1 f
  obtain ⟨h3, e3, g3⟩ := st_same (m+8) (s := s) (o2 := o2) (o5 := p5) (o6 := p6) (o7 := o7) (o8 := o8) (o9 := o9) (o10 := o10) (s1.grow g2) f hl
  obtain ⟨p7, p8, p9, h4, e4, g4⟩ := st_names (m+7) (s := s) (o2 := o2) (o5 := p5) (o6 := p6) (o7 := o7) (o8 := o8) (o9 := o9) (o10 := o10) f (g3.get hl)
  obtain ⟨q5, q6, h5, e5, g5⟩ := st_exprs (m+7) (s := s) (o2 := o2) (o5 := p5) (o6 := p6) (o7 := p7) (o8 := p8) (o9 := p9) (o10 := o10) f (g4.get (g3.get hl))
  refine ⟨some (formV Ss), some (.ref l), q5, q6, p7, p8, p9, o10, h5, ?_, s1.grow (((g2.trans g3).trans g4).trans g5)⟩
  rw [l_turn, sq, seq_nx e1, sq, seq_nx e2, seq_nx e3, seq_nx e4, e5]
theorem loop3 (m : Nat) (st : Sta h) : ∃ (p2 p3 p4 p5 p6 p7 p8 p9 p10 : Option Val) (h' : Hh), ex (G.Γ (m+9)) (.for_ (.nm 2) (.rng (.lit (.int 0)) (.lit (.int 3))) l_turn) (EL s o2 o3 o4 o5 o6 o7 o8 o9 o10) h = .ok (.nx (EL s p2 p3 p4 p5 p6 p7 p8 p9 p10)) h' ∧ Sta h' := by
  have r3 : rngOf (.int 0) (.int 3) = some (.fix (rangeV 0 3)) := rng_lit 3 (by decide)
  have q := walkF_inv (f := Mi.forTurn (ex (G.Γ (m+9)) l_turn) (.nm 2)) (xs := rangeV 0 3) (a := EL s o2 o3 o4 o5 o6 o7 o8 o9 o10) (h := h)
    (Q := fun r h' => ∃ (p2 p3 p4 p5 p6 p7 p8 p9 p10 : Option Val), r = .inl (EL s p2 p3 p4 p5 p6 p7 p8 p9 p10) ∧ Sta h')
    (fun _ ρ h' => ∃ (p2 p3 p4 p5 p6 p7 p8 p9 p10 : Option Val), ρ = EL s p2 p3 p4 p5 p6 p7 p8 p9 p10 ∧ Sta h') ⟨o2, o3, o4, o5, o6, o7, o8, o9, o10, rfl, st⟩
    (by
      rintro i x ρ h' hx ⟨p2, p3, p4, p5, p6, p7, p8, p9, p10, rfl, st'⟩
      obtain ⟨r3, r4, r5, r6, r7, r8, r9, r10, h2, e, st2⟩ := turn m (s := s) (o2 := some x) (o3 := p3) (o4 := p4) (o5 := p5) (o6 := p6) (o7 := p7) (o8 := p8) (o9 := p9) (o10 := p10) st'
      unfold Mi.forTurn
      rw [show (Tg.nm 2).put x (EL s p2 p3 p4 p5 p6 p7 p8 p9 p10) = some (EL s (some x) p3 p4 p5 p6 p7 p8 p9 p10) from rfl, orBad_some, e]
      exact ⟨some x, r3, r4, r5, r6, r7, r8, r9, r10, rfl, st2⟩)
    (by
      rintro ρ h' ⟨p2, p3, p4, p5, p6, p7, p8, p9, p10, rfl, st'⟩
      exact ⟨p2, p3, p4, p5, p6, p7, p8, p9, p10, rfl, st'⟩)
  obtain ⟨r, h', e, p2, p3, p4, p5, p6, p7, p8, p9, p10, rfl, st'⟩ := q.get
  refine ⟨p2, p3, p4, p5, p6, p7, p8, p9, p10, h', ?_, st'⟩
  rw [w_for]
  simp only [v29, v0, Mi.R.bind_ok, r3, orBad_some, held_ok, walk_fix]
  rw [e]
  rfl
end
theorem law_true (ns : List Int) (hn : ns.length ≤ 63) : ∃ h, callF txt.G 40 (.fn "law") [.kl (ns.map .int)] [] = .ok (.bl true) h := by
  obtain ⟨ds, e0⟩ := S_digits 37 ns
  have st : Sta [.lst (ds.map .int), .lst [.ref 0, .int 0]] := ⟨⟨ds, 0, rfl, rfl, by decide⟩⟩
  obtain ⟨p2, p3, p4, p5, p6, p7, p8, p9, p10, h1, e1, st1⟩ := loop3 30 (s := some (.kl (ns.map .int))) (o2 := none) (o3 := none) (o4 := none) (o5 := none) (o6 := none) (o7 := none) (o8 := none) (o9 := none) (o10 := none) st
  refine ⟨h1, ?_⟩
  have f1 : ex (G.Γ 39) (.asg (.nm 1) (.lst (.cons (.call "_law_digits" (.cons (.loc 0) (.cons (.lit (.int (0))) (.cons (.lit (.int (63))) .nil)))) (.cons (.lit (.int (0))) .nil)))) [some (.kl (ns.map .int)), none, none, none, none, none, none, none, none, none, none] [] = .ok (.nx (EL (some (.kl (ns.map .int))) none none none none none none none none none)) [.lst (ds.map .int), .lst [.ref 0, .int 0]] := by
    simp [e0]
  refine call_rt at_law rfl ?_
  rw [show startE ⟨1, 11, b_law⟩ [.kl (ns.map .int)] = [some (.kl (ns.map .int)), none, none, none, none, none, none, none, none, none, none] from rfl, law_body, seq_nx f1, seq_nx e1, w7, v0, held_ok]
end K20

set_option maxHeartbeats 0
namespace K20
open PySem PySem.Spec PyProof.Rows L2 Mi
/-! ### the head -/
abbrev R : PySem.W.OpenRow := PySem.W.OpenLaw.row PySem.Challenge.rw_formflow_k20_fields_of_forms
def loose0 : List Str := ["__name__", "BOUNDED", "WITH_OPTIONS", "fields_of", "section_of", "field_of", "kind_expressions", "expressions_of", "_law_cell", "_law_digits", "_law_draw", "_law_same", "_law_pick", "_law_named", "_law_number", "_law_truth", "_law_condition", "_law_question_kind", "_law_field", "_law_form", "_law_renamed", "_law_expressions"]
def loose : List Str := loose0
theorem run (w : World) : HandSHeadRun.RunEq R (PySem.W.view R.prog [23]) (hookM 4 txt) (obM 4 txt) 2000 loose w := by
  intro os
  kernel_rfl
end K20
open PySem PySem.W PySem.Calls PyProof.Rows
theorem PySem.Challenge.cw_formflow_k20_fields_of_forms_holds : PySem.Challenge.rw_formflow_k20_fields_of_forms.Holds := by
  w_on; o_law
  refine HandSHeadRun.head_any (r := OpenLaw.row PySem.Challenge.rw_formflow_k20_fields_of_forms) (q := view (OpenLaw.row PySem.Challenge.rw_formflow_k20_fields_of_forms).prog [23]) (H := Mi.hookM 4 K20.txt) (ob := Mi.obM 4 K20.txt) (M := 2000) (loose := K20.loose) (d := HandSHeadRun.topDef (OpenLaw.row PySem.Challenge.rw_formflow_k20_fields_of_forms).prog 23) (kwd := []) (Mi.obM_eq 4 K20.txt)
    (by kernel_rfl) (fun s => by kernel_rfl) K20.run (by kernel_rfl) (by kernel_rfl) (by kernel_rfl) (by rfl) (by first | assumption | decide +kernel) (by decide +kernel) ⟨rfl, rfl, rfl, rfl, rfl, by decide +kernel⟩ ?hw ?hc
  case hw => w_witness2
  case hc => exact Mi.end_M (n := 63) (k := 40) K20.txt K20.all_ok K20.io rfl (by decide) (by kernel_rfl) ⟨rfl, by decide, by decide⟩ K20.law_at rfl K20.law_true
